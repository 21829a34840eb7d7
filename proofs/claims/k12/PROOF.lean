import PyProof.Rows.All
import Wide.All
import OpenK.AllK
import Wide.FinOn
import PyProof.P3Eq
import PyProof.EqLayable
import PyProof.Fits
import KE.KeyNested
import PyProof.EqAt
import PyProof.EqKinds
import PyProof.TupleCall
import KE.KDictKeyed
import HandS.ForExc
import HandS.Comp
import HandS.Iter
import HandS.Wide
import HandS.CallSlots
import HandS.Dict
import HandS.ExcInit
import HandS.Text
import HandS.Replace
import HandS.ExcField
import HandS.ExcIs
import HandS.ClsMeth
import HandS.WordsExc
import HandS.Defaults
import KE.KDictDisplayH
import KE.KStateDown
import HandS.Head0
import HandS.Head1
import HandS.Head2
import HandS.HeadEnd
import HandS.HeadHook1
import HandS.HeadHook2
import HandS.HeadHook4
import HandS.EndTab
import HandS.HeadWalk
import PySem.Challenge.RW_surebridge_k12_whole_rows_that_are_none
set_option Elab.async false
set_option linter.all false
/-! G, the pure part: what a def does, as a function on plain data (values by value, mutable lists, dicts and instances in a store). -/
namespace G
open PySem

inductive AV where
  | non | bl (b : Bool) | int (i : Int) | str (s : Str)
  | tup (xs : List AV) | lst (xs : List AV) | scr (xs : List AV) | obj (c : Nat) (fs : List (Str × AV)) | loc (n : Nat)
  /-- a caught exception: where it lies, where its dict lies, its class, its fields -/
  | exc (a d : Nat) (c : Nat) (fs : List (Str × AV))
abbrev Flds := List (Str × AV)
abbrev GKey := Sum Int Str
inductive AO where
  | lst (xs : List AV) | dK (kvs : List (GKey × AV)) | dN (kvs : List (AV × AV)) | ins (c : Nat) (fs : Flds)
abbrev Sto := List AO
abbrev Sl := List (Option AV)

inductive XR (α : Type) where
  | ok (a : α) (S : Sto) | ex (c : Nat) (fs : Flds) (S : Sto) | bad
def XR.bind {α β : Type} (r : XR α) (k : α → Sto → XR β) : XR β := match r with
  | .ok a S => k a S
  | .ex c fs S => .ex c fs S
  | .bad => .bad
@[simp] theorem XR.bind_ok {α β : Type} (a : α) (S : Sto) (k : α → Sto → XR β) : (XR.ok a S).bind k = k a S := rfl
@[simp] theorem XR.bind_ex {α β : Type} (c : Nat) (fs : Flds) (S : Sto) (k : α → Sto → XR β) : (XR.ex c fs S : XR α).bind k = .ex c fs S := rfl
@[simp] theorem XR.bind_bad {α β : Type} (k : α → Sto → XR β) : (XR.bad : XR α).bind k = .bad := rfl
inductive SR where
  | nx (Γ : Sl) (S : Sto) | rt (v : AV) (S : Sto) | bk (Γ : Sl) (S : Sto) | ct (Γ : Sl) (S : Sto) | ex (c : Nat) (fs : Flds) (Γ : Sl) (S : Sto) | bad
def XR.st (r : XR AV) (Γ : Sl) (k : AV → Sto → SR) : SR := match r with
  | .ok a S => k a S
  | .ex c fs S => .ex c fs Γ S
  | .bad => .bad
@[simp] theorem XR.st_ok (a : AV) (S : Sto) (Γ : Sl) (k : AV → Sto → SR) : (XR.ok a S).st Γ k = k a S := rfl
@[simp] theorem XR.st_ex (c : Nat) (fs : Flds) (S : Sto) (Γ : Sl) (k : AV → Sto → SR) : (XR.ex c fs S : XR AV).st Γ k = .ex c fs Γ S := rfl
@[simp] theorem XR.st_bad (Γ : Sl) (k : AV → Sto → SR) : (XR.bad : XR AV).st Γ k = .bad := rfl
def XR.stb (r : XR Bool) (Γ : Sl) (k : Bool → Sto → SR) : SR := match r with
  | .ok a S => k a S
  | .ex c fs S => .ex c fs Γ S
  | .bad => .bad
@[simp] theorem XR.stb_ok (a : Bool) (S : Sto) (Γ : Sl) (k : Bool → Sto → SR) : (XR.ok a S).stb Γ k = k a S := rfl
@[simp] theorem XR.stb_ex (c : Nat) (fs : Flds) (S : Sto) (Γ : Sl) (k : Bool → Sto → SR) : (XR.ex c fs S : XR Bool).stb Γ k = .ex c fs Γ S := rfl
@[simp] theorem XR.stb_bad (Γ : Sl) (k : Bool → Sto → SR) : (XR.bad : XR Bool).stb Γ k = .bad := rfl

abbrev FE := Sl → Sto → XR AV
abbrev FT := Sl → Sto → XR Bool
abbrev FA := Sl → Sto → XR (List AV)
abbrev FSt := Sl → Sto → SR
/-- a function: arguments, store -/
abbrev FF := List AV → Sto → XR AV

/-! ### locations -/
mutual
/-- no location at or above n -/
def lf (n : Nat) : AV → Bool
  | .tup xs => lfs n xs
  | .lst xs => lfs n xs
  | .scr xs => lfs n xs
  | .obj _ fs => lff n fs
  | .exc _ _ _ fs => lff n fs
  | .loc m => decide (m < n)
  | _ => true
def lfs (n : Nat) : List AV → Bool
  | [] => true
  | x :: xs => lf n x && lfs n xs
def lff (n : Nat) : List (Str × AV) → Bool
  | [] => true
  | (_, x) :: xs => lf n x && lff n xs
end
def lfO (n : Nat) : AO → Bool
  | .lst xs => lfs n xs
  | .dK kvs => kvs.all fun p => lf n p.2
  | .dN kvs => kvs.all fun p => lf n p.1 && lf n p.2
  | .ins _ fs => lff n fs
/-- the older objects hold no younger locations -/
def clo (S0 S : Sto) : Prop := ∀ (i : Nat) (o : AO), i < S0.length → S[i]? = some o → S0[i]? = some o ∨ lfO S0.length o = true
/-- a value as it leaves: a younger list, instance frozen -/
def fz (n0 : Nat) (S : Sto) : AV → Option AV
  | .loc n => if n < n0 then some (.loc n) else match S[n]? with
    | some (.lst xs) => if lfs n0 xs = true then some (.lst xs) else none
    | some (.ins c fs) => if lff n0 fs = true then some (.obj c fs) else none
    | _ => none
  | v => if lf n0 v = true then some v else none
open Classical in
noncomputable def fin (S0 : Sto) (v : AV) (S : Sto) : XR AV := if clo S0 S then (match fz S0.length S v with | some u => .ok u (S.take S0.length) | none => .bad) else .bad
open Classical in
/-- leaving a def: what it made is frozen or forgotten -/
noncomputable def lvF (S0 : Sto) : SR → XR AV
  | .nx _ S => fin S0 .non S
  | .rt v S => fin S0 v S
  | .ex c fs _ S => if clo S0 S ∧ lff S0.length fs = true then .ex c fs (S.take S0.length) else .bad
  | _ => .bad
open Classical in
/-- .. the result a list, an instance of its own -/
noncomputable def lvL (S0 : Sto) : SR → XR AV
  | .rt (.loc n) S => match S[n]? with
    | some o => if clo S0 S ∧ S0.length ≤ n ∧ lfO S0.length o = true then .ok (.loc S0.length) (S.take S0.length ++ [o]) else .bad
    | none => .bad
  | .ex c fs _ S => if clo S0 S ∧ lff S0.length fs = true then .ex c fs (S.take S0.length) else .bad
  | _ => .bad
/-- .. all is kept -/
def lvK (_ : Sto) : SR → XR AV
  | .nx _ S => .ok .non S
  | .rt v S => .ok v S
  | .ex c fs _ S => .ex c fs S
  | _ => .bad
@[simp] def sl0 (n : Nat) (args : List AV) : Sl := args.map some ++ List.replicate (n - args.length) none
/-- a def with n slots -/
@[simp] def gF (lv : Sto → SR → XR AV) (n : Nat) (f : FSt) : FF := fun args S => lv S (f (sl0 n args) S)
/-- a class whose instances do not change behind their making -/
noncomputable def gNew (c : Nat) (g : FF) : FF := fun args S => match g (.loc S.length :: args) (S ++ [.ins c []]) with
  | .ok .non S' => fin S (.loc S.length) S'
  | .ex c' fs S' => lvF S (.ex c' fs [] S')
  | _ => .bad
/-- .. whose instances may change -/
noncomputable def gNewM (c : Nat) (g : FF) : FF := fun args S => match g (.loc S.length :: args) (S ++ [.ins c []]) with
  | .ok .non S' => .ok (.loc S.length) S'
  | .ex c' fs S' => .ex c' fs S'
  | _ => .bad

/-! ### expressions -/
def fV (i : Nat) : FE := fun Γ S => match Γ[i]? with
  | some (some v) => .ok v S
  | _ => .bad
@[simp] theorem fV_ap (i : Nat) (Γ : Sl) (S : Sto) : fV i Γ S = match Γ[i]? with
  | some (some v) => .ok v S
  | _ => .bad := rfl
def fC (v : AV) : FE := fun _ S => .ok v S
@[simp] theorem fC_ap (v : AV) (Γ : Sl) (S : Sto) : fC v Γ S = .ok v S := rfl
def fOp (g : AV → AV → Sto → XR AV) (fa fb : FE) : FE := fun Γ S => (fa Γ S).bind fun x S1 => (fb Γ S1).bind fun y S2 => g x y S2
def fUn (g : AV → Sto → XR AV) (fa : FE) : FE := fun Γ S => (fa Γ S).bind fun x S1 => g x S1
def faN : FA := fun _ S => .ok [] S
@[simp] theorem faN_ap (Γ : Sl) (S : Sto) : faN  Γ S = .ok [] S := rfl
def faC (fa : FE) (fr : FA) : FA := fun Γ S => (fa Γ S).bind fun x S1 => (fr Γ S1).bind fun xs S2 => .ok (x :: xs) S2
def fTup (fa : FA) : FE := fun Γ S => (fa Γ S).bind fun xs S1 => if xs.length ≤ sizeLine then .ok (.tup xs) S1 else .bad
def fLst (fa : FA) : FE := fun Γ S => (fa Γ S).bind fun xs S1 => if xs.length ≤ sizeLine then .ok (.lst xs) S1 else .bad
/-- a list that will change -/
def fLstM (fa : FA) : FE := fun Γ S => (fa Γ S).bind fun xs S1 => if xs.length ≤ sizeLine then .ok (.loc S1.length) (S1 ++ [.lst xs]) else .bad
def fCall (n : Nat) (g : FF) (fa : FA) : FE := fun Γ S => (fa Γ S).bind fun xs S1 => if xs.length = n then g xs S1 else .bad
def fIfE (t : FT) (a b : FE) : FE := fun Γ S => (t Γ S).bind fun k S1 => if k = true then a Γ S1 else b Γ S1
def fAndV (a b : FE) : FE := fun Γ S => (a Γ S).bind fun x S1 => match x with
  | .bl true => b Γ S1
  | .bl false => .ok (.bl false) S1
  | _ => .bad
def fOrV (a b : FE) : FE := fun Γ S => (a Γ S).bind fun x S1 => match x with
  | .bl false => b Γ S1
  | .bl true => .ok (.bl true) S1
  | _ => .bad
def fNotV (a : FE) : FE := fun Γ S => (a Γ S).bind fun x S1 => match x with
  | .bl k => .ok (.bl (!k)) S1
  | _ => .bad
@[simp] def lkF (f : Str) : Flds → Option AV
  | [] => none
  | (g, v) :: r => if f = g then some v else lkF f r
/-- o.f -/
def gFld (f : Str) : AV → Sto → XR AV
  | .obj _ fs, S => match lkF f fs with
    | some v => .ok v S
    | none => .bad
  | .loc n, S => match S[n]? with
    | some (.ins _ fs) => match lkF f fs with
      | some v => .ok v S
      | none => .bad
    | _ => .bad
  | _, _ => .bad
def fFld (a : FE) (f : Str) : FE := fun Γ S => (a Γ S).bind fun x S1 => gFld f x S1
@[simp] def putA (f : Str) (v : AV) : Flds → Flds
  | [] => [(f, v)]
  | (g, u) :: r => if f = g then (g, v) :: r else (g, u) :: putA f v r

/-! ### operators -/
def gAdd : AV → AV → Sto → XR AV
  | .int i, .int j, S => .ok (.int (i + j)) S
  | .str x, .str y, S => if x.length + y.length ≤ sizeLine then .ok (.str (x ++ y)) S else .bad
  | .lst xs, .lst ys, S => if xs.length + ys.length ≤ sizeLine then .ok (.lst (xs ++ ys)) S else .bad
  | _, _, _ => .bad
def gSub : AV → AV → Sto → XR AV
  | .int i, .int j, S => .ok (.int (i - j)) S
  | _, _, _ => .bad
open Classical in
noncomputable def gMul : AV → AV → Sto → XR AV
  | .int i, .int j, S => if IntMulOk i j then .ok (.int (i * j)) S else .bad
  | .lst xs, .int k, S => if 0 ≤ k ∧ k < 2 ^ 63 ∧ xs.length * k.toNat ≤ sizeLine then .ok (.lst (List.replicate k.toNat xs).flatten) S else .bad
  | _, _, _ => .bad
def gMod : AV → AV → Sto → XR AV
  | .int i, .int j, S => if 0 < j then .ok (.int (i % j)) S else .bad
  | _, _, _ => .bad
def gDiv : AV → AV → Sto → XR AV
  | .int i, .int j, S => if 0 < j ∧ j < 1073741824 then .ok (.int (i / j)) S else .bad
  | _, _, _ => .bad
def gPow : AV → AV → Sto → XR AV
  | .int i, .int j, S => if 0 ≤ j ∧ j ≤ 1000000 ∧ i.natAbs < 2 ^ 64 then .ok (.int (i ^ j.toNat)) S else .bad
  | _, _, _ => .bad
def gNeg : AV → Sto → XR AV
  | .int i, S => .ok (.int (-i)) S
  | _, _ => .bad
def gCmp (p : Int → Int → Bool) : AV → AV → Sto → XR AV
  | .int i, .int j, S => .ok (.bl (p i j)) S
  | _, _, _ => .bad
@[simp] def gLt := gCmp fun i j => decide (i < j)
@[simp] def gLe := gCmp fun i j => decide (i ≤ j)
@[simp] def gGt := gCmp fun i j => decide (j < i)
@[simp] def gGe := gCmp fun i j => decide (j ≤ i)
mutual
def toPy : AV → Option PyData
  | .non => some .none
  | .bl b => some (.bool b)
  | .int i => some (.int i)
  | .str s => some (.str s)
  | .tup xs => (toPys xs).map .tuple
  | .lst xs => (toPys xs).map .list
  | .scr xs => (toPys xs).map .list
  | .obj _ _ => none
  | .exc _ _ _ _ => none
  | .loc _ => none
def toPys : List AV → Option (List PyData)
  | [] => some []
  | x :: xs => match toPy x, toPys xs with
    | some d, some ds => some (d :: ds)
    | _, _ => none
end
/-- a list in the store is read as it stands -/
@[simp] def rdL (S : Sto) : AV → AV
  | .loc n => match S[n]? with
    | some (.lst xs) => .lst xs
    | _ => .loc n
  | v => v
def gEqB (x y : AV) (S : Sto) : XR Bool := match toPy (rdL S x), toPy (rdL S y) with
  | some d, some e => if SeqAt.shaped d = true ∧ SeqAt.shaped e = true then .ok (PyData.eqv d e) S else .bad
  | _, _ => .bad
def gEq (x y : AV) (S : Sto) : XR AV := (gEqB x y S).bind fun k S => .ok (.bl k) S
def gNe (x y : AV) (S : Sto) : XR AV := (gEqB x y S).bind fun k S => .ok (.bl (!k)) S
@[simp] def isNon : AV → Bool
  | .non => true
  | _ => false
@[simp] def gIsN (x : AV) (S : Sto) : XR AV := .ok (.bl (isNon x)) S
@[simp] def gNotN (x : AV) (S : Sto) : XR AV := .ok (.bl (!isNon x)) S
@[simp] def flatA : AV → Bool
  | .non | .bl _ | .int _ | .str _ => true
  | _ => false
/-- x == y of flat values -/
@[simp] def eqA : AV → AV → Bool
  | .non, .non => true
  | .bl a, .bl b => a == b
  | .int a, .int b => a == b
  | .bl a, .int b => (if a then 1 else 0) == b
  | .int a, .bl b => a == (if b then 1 else 0)
  | .str a, .str b => a == b
  | _, _ => false
mutual
def toNK : AV → Option NestedKey
  | .non => some .none
  | .bl b => some (.num (if b then 1 else 0))
  | .int i => some (.num i)
  | .str s => some (.text s)
  | .tup xs => (toNKs xs).map .tup
  | _ => none
def toNKs : List AV → Option (List NestedKey)
  | [] => some []
  | x :: xs => match toNK x, toNKs xs with
    | some d, some ds => some (d :: ds)
    | _, _ => none
end
@[simp] def toK : AV → Option GKey
  | .int i => some (.inl i)
  | .str s => some (.inr s)
  | _ => none
def isTup : AV → Bool
  | .tup _ => true
  | _ => false
def lkK (k : GKey) (kvs : List (GKey × AV)) : Option AV := (kvs.find? fun kv => decide (kv.1 = k)).map (·.2)
def putK (k : GKey) (v : AV) (kvs : List (GKey × AV)) : List (GKey × AV) :=
  if (kvs.any fun kv => decide (kv.1 = k)) = true then kvs.map (fun kv => if kv.1 = k then (kv.1, v) else kv) else kvs ++ [(k, v)]
def dropK (k : GKey) (kvs : List (GKey × AV)) : List (GKey × AV) := kvs.filter fun kv => decide (kv.1 ≠ k)
open Classical in
noncomputable def lkN (k : AV) : List (AV × AV) → Option AV
  | [] => none
  | (j, v) :: r => if toNK j = toNK k then some v else lkN k r
open Classical in
noncomputable def putN (k v : AV) : List (AV × AV) → List (AV × AV)
  | [] => [(k, v)]
  | (j, u) :: r => if toNK j = toNK k then (j, v) :: r else (j, u) :: putN k v r
/-- a key that a dict with tuples as keys takes -/
noncomputable def okN (k : AV) : Bool := match k with
  | .tup _ => match toNK k with
    | some q => decide (q.depth ≤ 8)
    | none => false
  | _ => false
noncomputable def gInB (x y : AV) (S : Sto) : XR Bool := match y with
  | .tup ys => if flatA x = true ∧ ys.all flatA = true then .ok (ys.any fun y => eqA y x) S else .bad
  | .loc n => match S[n]? with
    | some (.dN kvs) => if okN x = true then .ok (lkN x kvs).isSome S else .bad
    | some (.dK kvs) => match toK x with
      | some k => .ok (lkK k kvs).isSome S
      | none => .bad
    | _ => .bad
  | _ => .bad
noncomputable def gIn (x y : AV) (S : Sto) : XR AV := (gInB x y S).bind fun k S => .ok (.bl k) S
noncomputable def gNotIn (x y : AV) (S : Sto) : XR AV := (gInB x y S).bind fun k S => .ok (.bl (!k)) S
/-- the place of an index in n items -/
@[simp] def ixA (n : Nat) (i : Int) : Option Nat := if 0 ≤ i then (if i < n then some i.toNat else none) else if -(n : Int) ≤ i then some (i + n).toNat else none
@[simp] def atA {α : Type} (xs : List α) (i : Int) : Option α := (ixA xs.length i).bind fun j => xs[j]?
@[simp] def orBad (S : Sto) : Option AV → XR AV
  | some v => .ok v S
  | none => .bad
noncomputable def gIx (x y : AV) (S : Sto) : XR AV := match x, y with
  | .tup xs, .int i => orBad S (atA xs i)
  | .lst xs, .int i => orBad S (atA xs i)
  | .scr xs, .int i => orBad S (atA xs i)
  | .str z, .int i => if z.length ≤ sizeLine then orBad S ((atA z.cps.toList i).map fun c => .str ⟨#[c]⟩) else .bad
  | .loc n, k => match S[n]? with
    | some (.lst xs) => match k with
      | .int i => orBad S (atA xs i)
      | _ => .bad
    | some (.dK kvs) => match toK k with
      | some j => orBad S (lkK j kvs)
      | none => .bad
    | some (.dN kvs) => if okN k = true then orBad S (lkN k kvs) else .bad
    | _ => .bad
  | _, _ => .bad

/-! ### tests -/
def fTB (e : FE) : FT := fun Γ S => (e Γ S).bind fun x S1 => match x with
  | .bl k => .ok k S1
  | _ => .bad
def fAnd (a b : FT) : FT := fun Γ S => (a Γ S).bind fun k S1 => if k = true then b Γ S1 else .ok false S1
def fOr (a b : FT) : FT := fun Γ S => (a Γ S).bind fun k S1 => if k = true then .ok true S1 else b Γ S1
def fNot (a : FT) : FT := fun Γ S => (a Γ S).bind fun k S1 => .ok (!k) S1
/-- a op b op' c -/
def fChain (g g' : AV → AV → Sto → XR AV) (a b c : FE) : FE := fun Γ S => (a Γ S).bind fun x S1 => (b Γ S1).bind fun y S2 => (g x y S2).bind fun z S3 => match z with
  | .bl true => (c Γ S3).bind fun u S4 => g' y u S4
  | .bl false => .ok (.bl false) S3
  | _ => .bad

/-! ### calls of built-ins, methods -/
def gLen : List AV → Sto → XR AV
  | [.tup xs], S => .ok (.int xs.length) S
  | [.lst xs], S => .ok (.int xs.length) S
  | [.scr xs], S => .ok (.int xs.length) S
  | [.str z], S => if z.length ≤ sizeLine then .ok (.int z.length) S else .bad
  | [.loc n], S => match S[n]? with
    | some (.lst xs) => .ok (.int xs.length) S
    | some (.dK kvs) => .ok (.int kvs.length) S
    | _ => .bad
  | _, _ => .bad
def gInt : List AV → Sto → XR AV
  | [.int i], S => .ok (.int i) S
  | [.bl b], S => .ok (.int (if b then 1 else 0)) S
  | _, _ => .bad
def gAbs : List AV → Sto → XR AV
  | [.int i], S => .ok (.int (if i < 0 then -i else i)) S
  | _, _ => .bad
def gTuple : List AV → Sto → XR AV
  | [.tup xs], S => .ok (.tup xs) S
  | [.lst xs], S => .ok (.tup xs) S
  | [.loc n], S => match S[n]? with
    | some (.lst xs) => .ok (.tup xs) S
    | _ => .bad
  | _, _ => .bad
def gList : List AV → Sto → XR AV
  | [.tup xs], S => .ok (.lst xs) S
  | [.lst xs], S => .ok (.lst xs) S
  | [.loc n], S => match S[n]? with
    | some (.lst xs) => .ok (.lst xs) S
    | _ => .bad
  | _, _ => .bad
def gListM (vs : List AV) (S : Sto) : XR AV := match gList vs S with
  | .ok (.lst ys) S => .ok (.loc S.length) (S ++ [.lst ys])
  | _ => .bad
def fB (g : List AV → Sto → XR AV) (fa : FA) : FE := fun Γ S => (fa Γ S).bind fun xs S1 => g xs S1
def tyL : AV → Sto → Bool
  | .loc n, S => match S[n]? with
    | some (.lst _) => true
    | _ => false
  | .lst _, _ => true
  | .scr _, _ => true
  | _, _ => false
def tyS : AV → Sto → Bool
  | .str _, _ => true
  | _, _ => false
/-- o.m(..) of a built-in type: the object, the arguments -/
def fM (ty : AV → Sto → Bool) (g : AV → List AV → Sto → XR AV) (o : FE) (fa : FA) : FE := fun Γ S => (o Γ S).bind fun x S1 => if ty x S1 = true then (fa Γ S1).bind fun xs S2 => g x xs S2 else .bad
/-- the texts of a list -/
@[simp] def strsA : List AV → Option (List Str)
  | [] => some []
  | .str s :: r => (strsA r).map (s :: ·)
  | _ => none
/-- sep.join(xs) -/
def gJoin : AV → List AV → Sto → XR AV
  | .str a, [.lst xs], S => match strsA xs with
    | some ys => if (ys.map (·.length)).sum + ys.length * a.length ≤ 16777216 then .ok (.str (Str.join a ys)) S else .bad
    | none => .bad
  | _, _, _ => .bad
/-- s.index(t), found -/
def gSIx : AV → List AV → Sto → XR AV
  | .str a, [.str b], S => match Builtin.Str.occurrences a b 0 a.length 1 with
    | i :: _ => .ok (.int (i : Nat)) S
    | [] => .bad
  | _, _, _ => .bad
def gApp : AV → List AV → Sto → XR AV
  | .loc n, [v], S => match S[n]? with
    | some (.lst xs) => if xs.length < sizeLine then .ok .non (S.set n (.lst (xs ++ [v]))) else .bad
    | _ => .bad
  | _, _, _ => .bad

/-! ### statements -/
def fNx : FSt := fun Γ S => .nx Γ S
@[simp] theorem fNx_ap (Γ : Sl) (S : Sto) : fNx  Γ S = .nx Γ S := rfl
def fSeq (f g : FSt) : FSt := fun Γ S => match f Γ S with
  | .nx Γ' S' => g Γ' S'
  | r => r
def SR.sq (r : SR) (g : FSt) : SR := match r with
  | .nx Γ S => g Γ S
  | r => r
@[simp] theorem fSeq_ap (f g : FSt) (Γ : Sl) (S : Sto) : fSeq f g Γ S = (f Γ S).sq g := rfl
@[simp] theorem SR.sq_nx (g : FSt) (Γ : Sl) (S : Sto) : (SR.nx Γ S).sq g = g Γ S := rfl
@[simp] theorem SR.sq_rt (g : FSt) (v : AV) (S : Sto) : (SR.rt v S).sq g = .rt v S := rfl
@[simp] theorem SR.sq_bk (g : FSt) (Γ : Sl) (S : Sto) : (SR.bk Γ S).sq g = .bk Γ S := rfl
@[simp] theorem SR.sq_ct (g : FSt) (Γ : Sl) (S : Sto) : (SR.ct Γ S).sq g = .ct Γ S := rfl
@[simp] theorem SR.sq_ex (g : FSt) (c : Nat) (fs : Flds) (Γ : Sl) (S : Sto) : (SR.ex c fs Γ S).sq g = .ex c fs Γ S := rfl
@[simp] theorem SR.sq_bad (g : FSt) : SR.bad.sq g = .bad := rfl
@[simp] theorem SR.sq_ite {c : Prop} [Decidable c] (r1 r2 : SR) (g : FSt) : (if c then r1 else r2).sq g = if c then r1.sq g else r2.sq g := by split <;> rfl
def fAsg (i : Nat) (e : FE) : FSt := fun Γ S => (e Γ S).st Γ fun v S1 => .nx (Γ.set i (some v)) S1
def fDrop (e : FE) : FSt := fun Γ S => (e Γ S).st Γ fun _ S1 => .nx Γ S1
def fRet (e : FE) : FSt := fun Γ S => (e Γ S).st Γ fun v S1 => .rt v S1
def fIf (t : FT) (a b : FSt) : FSt := fun Γ S => (t Γ S).stb Γ fun k S1 => if k = true then a Γ S1 else b Γ S1
def fBk : FSt := fun Γ S => .bk Γ S
@[simp] theorem fBk_ap (Γ : Sl) (S : Sto) : fBk  Γ S = .bk Γ S := rfl
def fCt : FSt := fun Γ S => .ct Γ S
@[simp] theorem fCt_ap (Γ : Sl) (S : Sto) : fCt  Γ S = .ct Γ S := rfl
/-- a, b, .. = the items of a tuple -/
@[simp] def unp : List Nat → List AV → Sl → Option Sl
  | [], [], Γ => some Γ
  | i :: is, v :: vs, Γ => unp is vs (Γ.set i (some v))
  | _, _, _ => none
def fUnp (is : List Nat) (e : FE) : FSt := fun Γ S => (e Γ S).st Γ fun v S1 => match v with
  | .tup xs => match unp is xs Γ with
    | some Γ' => .nx Γ' S1
    | none => .bad
  | _ => .bad
/-- x op= e -/
def fAug (i : Nat) (g : AV → AV → Sto → XR AV) (e : FE) : FSt := fun Γ S => match Γ[i]? with
  | some (some x) => (e Γ S).st Γ fun y S1 => (g x y S1).st Γ fun z S2 => .nx (Γ.set i (some z)) S2
  | _ => .bad
/-- o.f = e -/
def fSetF (o e : FE) (f : Str) : FSt := fun Γ S => (e Γ S).st Γ fun v S1 => (o Γ S1).st Γ fun x S2 => match x with
  | .loc n => match S2[n]? with
    | some (.ins c fs) => if fs.length < 1000 then .nx Γ (S2.set n (.ins c (putA f v fs))) else .bad
    | _ => .bad
  | _ => .bad
/-- o[i] = e -/
noncomputable def gSet (x k v : AV) (S : Sto) : Option Sto := match x with
  | .loc n => match S[n]? with
    | some (.lst xs) => match k with
      | .int i => (ixA xs.length i).map fun j => S.set n (.lst (xs.set j v))
      | _ => none
    | some (.dN kvs) => if okN k = true ∧ kvs.length < sizeLine then some (S.set n (.dN (putN k v kvs))) else none
    | some (.dK kvs) => match toK k with
      | some j => if kvs.length < sizeLine then some (S.set n (.dK (putK j v kvs))) else none
      | none => none
    | _ => none
  | _ => none
noncomputable def fSetI (o i e : FE) : FSt := fun Γ S => (e Γ S).st Γ fun v S1 => (o Γ S1).st Γ fun x S2 => (i Γ S2).st Γ fun k S3 => match gSet x k v S3 with
  | some S4 => .nx Γ S4
  | none => .bad
/-- what a loop walks: the items, and the location of a list that stands still -/
abbrev FI := Sl → Sto → XR (List AV × Option Nat)
def fiV (e : FE) : FI := fun Γ S => (e Γ S).bind fun x S1 => match x with
  | .tup xs => .ok (xs, none) S1
  | .lst xs => .ok (xs, none) S1
  | .scr xs => .ok (xs, none) S1
  | .str z => .ok (z.cps.toList.map fun c => .str ⟨#[c]⟩, none) S1
  | .loc n => match S1[n]? with
    | some (.lst xs) => .ok (xs, some n) S1
    | _ => .bad
  | _ => .bad
def fiR (a : FE) : FI := fun Γ S => (a Γ S).bind fun x S1 => match x with
  | .int n => if n < 2 ^ 62 ∧ -(2 ^ 62) ≤ n then .ok ((List.range n.toNat).map fun (i : Nat) => .int i, none) S1 else .bad
  | _ => .bad
def fiR2 (a b : FE) : FI := fun Γ S => (a Γ S).bind fun x S1 => (b Γ S1).bind fun y S2 => match x, y with
  | .int m, .int n => if (n < 2 ^ 62 ∧ -(2 ^ 62) ≤ n) ∧ m < 2 ^ 62 ∧ -(2 ^ 62) ≤ m then .ok ((List.range (n - m).toNat).map fun (i : Nat) => .int (m + i), none) S2 else .bad
  | _, _ => .bad
open Classical in
/-- the walked list stands still -/
@[simp] noncomputable def still (l : Option Nat) (xs : List AV) (S : Sto) : Prop := match l with
  | none => True
  | some n => S[n]? = some (.lst xs)
abbrev FG := AV → Sl → Option Sl
@[simp] def gN (i : Nat) : FG := fun v Γ => some (Γ.set i (some v))
@[simp] def gU (is : List Nat) : FG := fun v Γ => match v with
  | .tup xs => unp is xs Γ
  | _ => none
open Classical in
noncomputable def loopF (all : List AV) (l : Option Nat) (g : FG) (b : FSt) : List AV → FSt
  | [] => fun Γ S => if still l all S then .nx Γ S else .bad
  | x :: xs => fun Γ S => if still l all S then (match g x Γ with
    | none => .bad
    | some Γ1 => match b Γ1 S with
      | .nx Γ2 S2 => loopF all l g b xs Γ2 S2
      | .ct Γ2 S2 => loopF all l g b xs Γ2 S2
      | .bk Γ2 S2 => .nx Γ2 S2
      | r => r) else .bad
noncomputable def fFor (it : FI) (g : FG) (b : FSt) : FSt := fun Γ S => match it Γ S with
  | .ok p S1 => loopF p.1 p.2 g b p.1 Γ S1
  | .ex c fs S1 => .ex c fs Γ S1
  | .bad => .bad
def whileF (t : FT) (b : FSt) : Nat → FSt
  | 0 => fun _ _ => .bad
  | n + 1 => fun Γ S => (t Γ S).stb Γ fun k S1 => if k = true then (match b Γ S1 with
      | .nx Γ2 S2 => whileF t b n Γ2 S2
      | .ct Γ2 S2 => whileF t b n Γ2 S2
      | .bk Γ2 S2 => .nx Γ2 S2
      | r => r) else .nx Γ S1
/-- behind the suite its name goes -/
def dropI (i : Nat) : SR → SR
  | .nx Γ S => .nx (Γ.set i none) S
  | .bk Γ S => .bk (Γ.set i none) S
  | .ct Γ S => .ct (Γ.set i none) S
  | .rt v S => .rt v S
  | _ => .bad
open Classical in
/-- try: b, except a class as slot i: h (which may know where the exception lies, and its class); yes, no: the classes that the clause takes, does not take -/
noncomputable def fTry (b : FSt) (yes no : List Nat) (i : Nat) (h : Nat → Nat → Nat → FSt) : FSt := fun Γ S => match b Γ S with
  | .ex c fs Γ1 S1 => if c ∈ yes then (if ∀ a d, dropI i (h a d c (Γ1.set i (some (.exc a d c fs))) S1) = dropI i (h 0 0 c (Γ1.set i (some (.exc 0 0 c fs))) S1) then dropI i (h 0 0 c (Γ1.set i (some (.exc 0 0 c fs))) S1) else .bad) else if c ∈ no then .ex c fs Γ1 S1 else .bad
  | r => r
/-- e.f in an except suite, the exception at a, its dict at d, its class c -/
@[simp] def gXf (a d c : Nat) (f : Str) (x : AV) (S : Sto) : XR AV := match x with
  | .exc a' d' c' fs => if a' = a ∧ d' = d ∧ c' = c then (match lkF f fs with
    | some v => .ok v S
    | none => .bad) else .bad
  | _ => .bad
/-- fields that are arguments: by their places -/
@[simp] def pick {α : Type} (ws : List α) : List (Str × Nat) → Option (List (Str × α))
  | [] => some []
  | (f, i) :: r => match ws[i]?, pick ws r with
    | some x, some y => some ((f, x) :: y)
    | _, _ => none
/-- raise C(..): the fields that __init__ sets, the last one first; ok: the arguments that it takes -/
def fRaise (c : Nat) (sel : List (Str × Nat)) (ok : List AV → Bool) (fa : FA) : FSt := fun Γ S => match fa Γ S with
  | .ok vs S1 => if vs.length ≤ 1000 ∧ ok vs = true then (match pick vs sel with
    | some fs => .ex c fs Γ S1
    | none => .bad) else .bad
  | .ex c' fs S1 => .ex c' fs Γ S1
  | .bad => .bad
/-- one text, which a message of n letters takes -/
@[simp] def okTxt (n : Nat) : List AV → Bool
  | [.str s] => decide (n + s.length ≤ sizeLine)
  | _ => false
/-! ### comprehensions -/
@[simp] def wipeA (Γ : Sl) : List Nat → Sl
  | [] => Γ
  | v :: vs => (wipeA Γ vs).set v none
open Classical in
/-- [te for g in .. if tt]: the items so far stand at n, the last place of the store -/
noncomputable def lcF (all : List AV) (l : Option Nat) (g : FG) (tt : FT) (te : FE) (vs : List Nat) (Γ : Sl) (n : Nat) : List AV → Sto → XR (List AV)
  | [], S => if still l all S ∧ S.length = n + 1 then (match S[n]? with
    | some (.lst acc) => .ok acc S
    | _ => .bad) else .bad
  | x :: xs, S => if still l all S then (match g x (wipeA Γ vs) with
    | none => .bad
    | some Γ1 => match tt Γ1 S with
      | .ok true S1 => match te Γ1 S1 with
        | .ok v S2 => match S2[n]? with
          | some (.lst acc) => if lf n v = true ∧ acc.length < sizeLine then lcF all l g tt te vs Γ n xs (S2.set n (.lst (acc ++ [v]))) else .bad
          | _ => .bad
        | _ => .bad
      | .ok false S1 => lcF all l g tt te vs Γ n xs S1
      | _ => .bad) else .bad
open Classical in
noncomputable def fLc (it : FI) (g : FG) (tt : FT) (te : FE) (vs : List Nat) : FE := fun Γ S => (it Γ S).bind fun p S1 =>
  (lcF p.1 p.2 g tt te vs Γ S1.length p.1 (S1 ++ [.lst []])).bind fun xs S2 => if clo S1 S2 ∧ lfs S1.length xs = true then .ok (.lst xs) (S2.take S1.length) else .bad
/-- .. a list that will change -/
noncomputable def fLcM (it : FI) (g : FG) (tt : FT) (te : FE) (vs : List Nat) : FE := fun Γ S => (it Γ S).bind fun p S1 =>
  (lcF p.1 p.2 g tt te vs Γ S1.length p.1 (S1 ++ [.lst []])).bind fun _ S2 => .ok (.loc S1.length) S2
def fTrue : FT := fun _ S => .ok true S
@[simp] theorem fTrue_ap (Γ : Sl) (S : Sto) : fTrue  Γ S = .ok true S := rfl
/-! ### more words -/
def gFldC (cs : List Nat) (f : Str) (x : AV) (S : Sto) : XR AV := match x with
  | .obj c fs => if c ∈ cs then gFld f (.obj c fs) S else .bad
  | .loc n => match S[n]? with
    | some (.ins c _) => if c ∈ cs then gFld f (.loc n) S else .bad
    | _ => .bad
  | _ => .bad
def fDK0 : FE := fun _ S => .ok (.loc S.length) (S ++ [.dK []])
@[simp] theorem fDK0_ap (Γ : Sl) (S : Sto) : fDK0  Γ S = .ok (.loc S.length) (S ++ [.dK []]) := rfl
def fDN0 : FE := fun _ S => .ok (.loc S.length) (S ++ [.dN []])
@[simp] theorem fDN0_ap (Γ : Sl) (S : Sto) : fDN0  Γ S = .ok (.loc S.length) (S ++ [.dN []]) := rfl
/-- {k: v}, k a tuple -/
noncomputable def fDN1 (fk fv : FE) : FE := fun Γ S => (fk Γ S).bind fun k S1 => (fv Γ S1).bind fun v S2 => if okN k = true then .ok (.loc S2.length) (S2 ++ [.dN [(k, v)]]) else .bad
/-- turns that a while loop is given -/
def wN : Nat := 1000000
@[simp] def gIs (x y : AV) (S : Sto) : XR AV := if isNon y = true then gIsN x S else .bad
@[simp] def gIsNot (x y : AV) (S : Sto) : XR AV := if isNon y = true then gNotN x S else .bad
@[simp] def gIAdd (x y : AV) (S : Sto) : XR AV := match x, y with
  | .int i, .int j => .ok (.int (i + j)) S
  | _, _ => .bad
def fSetFC (cs : List Nat) (fo f : FE) (f' : Str) : FSt := fun Γ S => (f Γ S).st Γ fun v S1 => (fo Γ S1).st Γ fun x S2 => match x with
  | .loc n => match S2[n]? with
    | some (.ins c fs) => if c ∈ cs ∧ fs.length < 1000 then .nx Γ (S2.set n (.ins c (putA f' v fs))) else .bad
    | _ => .bad
  | _ => .bad
/-! ### .. as simp takes them -/
def asB (z : AV) (f : Bool → XR AV) : XR AV := match z with
  | .bl k => f k
  | _ => .bad
@[simp] theorem asB_bl (k : Bool) (f : Bool → XR AV) : asB (.bl k) f = f k := rfl
@[simp] theorem XR.bind_ite {α β : Type} {c : Prop} [Decidable c] (r1 r2 : XR α) (k : α → Sto → XR β) : (if c then r1 else r2).bind k = if c then r1.bind k else r2.bind k := by split <;> rfl
@[simp] theorem XR.st_ite {c : Prop} [Decidable c] (r1 r2 : XR AV) (Γ : Sl) (k : AV → Sto → SR) : (if c then r1 else r2).st Γ k = if c then r1.st Γ k else r2.st Γ k := by split <;> rfl
@[simp] theorem XR.stb_ite {c : Prop} [Decidable c] (r1 r2 : XR Bool) (Γ : Sl) (k : Bool → Sto → SR) : (if c then r1 else r2).stb Γ k = if c then r1.stb Γ k else r2.stb Γ k := by split <;> rfl
/-! each word first does its first piece: what is behind stands under a name of its own, so that it is worked out last -/
section
variable (g g' : AV → AV → Sto → XR AV) (u : AV → Sto → XR AV) (h : List AV → Sto → XR AV) (q : AV → List AV → Sto → XR AV) (ty : AV → Sto → Bool) (ff : FF) (fa fb fc : FE) (fr : FA) (ta tb : FT) (sa sb : FSt) (Γ : Sl) (S : Sto) (x y z : AV) (xs : List AV) (k : Bool) (i n : Nat) (is : List Nat) (cs : List Nat) (f : Str)
def opK : AV → Sto → XR AV := fun x S1 => (fb Γ S1).bind (g x)
@[simp] theorem fOp_ap : fOp g fa fb Γ S = (fa Γ S).bind (opK g fb Γ) := rfl
@[simp] theorem opK_ap : opK g fb Γ x S = (fb Γ S).bind (g x) := rfl
@[simp] theorem fUn_ap : fUn u fa Γ S = (fa Γ S).bind u := rfl
def acK2 : List AV → Sto → XR (List AV) := fun xs S => .ok (x :: xs) S
def acK : AV → Sto → XR (List AV) := fun x S1 => (fr Γ S1).bind (acK2 x)
@[simp] theorem faC_ap : faC fa fr Γ S = (fa Γ S).bind (acK fr Γ) := rfl
@[simp] theorem acK_ap : acK fr Γ x S = (fr Γ S).bind (acK2 x) := rfl
@[simp] theorem acK2_ap : acK2 x xs S = .ok (x :: xs) S := rfl
def tupK : List AV → Sto → XR AV := fun xs S => if xs.length ≤ sizeLine then .ok (.tup xs) S else .bad
def lstK : List AV → Sto → XR AV := fun xs S => if xs.length ≤ sizeLine then .ok (.lst xs) S else .bad
def lstMK : List AV → Sto → XR AV := fun xs S => if xs.length ≤ sizeLine then .ok (.loc S.length) (S ++ [.lst xs]) else .bad
@[simp] theorem fTup_ap : fTup fr Γ S = (fr Γ S).bind tupK := rfl
@[simp] theorem fLst_ap : fLst fr Γ S = (fr Γ S).bind lstK := rfl
@[simp] theorem fLstM_ap : fLstM fr Γ S = (fr Γ S).bind lstMK := rfl
@[simp] theorem tupK_ap : tupK xs S = if xs.length ≤ sizeLine then .ok (.tup xs) S else .bad := rfl
@[simp] theorem lstK_ap : lstK xs S = if xs.length ≤ sizeLine then .ok (.lst xs) S else .bad := rfl
@[simp] theorem lstMK_ap : lstMK xs S = if xs.length ≤ sizeLine then .ok (.loc S.length) (S ++ [.lst xs]) else .bad := rfl
def callK : List AV → Sto → XR AV := fun xs S => if xs.length = n then ff xs S else .bad
@[simp] theorem fCall_ap : fCall n ff fr Γ S = (fr Γ S).bind (callK ff n) := rfl
@[simp] theorem callK_ap : callK ff n xs S = if xs.length = n then ff xs S else .bad := rfl
def ifK : Bool → Sto → XR AV := fun k S => if k = true then fa Γ S else fb Γ S
@[simp] theorem fIfE_ap : fIfE ta fa fb Γ S = (ta Γ S).bind (ifK fa fb Γ) := rfl
@[simp] theorem ifK_ap : ifK fa fb Γ k S = if k = true then fa Γ S else fb Γ S := rfl
def andVK : AV → Sto → XR AV := fun x S => asB x fun k => if k = true then fb Γ S else .ok (.bl false) S
def orVK : AV → Sto → XR AV := fun x S => asB x fun k => if k = true then .ok (.bl true) S else fb Γ S
def notVK : AV → Sto → XR AV := fun x S => asB x fun k => .ok (.bl (!k)) S
@[simp] theorem fAndV_ap : fAndV fa fb Γ S = (fa Γ S).bind (andVK fb Γ) := by
  unfold fAndV andVK
  congr 1; funext z S3
  cases z with
  | bl k => cases k <;> rfl
  | _ => rfl
@[simp] theorem fOrV_ap : fOrV fa fb Γ S = (fa Γ S).bind (orVK fb Γ) := by
  unfold fOrV orVK
  congr 1; funext z S3
  cases z with
  | bl k => cases k <;> rfl
  | _ => rfl
@[simp] theorem fNotV_ap : fNotV fa Γ S = (fa Γ S).bind notVK := by
  rfl
@[simp] theorem andVK_ap : andVK fb Γ (.bl k) S = if k = true then fb Γ S else .ok (.bl false) S := rfl
@[simp] theorem orVK_ap : orVK fb Γ (.bl k) S = if k = true then .ok (.bl true) S else fb Γ S := rfl
@[simp] theorem notVK_ap : notVK (.bl k) S = .ok (.bl (!k)) S := rfl
def chK2 : AV → AV → Sto → XR AV := fun y z S => asB z fun k => if k = true then (fc Γ S).bind (g' y) else .ok (.bl false) S
def chK1 : AV → AV → Sto → XR AV := fun x y S => (g x y S).bind (chK2 g' fc Γ y)
def chK : AV → Sto → XR AV := fun x S => (fb Γ S).bind (chK1 g g' fc Γ x)
@[simp] theorem fChain_ap : fChain g g' fa fb fc Γ S = (fa Γ S).bind (chK g g' fb fc Γ) := by
  unfold fChain chK chK1 chK2
  congr 1; funext x S1; congr 1; funext y S2; congr 1; funext z S3
  cases z with
  | bl k => cases k <;> rfl
  | _ => rfl
@[simp] theorem chK_ap : chK g g' fb fc Γ x S = (fb Γ S).bind (chK1 g g' fc Γ x) := rfl
@[simp] theorem chK1_ap : chK1 g g' fc Γ x y S = (g x y S).bind (chK2 g' fc Γ y) := rfl
@[simp] theorem chK2_ap : chK2 g' fc Γ y (.bl k) S = if k = true then (fc Γ S).bind (g' y) else .ok (.bl false) S := rfl
def tbK : AV → Sto → XR Bool := fun x S => match x with
  | .bl k => .ok k S
  | _ => .bad
@[simp] theorem fTB_ap : fTB fa Γ S = (fa Γ S).bind tbK := rfl
@[simp] theorem tbK_ap : tbK (.bl k) S = .ok k S := rfl
def andK : Bool → Sto → XR Bool := fun k S => if k = true then tb Γ S else .ok false S
def orK : Bool → Sto → XR Bool := fun k S => if k = true then .ok true S else tb Γ S
def notK : Bool → Sto → XR Bool := fun k S => .ok (!k) S
@[simp] theorem fAnd_ap : fAnd ta tb Γ S = (ta Γ S).bind (andK tb Γ) := rfl
@[simp] theorem fOr_ap : fOr ta tb Γ S = (ta Γ S).bind (orK tb Γ) := rfl
@[simp] theorem fNot_ap : fNot ta Γ S = (ta Γ S).bind notK := rfl
@[simp] theorem andK_ap : andK tb Γ k S = if k = true then tb Γ S else .ok false S := rfl
@[simp] theorem orK_ap : orK tb Γ k S = if k = true then .ok true S else tb Γ S := rfl
@[simp] theorem notK_ap : notK k S = .ok (!k) S := rfl
@[simp] theorem fB_ap : fB h fr Γ S = (fr Γ S).bind h := rfl
def mK : AV → Sto → XR AV := fun x S => if ty x S = true then (fr Γ S).bind (q x) else .bad
@[simp] theorem fM_ap : fM ty q fa fr Γ S = (fa Γ S).bind (mK q ty fr Γ) := rfl
@[simp] theorem mK_ap : mK q ty fr Γ x S = if ty x S = true then (fr Γ S).bind (q x) else .bad := rfl
def eqK : Bool → Sto → XR AV := fun k S => .ok (.bl k) S
def neK : Bool → Sto → XR AV := fun k S => .ok (.bl (!k)) S
@[simp] theorem eqK_ap : eqK k S = .ok (.bl k) S := rfl
@[simp] theorem neK_ap : neK k S = .ok (.bl (!k)) S := rfl
@[simp] theorem gEq_ap : gEq x y S = (gEqB x y S).bind eqK := rfl
@[simp] theorem gNe_ap : gNe x y S = (gEqB x y S).bind neK := rfl
@[simp] theorem gIn_ap : gIn x y S = (gInB x y S).bind eqK := rfl
@[simp] theorem gNotIn_ap : gNotIn x y S = (gInB x y S).bind neK := rfl
@[simp] theorem gFld_obj (c : Nat) (fs : Flds) : gFld f (.obj c fs) S = match lkF f fs with
    | some v => .ok v S
    | none => .bad := rfl
@[simp] theorem gFldC_obj (c : Nat) (fs : Flds) : gFldC cs f (.obj c fs) S = if c ∈ cs then gFld f (.obj c fs) S else .bad := rfl
theorem gFldC_loc (c m : Nat) (fs : Flds) (e : S[m]? = some (.ins c fs)) : gFldC cs f (.loc m) S = if c ∈ cs then (match lkF f fs with
    | some v => .ok v S
    | none => .bad) else .bad := by
  unfold gFldC
  dsimp only
  rw [e]
  dsimp only
  unfold gFld
  dsimp only
  rw [e]
/-! statements -/
def asgK : AV → Sto → SR := fun v S => .nx (Γ.set i (some v)) S
def dropS : AV → Sto → SR := fun _ S => .nx Γ S
def retK : AV → Sto → SR := fun v S => .rt v S
def ifSK : Bool → Sto → SR := fun k S => if k = true then sa Γ S else sb Γ S
@[simp] theorem fAsg_ap : fAsg i fa Γ S = (fa Γ S).st Γ (asgK Γ i) := rfl
@[simp] theorem fDrop_ap : fDrop fa Γ S = (fa Γ S).st Γ (dropS Γ) := rfl
@[simp] theorem fRet_ap : fRet fa Γ S = (fa Γ S).st Γ retK := rfl
@[simp] theorem fIf_ap : fIf ta sa sb Γ S = (ta Γ S).stb Γ (ifSK sa sb Γ) := rfl
@[simp] theorem asgK_ap : asgK Γ i x S = .nx (Γ.set i (some x)) S := rfl
@[simp] theorem dropS_ap : dropS Γ x S = .nx Γ S := rfl
@[simp] theorem retK_ap : retK x S = .rt x S := rfl
@[simp] theorem ifSK_ap : ifSK sa sb Γ k S = if k = true then sa Γ S else sb Γ S := rfl
def unpK : AV → Sto → SR := fun v S1 => match v with
  | .tup xs => match unp is xs Γ with
    | some Γ' => .nx Γ' S1
    | none => .bad
  | _ => .bad
@[simp] theorem fUnp_ap : fUnp is fa Γ S = (fa Γ S).st Γ (unpK Γ is) := rfl
@[simp] theorem unpK_ap : unpK Γ is (.tup xs) S = match unp is xs Γ with
    | some Γ' => .nx Γ' S
    | none => .bad := rfl
def augK : AV → Sto → SR := fun y S => (g x y S).st Γ (asgK Γ i)
@[simp] theorem augK_ap : augK g Γ x i y S = (g x y S).st Γ (asgK Γ i) := rfl
@[simp] theorem fAug_ap : fAug i g fa Γ S = match Γ[i]? with
    | some (some x) => (fa Γ S).st Γ (augK g Γ x i)
    | _ => .bad := rfl
noncomputable def setK3 : AV → Sto → SR := fun k S => match gSet y k x S with
  | some S4 => .nx Γ S4
  | none => .bad
noncomputable def setK2 : AV → Sto → SR := fun y S => (fc Γ S).st Γ (setK3 Γ x y)
noncomputable def setK : AV → Sto → SR := fun x S => (fb Γ S).st Γ (setK2 fc Γ x)
@[simp] theorem fSetI_ap : fSetI fb fc fa Γ S = (fa Γ S).st Γ (setK fb fc Γ) := rfl
@[simp] theorem setK_ap : setK fb fc Γ x S = (fb Γ S).st Γ (setK2 fc Γ x) := rfl
@[simp] theorem setK2_ap : setK2 fc Γ x y S = (fc Γ S).st Γ (setK3 Γ x y) := rfl
@[simp] theorem setK3_ap : setK3 Γ x y z S = match gSet y z x S with
  | some S4 => .nx Γ S4
  | none => .bad := rfl
def sfK2 : AV → Sto → SR := fun y S2 => match y with
  | .loc n => match S2[n]? with
    | some (.ins c fs) => if c ∈ cs ∧ fs.length < 1000 then .nx Γ (S2.set n (.ins c (putA f x fs))) else .bad
    | _ => .bad
  | _ => .bad
def sfK : AV → Sto → SR := fun x S => (fb Γ S).st Γ (sfK2 Γ x cs f)
@[simp] theorem fSetFC_ap : fSetFC cs fb fa f Γ S = (fa Γ S).st Γ (sfK fb Γ cs f) := rfl
@[simp] theorem sfK_ap : sfK fb Γ cs f x S = (fb Γ S).st Γ (sfK2 Γ x cs f) := rfl
@[simp] theorem sfK2_ap : sfK2 Γ x cs f (.loc n) S = match S[n]? with
    | some (.ins c fs) => if c ∈ cs ∧ fs.length < 1000 then .nx Γ (S.set n (.ins c (putA f x fs))) else .bad
    | _ => .bad := rfl
def fivK : AV → Sto → XR (List AV × Option Nat) := fun x S1 => match x with
  | .tup xs => .ok (xs, none) S1
  | .lst xs => .ok (xs, none) S1
  | .scr xs => .ok (xs, none) S1
  | .str z => .ok (z.cps.toList.map fun c => .str ⟨#[c]⟩, none) S1
  | .loc n => match S1[n]? with
    | some (.lst xs) => .ok (xs, some n) S1
    | _ => .bad
  | _ => .bad
@[simp] theorem fiV_ap : fiV fa Γ S = (fa Γ S).bind fivK := rfl
@[simp] theorem fivK_tup : fivK (.tup xs) S = .ok (xs, none) S := rfl
@[simp] theorem fivK_lst : fivK (.lst xs) S = .ok (xs, none) S := rfl
@[simp] theorem fivK_scr : fivK (.scr xs) S = .ok (xs, none) S := rfl
@[simp] theorem fivK_str : fivK (.str f) S = .ok (f.cps.toList.map fun c => .str ⟨#[c]⟩, none) S := rfl
@[simp] theorem fivK_loc : fivK (.loc n) S = match S[n]? with
    | some (.lst xs) => .ok (xs, some n) S
    | _ => .bad := rfl
def firK : AV → Sto → XR (List AV × Option Nat) := fun x S1 => match x with
  | .int n => if n < 2 ^ 62 ∧ -(2 ^ 62) ≤ n then .ok ((List.range n.toNat).map fun (i : Nat) => .int i, none) S1 else .bad
  | _ => .bad
@[simp] theorem fiR_ap : fiR fa Γ S = (fa Γ S).bind firK := rfl
@[simp] theorem firK_ap (m : Int) : firK (.int m) S = if m < 2 ^ 62 ∧ -(2 ^ 62) ≤ m then .ok ((List.range m.toNat).map fun (i : Nat) => .int i, none) S else .bad := rfl
def fir2K2 : AV → AV → Sto → XR (List AV × Option Nat) := fun x y S2 => match x, y with
  | .int m, .int n => if (n < 2 ^ 62 ∧ -(2 ^ 62) ≤ n) ∧ m < 2 ^ 62 ∧ -(2 ^ 62) ≤ m then .ok ((List.range (n - m).toNat).map fun (i : Nat) => .int (m + i), none) S2 else .bad
  | _, _ => .bad
def fir2K : AV → Sto → XR (List AV × Option Nat) := fun x S => (fb Γ S).bind (fir2K2 x)
@[simp] theorem fiR2_ap : fiR2 fa fb Γ S = (fa Γ S).bind (fir2K fb Γ) := rfl
@[simp] theorem fir2K_ap : fir2K fb Γ x S = (fb Γ S).bind (fir2K2 x) := rfl
@[simp] theorem fir2K2_ap (m n : Int) : fir2K2 (.int m) (.int n) S = if (n < 2 ^ 62 ∧ -(2 ^ 62) ≤ n) ∧ m < 2 ^ 62 ∧ -(2 ^ 62) ≤ m then .ok ((List.range (n - m).toNat).map fun (i : Nat) => .int (m + i), none) S else .bad := rfl
noncomputable def dn1K2 : AV → Sto → XR AV := fun v S2 => if okN x = true then .ok (.loc S2.length) (S2 ++ [.dN [(x, v)]]) else .bad
noncomputable def dn1K : AV → Sto → XR AV := fun x S => (fb Γ S).bind (dn1K2 x)
@[simp] theorem fDN1_ap : fDN1 fa fb Γ S = (fa Γ S).bind (dn1K fb Γ) := rfl
@[simp] theorem dn1K_ap : dn1K fb Γ x S = (fb Γ S).bind (dn1K2 x) := rfl
@[simp] theorem dn1K2_ap : dn1K2 x y S = if okN x = true then .ok (.loc S.length) (S ++ [.dN [(x, y)]]) else .bad := rfl
@[simp] theorem fRaise_ap (c : Nat) (sel : List (Str × Nat)) (ok : List AV → Bool) : fRaise c sel ok fr Γ S = match fr Γ S with
  | .ok vs S1 => if vs.length ≤ 1000 ∧ ok vs = true then (match pick vs sel with
    | some fs => .ex c fs Γ S1
    | none => .bad) else .bad
  | .ex c' fs S1 => .ex c' fs Γ S1
  | .bad => .bad := rfl
/-! the operators, by the kind of what they take -/
variable (a b : Int) (s1 s2 : Str) (ys : List AV) (p : Int → Int → Bool) (ai : AV) (kk : AV)
@[simp] theorem gAdd_int : gAdd (.int a) (.int b) S = .ok (.int (a + b)) S := rfl
@[simp] theorem gAdd_str : gAdd (.str s1) (.str s2) S = if s1.length + s2.length ≤ sizeLine then .ok (.str (s1 ++ s2)) S else .bad := rfl
@[simp] theorem gAdd_lst : gAdd (.lst xs) (.lst ys) S = if xs.length + ys.length ≤ sizeLine then .ok (.lst (xs ++ ys)) S else .bad := rfl
@[simp] theorem gSub_int : gSub (.int a) (.int b) S = .ok (.int (a - b)) S := rfl
open Classical in
theorem gMul_int : gMul (.int a) (.int b) S = if IntMulOk a b then .ok (.int (a * b)) S else .bad := rfl
@[simp] theorem gMul_lst : gMul (.lst xs) (.int b) S = if 0 ≤ b ∧ b < 2 ^ 63 ∧ xs.length * b.toNat ≤ sizeLine then .ok (.lst (List.replicate b.toNat xs).flatten) S else .bad := rfl
theorem gMul_ok (h : IntMulOk a b) : gMul (.int a) (.int b) S = .ok (.int (a * b)) S := by rw [gMul_int, if_pos h]
@[simp] theorem gMod_int : gMod (.int a) (.int b) S = if 0 < b then .ok (.int (a % b)) S else .bad := rfl
@[simp] theorem gDiv_int : gDiv (.int a) (.int b) S = if 0 < b ∧ b < 1073741824 then .ok (.int (a / b)) S else .bad := rfl
@[simp] theorem gPow_int : gPow (.int a) (.int b) S = if 0 ≤ b ∧ b ≤ 1000000 ∧ a.natAbs < 2 ^ 64 then .ok (.int (a ^ b.toNat)) S else .bad := rfl
@[simp] theorem gNeg_int : gNeg (.int a) S = .ok (.int (-a)) S := rfl
@[simp] theorem gCmp_int : gCmp p (.int a) (.int b) S = .ok (.bl (p a b)) S := rfl
@[simp] theorem gIx_tup : gIx (.tup xs) (.int a) S = orBad S (atA xs a) := rfl
@[simp] theorem gIx_lst : gIx (.lst xs) (.int a) S = orBad S (atA xs a) := rfl
@[simp] theorem gIx_scr : gIx (.scr xs) (.int a) S = orBad S (atA xs a) := rfl
@[simp] theorem gIx_loc : gIx (.loc n) kk S = match S[n]? with
    | some (.lst xs) => match kk with
      | .int i => orBad S (atA xs i)
      | _ => .bad
    | some (.dK kvs) => match toK kk with
      | some j => orBad S (lkK j kvs)
      | none => .bad
    | some (.dN kvs) => if okN kk = true then orBad S (lkN kk kvs) else .bad
    | _ => .bad := rfl
@[simp] theorem gLen_tup : gLen [.tup xs] S = .ok (.int xs.length) S := rfl
@[simp] theorem gLen_lst : gLen [.lst xs] S = .ok (.int xs.length) S := rfl
@[simp] theorem gLen_scr : gLen [.scr xs] S = .ok (.int xs.length) S := rfl
@[simp] theorem gLen_str : gLen [.str s1] S = if s1.length ≤ sizeLine then .ok (.int s1.length) S else .bad := rfl
@[simp] theorem gLen_loc : gLen [.loc n] S = match S[n]? with
    | some (.lst xs) => .ok (.int xs.length) S
    | some (.dK kvs) => .ok (.int kvs.length) S
    | _ => .bad := rfl
@[simp] theorem gInt_int : gInt [.int a] S = .ok (.int a) S := rfl
@[simp] theorem gInt_bl : gInt [.bl k] S = .ok (.int (if k then 1 else 0)) S := rfl
@[simp] theorem gAbs_int : gAbs [.int a] S = .ok (.int (if a < 0 then -a else a)) S := rfl
@[simp] theorem gTuple_tup : gTuple [.tup xs] S = .ok (.tup xs) S := rfl
@[simp] theorem gTuple_lst : gTuple [.lst xs] S = .ok (.tup xs) S := rfl
@[simp] theorem gTuple_loc : gTuple [.loc n] S = match S[n]? with
    | some (.lst xs) => .ok (.tup xs) S
    | _ => .bad := rfl
@[simp] theorem gList_loc : gList [.loc n] S = match S[n]? with
    | some (.lst xs) => .ok (.lst xs) S
    | _ => .bad := rfl
@[simp] theorem gList_tup : gList [.tup xs] S = .ok (.lst xs) S := rfl
@[simp] theorem gList_lst : gList [.lst xs] S = .ok (.lst xs) S := rfl
@[simp] theorem tyL_lst : tyL (.lst xs) S = true := rfl
@[simp] theorem tyL_scr : tyL (.scr xs) S = true := rfl
@[simp] theorem tyL_loc : tyL (.loc n) S = match S[n]? with
    | some (.lst _) => true
    | _ => false := rfl
@[simp] theorem tyS_str : tyS (.str s1) S = true := rfl
@[simp] theorem gApp_loc : gApp (.loc n) [ai] S = match S[n]? with
    | some (.lst xs) => if xs.length < sizeLine then .ok .non (S.set n (.lst (xs ++ [ai]))) else .bad
    | _ => .bad := rfl
@[simp] theorem gSet_loc : gSet (.loc n) kk ai S = match S[n]? with
    | some (.lst xs) => match kk with
      | .int i => (ixA xs.length i).map fun j => S.set n (.lst (xs.set j ai))
      | _ => none
    | some (.dN kvs) => if okN kk = true ∧ kvs.length < sizeLine then some (S.set n (.dN (putN kk ai kvs))) else none
    | some (.dK kvs) => match toK kk with
      | some j => if kvs.length < sizeLine then some (S.set n (.dK (putK j ai kvs))) else none
      | none => none
    | _ => none := rfl
@[simp] theorem gInB_tup : gInB x (.tup ys) S = if flatA x = true ∧ ys.all flatA = true then .ok (ys.any fun y => eqA y x) S else .bad := rfl
@[simp] theorem gInB_loc : gInB x (.loc n) S = match S[n]? with
    | some (.dN kvs) => if okN x = true then .ok (lkN x kvs).isSome S else .bad
    | some (.dK kvs) => match toK x with
      | some k => .ok (lkK k kvs).isSome S
      | none => .bad
    | _ => .bad := rfl
end
end G

set_option Elab.async false
set_option linter.all false
set_option maxRecDepth 100000
set_option maxHeartbeats 2000000
/-! G, the relations: what a value of the pure part is in the abstract heap. -/
namespace G
open PySem PySem.Spec PyProof.Rows L2

structure Mx where
  K : PySem.W.Frag
  P : Program
  w : World
  cx : Nat → Addr

/-- what may be read at a and never changes: tracked, no location | of the written part -/
def Fz (ρ : List Addr) (H : Hp) (a : Addr) (u : HO) : Prop := Rd H a u ∧ a ∉ ρ
def SqTF (M : Mx) (ρ : List Addr) (H : Hp) (a : Addr) (vs : List V) : Prop := Fz ρ H a (.tup vs) ∨ ∃ (o : Obj) (its : Array Value) (n : Nat), M.K.lookup a = some o ∧ o.cls = .type "tuple" ∧ o.data = .seq its n ∧ its.size ≤ sizeLine ∧ Vals vs its.toList
def SqLF (M : Mx) (ρ : List Addr) (H : Hp) (a : Addr) (vs : List V) : Prop := Fz ρ H a (.lst vs) ∨ ∃ (o : Obj) (its : Array Value) (n : Nat), M.K.lookup a = some o ∧ o.cls = .type "list" ∧ o.dict = none ∧ o.data = .seq its n ∧ its.size ≤ sizeLine ∧ Vals vs its.toList
theorem SqTF.sq {M : Mx} {ρ : List Addr} {H : Hp} {a : Addr} {vs : List V} (h : SqTF M ρ H a vs) : SqT M.K H a vs := h.elim (fun z => .inl z.1) .inr
theorem SqLF.sq {M : Mx} {ρ : List Addr} {H : Hp} {a : Addr} {vs : List V} (h : SqLF M ρ H a vs) : SqL M.K H a vs := h.elim (fun z => .inl z.1) .inr

mutual
inductive Rv (M : Mx) (ρ : List Addr) (H : Hp) : V → AV → Prop
  | non : Rv M ρ H .non .non
  | bl (b : Bool) : Rv M ρ H (.bl b) (.bl b)
  | int (i : Int) : Rv M ρ H (.int i) (.int i)
  | str (s : Str) : Rv M ρ H (.str s) (.str s)
  | tup {a : Addr} {vs : List V} {xs : List AV} : SqTF M ρ H a vs → Rvs M ρ H vs xs → Rv M ρ H (.ref a) (.tup xs)
  | lst {a : Addr} {vs : List V} {xs : List AV} : H a = some (.lst vs) → a ∉ ρ → Rvs M ρ H vs xs → Rv M ρ H (.ref a) (.lst xs)
  | scr {a : Addr} {vs : List V} {xs : List AV} : SqLF M ρ H a vs → Rvs M ρ H vs xs → Rv M ρ H (.ref a) (.scr xs)
  | obj {a dx : Addr} {c : Nat} {fv : List (Str × V)} {fs : Flds} : H a = some (.ins (M.cx c) dx fv) → a ∉ ρ → Rfs M ρ H fv fs → Rv M ρ H (.ref a) (.obj c fs)
  | loc {n : Nat} {a : Addr} : ρ[n]? = some a → Rv M ρ H (.ref a) (.loc n)
  | exc {a d : Addr} {c : Nat} {fv : List (Str × V)} {fs : Flds} : H d = some (.xd fv) → d ∉ ρ → Rfs M ρ H fv fs → Rv M ρ H (.ref a) (.exc a d c fs)
inductive Rvs (M : Mx) (ρ : List Addr) (H : Hp) : List V → List AV → Prop
  | nil : Rvs M ρ H [] []
  | cons {x : V} {xs : List V} {v : AV} {vs : List AV} : Rv M ρ H x v → Rvs M ρ H xs vs → Rvs M ρ H (x :: xs) (v :: vs)
inductive Rfs (M : Mx) (ρ : List Addr) (H : Hp) : List (Str × V) → Flds → Prop
  | nil : Rfs M ρ H [] []
  | cons {f : Str} {x : V} {xs : List (Str × V)} {v : AV} {vs : Flds} : Rv M ρ H x v → Rfs M ρ H xs vs → Rfs M ρ H ((f, x) :: xs) ((f, v) :: vs)
end

/-- the object of a dict whose keys are tuples, as it lies -/
def rawN (P : Program) (w : World) (d : Addr) (xs : List (NestedKey × Addr × Value)) : HO := .ext fun h => (d == sysModules) = false ∧ ∃ o es ep, h.get? d = some o ∧ o.ExactDict ∧ o.data = .dict es ep ∧ es.toList = xs.map (entryOfKey (nestedKind P w)) ∧ (xs.map (·.1)).Nodup
inductive Rks (M : Mx) (ρ : List Addr) (H : Hp) : List (Key × V) → List (GKey × AV) → Prop
  | nil : Rks M ρ H [] []
  | cons {k : Key} {x : V} {xs : List (Key × V)} {v : AV} {vs : List (GKey × AV)} : Rv M ρ H x v → Rks M ρ H xs vs → Rks M ρ H ((k, x) :: xs) ((k, v) :: vs)
/-- an entry whose key is a tuple -/
inductive Rns (M : Mx) (ρ : List Addr) (H : Hp) : List (NestedKey × Addr × Value) → List (AV × AV) → Prop
  | nil : Rns M ρ H [] []
  | cons {q : NestedKey} {a : Addr} {u : Value} {xs : List (NestedKey × Addr × Value)} {k v : AV} {x : V} {vs : List (AV × AV)} : toNK k = some q → okN k = true → Rv M ρ H (.ref a) k → RelV x u → Rv M ρ H x v → Rns M ρ H xs vs → Rns M ρ H ((q, a, u) :: xs) ((k, v) :: vs)
/-- an object of the store, at a -/
def Ra (M : Mx) (ρ : List Addr) (H : Hp) (a : Addr) : AO → Prop
  | .lst xs => ∃ vs, H a = some (.lst vs) ∧ Rvs M ρ H vs xs
  | .ins c fs => ∃ dx fv, H a = some (.ins (M.cx c) dx fv) ∧ Rfs M ρ H fv fs
  | .dK kvs => ∃ kv, H a = some (.dK kv) ∧ Rks M ρ H kv kvs
  | .dN kvs => kvs.length ≤ sizeLine ∧ ∃ xs, H a = some (rawN M.P M.w a xs) ∧ Rns M ρ H xs kvs
structure Ok (M : Mx) (ρ : List Addr) (H : Hp) (S : Sto) : Prop where
  len : ρ.length = S.length
  nd : ρ.Nodup
  obj : ∀ (n : Nat) (a : Addr) (o : AO), ρ[n]? = some a → S[n]? = some o → Ra M ρ H a o
structure En (M : Mx) (ρ : List Addr) (H : Hp) (σ : L2.St) (Γ : Sl) : Prop where
  len : σ.length = Γ.length
  val : ∀ (i : Nat) (v : AV), Γ[i]? = some (some v) → ∃ x, σ[i]? = some (some x) ∧ Rv M ρ H x v
structure Rs (M : Mx) (ρ : List Addr) (H : Hp) (σ : L2.St) (Γ : Sl) (S : Sto) : Prop where
  ok : Ok M ρ H S
  en : En M ρ H σ Γ
/-- what may happen: locations are added, what is no location stands -/
structure Nx (ρ : List Addr) (H : Hp) (ρ' : List Addr) (H' : Hp) : Prop where
  pre : ∃ t, ρ' = ρ ++ t
  ext : ∀ a o, H a = some o → a ∉ ρ → H' a = some o
  new : ∀ a, a ∈ ρ' → a ∉ ρ → H a = none
  stay : ∀ a, a ∈ ρ → H a ≠ none → H' a ≠ none

theorem Nx.refl (ρ : List Addr) (H : Hp) : Nx ρ H ρ H := ⟨⟨[], by simp⟩, fun _ _ h _ => h, fun a h n => absurd h n, fun _ _ h => h⟩
theorem Nx.sub {ρ ρ' : List Addr} {H H' : Hp} (n : Nx ρ H ρ' H') {a : Addr} (h : a ∈ ρ) : a ∈ ρ' := by
  obtain ⟨t, rfl⟩ := n.pre
  exact List.mem_append_left _ h
theorem Nx.at {ρ ρ' : List Addr} {H H' : Hp} (n : Nx ρ H ρ' H') {i : Nat} {a : Addr} (h : ρ[i]? = some a) : ρ'[i]? = some a := by
  obtain ⟨t, rfl⟩ := n.pre
  have hi := (List.getElem?_eq_some_iff.mp h).1
  rw [List.getElem?_append_left hi]
  exact h
theorem Nx.there {ρ ρ' : List Addr} {H H' : Hp} (n : Nx ρ H ρ' H') {a : Addr} (h : H a ≠ none) : H' a ≠ none := by
  by_cases ha : a ∈ ρ
  · exact n.stay a ha h
  · cases e : H a with
    | none => exact absurd e h
    | some o => rw [n.ext a o e ha]; simp
theorem Nx.back {ρ ρ' : List Addr} {H H' : Hp} (n : Nx ρ H ρ' H') {a : Addr} (h : H' a = none) : H a = none := by
  cases e : H a with
  | none => rfl
  | some o => exact absurd h (n.there (by rw [e]; simp))
theorem Nx.trans {ρ ρ1 ρ2 : List Addr} {H H1 H2 : Hp} (a : Nx ρ H ρ1 H1) (b : Nx ρ1 H1 ρ2 H2) : Nx ρ H ρ2 H2 where
  pre := by
    obtain ⟨t, rfl⟩ := a.pre
    obtain ⟨u, rfl⟩ := b.pre
    exact ⟨t ++ u, by rw [List.append_assoc]⟩
  ext := fun x o e n => b.ext x o (a.ext x o e n) fun h => by
    have := a.new x h n
    rw [e] at this
    cases this
  new := fun x h n => by
    by_cases h1 : x ∈ ρ1
    · exact a.new x h1 n
    · exact a.back (b.new x h h1)
  stay := fun x h e => b.there (a.stay x h e)
theorem Fz.mono {ρ ρ' : List Addr} {H H' : Hp} {a : Addr} {u : HO} (n : Nx ρ H ρ' H') (h : Fz ρ H a u) : Fz ρ' H' a u := by
  obtain ⟨h, na⟩ := h
  have na' : H a ≠ none → a ∉ ρ' := fun e q => e (n.new a q na)
  rcases h with h | ⟨o, h⟩
  · exact ⟨.inl (n.ext a _ h na), na' (by rw [h]; simp)⟩
  · exact ⟨.inr ⟨o, n.ext a _ h na⟩, na' (by rw [h]; simp)⟩
theorem Nx.fz {ρ ρ' : List Addr} {H H' : Hp} (n : Nx ρ H ρ' H') {a : Addr} {u : HO} (h : H a = some u) (na : a ∉ ρ) : H' a = some u ∧ a ∉ ρ' :=
  ⟨n.ext a u h na, fun q => by
    have := n.new a q na
    rw [h] at this
    cases this⟩
theorem SqTF.mono {M : Mx} {ρ ρ' : List Addr} {H H' : Hp} {a : Addr} {vs : List V} (n : Nx ρ H ρ' H') (h : SqTF M ρ H a vs) : SqTF M ρ' H' a vs := h.elim (fun z => .inl (z.mono n)) .inr
theorem SqLF.mono {M : Mx} {ρ ρ' : List Addr} {H H' : Hp} {a : Addr} {vs : List V} (n : Nx ρ H ρ' H') (h : SqLF M ρ H a vs) : SqLF M ρ' H' a vs := h.elim (fun z => .inl (z.mono n)) .inr

section
variable {M : Mx} {ρ ρ' : List Addr} {H H' : Hp}
mutual
theorem Rv.mono (n : Nx ρ H ρ' H') : ∀ {x : V} {v : AV}, Rv M ρ H x v → Rv M ρ' H' x v
  | _, _, .non => .non
  | _, _, .bl b => .bl b
  | _, _, .int i => .int i
  | _, _, .str s => .str s
  | _, _, .tup h r => .tup (h.mono n) (Rvs.mono n r)
  | _, _, .lst h na r => .lst (n.fz h na).1 (n.fz h na).2 (Rvs.mono n r)
  | _, _, .scr h r => .scr (h.mono n) (Rvs.mono n r)
  | _, _, .obj h na r => .obj (n.fz h na).1 (n.fz h na).2 (Rfs.mono n r)
  | _, _, .loc h => .loc (n.at h)
  | _, _, .exc h na r => .exc (n.fz h na).1 (n.fz h na).2 (Rfs.mono n r)
theorem Rvs.mono (n : Nx ρ H ρ' H') : ∀ {x : List V} {v : List AV}, Rvs M ρ H x v → Rvs M ρ' H' x v
  | _, _, .nil => .nil
  | _, _, .cons h r => .cons (Rv.mono n h) (Rvs.mono n r)
theorem Rfs.mono (n : Nx ρ H ρ' H') : ∀ {x : List (Str × V)} {v : Flds}, Rfs M ρ H x v → Rfs M ρ' H' x v
  | _, _, .nil => .nil
  | _, _, .cons h r => .cons (Rv.mono n h) (Rfs.mono n r)
end
theorem Rks.mono (n : Nx ρ H ρ' H') : ∀ {x : List (Key × V)} {v : List (GKey × AV)}, Rks M ρ H x v → Rks M ρ' H' x v
  | _, _, .nil => .nil
  | _, _, .cons h r => .cons (h.mono n) (Rks.mono n r)
theorem Rns.mono (n : Nx ρ H ρ' H') : ∀ {x : List (NestedKey × Addr × Value)} {v : List (AV × AV)}, Rns M ρ H x v → Rns M ρ' H' x v
  | _, _, .nil => .nil
  | _, _, .cons e k h rv h2 r => .cons e k (h.mono n) rv (h2.mono n) (Rns.mono n r)
theorem En.mono {σ : L2.St} {Γ : Sl} (n : Nx ρ H ρ' H') (h : En M ρ H σ Γ) : En M ρ' H' σ Γ := ⟨h.len, fun i v e => let ⟨x, a, b⟩ := h.val i v e; ⟨x, a, b.mono n⟩⟩
/-- what an object leans on, where its own place stands -/
theorem Ra.mono {a : Addr} {o : AO} (n : Nx ρ H ρ' H') (ha : H' a = H a) (h : Ra M ρ H a o) : Ra M ρ' H' a o := by
  cases o with
  | lst xs => obtain ⟨vs, e, r⟩ := h; exact ⟨vs, ha.trans e, r.mono n⟩
  | ins c fs => obtain ⟨dx, fv, e, r⟩ := h; exact ⟨dx, fv, ha.trans e, r.mono n⟩
  | dK kvs => obtain ⟨kv, e, r⟩ := h; exact ⟨kv, ha.trans e, r.mono n⟩
  | dN kvs => obtain ⟨z, xs, e, r⟩ := h; exact ⟨z, xs, ha.trans e, r.mono n⟩

/-! ### values without younger locations -/
mutual
theorem Rv.lf : ∀ {x : V} {v : AV}, Rv M ρ H x v → G.lf ρ.length v = true
  | _, _, .non => by unfold G.lf; rfl
  | _, _, .bl b => by unfold G.lf; rfl
  | _, _, .int i => by unfold G.lf; rfl
  | _, _, .str s => by unfold G.lf; rfl
  | _, _, .tup h r => by unfold G.lf; exact Rvs.lf r
  | _, _, .lst h na r => by unfold G.lf; exact Rvs.lf r
  | _, _, .scr h r => by unfold G.lf; exact Rvs.lf r
  | _, _, .obj h na r => by unfold G.lf; exact Rfs.lf r
  | _, _, .exc h na r => by unfold G.lf; exact Rfs.lf r
  | _, _, .loc h => by unfold G.lf; exact decide_eq_true (List.getElem?_eq_some_iff.mp h).1
theorem Rvs.lf : ∀ {x : List V} {v : List AV}, Rvs M ρ H x v → G.lfs ρ.length v = true
  | _, _, .nil => by unfold G.lfs; rfl
  | _, _, .cons h r => by unfold G.lfs; rw [Rv.lf h, Rvs.lf r]; rfl
theorem Rfs.lf : ∀ {x : List (Str × V)} {v : Flds}, Rfs M ρ H x v → G.lff ρ.length v = true
  | _, _, .nil => by unfold G.lff; rfl
  | _, _, .cons h r => by unfold G.lff; rw [Rv.lf h, Rfs.lf r]; rfl
end
theorem Rks.lf : ∀ {x : List (Key × V)} {v : List (GKey × AV)}, Rks M ρ H x v → (v.all fun p => G.lf ρ.length p.2) = true
  | _, _, .nil => rfl
  | _, _, .cons h r => by rw [List.all_cons, h.lf, Rks.lf r]; rfl
theorem Rns.lf : ∀ {x : List (NestedKey × Addr × Value)} {v : List (AV × AV)}, Rns M ρ H x v → (v.all fun p => G.lf ρ.length p.1 && G.lf ρ.length p.2) = true
  | _, _, .nil => rfl
  | _, _, .cons e k h rv h2 r => by rw [List.all_cons, h.lf, h2.lf, Rns.lf r]; rfl
theorem Ra.lfO {a : Addr} {o : AO} (h : Ra M ρ H a o) : G.lfO ρ.length o = true := by
  cases o with
  | lst xs => obtain ⟨vs, e, r⟩ := h; exact r.lf
  | ins c fs => obtain ⟨dx, fv, e, r⟩ := h; exact r.lf
  | dK kvs => obtain ⟨kv, e, r⟩ := h; exact r.lf
  | dN kvs => obtain ⟨z, xs, e, r⟩ := h; exact r.lf
/-- fewer, or other younger, locations -/
structure Sub (n : Nat) (ρ ρ' : List Addr) : Prop where
  at_ : ∀ i, i < n → ρ[i]? = ρ'[i]?
  mem : ∀ a, a ∈ ρ → a ∈ ρ'
theorem Sub.app (ρ t : List Addr) : Sub ρ.length ρ (ρ ++ t) := ⟨fun i h => (List.getElem?_append_left h).symm, fun _ h => List.mem_append_left _ h⟩
theorem loc_sub {k n : Nat} {a : Addr} (b : Sub k ρ ρ') (q : G.lf k (.loc n) = true) (h : ρ'[n]? = some a) : ρ[n]? = some a := by
  unfold G.lf at q
  rw [b.at_ n (of_decide_eq_true q)]
  exact h
theorem SqTF.sub {a : Addr} {vs : List V} (hs : ∀ b, b ∈ ρ → b ∈ ρ') (h : SqTF M ρ' H a vs) : SqTF M ρ H a vs := h.elim (fun z => .inl ⟨z.1, fun q => z.2 (hs _ q)⟩) .inr
theorem SqLF.sub {a : Addr} {vs : List V} (hs : ∀ b, b ∈ ρ → b ∈ ρ') (h : SqLF M ρ' H a vs) : SqLF M ρ H a vs := h.elim (fun z => .inl ⟨z.1, fun q => z.2 (hs _ q)⟩) .inr
mutual
theorem Rv.sub {k : Nat} (b : Sub k ρ ρ') : ∀ {x : V} {v : AV}, G.lf k v = true → Rv M ρ' H x v → Rv M ρ H x v
  | _, _, _, .non => .non
  | _, _, _, .bl b => .bl b
  | _, _, _, .int i => .int i
  | _, _, _, .str s => .str s
  | _, _, q, .tup h r => .tup (h.sub b.mem) (Rvs.sub b (by unfold G.lf at q; exact q) r)
  | _, _, q, .lst h na r => .lst h (fun hb => na (b.mem _ hb)) (Rvs.sub b (by unfold G.lf at q; exact q) r)
  | _, _, q, .scr h r => .scr (h.sub b.mem) (Rvs.sub b (by unfold G.lf at q; exact q) r)
  | _, _, q, .obj h na r => .obj h (fun hb => na (b.mem _ hb)) (Rfs.sub b (by unfold G.lf at q; exact q) r)
  | _, _, q, .loc h => .loc (loc_sub b q h)
  | _, _, q, .exc h na r => .exc h (fun hb => na (b.mem _ hb)) (Rfs.sub b (by unfold G.lf at q; exact q) r)
theorem Rvs.sub {k : Nat} (b : Sub k ρ ρ') : ∀ {x : List V} {v : List AV}, G.lfs k v = true → Rvs M ρ' H x v → Rvs M ρ H x v
  | _, _, _, .nil => .nil
  | _, _, q, .cons h r => by
    unfold G.lfs at q
    rw [Bool.and_eq_true] at q
    exact .cons (Rv.sub b q.1 h) (Rvs.sub b q.2 r)
theorem Rfs.sub {k : Nat} (b : Sub k ρ ρ') : ∀ {x : List (Str × V)} {v : Flds}, G.lff k v = true → Rfs M ρ' H x v → Rfs M ρ H x v
  | _, _, _, .nil => .nil
  | _, _, q, .cons h r => by
    unfold G.lff at q
    rw [Bool.and_eq_true] at q
    exact .cons (Rv.sub b q.1 h) (Rfs.sub b q.2 r)
end
theorem Rks.sub {k : Nat} (b : Sub k ρ ρ') : ∀ {x : List (Key × V)} {v : List (GKey × AV)}, (v.all fun p => G.lf k p.2) = true → Rks M ρ' H x v → Rks M ρ H x v
  | _, _, _, .nil => .nil
  | _, _, q, .cons h r => by
    rw [List.all_cons, Bool.and_eq_true] at q
    exact .cons (h.sub b q.1) (Rks.sub b q.2 r)
theorem Rns.sub {k : Nat} (b : Sub k ρ ρ') : ∀ {x : List (NestedKey × Addr × Value)} {v : List (AV × AV)}, (v.all fun p => G.lf k p.1 && G.lf k p.2) = true → Rns M ρ' H x v → Rns M ρ H x v
  | _, _, _, .nil => .nil
  | _, _, q, .cons e k' h rv h2 r => by
    rw [List.all_cons, Bool.and_eq_true, Bool.and_eq_true] at q
    exact .cons e k' (h.sub b q.1.1) rv (h2.sub b q.1.2) (Rns.sub b q.2 r)
theorem Ra.sub {k : Nat} (b : Sub k ρ ρ') {a : Addr} {o : AO} (q : G.lfO k o = true) (h : Ra M ρ' H a o) : Ra M ρ H a o := by
  cases o with
  | lst xs => obtain ⟨vs, e, r⟩ := h; exact ⟨vs, e, r.sub b q⟩
  | ins c fs => obtain ⟨dx, fv, e, r⟩ := h; exact ⟨dx, fv, e, r.sub b q⟩
  | dK kvs => obtain ⟨kv, e, r⟩ := h; exact ⟨kv, e, r.sub b q⟩
  | dN kvs => obtain ⟨z, xs, e, r⟩ := h; exact ⟨z, xs, e, r.sub b q⟩
theorem Rv.down {t : List Addr} {x : V} {v : AV} (q : G.lf ρ.length v = true) (h : Rv M (ρ ++ t) H x v) : Rv M ρ H x v := h.sub (.app ρ t) q
theorem Rvs.down {t : List Addr} {x : List V} {v : List AV} (q : G.lfs ρ.length v = true) (h : Rvs M (ρ ++ t) H x v) : Rvs M ρ H x v := h.sub (.app ρ t) q
theorem Rfs.down {t : List Addr} {x : List (Str × V)} {v : Flds} (q : G.lff ρ.length v = true) (h : Rfs M (ρ ++ t) H x v) : Rfs M ρ H x v := h.sub (.app ρ t) q
theorem Ra.down {t : List Addr} {a : Addr} {o : AO} (q : G.lfO ρ.length o = true) (h : Ra M (ρ ++ t) H a o) : Ra M ρ H a o := h.sub (.app ρ t) q
theorem ix_inj {l : List Addr} (nd : l.Nodup) {i j : Nat} {b : Addr} (h1 : l[i]? = some b) (h2 : l[j]? = some b) : i = j := by
  obtain ⟨p1, e1⟩ := List.getElem?_eq_some_iff.mp h1
  obtain ⟨p2, e2⟩ := List.getElem?_eq_some_iff.mp h2
  exact (List.getElem_inj nd).mp (e1.trans e2.symm)
/-- the younger locations forgotten -/
theorem Ok.down {S0 S : Sto} {H0 : Hp} {t : List Addr} (o0 : Ok M ρ H0 S0) (c : clo S0 S) (o : Ok M (ρ ++ t) H S) : Ok M ρ H (S.take S0.length) := by
  have hle : S0.length ≤ S.length := by
    have := o.len
    rw [List.length_append, o0.len] at this
    omega
  refine ⟨by rw [List.length_take, o0.len]; omega, (List.nodup_append.mp o.nd).1, fun n a ob ha hb => ?_⟩
  have hn : n < ρ.length := (List.getElem?_eq_some_iff.mp ha).1
  have hn0 : n < S0.length := by rw [← o0.len]; exact hn
  rw [List.getElem?_take_of_lt hn0] at hb
  have h := o.obj n a ob (by rw [List.getElem?_append_left hn]; exact ha) hb
  refine h.down ?_
  rcases c n ob hn0 hb with q | q
  · exact (o0.obj n a ob ha q).lfO
  · rw [o0.len]; exact q
end
end G

set_option Elab.async false
set_option linter.all false
set_option maxRecDepth 100000
set_option maxHeartbeats 2000000
/-! G, the judgements; steps of the heap; operators. -/
namespace G
open PySem PySem.Spec PyProof.Rows L2

/-! ### what is wanted behind a piece -/
def pX (M : Mx) (W : WX) (ρ : List Addr) (H : Hp) (σ : L2.St) (c : Nat) (fs : Flds) (S : Sto) : Prop :=
  ∀ ρ' H' d fv, Nx ρ H ρ' H' → Ok M ρ' H' S → H' d = some (.xd fv) → d ∉ ρ' → Rfs M ρ' H' fv fs → W (.ref (M.cx c)) (some d) σ H'
def pR {α β : Type} (rel : List Addr → Hp → β → α → Prop) (M : Mx) (W : WX) (ρ : List Addr) (H : Hp) (σ : L2.St) (r : XR α) (Q : β → Hp → Prop) : Prop := match r with
  | .ok a S => ∀ ρ' H' x, Nx ρ H ρ' H' → Ok M ρ' H' S → rel ρ' H' x a → Q x H'
  | .ex c fs S => pX M W ρ H σ c fs S
  | .bad => False
abbrev pE (M : Mx) (W : WX) := pR (β := V) (Rv M) M W
abbrev pT (M : Mx) (W : WX) := pR (β := Bool) (fun _ _ x a => x = a) M W
abbrev pA (M : Mx) (W : WX) := pR (β := List V) (Rvs M) M W
section
variable {M : Mx} {W : WX} {ρ ρ1 : List Addr} {H H1 : Hp} {σ : L2.St} {α β γ δ : Type} {rel1 : List Addr → Hp → β → α → Prop} {rel2 : List Addr → Hp → δ → γ → Prop}
theorem pX.mono {c : Nat} {fs : Flds} {S : Sto} (h : pX M W ρ H σ c fs S) (n : Nx ρ H ρ1 H1) : pX M W ρ1 H1 σ c fs S := fun ρ' H' d fv n' => h ρ' H' d fv (n.trans n')
theorem pR.mono {r : XR α} {Q : β → Hp → Prop} (h : pR rel1 M W ρ H σ r Q) (n : Nx ρ H ρ1 H1) : pR rel1 M W ρ1 H1 σ r Q := by
  cases r with
  | ok a S => exact fun ρ' H' x n' => h ρ' H' x (n.trans n')
  | ex c fs S => exact pX.mono h n
  | bad => exact h
theorem pR.imp {r : XR α} {Q Q' : β → Hp → Prop} (h : pR rel1 M W ρ H σ r Q) (k : ∀ x H', Q x H' → Q' x H') : pR rel1 M W ρ H σ r Q' := by
  cases r with
  | ok a S => exact fun ρ' H' x n o e => k _ _ (h ρ' H' x n o e)
  | ex c fs S => exact h
  | bad => exact h
/-- a piece, then the rest -/
theorem pR.bind {r : XR α} {k : α → Sto → XR γ} {Q : δ → Hp → Prop} (h : pR rel2 M W ρ H σ (r.bind k) Q) :
    pR rel1 M W ρ H σ r (fun x H1 => ∃ ρ1 a S1, Nx ρ H ρ1 H1 ∧ Ok M ρ1 H1 S1 ∧ rel1 ρ1 H1 x a ∧ pR rel2 M W ρ1 H1 σ (k a S1) Q) := by
  cases r with
  | ok a S => exact fun ρ' H' x n o e => ⟨ρ', a, S, n, o, e, pR.mono h n⟩
  | ex c fs S => exact h
  | bad => exact h
end
def pS (M : Mx) (W : WX) (ρ : List Addr) (H : Hp) (r : SR) (D : Ends) : Prop := match r with
  | .nx Γ S => ∀ ρ' H' σ', Nx ρ H ρ' H' → Rs M ρ' H' σ' Γ S → D.nx σ' H'
  | .rt v S => ∀ ρ' H' x, Nx ρ H ρ' H' → Ok M ρ' H' S → Rv M ρ' H' x v → D.rt x H'
  | .bk Γ S => ∀ ρ' H' σ', Nx ρ H ρ' H' → Rs M ρ' H' σ' Γ S → D.bk σ' H'
  | .ct Γ S => ∀ ρ' H' σ', Nx ρ H ρ' H' → Rs M ρ' H' σ' Γ S → D.ct σ' H'
  | .ex c fs Γ S => ∀ ρ' H' σ' d fv, Nx ρ H ρ' H' → Rs M ρ' H' σ' Γ S → H' d = some (.xd fv) → d ∉ ρ' → Rfs M ρ' H' fv fs → W (.ref (M.cx c)) (some d) σ' H'
  | .bad => False
theorem pS.mono {M : Mx} {W : WX} {ρ ρ1 : List Addr} {H H1 : Hp} {r : SR} {D : Ends} (h : pS M W ρ H r D) (n : Nx ρ H ρ1 H1) : pS M W ρ1 H1 r D := by
  cases r with
  | nx Γ S => exact fun ρ' H' σ' n' => h ρ' H' σ' (n.trans n')
  | rt v S => exact fun ρ' H' x n' => h ρ' H' x (n.trans n')
  | bk Γ S => exact fun ρ' H' σ' n' => h ρ' H' σ' (n.trans n')
  | ct Γ S => exact fun ρ' H' σ' n' => h ρ' H' σ' (n.trans n')
  | ex c fs Γ S => exact fun ρ' H' σ' d fv n' => h ρ' H' σ' d fv (n.trans n')
  | bad => exact h
/-- an expression within a statement -/
theorem pS.st {M : Mx} {W : WX} {ρ : List Addr} {H : Hp} {σ : L2.St} {Γ : Sl} {r : XR AV} {k : AV → Sto → SR} {D : Ends} (en : En M ρ H σ Γ) (h : pS M W ρ H (r.st Γ k) D) :
    pE M W ρ H σ r (fun x H1 => ∃ ρ1 a S1, Nx ρ H ρ1 H1 ∧ Ok M ρ1 H1 S1 ∧ Rv M ρ1 H1 x a ∧ pS M W ρ1 H1 (k a S1) D) := by
  cases r with
  | ok a S => exact fun ρ' H' x n o e => ⟨ρ', a, S, n, o, e, pS.mono h n⟩
  | ex c fs S => exact fun ρ' H' d fv n o e nd r => h ρ' H' σ d fv n ⟨o, en.mono n⟩ e nd r
  | bad => exact h
theorem pS.stb {M : Mx} {W : WX} {ρ : List Addr} {H : Hp} {σ : L2.St} {Γ : Sl} {r : XR Bool} {k : Bool → Sto → SR} {D : Ends} (en : En M ρ H σ Γ) (h : pS M W ρ H (r.stb Γ k) D) :
    pT M W ρ H σ r (fun x H1 => ∃ ρ1 S1, Nx ρ H ρ1 H1 ∧ Ok M ρ1 H1 S1 ∧ pS M W ρ1 H1 (k x S1) D) := by
  cases r with
  | ok a S => exact fun ρ' H' x n o e => ⟨ρ', S, n, o, by rw [e]; exact pS.mono h n⟩
  | ex c fs S => exact fun ρ' H' d fv n o e nd r => h ρ' H' σ d fv n ⟨o, en.mono n⟩ e nd r
  | bad => exact h

/-! ### the judgements -/
structure MX (M : Mx) (X : Cx) : Prop where
  K : X.K = M.K
  P : X.prog = M.P
  w : X.w = M.w
structure GE (M : Mx) (W : WX) (X : Cx) (e : Expr) (f : FE) : Prop where
  run : ∃ t, PE X e t ∧ ∀ ρ H σ Γ S Q, Rs M ρ H σ Γ S → pE M W ρ H σ (f Γ S) Q → t σ H Q
structure GT (M : Mx) (W : WX) (X : Cx) (e : Expr) (f : FT) : Prop where
  run : ∃ t, PT X e t ∧ ∀ ρ H σ Γ S Q, Rs M ρ H σ Γ S → pT M W ρ H σ (f Γ S) Q → t σ H Q
structure GA (M : Mx) (W : WX) (X : Cx) (es : List Expr) (f : FA) : Prop where
  run : ∃ t, PA X es t ∧ ∀ ρ H σ Γ S Q, Rs M ρ H σ Γ S → pA M W ρ H σ (f Γ S) Q → t σ H Q
structure GS (M : Mx) (W : WX) (X : Cx) (s : Stmt) (f : FSt) : Prop where
  run : ∃ t, PS X s t ∧ ∀ ρ H σ Γ S D, Rs M ρ H σ Γ S → pS M W ρ H (f Γ S) D → t D σ H
structure GSs (M : Mx) (W : WX) (X : Cx) (s : List Stmt) (f : FSt) : Prop where
  run : ∃ t, PSs X s t ∧ ∀ ρ H σ Γ S D, Rs M ρ H σ Γ S → pS M W ρ H (f Γ S) D → t D σ H

/-! ### steps of the heap -/
section
variable {M : Mx} {ρ : List Addr} {H : Hp} {S : Sto} {p : Addr} {o : HO}
theorem Ra.there {a : Addr} {u : AO} (h : Ra M ρ H a u) : H a ≠ none := by
  cases u with
  | lst xs => obtain ⟨vs, e, r⟩ := h; rw [e]; simp
  | ins c fs => obtain ⟨dx, fv, e, r⟩ := h; rw [e]; simp
  | dK kvs => obtain ⟨kv, e, r⟩ := h; rw [e]; simp
  | dN kvs => obtain ⟨z, xs, e, r⟩ := h; rw [e]; simp
theorem Ok.ix (k : Ok M ρ H S) {n : Nat} {a : Addr} (h : ρ[n]? = some a) : ∃ u, S[n]? = some u ∧ Ra M ρ H a u := by
  have hn : n < S.length := by rw [← k.len]; exact (List.getElem?_eq_some_iff.mp h).1
  exact ⟨S[n], by simp [hn], k.obj n a _ h (by simp [hn])⟩
theorem Ok.there (k : Ok M ρ H S) {a : Addr} (h : a ∈ ρ) : H a ≠ none := by
  obtain ⟨n, hn⟩ := List.mem_iff_getElem?.mp h
  obtain ⟨u, _, r⟩ := k.ix hn
  exact r.there
theorem Ok.fresh (k : Ok M ρ H S) (h : H p = none) : p ∉ ρ := fun q => k.there q h
/-- nothing but new things -/
theorem Nx.new1 (h : H p = none) : Nx ρ H ρ (upd H p o) where
  pre := ⟨[], by simp⟩
  ext := fun a u e _ => by rw [upd_ne (ne_of_none e h)]; exact e
  new := fun a q n => absurd q n
  stay := fun a _ e => by
    by_cases ha : a = p
    · rw [ha, upd_same]; simp
    · rw [upd_ne ha]; exact e
theorem Ok.new1 (k : Ok M ρ H S) (h : H p = none) : Ok M ρ (upd H p o) S := ⟨k.len, k.nd, fun n a u ha hu => by
  have r := k.obj n a u ha hu
  have hap : a ≠ p := fun e => r.there (by rw [e]; exact h)
  exact r.mono (Nx.new1 h) (upd_ne hap)⟩
/-- a new location -/
theorem Nx.push (h : H p = none) : Nx ρ H (ρ ++ [p]) (upd H p o) where
  pre := ⟨[p], rfl⟩
  ext := fun a u e _ => by rw [upd_ne (ne_of_none e h)]; exact e
  new := fun a q n => by
    rcases List.mem_append.mp q with z | z
    · exact absurd z n
    · rw [List.mem_singleton.mp z]; exact h
  stay := fun a _ e => by
    by_cases ha : a = p
    · rw [ha, upd_same]; simp
    · rw [upd_ne ha]; exact e
theorem Ok.push {u : AO} (k : Ok M ρ H S) (h : H p = none) (r : Ra M (ρ ++ [p]) (upd H p o) p u) : Ok M (ρ ++ [p]) (upd H p o) (S ++ [u]) := by
  refine ⟨by simp [k.len], ?_, fun n a v ha hv => ?_⟩
  · rw [List.nodup_append]
    refine ⟨k.nd, by simp, fun a ha b hb e => ?_⟩
    rw [List.mem_singleton.mp hb] at e
    exact k.fresh h (by rw [← e]; exact ha)
  · by_cases hn : n < ρ.length
    · rw [List.getElem?_append_left hn] at ha
      rw [List.getElem?_append_left (by rw [← k.len]; exact hn)] at hv
      have r' := k.obj n a v ha hv
      have hap : a ≠ p := fun e => r'.there (by rw [e]; exact h)
      exact r'.mono (Nx.push h) (upd_ne hap)
    · have hn' : n = ρ.length := by
        have := (List.getElem?_eq_some_iff.mp ha).1
        simp at this
        omega
      subst hn'
      rw [List.getElem?_append_right (Nat.le_refl _)] at ha
      rw [k.len, List.getElem?_append_right (Nat.le_refl _)] at hv
      simp at ha hv
      subst ha hv
      exact r
/-- a location written -/
theorem Nx.set {n : Nat} {a : Addr} (h : ρ[n]? = some a) : Nx ρ H ρ (upd H a o) where
  pre := ⟨[], by simp⟩
  ext := fun b u e nb => by rw [upd_ne (fun z => nb (by rw [z]; exact List.mem_of_getElem? h))]; exact e
  new := fun a q n => absurd q n
  stay := fun b _ e => by
    by_cases ha : b = a
    · rw [ha, upd_same]; simp
    · rw [upd_ne ha]; exact e
theorem Ok.set {n : Nat} {a : Addr} {u : AO} (k : Ok M ρ H S) (h : ρ[n]? = some a) (r : Ra M ρ (upd H a o) a u) : Ok M ρ (upd H a o) (S.set n u) := by
  refine ⟨by simp [k.len], k.nd, fun m b v hb hv => ?_⟩
  by_cases hm : m = n
  · subst hm
    rw [h] at hb
    cases hb
    have hl : m < S.length := by rw [← k.len]; exact (List.getElem?_eq_some_iff.mp h).1
    rw [List.getElem?_set_self hl] at hv
    cases hv
    exact r
  · rw [List.getElem?_set_ne (Ne.symm hm)] at hv
    have hba : b ≠ a := fun e => hm ((List.getElem?_inj (List.getElem?_eq_some_iff.mp hb).1 k.nd).mp (by rw [hb, h, e]))
    exact (k.obj m b v hb hv).mono (Nx.set h) (upd_ne hba)
end

/-! ### small facts -/
section
variable {M : Mx} {ρ : List Addr} {H : Hp}
theorem Rvs.len : ∀ {xs : List V} {vs : List AV}, Rvs M ρ H xs vs → xs.length = vs.length
  | _, _, .nil => rfl
  | _, _, .cons _ r => by rw [List.length_cons, List.length_cons, Rvs.len r]
theorem Rvs.ix : ∀ {xs : List V} {vs : List AV} {i : Nat} {v : AV}, Rvs M ρ H xs vs → vs[i]? = some v → ∃ x, xs[i]? = some x ∧ Rv M ρ H x v
  | _, _, _, _, .nil, e => by simp at e
  | _, _, 0, _, .cons h _, e => by simp at e; subst e; exact ⟨_, rfl, h⟩
  | _, _, i + 1, v, .cons _ r, e => by
    obtain ⟨x, a, b⟩ := Rvs.ix (i := i) (v := v) r (by simpa using e)
    exact ⟨x, by simpa using a, b⟩
theorem Rvs.ix' : ∀ {xs : List V} {vs : List AV} {i : Nat} {x : V}, Rvs M ρ H xs vs → xs[i]? = some x → ∃ v, vs[i]? = some v ∧ Rv M ρ H x v
  | _, _, _, _, .nil, e => by simp at e
  | _, _, 0, _, .cons h _, e => by simp at e; subst e; exact ⟨_, rfl, h⟩
  | _, _, i + 1, x, .cons _ r, e => by
    obtain ⟨v, a, b⟩ := Rvs.ix' (i := i) (x := x) r (by simpa using e)
    exact ⟨v, by simpa using a, b⟩
theorem Rvs.app : ∀ {xs ys : List V} {vs ws : List AV}, Rvs M ρ H xs vs → Rvs M ρ H ys ws → Rvs M ρ H (xs ++ ys) (vs ++ ws)
  | _, _, _, _, .nil, s => s
  | _, _, _, _, .cons h r, s => .cons h (Rvs.app r s)
theorem Rvs.set {x : V} {v : AV} (h : Rv M ρ H x v) : ∀ {xs : List V} {vs : List AV} (i : Nat), Rvs M ρ H xs vs → Rvs M ρ H (xs.set i x) (vs.set i v)
  | _, _, _, .nil => .nil
  | _, _, 0, .cons _ r => .cons h r
  | _, _, i + 1, .cons q r => .cons q (Rvs.set h i r)
theorem Rvs.drop : ∀ {xs : List V} {vs : List AV} (n : Nat), Rvs M ρ H xs vs → Rvs M ρ H (xs.drop n) (vs.drop n)
  | _, _, 0, r => r
  | _, _, _ + 1, .nil => .nil
  | _, _, n + 1, .cons _ r => Rvs.drop n r
theorem Rvs.take : ∀ {xs : List V} {vs : List AV} (n : Nat), Rvs M ρ H xs vs → Rvs M ρ H (xs.take n) (vs.take n)
  | _, _, 0, _ => .nil
  | _, _, _ + 1, .nil => .nil
  | _, _, n + 1, .cons h r => .cons h (Rvs.take n r)
theorem Rfs.look {f : Str} : ∀ {xs : List (Str × V)} {fs : Flds} {v : AV}, Rfs M ρ H xs fs → lkF f fs = some v → ∃ x, xs.lookup f = some x ∧ Rv M ρ H x v
  | _, _, _, .nil, e => by simp [lkF] at e
  | _, _, v, .cons (f := g) (x := x) (xs := xs) h r, e => by
    unfold lkF at e
    by_cases hg : f = g
    · subst hg
      rw [if_pos rfl] at e
      cases e
      exact ⟨_, by simp [List.lookup], h⟩
    · rw [if_neg hg] at e
      obtain ⟨x', a, b⟩ := Rfs.look r e
      have hb : (f == g) = false := beq_eq_false_iff_ne.mpr hg
      exact ⟨x', by simp [List.lookup, hb, a], b⟩
theorem Rfs.put {f : Str} {x : V} {v : AV} (h : Rv M ρ H x v) : ∀ {xs : List (Str × V)} {fs : Flds}, Rfs M ρ H xs fs → Rfs M ρ H (putF f x xs) (putA f v fs)
  | _, _, .nil => by
    show Rfs M ρ H [(f, x)] [(f, v)]
    exact .cons h .nil
  | _, _, .cons (f := g) (x := y) (xs := xs) (v := u) (vs := us) h' r => by
    by_cases hg : f = g
    · subst hg
      have e1 : putF f x ((f, y) :: xs) = (f, x) :: xs := by
        show (if f = f then _ else _) = _
        rw [if_pos rfl]
      have e2 : putA f v ((f, u) :: us) = (f, v) :: us := by
        show (if f = f then _ else _) = _
        rw [if_pos rfl]
      rw [e1, e2]
      exact .cons h r
    · have e1 : putF f x ((g, y) :: xs) = (g, y) :: putF f x xs := by
        show (if g = f then _ else _) = _
        rw [if_neg (Ne.symm hg)]
      have e2 : putA f v ((g, u) :: us) = (g, u) :: putA f v us := by
        show (if f = g then _ else _) = _
        rw [if_neg hg]
      rw [e1, e2]
      exact .cons h' (Rfs.put h r)
theorem Rfs.len : ∀ {xs : List (Str × V)} {fs : Flds}, Rfs M ρ H xs fs → xs.length = fs.length
  | _, _, .nil => rfl
  | _, _, .cons _ r => by rw [List.length_cons, List.length_cons, Rfs.len r]
theorem En.put {σ : L2.St} {Γ : Sl} {x : V} {v : AV} (h : En M ρ H σ Γ) (i : Nat) (r : Rv M ρ H x v) : En M ρ H (σ.set i (some x)) (Γ.set i (some v)) := by
  refine ⟨by simp [h.len], fun j u e => ?_⟩
  by_cases hj : j = i
  · subst hj
    have hl : j < Γ.length := by
      have := (List.getElem?_eq_some_iff.mp e).1
      simpa using this
    rw [List.getElem?_set_self hl] at e
    cases e
    exact ⟨x, List.getElem?_set_self (by rw [h.len]; exact hl), r⟩
  · rw [List.getElem?_set_ne (Ne.symm hj)] at e ⊢
    exact h.val j u e
theorem En.drop {σ : L2.St} {Γ : Sl} (h : En M ρ H σ Γ) (i : Nat) {y : Option V} : En M ρ H (σ.set i y) (Γ.set i none) := by
  refine ⟨by simp [h.len], fun j u e => ?_⟩
  by_cases hj : j = i
  · subst hj
    by_cases hl : j < Γ.length
    · rw [List.getElem?_set_self hl] at e
      cases e
    · rw [List.getElem?_eq_none (by simpa using hl)] at e
      cases e
  · rw [List.getElem?_set_ne (Ne.symm hj)] at e ⊢
    exact h.val j u e
mutual
theorem Rv.dp : ∀ {x : V} {v : AV} {d : PyData}, Rv M ρ H x v → toPy v = some d → Dp M.K H x d
  | _, _, _, .non, e => by unfold toPy at e; cases e; exact .non
  | _, _, _, .bl b, e => by unfold toPy at e; cases e; exact .bl b
  | _, _, _, .int i, e => by unfold toPy at e; cases e; exact .int i
  | _, _, _, .str s, e => by unfold toPy at e; cases e; exact .str s
  | _, _, d, .tup (xs := xs) h r, e => by
    unfold toPy at e
    cases q : toPys xs with
    | none => rw [q] at e; cases e
    | some ds => rw [q] at e; cases e; exact .tup h.sq (Rvs.dp r q)
  | _, _, d, .lst (xs := xs) h na r, e => by
    unfold toPy at e
    cases q : toPys xs with
    | none => rw [q] at e; cases e
    | some ds => rw [q] at e; cases e; exact .lst (SqL.of h) (Rvs.dp r q)
  | _, _, d, .scr (xs := xs) h r, e => by
    unfold toPy at e
    cases q : toPys xs with
    | none => rw [q] at e; cases e
    | some ds => rw [q] at e; cases e; exact .lst h.sq (Rvs.dp r q)
  | _, _, _, .obj _ _ _, e => by unfold toPy at e; cases e
  | _, _, _, .loc _, e => by unfold toPy at e; cases e
  | _, _, _, .exc _ _ _, e => by unfold toPy at e; cases e
theorem Rvs.dp : ∀ {x : List V} {v : List AV} {d : List PyData}, Rvs M ρ H x v → toPys v = some d → DpAll M.K H x d
  | _, _, _, .nil, e => by unfold toPys at e; cases e; exact .nil
  | _, _, d, .cons (v := v) (vs := vs) h r, e => by
    unfold toPys at e
    cases q1 : toPy v with
    | none => rw [q1] at e; cases e
    | some d1 =>
      cases q2 : toPys vs with
      | none => rw [q1, q2] at e; cases e
      | some d2 => rw [q1, q2] at e; cases e; exact .cons (Rv.dp h q1) (Rvs.dp r q2)
end
theorem Rv.dpS {S : Sto} (k : Ok M ρ H S) {x : V} {v : AV} {d : PyData} (h : Rv M ρ H x v) (e : toPy (rdL S v) = some d) : Dp M.K H x d := by
  cases h with
  | loc hn =>
    obtain ⟨u, hu, r⟩ := k.ix hn
    unfold rdL at e
    dsimp only at e
    rw [hu] at e
    cases u with
    | lst xs =>
      dsimp only at e
      obtain ⟨vs, ha, rs⟩ := r
      unfold toPy at e
      cases q : toPys xs with
      | none => rw [q] at e; cases e
      | some ds => rw [q] at e; cases e; exact .lst (SqL.of ha) (Rvs.dp rs q)
    | ins c fs => dsimp only at e; unfold toPy at e; cases e
    | dK kvs => dsimp only at e; unfold toPy at e; cases e
    | dN kvs => dsimp only at e; unfold toPy at e; cases e
  | non => exact Rv.dp (ρ := ρ) .non e
  | bl b => exact Rv.dp (ρ := ρ) (.bl b) e
  | int i => exact Rv.dp (ρ := ρ) (.int i) e
  | str s => exact Rv.dp (ρ := ρ) (.str s) e
  | tup h r => exact Rv.dp (.tup h r) e
  | lst h na r => exact Rv.dp (.lst h na r) e
  | scr h r => exact Rv.dp (.scr h r) e
  | obj h na r => exact Rv.dp (.obj h na r) e
  | exc h na r => exact Rv.dp (.exc h na r) e
end

/-! ### operators by values -/
structure OG (M : Mx) (X : Cx) (f : Value → Value → Sem Value) (g : AV → AV → Sto → XR AV) : Prop where
  run : ∃ r, OpR X f r ∧ ∀ W ρ H σ S x y vx vy Q, Ok M ρ H S → Rv M ρ H x vx → Rv M ρ H y vy → pE M W ρ H σ (g vx vy S) Q → r x y H Q
section
variable {M : Mx} {X : Cx}
theorem og_add : OG M X (binaryOp .Add) gAdd := by
  refine ⟨_, op_add.or (op_add_str.or op_cat), fun W ρ H σ S x y vx vy Q k rx ry h => ?_⟩
  cases rx <;> cases ry <;> try exact False.elim h
  case int.int i j => exact .inl ⟨i, j, rfl, rfl, h ρ H _ (Nx.refl _ _) k (.int _)⟩
  case str.str s t =>
    unfold gAdd at h
    dsimp only at h
    by_cases c : s.length + t.length ≤ sizeLine
    · rw [if_pos c] at h
      exact .inr (.inl ⟨s, t, rfl, rfl, c, h ρ H _ (Nx.refl _ _) k (.str _)⟩)
    · rw [if_neg c] at h
      exact h.elim
  case lst.lst a vs xs h1 n1 r1 b ws ys h2 n2 r2 =>
    unfold gAdd at h
    dsimp only at h
    by_cases c : xs.length + ys.length ≤ sizeLine
    · rw [if_pos c] at h
      refine .inr (.inr ⟨a, b, vs, ws, rfl, rfl, h1, h2, by rw [r1.len, r2.len]; exact c, fun p hp => ?_⟩)
      exact h ρ _ _ (Nx.new1 hp) (k.new1 hp) (.lst upd_same (k.fresh hp) ((r1.app r2).mono (Nx.new1 hp)))
    · rw [if_neg c] at h
      exact h.elim
theorem og_sub : OG M X (binaryOp .Sub) gSub := by
  refine ⟨_, op_sub, fun W ρ H σ S x y vx vy Q k rx ry h => ?_⟩
  cases rx <;> cases ry <;> try exact False.elim h
  case int.int i j => exact ⟨i, j, rfl, rfl, h ρ H _ (Nx.refl _ _) k (.int _)⟩
theorem op_mulG : OpR X (binaryOp .Mult) (rI IntMulOk fun i j => .int (i * j)) := opI fun _ _ _ _ _ _ _ hc q => mul_int q hc
theorem Rvs.rep {ρ : List Addr} {H : Hp} {xs : List V} {vs : List AV} (h : Rvs M ρ H xs vs) : ∀ k : Nat, Rvs M ρ H (List.replicate k xs).flatten (List.replicate k vs).flatten
  | 0 => .nil
  | k + 1 => by
    rw [List.replicate_succ, List.replicate_succ, List.flatten_cons, List.flatten_cons]
    exact h.app (Rvs.rep h k)
theorem og_mul : OG M X (binaryOp .Mult) gMul := by
  refine ⟨_, op_mulG.or op_rep, fun W ρ H σ S x y vx vy Q k rx ry h => ?_⟩
  cases rx <;> cases ry <;> try (unfold gMul at h; exact False.elim h)
  case int.int i j =>
    unfold gMul at h
    dsimp only at h
    by_cases c : IntMulOk i j
    · rw [if_pos c] at h
      exact .inl ⟨i, j, rfl, rfl, c, h ρ H _ (Nx.refl _ _) k (.int _)⟩
    · rw [if_neg c] at h
      exact h.elim
  case lst.int a vs xs h1 n1 r1 j =>
    unfold gMul at h
    dsimp only at h
    by_cases c : 0 ≤ j ∧ j < 2 ^ 63 ∧ xs.length * j.toNat ≤ sizeLine
    · rw [if_pos c] at h
      refine .inr ⟨a, j, vs, rfl, rfl, h1, by omega, c.2.1, by rw [r1.len]; exact c.2.2, fun p hp => ?_⟩
      exact h ρ _ _ (Nx.new1 hp) (k.new1 hp) (.lst upd_same (k.fresh hp) ((r1.rep _).mono (Nx.new1 hp)))
    · rw [if_neg c] at h
      exact h.elim
theorem og_mod : OG M X (binaryOp .Mod) gMod := by
  refine ⟨_, op_mod, fun W ρ H σ S x y vx vy Q k rx ry h => ?_⟩
  cases rx <;> cases ry <;> try exact False.elim h
  case int.int i j =>
    unfold gMod at h
    dsimp only at h
    by_cases c : 0 < j
    · rw [if_pos c] at h
      exact ⟨i, j, rfl, rfl, c, h ρ H _ (Nx.refl _ _) k (.int _)⟩
    · rw [if_neg c] at h
      exact h.elim
theorem og_div : OG M X (binaryOp .FloorDiv) gDiv := by
  refine ⟨_, op_fdiv, fun W ρ H σ S x y vx vy Q k rx ry h => ?_⟩
  cases rx <;> cases ry <;> try exact False.elim h
  case int.int i j =>
    unfold gDiv at h
    dsimp only at h
    by_cases c : 0 < j ∧ j < 1073741824
    · rw [if_pos c] at h
      exact ⟨i, j, rfl, rfl, c, h ρ H _ (Nx.refl _ _) k (.int _)⟩
    · rw [if_neg c] at h
      exact h.elim
theorem og_pow : OG M X (binaryOp .Pow) gPow := by
  refine ⟨_, op_pow, fun W ρ H σ S x y vx vy Q k rx ry h => ?_⟩
  cases rx <;> cases ry <;> try exact False.elim h
  case int.int i j =>
    unfold gPow at h
    dsimp only at h
    by_cases c : 0 ≤ j ∧ j ≤ 1000000 ∧ i.natAbs < 2 ^ 64
    · rw [if_pos c] at h
      exact ⟨i, j, rfl, rfl, c, h ρ H _ (Nx.refl _ _) k (.int _)⟩
    · rw [if_neg c] at h
      exact h.elim
theorem og_cmp {op : CmpOp} {p : Int → Int → Bool} (o : OpR X (compareOp op) (rI0 fun i j => .bl (p i j))) : OG M X (compareOp op) (gCmp p) := by
  refine ⟨_, o, fun W ρ H σ S x y vx vy Q k rx ry h => ?_⟩
  cases rx <;> cases ry <;> try exact False.elim h
  case int.int i j => exact ⟨i, j, rfl, rfl, h ρ H _ (Nx.refl _ _) k (.bl _)⟩
theorem og_lt : OG M X (compareOp .Lt) gLt := og_cmp op_lt
theorem og_le : OG M X (compareOp .LtE) gLe := og_cmp op_le
theorem og_gt : OG M X (compareOp .Gt) gGt := og_cmp op_gt
theorem og_ge : OG M X (compareOp .GtE) gGe := og_cmp op_ge
theorem eqB_use {W : WX} {ρ : List Addr} {H : Hp} {σ : L2.St} {S : Sto} {x y : V} {vx vy : AV} {Q : VK} {f : Bool → Bool} (k : Ok M ρ H S) (rx : Rv M ρ H x vx) (ry : Rv M ρ H y vy)
    (h : pE M W ρ H σ ((gEqB vx vy S).bind fun k S => .ok (.bl (f k)) S) Q) : ∃ d e, Dp M.K H x d ∧ Dp M.K H y e ∧ SeqAt.shaped d = true ∧ SeqAt.shaped e = true ∧ Q (.bl (f (PyData.eqv d e))) H := by
  unfold gEqB at h
  cases q1 : toPy (rdL S vx) with
  | none => rw [q1] at h; exact h.elim
  | some d =>
    cases q2 : toPy (rdL S vy) with
    | none => rw [q1, q2] at h; exact h.elim
    | some e =>
      rw [q1, q2] at h
      dsimp only at h
      by_cases c : SeqAt.shaped d = true ∧ SeqAt.shaped e = true
      · rw [if_pos c] at h
        exact ⟨d, e, rx.dpS k q1, ry.dpS k q2, c.1, c.2, h ρ H _ (Nx.refl _ _) k (.bl _)⟩
      · rw [if_neg c] at h
        exact h.elim
theorem og_eq (m : MX M X) (hu : X.A.units + 64 < cLine) : OG M X (compareOp .Eq) gEq := ⟨_, op_eqD hu, fun W ρ H σ S x y vx vy Q k rx ry h => by
  rw [m.K]
  exact eqB_use (f := id) k rx ry h⟩
theorem og_ne (m : MX M X) (hu : X.A.units + 64 < cLine) : OG M X (compareOp .NotEq) gNe := ⟨_, op_neD hu, fun W ρ H σ S x y vx vy Q k rx ry h => by
  rw [m.K]
  exact eqB_use (f := fun k => !k) k rx ry h⟩
theorem isNon_of {ρ : List Addr} {H : Hp} {x : V} {v : AV} (r : Rv M ρ H x v) : decide (x = .non) = isNon v := by
  cases r <;> rfl
/-- x is None: the right side is the constant -/
theorem og_isN : OG M X (compareOp .Is) (fun x y S => if isNon y = true then gIsN x S else .bad) := by
  refine ⟨_, op_isN, fun W ρ H σ S x y vx vy Q k rx ry h => ?_⟩
  cases ry <;> try exact False.elim h
  refine ⟨rfl, ?_⟩
  rw [isNon_of rx]
  exact h ρ H _ (Nx.refl _ _) k (.bl _)
theorem og_notN : OG M X (compareOp .IsNot) (fun x y S => if isNon y = true then gNotN x S else .bad) := by
  refine ⟨_, op_notN, fun W ρ H σ S x y vx vy Q k rx ry h => ?_⟩
  cases ry <;> try exact False.elim h
  refine ⟨rfl, ?_⟩
  rw [isNon_of rx]
  exact h ρ H _ (Nx.refl _ _) k (.bl _)
theorem flatV_of {ρ : List Addr} {H : Hp} {x : V} {v : AV} (r : Rv M ρ H x v) (f : flatA v = true) : flatV x = true := by
  cases r <;> first | rfl | cases f
theorem flatVs_of {ρ : List Addr} {H : Hp} : ∀ {x : List V} {v : List AV}, Rvs M ρ H x v → v.all flatA = true → x.all flatV = true
  | _, _, .nil, _ => rfl
  | _, _, .cons h r, f => by
    rw [List.all_cons, Bool.and_eq_true] at f
    rw [List.all_cons, flatV_of h f.1, flatVs_of r f.2]
    rfl
theorem eqV_of {ρ : List Addr} {H : Hp} {x y : V} {u v : AV} (r : Rv M ρ H x u) (q : Rv M ρ H y v) (f : flatA u = true) (g : flatA v = true) : eqV x y = eqA u v := by
  cases r <;> cases q <;> first | rfl | (cases f; done) | (cases g; done)
theorem inV_of {ρ : List Addr} {H : Hp} {x : V} {u : AV} (r : Rv M ρ H x u) (f : flatA u = true) : ∀ {ys : List V} {vs : List AV}, Rvs M ρ H ys vs → vs.all flatA = true → inV x ys = vs.any fun y => eqA y u
  | _, _, .nil, _ => rfl
  | _, _, .cons h q, g => by
    rw [List.all_cons, Bool.and_eq_true] at g
    have := inV_of r f q g.2
    unfold inV at this ⊢
    rw [List.any_cons, List.any_cons, this, eqV_of h r g.1 f]
end
end G

set_option Elab.async false
set_option linter.all false
set_option maxRecDepth 100000
set_option maxHeartbeats 2000000
/-! G, dicts whose keys are tuples; in, subscripts, stores by values. -/
namespace G
open PySem PySem.Spec PyProof.Rows L2

/-! ### a tuple as a key -/
section
variable {X : Cx} {pins : List (Addr × Obj)} {σ : L2.St} {s : Shared} {M : Mx} {ρ : List Addr} {H : Hp}
mutual
theorem Rv.nested (m : MX M X) (I : Inv X pins σ H s) : ∀ {x : V} {v : AV} {q : NestedKey} {u : Value}, Rv M ρ H x v → toNK v = some q → RelV x u → NestedIs s.heap q u
  | _, _, _, _, .non, e, r => by
    unfold toNK at e; cases e; cases r; exact .none
  | _, _, _, _, .bl b, e, r => by
    unfold toNK at e; cases e; cases r; exact .bool rfl
  | _, _, _, _, .int i, e, r => by
    unfold toNK at e; cases e; obtain ⟨t, rfl⟩ := r; exact .int i t
  | _, _, _, _, .str z, e, r => by
    unfold toNK at e; cases e; obtain ⟨t, rfl⟩ := r; exact .text z t
  | _, _, q, _, .tup (xs := xs) h rs, e, r => by
    unfold toNK at e
    cases q1 : toNKs xs with
    | none => rw [q1] at e; cases e
    | some ks =>
      rw [q1] at e
      cases e
      cases r
      obtain ⟨its, rv, ⟨o, ho, hc, n, hd⟩, _⟩ := I.tuple (by rw [m.K]; exact h.sq)
      exact .tup ho hc hd (Rvs.nested m I rs q1 (by simpa using rv))
  | _, _, _, _, .lst _ _ _, e, _ => by unfold toNK at e; cases e
  | _, _, _, _, .scr _ _, e, _ => by unfold toNK at e; cases e
  | _, _, _, _, .obj _ _ _, e, _ => by unfold toNK at e; cases e
  | _, _, _, _, .loc _, e, _ => by unfold toNK at e; cases e
  | _, _, _, _, .exc _ _ _, e, _ => by unfold toNK at e; cases e
theorem Rvs.nested (m : MX M X) (I : Inv X pins σ H s) : ∀ {x : List V} {v : List AV} {q : List NestedKey} {u : List Value}, Rvs M ρ H x v → toNKs v = some q → Vals x u → NestedAll s.heap q u
  | _, _, _, _, .nil, e, r => by
    unfold toNKs at e; cases e; cases r; exact .nil
  | _, _, q, _, .cons (v := v) (vs := vs) h rs, e, r => by
    unfold toNKs at e
    cases q1 : toNK v with
    | none => rw [q1] at e; cases e
    | some k =>
      cases q2 : toNKs vs with
      | none => rw [q1, q2] at e; cases e
      | some ks =>
        rw [q1, q2] at e
        cases e
        cases r with
        | cons r1 r2 => exact .cons (Rv.nested m I h q1 r1) (Rvs.nested m I rs q2 r2)
end
theorem okN_of {k : AV} (h : okN k = true) : ∃ xs q, k = .tup xs ∧ toNK k = some q ∧ q.depth ≤ 8 := by
  cases k with
  | tup xs =>
    unfold okN at h
    cases e : toNK (.tup xs) with
    | none => rw [e] at h; cases h
    | some q => rw [e] at h; exact ⟨xs, q, rfl, rfl, of_decide_eq_true h⟩
  | _ => cases h
/-- the key at a -/
theorem key_is {P : Program} {w : World} (m : MX M X) (I : Inv X pins σ H s) {a : Addr} {k : AV} {q : NestedKey} (r : Rv M ρ H (.ref a) k) (e : toNK k = some q) (hk : okN k = true) : (nestedKind P w).is s.heap q a := by
  obtain ⟨_, q', _, e', hd⟩ := okN_of hk
  rw [e] at e'
  cases e'
  exact ⟨r.nested m I e rfl, hd⟩
theorem Rns.keys {P : Program} {w : World} (m : MX M X) (I : Inv X pins σ H s) : ∀ {xs : List (NestedKey × Addr × Value)} {kvs : List (AV × AV)}, Rns M ρ H xs kvs → ∀ x ∈ xs, (nestedKind P w).is s.heap x.1 x.2.1
  | _, _, .nil, x, hx => by cases hx
  | _, _, .cons e k h rv h2 r, x, hx => by
    rcases List.mem_cons.mp hx with rfl | hx
    · exact key_is m I h e k
    · exact Rns.keys m I r x hx
/-- the dict at d -/
theorem raw_of (m : MX M X) (I : Inv X pins σ H s) {d : Addr} {xs : List (NestedKey × Addr × Value)} {kvs : List (AV × AV)} (h : H d = some (rawN M.P M.w d xs)) (r : Rns M ρ H xs kvs) :
    (d == sysModules) = false ∧ s.heap.DictOfH (nestedKind X.prog X.w) d xs := by
  obtain ⟨⟨hd, o, es, ep, h1, h2, h3, h4, h5⟩, _, _⟩ := I.hok d _ h
  refine ⟨hd, o, es, ep, h1, h2, h3, ?_, fun x hx => r.keys m I x hx, h5⟩
  rw [m.P, m.w]
  exact h4
theorem raw_ok {P : Program} {w : World} {H' : Hp} {h : Heap} {d : Addr} {xs : List (NestedKey × Addr × Value)} (hd : (d == sysModules) = false) (x : h.DictOfH (nestedKind P w) d xs) : ObjOk P w H' h d (rawN P w d xs) := by
  obtain ⟨o, es, ep, h1, h2, h3, h4, _, h5⟩ := x
  refine ⟨⟨hd, o, es, ep, h1, h2, h3, h4, h5⟩, ⟨o, h1⟩, fun a b hx k => ?_⟩
  obtain ⟨hd, o, es, ep, h1, h2, h3, h4, h5⟩ := hx
  exact ⟨hd, o, es, ep, k _ h1, h2, h3, h4, h5⟩
/-- what is found -/
theorem Rns.look {k : AV} {q : NestedKey} (hq : toNK k = some q) : ∀ {xs : List (NestedKey × Addr × Value)} {kvs : List (AV × AV)}, Rns M ρ H xs kvs →
    (atKey xs q = none ∧ lkN k kvs = none) ∨ ∃ p x v, atKey xs q = some p ∧ lkN k kvs = some v ∧ RelV x p.2 ∧ Rv M ρ H x v
  | _, _, .nil => .inl ⟨rfl, rfl⟩
  | _, _, .cons (q := q') (a := a) (u := u) (k := k') (v := v) (x := x) (vs := vs) (xs := xs) e hk h rv h2 r => by
    by_cases hqq : q' = q
    · subst hqq
      refine .inr ⟨(a, u), x, v, ?_, ?_, rv, h2⟩
      · unfold atKey
        rw [List.find?_cons_of_pos (by simp)]
        rfl
      · unfold lkN
        rw [if_pos (by rw [e, hq])]
    · have e1 : atKey ((q', a, u) :: xs) q = atKey xs q := by
        unfold atKey
        rw [List.find?_cons_of_neg (by simpa using hqq)]
      have e2 : lkN k ((k', v) :: vs) = lkN k vs := by
        show (if _ then _ else _) = _
        rw [if_neg]
        rw [e, hq]
        intro z
        exact hqq (Option.some.inj z)
      rw [e1, e2]
      exact Rns.look hq r
theorem Rns.put_map {k : AV} {q : NestedKey} {v : AV} {x : V} {u : Value} (hq : toNK k = some q) (rv : RelV x u) (h2 : Rv M ρ H x v) : ∀ {xs : List (NestedKey × Addr × Value)} {kvs : List (AV × AV)}, Rns M ρ H xs kvs → (xs.map (·.1)).Nodup →
    (atKey xs q).isSome = true → Rns M ρ H (xs.map (putAt q u)) (putN k v kvs)
  | _, _, .nil, _, hs => by cases hs
  | _, _, .cons (q := q') (a := a) (u := u') (k := k') (v := v') (vs := vs) (xs := xs) e hk h rv' h2' r, nd, hs => by
    rw [List.map_cons, List.nodup_cons] at nd
    by_cases hqq : q' = q
    · subst hqq
      have e2 : putN k v ((k', v') :: vs) = (k', v) :: vs := by
        show (if _ then _ else _) = _
        rw [if_pos (by rw [e, hq])]
      have e1 : xs.map (putAt q' u) = xs := by
        refine (List.map_congr_left fun z hz => ?_).trans (List.map_id xs)
        unfold putAt
        rw [if_neg fun w => nd.1 (List.mem_map.mpr ⟨z, hz, w⟩)]
        rfl
      rw [List.map_cons, e1, e2]
      have e3 : putAt q' u (q', a, u') = (q', a, u) := by unfold putAt; rw [if_pos rfl]
      rw [e3]
      exact .cons e hk h rv h2 r
    · have e2 : putN k v ((k', v') :: vs) = (k', v') :: putN k v vs := by
        show (if _ then _ else _) = _
        rw [if_neg]
        rw [e, hq]
        intro z
        exact hqq (Option.some.inj z)
      have e3 : putAt q u (q', a, u') = (q', a, u') := by unfold putAt; rw [if_neg hqq]
      rw [List.map_cons, e2, e3]
      refine .cons e hk h rv' h2' (Rns.put_map hq rv h2 r nd.2 ?_)
      unfold atKey at hs ⊢
      rwa [List.find?_cons_of_neg (by simpa using hqq)] at hs
theorem Rns.put_new {k : AV} {q : NestedKey} {v : AV} {x : V} {u : Value} {b : Addr} (hq : toNK k = some q) (ok : okN k = true) (hb : Rv M ρ H (.ref b) k) (rv : RelV x u) (h2 : Rv M ρ H x v) : ∀ {xs : List (NestedKey × Addr × Value)} {kvs : List (AV × AV)}, Rns M ρ H xs kvs →
    atKey xs q = none → Rns M ρ H (xs ++ [(q, b, u)]) (putN k v kvs)
  | _, _, .nil, _ => .cons hq ok hb rv h2 .nil
  | _, _, .cons (q := q') (a := a) (u := u') (k := k') (v := v') (vs := vs) (xs := xs) e hk h rv' h2' r, hs => by
    have hqq : q' ≠ q := fun z => by
      subst z
      unfold atKey at hs
      rw [List.find?_cons_of_pos (by simp)] at hs
      cases hs
    have e2 : putN k v ((k', v') :: vs) = (k', v') :: putN k v vs := by
      show (if _ then _ else _) = _
      rw [if_neg]
      rw [e, hq]
      intro z
      exact hqq (Option.some.inj z)
    rw [e2]
    refine .cons e hk h rv' h2' (Rns.put_new hq ok hb rv h2 r ?_)
    unfold atKey at hs ⊢
    rwa [List.find?_cons_of_neg (by simpa using hqq)] at hs
theorem Rns.put {k : AV} {q : NestedKey} {v : AV} {x : V} {u : Value} {b : Addr} (hq : toNK k = some q) (ok : okN k = true) (hb : Rv M ρ H (.ref b) k) (rv : RelV x u) (h2 : Rv M ρ H x v) {xs : List (NestedKey × Addr × Value)} {kvs : List (AV × AV)} (r : Rns M ρ H xs kvs)
    (nd : (xs.map (·.1)).Nodup) : Rns M ρ H (storedH xs q b u) (putN k v kvs) := by
  unfold storedH
  cases e : atKey xs q with
  | none => exact Rns.put_new hq ok hb rv h2 r e
  | some p => exact Rns.put_map hq rv h2 r nd (by rw [e]; rfl)
theorem Rns.len : ∀ {xs : List (NestedKey × Addr × Value)} {kvs : List (AV × AV)}, Rns M ρ H xs kvs → xs.length = kvs.length
  | _, _, .nil => rfl
  | _, _, .cons _ _ _ _ _ r => by rw [List.length_cons, List.length_cons, Rns.len r]
theorem putN_len (k v : AV) : ∀ kvs : List (AV × AV), (putN k v kvs).length ≤ kvs.length + 1
  | [] => by simp [putN]
  | (j, u) :: r => by
    unfold putN
    split
    · simp
    · have := putN_len k v r
      simp only [List.length_cons]
      omega
end

/-! ### in -/
theorem room8 {A : Around} {prog : Program} {w : World} (hu : A.units + 64 < cLine) : (nestedKind prog w).room A.in1 := by
  show A.units + 1 + 8 < cLine
  omega
section
variable {M : Mx} {X : Cx}
def rInN (M : Mx) : R2 := fun x y H Q => ∃ ρ a d vx q xs kvs, x = .ref a ∧ y = .ref d ∧ Rv M ρ H (.ref a) vx ∧ toNK vx = some q ∧ okN vx = true ∧ H d = some (rawN M.P M.w d xs) ∧ Rns M ρ H xs kvs ∧ Q (.bl (lkN vx kvs).isSome) H
def rNotInN (M : Mx) : R2 := fun x y H Q => ∃ ρ a d vx q xs kvs, x = .ref a ∧ y = .ref d ∧ Rv M ρ H (.ref a) vx ∧ toNK vx = some q ∧ okN vx = true ∧ H d = some (rawN M.P M.w d xs) ∧ Rns M ρ H xs kvs ∧ Q (.bl (!(lkN vx kvs).isSome)) H
theorem look_some {ρ : List Addr} {H : Hp} {xs : List (NestedKey × Addr × Value)} {kvs : List (AV × AV)} {k : AV} {q : NestedKey} (r : Rns M ρ H xs kvs) (hq : toNK k = some q) : (atKey xs q).isSome = (lkN k kvs).isSome := by
  rcases r.look hq with ⟨a, b⟩ | ⟨p, x, v, a, b, _⟩ <;> rw [a, b] <;> rfl
theorem op_inN (m : MX M X) (hu : X.A.units + 64 < cLine) : OpR X (compareOp .In) (rInN M) := by
  intro pins s σ H x y u v Q I rx ry h
  obtain ⟨ρ, a, d, vx, q, xs, kvs, rfl, rfl, hk, hq, ok, hd, r, h⟩ := h
  cases rx
  cases ry
  obtain ⟨h1, h2⟩ := raw_of m I hd r
  refine wpAny_in_heap (room8 hu) (key_is m I hk hq ok) h1 h2 ?_
  exact ⟨.bl (lkN vx kvs).isSome, H, I.tok _, by rw [look_some r hq]; rfl, h⟩
theorem op_notInN (m : MX M X) (hu : X.A.units + 64 < cLine) : OpR X (compareOp .NotIn) (rNotInN M) := by
  intro pins s σ H x y u v Q I rx ry h
  obtain ⟨ρ, a, d, vx, q, xs, kvs, rfl, rfl, hk, hq, ok, hd, r, h⟩ := h
  cases rx
  cases ry
  obtain ⟨h1, h2⟩ := raw_of m I hd r
  show wpAny _ _ (do return Value.bool (!(← contains (.ref d) (.ref a))) : Sem Value) _ _ s
  refine wpAny_bind (wpAny_contains_heap (room8 hu) (key_is m I hk hq ok) h1 h2 (wpAny_pure ?_))
  exact ⟨.bl (!(lkN vx kvs).isSome), H, I.tok _, by rw [look_some r hq]; rfl, h⟩
/-! dicts whose keys are ints and texts -/
theorem kV_of {ρ : List Addr} {H : Hp} {x : V} {v : AV} {k : GKey} (r : Rv M ρ H x v) (e : toK v = some k) : x = kV k := by
  cases r <;> first | (cases e; rfl) | (cases e; done)
theorem Rks.look {ρ : List Addr} {H : Hp} {k : Key} : ∀ {xs : List (Key × V)} {kvs : List (GKey × AV)}, Rks M ρ H xs kvs →
    (valV xs k = none ∧ lkK k kvs = none) ∨ ∃ x v, valV xs k = some x ∧ lkK k kvs = some v ∧ Rv M ρ H x v
  | _, _, .nil => .inl ⟨rfl, rfl⟩
  | _, _, .cons (k := k') (x := x) (v := v) (vs := vs) (xs := xs) h r => by
    by_cases hk : k' = k
    · subst hk
      refine .inr ⟨x, v, valV_pos rfl, ?_, h⟩
      unfold lkK
      rw [List.find?_cons_of_pos (by simp)]
      rfl
    · have e2 : lkK k ((k', v) :: vs) = lkK k vs := by
        unfold lkK
        rw [List.find?_cons_of_neg (by simpa using hk)]
      rw [valV_neg (p := (k', x)) hk, e2]
      exact Rks.look r
theorem Rks.any {ρ : List Addr} {H : Hp} {k : Key} : ∀ {xs : List (Key × V)} {kvs : List (GKey × AV)}, Rks M ρ H xs kvs → (xs.any fun kv => decide (kv.1 = k)) = kvs.any fun kv => decide (kv.1 = k)
  | _, _, .nil => rfl
  | _, _, .cons h r => by rw [List.any_cons, List.any_cons, Rks.any r]
theorem Rks.app {ρ : List Addr} {H : Hp} : ∀ {xs ys : List (Key × V)} {kvs lvs : List (GKey × AV)}, Rks M ρ H xs kvs → Rks M ρ H ys lvs → Rks M ρ H (xs ++ ys) (kvs ++ lvs)
  | _, _, _, _, .nil, s => s
  | _, _, _, _, .cons h r, s => .cons h (Rks.app r s)
theorem Rks.mapPut {ρ : List Addr} {H : Hp} {k : Key} {x : V} {v : AV} (hv : Rv M ρ H x v) : ∀ {xs : List (Key × V)} {kvs : List (GKey × AV)}, Rks M ρ H xs kvs →
    Rks M ρ H (xs.map fun kv => if kv.1 = k then (kv.1, x) else kv) (kvs.map fun kv => if kv.1 = k then (kv.1, v) else kv)
  | _, _, .nil => .nil
  | _, _, .cons (k := k') h r => by
    rw [List.map_cons, List.map_cons]
    dsimp only
    by_cases hk : k' = k
    · rw [if_pos hk, if_pos hk]
      exact .cons hv (Rks.mapPut hv r)
    · rw [if_neg hk, if_neg hk]
      exact .cons h (Rks.mapPut hv r)
theorem Rks.put {ρ : List Addr} {H : Hp} {k : Key} {x : V} {v : AV} (hv : Rv M ρ H x v) {xs : List (Key × V)} {kvs : List (GKey × AV)} (r : Rks M ρ H xs kvs) : Rks M ρ H (L2.putK xs k x) (G.putK k v kvs) := by
  unfold L2.putK G.putK
  rw [r.any]
  split
  · exact r.mapPut hv
  · exact r.app (.cons hv .nil)
theorem Rks.len {ρ : List Addr} {H : Hp} : ∀ {xs : List (Key × V)} {kvs : List (GKey × AV)}, Rks M ρ H xs kvs → xs.length = kvs.length
  | _, _, .nil => rfl
  | _, _, .cons h r => by rw [List.length_cons, List.length_cons, Rks.len r]
theorem Rks.drop {ρ : List Addr} {H : Hp} {k : Key} : ∀ {xs : List (Key × V)} {kvs : List (GKey × AV)}, Rks M ρ H xs kvs → Rks M ρ H (L2.dropK xs k) (G.dropK k kvs)
  | _, _, .nil => .nil
  | _, _, .cons (k := k') (x := x) (v := v) (vs := vs) (xs := xs) h r => by
    by_cases hk : k' = k
    · have e1 : L2.dropK ((k', x) :: xs) k = L2.dropK xs k := by
        unfold L2.dropK
        rw [List.filter_cons_of_neg (by simpa using hk)]
      have e2 : G.dropK k ((k', v) :: vs) = G.dropK k vs := by
        unfold G.dropK
        rw [List.filter_cons_of_neg (by simpa using hk)]
      rw [e1, e2]
      exact Rks.drop r
    · have e1 : L2.dropK ((k', x) :: xs) k = (k', x) :: L2.dropK xs k := by
        unfold L2.dropK
        rw [List.filter_cons_of_pos (by simpa using hk)]
      have e2 : G.dropK k ((k', v) :: vs) = (k', v) :: G.dropK k vs := by
        unfold G.dropK
        rw [List.filter_cons_of_pos (by simpa using hk)]
      rw [e1, e2]
      exact .cons h (Rks.drop r)
def rInK : R2 := fun x y H Q => ∃ d k kv, x = kV k ∧ y = .ref d ∧ H d = some (.dK kv) ∧ Q (.bl (valV kv k).isSome) H
def rNotInK : R2 := fun x y H Q => ∃ d k kv, x = kV k ∧ y = .ref d ∧ H d = some (.dK kv) ∧ Q (.bl (!(valV kv k).isSome)) H
theorem op_inK (hu : X.A.units + 64 < cLine) : OpR X (compareOp .In) rInK := by
  intro pins s σ H x y u v Q I rx ry h
  obtain ⟨d, k, kv, rfl, rfl, hd, h⟩ := h
  cases ry
  exact d_in (by omega) I (DGet.k hd) rx fun s' J => ⟨.bl (valV kv k).isSome, H, J, rfl, h⟩
theorem op_notInK (hu : X.A.units + 64 < cLine) : OpR X (compareOp .NotIn) rNotInK := by
  intro pins s σ H x y u v Q I rx ry h
  obtain ⟨d, k, kv, rfl, rfl, hd, h⟩ := h
  cases ry
  exact d_notIn (by omega) I (DGet.k hd) rx fun s' J => ⟨.bl (!(valV kv k).isSome), H, J, rfl, h⟩
def rIxK : R2 := fun x y H Q => ∃ d k kv v, x = .ref d ∧ y = kV k ∧ H d = some (.dK kv) ∧ valV kv k = some v ∧ Q v H
theorem ix_K (hu : X.A.units + 64 < cLine) : IxR X rIxK := by
  intro value slice pins s σ H x y v u Q I rx ry h hs
  obtain ⟨d, k, kv, z, rfl, rfl, hd, hv, h⟩ := h
  cases rx
  have g : DGet H d (kV k) (some z) := by
    have := DGet.k (k := k) hd
    rw [hv] at this
    exact this
  exact tail_any (dict_typeIs I g) PySem.F.slot_dict_getitem.lookup (d_getItem (by omega) I g ry fun w' s' J rw' => ⟨z, H, J, rw', h⟩) hs
def rSetK : TSet := fun o i v H Q => ∃ d k kv, o = .ref d ∧ i = kV k ∧ H d = some (.dK kv) ∧ kv.length < sizeLine ∧ Q (upd H d (.dK (L2.putK kv k v)))
theorem set_K (hu : X.A.units + 64 < cLine) : PSet X rSetK := by
  intro pins s σ H o i v ov iv u Q I ro ri ru h
  obtain ⟨d, k, kv, rfl, rfl, hd, hz, h⟩ := h
  cases ro
  exact d_setItem (by omega) I (DPut.k hd hz) ri ru fun s' J => ⟨_, J, h⟩
theorem inB_use {W : WX} {ρ : List Addr} {H : Hp} {σ : L2.St} {S : Sto} {x y : V} {vx vy : AV} {Q : VK} {f : Bool → Bool} (k : Ok M ρ H S) (rx : Rv M ρ H x vx) (ry : Rv M ρ H y vy)
    (h : pE M W ρ H σ ((gInB vx vy S).bind fun k S => .ok (.bl (f k)) S) Q) :
    (∃ p ys, y = .ref p ∧ SqT M.K H p ys ∧ flatV x = true ∧ ys.all flatV = true ∧ Q (.bl (f (inV x ys))) H) ∨
    (∃ a d q xs kvs, x = .ref a ∧ y = .ref d ∧ Rv M ρ H (.ref a) vx ∧ toNK vx = some q ∧ okN vx = true ∧ H d = some (rawN M.P M.w d xs) ∧ Rns M ρ H xs kvs ∧ Q (.bl (f (lkN vx kvs).isSome)) H) ∨
    ∃ d k kv, x = kV k ∧ y = .ref d ∧ H d = some (.dK kv) ∧ Q (.bl (f (valV kv k).isSome)) H := by
  cases ry with
  | @tup _ _ ys hs rs =>
    unfold gInB at h
    dsimp only at h
    by_cases c : flatA vx = true ∧ ys.all flatA = true
    · rw [if_pos c] at h
      refine .inl ⟨_, _, rfl, hs.sq, flatV_of rx c.1, flatVs_of rs c.2, ?_⟩
      rw [inV_of rx c.1 rs c.2]
      exact h ρ H _ (Nx.refl _ _) k (.bl _)
    · rw [if_neg c] at h
      exact h.elim
  | loc hn =>
    obtain ⟨o, ho, ra⟩ := k.ix hn
    unfold gInB at h
    dsimp only at h
    rw [ho] at h
    cases o with
    | dN kvs =>
      dsimp only at h
      by_cases c : okN vx = true
      · rw [if_pos c] at h
        obtain ⟨zs, q, e1, e2, _⟩ := okN_of c
        obtain ⟨z, xs, hd, r⟩ := ra
        subst e1
        cases rx with
        | tup h1 h2 => exact .inr (.inl ⟨_, _, q, xs, kvs, rfl, rfl, .tup h1 h2, e2, c, hd, r, h ρ H _ (Nx.refl _ _) k (.bl _)⟩)
      · rw [if_neg c] at h
        exact h.elim
    | lst xs => exact h.elim
    | dK kvs =>
      dsimp only at h
      cases e : toK vx with
      | none => rw [e] at h; exact h.elim
      | some j =>
        rw [e] at h
        obtain ⟨kv, hd, r⟩ := ra
        have hx := kV_of rx e
        refine .inr (.inr ⟨_, j, kv, hx, rfl, hd, ?_⟩)
        have q := h ρ H _ (Nx.refl _ _) k (.bl _)
        rcases r.look (k := j) with ⟨a, b⟩ | ⟨x', v', a, b, _⟩
        · rw [b] at q
          rw [a]
          exact q
        · rw [b] at q
          rw [a]
          exact q
    | ins c fs => exact h.elim
  | _ => exact h.elim
theorem og_in (m : MX M X) (hu : X.A.units + 64 < cLine) : OG M X (compareOp .In) gIn := by
  refine ⟨_, op_in_seq.or ((op_inN m hu).or (op_inK hu)), fun W ρ H σ S x y vx vy Q k rx ry h => ?_⟩
  rcases inB_use (f := id) k rx ry h with ⟨p, ys, rfl, hs, h1, h2, h3⟩ | ⟨a, d, q, xs, kvs, rfl, rfl, h1, h2, h3, h4, h5, h6⟩ | ⟨d, j, kv, h1, h2, h3, h4⟩
  · exact .inl ⟨p, ys, rfl, .inr (by rw [m.K]; exact hs), h1, h2, by simpa using h3⟩
  · exact .inr (.inl ⟨ρ, a, d, vx, q, xs, kvs, rfl, rfl, h1, h2, h3, h4, h5, h6⟩)
  · exact .inr (.inr ⟨d, j, kv, h1, h2, h3, h4⟩)
theorem og_notIn (m : MX M X) (hu : X.A.units + 64 < cLine) : OG M X (compareOp .NotIn) gNotIn := by
  refine ⟨_, op_notIn_seq.or ((op_notInN m hu).or (op_notInK hu)), fun W ρ H σ S x y vx vy Q k rx ry h => ?_⟩
  rcases inB_use (f := fun k => !k) k rx ry h with ⟨p, ys, rfl, hs, h1, h2, h3⟩ | ⟨a, d, q, xs, kvs, rfl, rfl, h1, h2, h3, h4, h5, h6⟩ | ⟨d, j, kv, h1, h2, h3, h4⟩
  · exact .inl ⟨p, ys, rfl, .inr (by rw [m.K]; exact hs), h1, h2, by simpa using h3⟩
  · exact .inr (.inl ⟨ρ, a, d, vx, q, xs, kvs, rfl, rfl, h1, h2, h3, h4, h5, h6⟩)
  · exact .inr (.inr ⟨d, j, kv, h1, h2, h3, h4⟩)

/-! ### subscripts -/
theorem ixA_eq (n : Nat) (i : Int) : ixA n i = ixN n i := rfl
theorem atA_use {ρ : List Addr} {H : Hp} {xs : List V} {vs : List AV} {i : Int} {v : AV} (r : Rvs M ρ H xs vs) (e : atA vs i = some v) : ∃ x, atI xs i = some x ∧ Rv M ρ H x v := by
  unfold atA at e
  unfold atI
  rw [r.len]
  cases q : ixN vs.length i with
  | none =>
    rw [ixA_eq, q] at e
    cases e
  | some j =>
    rw [ixA_eq, q] at e
    exact r.ix e
def rIxN (M : Mx) : R2 := fun x y H Q => ∃ ρ a d vx q xs kvs x' v', x = .ref d ∧ y = .ref a ∧ Rv M ρ H (.ref a) vx ∧ toNK vx = some q ∧ okN vx = true ∧ H d = some (rawN M.P M.w d xs) ∧ Rns M ρ H xs kvs ∧ lkN vx kvs = some v' ∧ (Rv M ρ H x' v' → (∃ p, atKey xs q = some p ∧ RelV x' p.2) → Q x' H)
structure IG (M : Mx) (X : Cx) (g : AV → AV → Sto → XR AV) : Prop where
  run : ∃ r, IxR X r ∧ ∀ W ρ H σ S x y vx vy Q, Ok M ρ H S → Rv M ρ H x vx → Rv M ρ H y vy → pE M W ρ H σ (g vx vy S) Q → r x y H Q
/-- d[k] of a dict with tuples as keys -/
def rIxN' (M : Mx) : R2 := fun x y H Q => ∃ ρ a d vx q xs kvs, x = .ref d ∧ y = .ref a ∧ Rv M ρ H (.ref a) vx ∧ toNK vx = some q ∧ okN vx = true ∧ H d = some (rawN M.P M.w d xs) ∧ Rns M ρ H xs kvs ∧ (lkN vx kvs).isSome = true ∧ ∀ x' v', lkN vx kvs = some v' → Rv M ρ H x' v' → Q x' H
theorem ix_N (m : MX M X) (hu : X.A.units + 64 < cLine) : IxR X (rIxN' M) := by
  intro value slice pins s σ H x y v u Q I rx ry h hs
  obtain ⟨ρ, a, d, vx, q, xs, kvs, rfl, rfl, hk, hq, ok, hd, r, hsome, h⟩ := h
  cases rx
  cases ry
  obtain ⟨h1, h2⟩ := raw_of m I hd r
  rcases r.look hq with ⟨e1, e2⟩ | ⟨p, x', v', e1, e2, rv, r'⟩
  · rw [e2] at hsome
    cases hsome
  · exact tail_any h2.typeIs PySem.F.slot_dict_getitem.lookup (wpAny_getItem_heap (room8 hu) (key_is m I hk hq ok) h2 e1 ⟨x', H, I.tok _, rv, h x' v' e2 r'⟩) hs
theorem ig_ix (m : MX M X) (hu : X.A.units + 64 < cLine) : IG M X gIx := by
  refine ⟨_, ix_seq.or ((ix_N m hu).or (ix_K hu)), fun W ρ H σ S x y vx vy Q k rx ry h => ?_⟩
  cases rx with
  | tup hs rs =>
    cases ry <;> try (unfold gIx at h; exact False.elim h)
    case int i =>
      unfold gIx at h
      dsimp only at h
      cases e : atA _ i with
      | none => rw [e] at h; exact h.elim
      | some v =>
        rw [e] at h
        obtain ⟨z, e1, rz⟩ := atA_use rs e
        exact .inl (.inr (.inl ⟨_, _, i, z, rfl, rfl, by rw [m.K]; exact hs.sq, e1, h ρ H _ (Nx.refl _ _) k rz⟩))
  | lst h1 n1 rs =>
    cases ry <;> try (unfold gIx at h; exact False.elim h)
    case int i =>
      unfold gIx at h
      dsimp only at h
      cases e : atA _ i with
      | none => rw [e] at h; exact h.elim
      | some v =>
        rw [e] at h
        obtain ⟨z, e1, rz⟩ := atA_use rs e
        exact .inl (.inl ⟨_, _, i, z, rfl, rfl, SqL.of h1, e1, h ρ H _ (Nx.refl _ _) k rz⟩)
  | scr h1 rs =>
    cases ry <;> try (unfold gIx at h; exact False.elim h)
    case int i =>
      unfold gIx at h
      dsimp only at h
      cases e : atA _ i with
      | none => rw [e] at h; exact h.elim
      | some v =>
        rw [e] at h
        obtain ⟨z, e1, rz⟩ := atA_use rs e
        exact .inl (.inl ⟨_, _, i, z, rfl, rfl, by rw [m.K]; exact h1.sq, e1, h ρ H _ (Nx.refl _ _) k rz⟩)
  | str z =>
    cases ry <;> try (unfold gIx at h; exact False.elim h)
    case int i =>
      unfold gIx at h
      dsimp only at h
      by_cases c : z.length ≤ sizeLine
      · rw [if_pos c] at h
        cases e : atA z.cps.toList i with
        | none => rw [e] at h; exact h.elim
        | some v =>
          rw [e] at h
          exact .inl (.inr (.inr ⟨z, i, v, rfl, rfl, c, e, h ρ H _ (Nx.refl _ _) k (.str _)⟩))
      · rw [if_neg c] at h
        exact h.elim
  | loc hn =>
    obtain ⟨o, ho, ra⟩ := k.ix hn
    unfold gIx at h
    dsimp only at h
    rw [ho] at h
    cases o with
    | lst xs =>
      dsimp only at h
      obtain ⟨vs, ha, rs⟩ := ra
      cases ry <;> try exact False.elim h
      case int i =>
        dsimp only at h
        cases e : atA xs i with
        | none => rw [e] at h; exact h.elim
        | some v =>
          rw [e] at h
          obtain ⟨z, e1, rz⟩ := atA_use rs e
          exact .inl (.inl ⟨_, _, i, z, rfl, rfl, SqL.of ha, e1, h ρ H _ (Nx.refl _ _) k rz⟩)
    | dN kvs =>
      dsimp only at h
      by_cases c : okN vy = true
      · rw [if_pos c] at h
        obtain ⟨zs, q, e1, e2, _⟩ := okN_of c
        obtain ⟨z, xs, hd, r⟩ := ra
        subst e1
        cases ry with
        | tup h1 h2 =>
          cases e : lkN (.tup zs) kvs with
          | none => rw [e] at h; exact h.elim
          | some v =>
            rw [e] at h
            refine .inr (.inl ⟨ρ, _, _, _, q, xs, kvs, rfl, rfl, .tup h1 h2, e2, c, hd, r, by rw [e]; rfl, fun x' v' e' r' => ?_⟩)
            rw [e] at e'
            cases e'
            exact h ρ H _ (Nx.refl _ _) k r'
      · rw [if_neg c] at h
        exact h.elim
    | dK kvs =>
      dsimp only at h
      cases e : toK vy with
      | none => rw [e] at h; exact h.elim
      | some j =>
        rw [e] at h
        dsimp only at h
        obtain ⟨kv, hd, r⟩ := ra
        have hy := kV_of ry e
        rcases r.look (k := j) with ⟨a, b⟩ | ⟨x', v', a, b, rv⟩
        · rw [b] at h
          exact h.elim
        · rw [b] at h
          exact .inr (.inr ⟨_, j, kv, x', rfl, hy, hd, a, h ρ H _ (Nx.refl _ _) k rv⟩)
    | ins c fs => exact h.elim
  | _ => (cases ry <;> (unfold gIx at h; exact False.elim h))

/-! ### o[i] = v -/
structure SG (M : Mx) (X : Cx) (g : AV → AV → AV → Sto → Option Sto) : Prop where
  run : ∃ t, PSet X t ∧ ∀ ρ H S x y z vx vy vz (Q : Hp → Prop), Ok M ρ H S → Rv M ρ H x vx → Rv M ρ H y vy → Rv M ρ H z vz → (∃ S', g vx vy vz S = some S' ∧ ∀ H', Nx ρ H ρ H' → Ok M ρ H' S' → Q H') → t x y z H Q
theorem PSet.or {t t' : TSet} (h : PSet X t) (h' : PSet X t') : PSet X (fun o i v H Q => t o i v H Q ∨ t' o i v H Q) := fun pins s σ H o i v ov iv u Q I r1 r2 r3 h0 =>
  h0.elim (h pins s σ H o i v ov iv u Q I r1 r2 r3) (h' pins s σ H o i v ov iv u Q I r1 r2 r3)
def rSetN (M : Mx) : TSet := fun o i v H Q => ∃ ρ a d vx q xs kvs vv, o = .ref d ∧ i = .ref a ∧ Rv M ρ H (.ref a) vx ∧ toNK vx = some q ∧ okN vx = true ∧ H d = some (rawN M.P M.w d xs) ∧ Rns M ρ H xs kvs ∧ kvs.length ≤ sizeLine ∧ Rv M ρ H v vv ∧
  ∀ xs', (Rns M ρ H xs kvs → Rns M ρ H xs' (putN vx vv kvs)) → Q (upd H d (rawN M.P M.w d xs'))
theorem set_N (m : MX M X) (hu : X.A.units + 64 < cLine) : PSet X (rSetN M) := by
  intro pins s σ H o i v ov iv u Q I ro ri ru h
  obtain ⟨ρ, a, d, vx, q, xs, kvs, vv, rfl, rfl, hk, hq, ok, hd, r, hz, hv, h⟩ := h
  cases ro
  cases ri
  obtain ⟨h1, h2⟩ := raw_of m I hd r
  obtain ⟨_, _, _, _, _, _, _, _, nd⟩ := id h2
  refine wpAny_setItem_heap (hsz := by rw [r.len]; exact hz) (room8 hu) (key_is m I hk hq ok) h2 fun h' dd' hs => ?_
  have he : ∃ o, h'.get? d = some o := let ⟨o, _, _, ho, _⟩ := dd'; ⟨o, ho⟩
  refine ⟨_, ?_, h (storedH xs q a u) fun _ => r.put hq ok hk ru hv nd⟩
  have J := d_write (t' := s.toks + (nestedKind X.prog X.w).draws q) (ob := rawN X.prog X.w d (storedH xs q a u)) I (by rw [hd]; exact True.intro) hs he (raw_ok h1 dd')
  rw [m.P, m.w] at J
  rw [← m.P, ← m.w]
  rw [← m.P, ← m.w] at J
  exact J
theorem sg_set (m : MX M X) (hu : X.A.units + 64 < cLine) : SG M X gSet := by
  refine ⟨_, PSet.or set_list (PSet.or (set_N m hu) (set_K hu)), fun ρ H S x y z vx vy vz Q k rx ry rz h => ?_⟩
  obtain ⟨S', e, h⟩ := h
  cases rx with
  | loc hn =>
    obtain ⟨o, ho, ra⟩ := k.ix hn
    unfold gSet at e
    dsimp only at e
    rw [ho] at e
    cases o with
    | lst xs =>
      dsimp only at e
      obtain ⟨vs, ha, rs⟩ := ra
      cases ry <;> try (cases e; done)
      case int i =>
        dsimp only at e
        cases q : ixA xs.length i with
        | none => rw [q] at e; cases e
        | some j =>
          rw [q] at e
          cases e
          refine .inl ⟨_, vs, i, j, rfl, rfl, ha, by rw [rs.len]; exact q, ?_⟩
          exact h _ (Nx.set hn) (k.set hn ⟨_, upd_same, (Rvs.set rz j rs).mono (Nx.set hn)⟩)
    | dN kvs =>
      dsimp only at e
      by_cases c : okN vy = true ∧ kvs.length < sizeLine
      · rw [if_pos c] at e
        cases e
        obtain ⟨zs, q, e1, e2, _⟩ := okN_of c.1
        obtain ⟨z', xs, hd, r⟩ := ra
        subst e1
        cases ry with
        | tup h1 h2 =>
          refine .inr (.inl ⟨ρ, _, _, _, q, xs, kvs, vz, rfl, rfl, .tup h1 h2, e2, c.1, hd, r, Nat.le_of_lt c.2, rz, fun xs' hx => ?_⟩)
          refine h _ (Nx.set hn) (k.set hn ⟨?_, xs', upd_same, (hx r).mono (Nx.set hn)⟩)
          exact Nat.le_trans (putN_len (.tup zs) vz kvs) c.2
      · rw [if_neg c] at e
        cases e
    | dK kvs =>
      dsimp only at e
      cases q : toK vy with
      | none => rw [q] at e; cases e
      | some j =>
        rw [q] at e
        dsimp only at e
        by_cases c : kvs.length < sizeLine
        · rw [if_pos c] at e
          cases e
          obtain ⟨kv, hd, r⟩ := ra
          have hy := kV_of ry q
          exact .inr (.inr ⟨_, j, kv, rfl, hy, hd, by rw [r.len]; exact c, h _ (Nx.set hn) (k.set hn ⟨_, upd_same, (r.put rz).mono (Nx.set hn)⟩)⟩)
        · rw [if_neg c] at e
          cases e
    | ins c fs => cases e
  | _ => cases e
end
end G

set_option Elab.async false
set_option linter.all false
set_option maxRecDepth 100000
set_option maxHeartbeats 2000000
/-! G, the rules: expressions, tests, statements. -/
namespace G
open PySem PySem.Spec PyProof.Rows L2
section
variable {M : Mx} {W : WX} {X : Cx} {a b c e : Expr} {es : List Expr} {fa fb fc : FE} {f : FE} {pos : Pos}
/-! ### expressions -/
theorem ge_var (i : Nat) {x : Str} {pos : Pos} (hN : X.N[i]? = some x := by rfl) (hv : Vis X.env.scope x := by first | exact Or.inl rfl | exact Or.inr (Or.inl rfl) | exact Or.inr (Or.inr rfl)) (hd : (x == ("__debug__" : Str)) = false := by decide)
    (hcd : (x == ("__classdict__" : Str)) = false := by decide) : GE M W X (.Name x pos) (fV i) := ⟨_, pe_var hN hv hd hcd, fun ρ H σ Γ S Q r h => by
  unfold fV at h
  cases q : Γ[i]? with
  | none => rw [q] at h; exact h.elim
  | some o =>
    cases o with
    | none => rw [q] at h; exact h.elim
    | some v =>
      rw [q] at h
      obtain ⟨x, e, rv⟩ := r.en.val i v q
      exact ⟨x, e, h ρ H _ (Nx.refl _ _) r.ok rv⟩⟩
theorem ge_c {v : V} {av : AV} (h : PE X e (tC v)) (r : ∀ ρ H, Rv M ρ H v av) : GE M W X e (fC av) := ⟨_, h, fun ρ H σ Γ S Q rs q => q ρ H _ (Nx.refl _ _) rs.ok (r ρ H)⟩
theorem ge_int {i j pos} : GE M W X (.Constant (.int i) j pos) (fC (.int i)) := ge_c pe_int fun _ _ => .int _
theorem ge_bl {b j pos} : GE M W X (.Constant (.bool b) j pos) (fC (.bl b)) := ge_c pe_bl fun _ _ => .bl _
theorem ge_non {j pos} : GE M W X (.Constant .none j pos) (fC .non) := ge_c pe_non fun _ _ => .non
theorem ge_str {x j pos} : GE M W X (.Constant (.str x) j pos) (fC (.str x)) := ge_c pe_str fun _ _ => .str _
/-- a constant of the module -/
theorem ge_glob {x : Str} {v : V} {u : Value} {av : AV} {pos : Pos} (hg : Gl X x) (hm : X.mg x = some u) (r : RelV v u) (rv : ∀ ρ H, Rv M ρ H v av) (hd : (x == ("__debug__" : Str)) = false := by decide) : GE M W X (.Name x pos) (fC av) := ge_c (pe_glob hg hm r hd) rv
theorem ge_op {op : Operator} {g : AV → AV → Sto → XR AV} (o : OG M X (binaryOp op) g) (ha : GE M W X a fa) (hb : GE M W X b fb) : GE M W X (.BinOp a op b pos) (fOp g fa fb) := by
  obtain ⟨r, ro, hr⟩ := o.run
  obtain ⟨ta, pa, qa⟩ := ha.run
  obtain ⟨tb, pb, qb⟩ := hb.run
  refine ⟨_, pe_op ro pa pb, fun ρ H σ Γ S Q rs h => ?_⟩
  refine qa ρ H σ Γ S _ rs (pR.imp (pR.bind (rel1 := Rv M) h) ?_)
  rintro x H1 ⟨ρ1, vx, S1, n1, o1, rx, h1⟩
  refine qb ρ1 H1 σ Γ S1 _ ⟨o1, rs.en.mono n1⟩ (pR.imp (pR.bind (rel1 := Rv M) h1) ?_)
  rintro y H2 ⟨ρ2, vy, S2, n2, o2, ry, h2⟩
  exact hr W ρ2 H2 σ S2 x y vx vy Q o2 (rx.mono n2) ry h2
theorem ge_cmp {op : CmpOp} {g : AV → AV → Sto → XR AV} (o : OG M X (compareOp op) g) (ha : GE M W X a fa) (hb : GE M W X b fb) (hm : behindInMarks op b = false) : GE M W X (.Compare a [op] [b] pos) (fOp g fa fb) := by
  obtain ⟨r, ro, hr⟩ := o.run
  obtain ⟨ta, pa, qa⟩ := ha.run
  obtain ⟨tb, pb, qb⟩ := hb.run
  refine ⟨_, pe_cmpR ro pa pb hm, fun ρ H σ Γ S Q rs h => ?_⟩
  refine qa ρ H σ Γ S _ rs (pR.imp (pR.bind (rel1 := Rv M) h) ?_)
  rintro x H1 ⟨ρ1, vx, S1, n1, o1, rx, h1⟩
  refine qb ρ1 H1 σ Γ S1 _ ⟨o1, rs.en.mono n1⟩ (pR.imp (pR.bind (rel1 := Rv M) h1) ?_)
  rintro y H2 ⟨ρ2, vy, S2, n2, o2, ry, h2⟩
  exact hr W ρ2 H2 σ S2 x y vx vy Q o2 (rx.mono n2) ry h2
theorem gt_of {t : TE} {f : FE} (hp : PT X e (tTest t)) (hq : ∀ ρ H σ Γ S Q, Rs M ρ H σ Γ S → pE M W ρ H σ (f Γ S) Q → t σ H Q) : GT M W X e (fTB f) := by
  refine ⟨_, hp, fun ρ H σ Γ S Q rs h => ?_⟩
  refine hq ρ H σ Γ S _ rs (pR.imp (pR.bind (rel1 := Rv M) h) ?_)
  rintro x H1 ⟨ρ1, vx, S1, n1, o1, rx, h1⟩
  cases rx with
  | bl b => exact ⟨b, rfl, h1 ρ1 H1 b (Nx.refl _ _) o1 rfl⟩
  | _ => exact h1.elim
theorem gt_cmp {op : CmpOp} {g : AV → AV → Sto → XR AV} (o : OG M X (compareOp op) g) (ha : GE M W X a fa) (hb : GE M W X b fb) (hm : behindInMarks op b = false) : GT M W X (.Compare a [op] [b] pos) (fTB (fOp g fa fb)) := by
  obtain ⟨r, ro, hr⟩ := o.run
  obtain ⟨ta, pa, qa⟩ := ha.run
  obtain ⟨tb, pb, qb⟩ := hb.run
  refine gt_of (pt_cmpR ro pa pb hm) fun ρ H σ Γ S Q rs h => ?_
  refine qa ρ H σ Γ S _ rs (pR.imp (pR.bind (rel1 := Rv M) h) ?_)
  rintro x H1 ⟨ρ1, vx, S1, n1, o1, rx, h1⟩
  refine qb ρ1 H1 σ Γ S1 _ ⟨o1, rs.en.mono n1⟩ (pR.imp (pR.bind (rel1 := Rv M) h1) ?_)
  rintro y H2 ⟨ρ2, vy, S2, n2, o2, ry, h2⟩
  exact hr W ρ2 H2 σ S2 x y vx vy Q o2 (rx.mono n2) ry h2
theorem chain_use {op op' : CmpOp} {g g' : AV → AV → Sto → XR AV} (o : OG M X (compareOp op) g) (o' : OG M X (compareOp op') g') (ha : GE M W X a fa) (hb : GE M W X b fb) (hc : GE M W X c fc) :
    ∃ r r' ta tb tc, OpR X (compareOp op) r ∧ OpR X (compareOp op') r' ∧ PE X a ta ∧ PE X b tb ∧ PE X c tc ∧ ∀ ρ H σ Γ S Q, Rs M ρ H σ Γ S → pE M W ρ H σ (fChain g g' fa fb fc Γ S) Q → tChain r r' ta tb tc σ H Q := by
  obtain ⟨r, ro, hr⟩ := o.run
  obtain ⟨r', ro', hr'⟩ := o'.run
  obtain ⟨ta, pa, qa⟩ := ha.run
  obtain ⟨tb, pb, qb⟩ := hb.run
  obtain ⟨tc, pc, qc⟩ := hc.run
  refine ⟨r, r', ta, tb, tc, ro, ro', pa, pb, pc, fun ρ H σ Γ S Q rs h => ?_⟩
  unfold fChain at h
  refine qa ρ H σ Γ S _ rs (pR.imp (pR.bind (rel1 := Rv M) h) ?_)
  rintro x H1 ⟨ρ1, vx, S1, n1, o1, rx, h1⟩
  refine qb ρ1 H1 σ Γ S1 _ ⟨o1, rs.en.mono n1⟩ (pR.imp (pR.bind (rel1 := Rv M) h1) ?_)
  rintro y H2 ⟨ρ2, vy, S2, n2, o2, ry, h2⟩
  refine hr W ρ2 H2 σ S2 x y vx vy _ o2 (rx.mono n2) ry (pR.imp (pR.bind (rel1 := Rv M) h2) ?_)
  rintro z H3 ⟨ρ3, vz, S3, n3, o3, rz, h3⟩
  cases rz with
  | bl k =>
    refine ⟨k, rfl, ?_⟩
    cases k with
    | false =>
      rw [if_neg Bool.false_ne_true]
      exact h3 ρ3 H3 _ (Nx.refl _ _) o3 (.bl _)
    | true =>
      rw [if_pos rfl]
      refine qc ρ3 H3 σ Γ S3 _ ⟨o3, rs.en.mono (n1.trans (n2.trans n3))⟩ (pR.imp (pR.bind (rel1 := Rv M) h3) ?_)
      rintro u H4 ⟨ρ4, vu, S4, n4, o4, ru, h4⟩
      exact hr' W ρ4 H4 σ S4 y u vy vu Q o4 (ry.mono (n3.trans n4)) ru h4
  | _ => exact h3.elim
theorem ge_chain {op op' : CmpOp} {g g' : AV → AV → Sto → XR AV} (o : OG M X (compareOp op) g) (o' : OG M X (compareOp op') g') (ha : GE M W X a fa) (hb : GE M W X b fb) (hc : GE M W X c fc)
    (hm : lastMarks [op, op'] [b, c] = false := by with_unfolding_all rfl) : GE M W X (.Compare a [op, op'] [b, c] pos) (fChain g g' fa fb fc) := by
  obtain ⟨r, r', ta, tb, tc, ro, ro', pa, pb, pc, q⟩ := chain_use o o' ha hb hc
  exact ⟨_, pe_chain ro ro' pa pb pc hm, q⟩
theorem gt_chain {op op' : CmpOp} {g g' : AV → AV → Sto → XR AV} (o : OG M X (compareOp op) g) (o' : OG M X (compareOp op') g') (ha : GE M W X a fa) (hb : GE M W X b fb) (hc : GE M W X c fc)
    (hm : lastMarks [op, op'] [b, c] = false := by with_unfolding_all rfl) : GT M W X (.Compare a [op, op'] [b, c] pos) (fTB (fChain g g' fa fb fc)) := by
  obtain ⟨r, r', ta, tb, tc, ro, ro', pa, pb, pc, q⟩ := chain_use o o' ha hb hc
  exact gt_of (pt_chain ro ro' pa pb pc hm) q
/-- any expression that gives a bool -/
theorem gt_val {f : FE} (h : GE M W X e f) (he : ∀ whole, isTrue e X.env whole = (do let v ← whole; standAt e.pos; holding [v] (truthy v)) := by intro _; rfl) : GT M W X e (fTB f) := by
  obtain ⟨t, p, q⟩ := h.run
  exact gt_of (pt_val p he) q
/-! and, or, not -/
structure GW (M : Mx) (W : WX) (X : Cx) (e : Expr) (f : FT) : Prop where
  run : ∃ t, PW X e t ∧ ∀ ρ H σ Γ S Q, Rs M ρ H σ Γ S → pT M W ρ H σ (f Γ S) Q → t σ H Q
theorem GW.gt {f : FT} (h : GW M W X e f) : GT M W X e f := by
  obtain ⟨t, p, q⟩ := h.run
  exact ⟨t, p.pt, q⟩
variable {tA tB : FT} {rest : List Expr}
theorem gw_and1 (ha : GT M W X a tA) : GW M W X (.BoolOp .And [a] pos) tA := by
  obtain ⟨t, p, q⟩ := ha.run
  exact ⟨t, pw_and1 p, q⟩
theorem gw_or1 (ha : GT M W X a tA) : GW M W X (.BoolOp .Or [a] pos) tA := by
  obtain ⟨t, p, q⟩ := ha.run
  exact ⟨t, pw_or1 p, q⟩
theorem gw_and (ha : GT M W X a tA) (hb : GW M W X (.BoolOp .And (b :: rest) pos) tB) : GW M W X (.BoolOp .And (a :: b :: rest) pos) (fAnd tA tB) := by
  obtain ⟨t, p, q⟩ := ha.run
  obtain ⟨u, p', q'⟩ := hb.run
  refine ⟨_, pw_and p p', fun ρ H σ Γ S Q rs h => ?_⟩
  refine q ρ H σ Γ S _ rs (pR.imp (pR.bind (rel1 := fun _ _ x a => x = a) h) ?_)
  rintro x H1 ⟨ρ1, vx, S1, n1, o1, rfl, h1⟩
  cases x with
  | true =>
    rw [if_pos rfl] at h1 ⊢
    exact q' ρ1 H1 σ Γ S1 Q ⟨o1, rs.en.mono n1⟩ h1
  | false =>
    rw [if_neg Bool.false_ne_true] at h1 ⊢
    exact h1 ρ1 H1 false (Nx.refl _ _) o1 rfl
theorem gw_or (ha : GT M W X a tA) (hb : GW M W X (.BoolOp .Or (b :: rest) pos) tB) : GW M W X (.BoolOp .Or (a :: b :: rest) pos) (fOr tA tB) := by
  obtain ⟨t, p, q⟩ := ha.run
  obtain ⟨u, p', q'⟩ := hb.run
  refine ⟨_, pw_or p p', fun ρ H σ Γ S Q rs h => ?_⟩
  refine q ρ H σ Γ S _ rs (pR.imp (pR.bind (rel1 := fun _ _ x a => x = a) h) ?_)
  rintro x H1 ⟨ρ1, vx, S1, n1, o1, rfl, h1⟩
  cases x with
  | true =>
    rw [if_pos rfl] at h1 ⊢
    exact h1 ρ1 H1 true (Nx.refl _ _) o1 rfl
  | false =>
    rw [if_neg Bool.false_ne_true] at h1 ⊢
    exact q' ρ1 H1 σ Γ S1 Q ⟨o1, rs.en.mono n1⟩ h1
theorem gt_not (ha : GT M W X a tA) : GT M W X (.UnaryOp .Not a pos) (fNot tA) := by
  obtain ⟨t, p, q⟩ := ha.run
  refine ⟨_, pt_not p, fun ρ H σ Γ S Q rs h => ?_⟩
  refine q ρ H σ Γ S _ rs (pR.imp (pR.bind (rel1 := fun _ _ x a => x = a) h) ?_)
  rintro x H1 ⟨ρ1, vx, S1, n1, o1, rfl, h1⟩
  exact h1 ρ1 H1 _ (Nx.refl _ _) o1 rfl
theorem ge_one {op} (h : GE M W X a fa) : GE M W X (.BoolOp op [a] pos) fa := by
  obtain ⟨t, p, q⟩ := h.run
  exact ⟨t, pe_one p, q⟩
theorem ge_and (ha : GE M W X a fa) (hb : GE M W X (.BoolOp .And (b :: rest) pos) fb) : GE M W X (.BoolOp .And (a :: b :: rest) pos) (fAndV fa fb) := by
  obtain ⟨t, p, q⟩ := ha.run
  obtain ⟨u, p', q'⟩ := hb.run
  refine ⟨_, pe_and p p', fun ρ H σ Γ S Q rs h => ?_⟩
  refine q ρ H σ Γ S _ rs (pR.imp (pR.bind (rel1 := Rv M) h) ?_)
  rintro x H1 ⟨ρ1, vx, S1, n1, o1, rx, h1⟩
  cases rx with
  | bl k =>
    refine ⟨k, rfl, ?_⟩
    cases k with
    | true => rw [if_pos rfl]; exact q' ρ1 H1 σ Γ S1 Q ⟨o1, rs.en.mono n1⟩ h1
    | false => rw [if_neg Bool.false_ne_true]; exact h1 ρ1 H1 _ (Nx.refl _ _) o1 (.bl _)
  | _ => exact h1.elim
theorem ge_or (ha : GE M W X a fa) (hb : GE M W X (.BoolOp .Or (b :: rest) pos) fb) : GE M W X (.BoolOp .Or (a :: b :: rest) pos) (fOrV fa fb) := by
  obtain ⟨t, p, q⟩ := ha.run
  obtain ⟨u, p', q'⟩ := hb.run
  refine ⟨_, pe_or p p', fun ρ H σ Γ S Q rs h => ?_⟩
  refine q ρ H σ Γ S _ rs (pR.imp (pR.bind (rel1 := Rv M) h) ?_)
  rintro x H1 ⟨ρ1, vx, S1, n1, o1, rx, h1⟩
  cases rx with
  | bl k =>
    refine ⟨k, rfl, ?_⟩
    cases k with
    | true => rw [if_pos rfl]; exact h1 ρ1 H1 _ (Nx.refl _ _) o1 (.bl _)
    | false => rw [if_neg Bool.false_ne_true]; exact q' ρ1 H1 σ Γ S1 Q ⟨o1, rs.en.mono n1⟩ h1
  | _ => exact h1.elim
theorem ge_not (ha : GE M W X a fa) : GE M W X (.UnaryOp .Not a pos) (fNotV fa) := by
  obtain ⟨t, p, q⟩ := ha.run
  refine ⟨_, pe_not p, fun ρ H σ Γ S Q rs h => ?_⟩
  refine q ρ H σ Γ S _ rs (pR.imp (pR.bind (rel1 := Rv M) h) ?_)
  rintro x H1 ⟨ρ1, vx, S1, n1, o1, rx, h1⟩
  cases rx with
  | bl k => exact ⟨k, rfl, h1 ρ1 H1 _ (Nx.refl _ _) o1 (.bl _)⟩
  | _ => exact h1.elim
theorem ge_neg (ha : GE M W X a fa) : GE M W X (.UnaryOp .USub a pos) (fUn gNeg fa) := by
  obtain ⟨t, p, q⟩ := ha.run
  refine ⟨_, pe_un un_neg p, fun ρ H σ Γ S Q rs h => ?_⟩
  refine q ρ H σ Γ S _ rs (pR.imp (pR.bind (rel1 := Rv M) h) ?_)
  rintro x H1 ⟨ρ1, vx, S1, n1, o1, rx, h1⟩
  cases rx with
  | int i => exact ⟨i, rfl, h1 ρ1 H1 _ (Nx.refl _ _) o1 (.int _)⟩
  | _ => exact h1.elim
theorem ge_if {tC : FT} (hc : GT M W X c tC) (ha : GE M W X a fa) (hb : GE M W X b fb) : GE M W X (.IfExp c a b pos) (fIfE tC fa fb) := by
  obtain ⟨t, p, q⟩ := hc.run
  obtain ⟨ta, pa, qa⟩ := ha.run
  obtain ⟨tb, pb, qb⟩ := hb.run
  refine ⟨_, pe_ifExp p pa pb, fun ρ H σ Γ S Q rs h => ?_⟩
  refine q ρ H σ Γ S _ rs (pR.imp (pR.bind (rel1 := fun _ _ x a => x = a) h) ?_)
  rintro x H1 ⟨ρ1, vx, S1, n1, o1, rfl, h1⟩
  cases x with
  | true =>
    rw [if_pos rfl] at h1 ⊢
    exact qa ρ1 H1 σ Γ S1 Q ⟨o1, rs.en.mono n1⟩ h1
  | false =>
    rw [if_neg Bool.false_ne_true] at h1 ⊢
    exact qb ρ1 H1 σ Γ S1 Q ⟨o1, rs.en.mono n1⟩ h1
/-! arguments, displays -/
theorem ga_nil : GA M W X [] faN := ⟨_, pa_nil, fun ρ H σ Γ S Q rs h => h ρ H _ (Nx.refl _ _) rs.ok .nil⟩
theorem ga_cons {fr : FA} (ha : GE M W X e f) (hr : GA M W X es fr) (hs : starEach (e :: es) X.env = (false, eval e X.env) :: starEach es X.env := by rfl) : GA M W X (e :: es) (faC f fr) := by
  obtain ⟨t, p, q⟩ := ha.run
  obtain ⟨u, p', q'⟩ := hr.run
  refine ⟨_, pa_cons p p' hs, fun ρ H σ Γ S Q rs h => ?_⟩
  refine q ρ H σ Γ S _ rs (pR.imp (pR.bind (rel1 := Rv M) h) ?_)
  rintro x H1 ⟨ρ1, vx, S1, n1, o1, rx, h1⟩
  refine q' ρ1 H1 σ Γ S1 _ ⟨o1, rs.en.mono n1⟩ (pR.imp (pR.bind (rel1 := Rvs M) h1) ?_)
  rintro xs H2 ⟨ρ2, vs, S2, n2, o2, rxs, h2⟩
  exact h2 ρ2 H2 _ (Nx.refl _ _) o2 (.cons (rx.mono n2) rxs)
theorem ge_tup {fr : FA} {x1} (h : GA M W X es fr) : GE M W X (.Tuple es x1 pos) (fTup fr) := by
  obtain ⟨t, p, q⟩ := h.run
  refine ⟨_, pe_tup p, fun ρ H σ Γ S Q rs h => ?_⟩
  refine q ρ H σ Γ S _ rs (pR.imp (pR.bind (rel1 := Rvs M) h) ?_)
  rintro xs H1 ⟨ρ1, vs, S1, n1, o1, rx, h1⟩
  by_cases c : vs.length ≤ sizeLine
  · rw [if_pos c] at h1
    refine ⟨by rw [rx.len]; exact c, fun p hp => ?_⟩
    exact h1 ρ1 _ _ (Nx.new1 hp) (o1.new1 hp) (.tup (.inl ⟨.inl upd_same, o1.fresh hp⟩) (rx.mono (Nx.new1 hp)))
  · rw [if_neg c] at h1
    exact h1.elim
theorem ge_lst {fr : FA} (h : GA M W X es fr) : GE M W X (.List es pos) (fLst fr) := by
  obtain ⟨t, p, q⟩ := h.run
  refine ⟨_, pe_lst p, fun ρ H σ Γ S Q rs h => ?_⟩
  refine q ρ H σ Γ S _ rs (pR.imp (pR.bind (rel1 := Rvs M) h) ?_)
  rintro xs H1 ⟨ρ1, vs, S1, n1, o1, rx, h1⟩
  by_cases c : vs.length ≤ sizeLine
  · rw [if_pos c] at h1
    refine ⟨by rw [rx.len]; exact c, fun p hp => ?_⟩
    exact h1 ρ1 _ _ (Nx.new1 hp) (o1.new1 hp) (.lst upd_same (o1.fresh hp) (rx.mono (Nx.new1 hp)))
  · rw [if_neg c] at h1
    exact h1.elim
theorem at_last {ρ : List Addr} {H : Hp} {S : Sto} (o : Ok M ρ H S) (p : Addr) : (ρ ++ [p])[S.length]? = some p := by
  rw [← o.len, List.getElem?_append_right (Nat.le_refl _)]
  simp
theorem ge_lstM {fr : FA} (h : GA M W X es fr) : GE M W X (.List es pos) (fLstM fr) := by
  obtain ⟨t, p, q⟩ := h.run
  refine ⟨_, pe_lst p, fun ρ H σ Γ S Q rs h => ?_⟩
  refine q ρ H σ Γ S _ rs (pR.imp (pR.bind (rel1 := Rvs M) h) ?_)
  rintro xs H1 ⟨ρ1, vs, S1, n1, o1, rx, h1⟩
  by_cases c : vs.length ≤ sizeLine
  · rw [if_pos c] at h1
    refine ⟨by rw [rx.len]; exact c, fun p hp => ?_⟩
    exact h1 _ _ _ (Nx.push hp) (o1.push hp ⟨_, upd_same, rx.mono (Nx.push hp)⟩) (.loc (at_last o1 p))
  · rw [if_neg c] at h1
    exact h1.elim
/-! subscripts, fields -/
theorem ge_ix {g : AV → AV → Sto → XR AV} (o : IG M X g) (ha : GE M W X a fa) (hb : GE M W X b fb) (hs : PlainIx b) : GE M W X (.Subscript a b pos) (fOp g fa fb) := by
  obtain ⟨r, ro, hr⟩ := o.run
  obtain ⟨ta, pa, qa⟩ := ha.run
  obtain ⟨tb, pb, qb⟩ := hb.run
  refine ⟨_, pe_ix ro pa pb hs, fun ρ H σ Γ S Q rs h => ?_⟩
  refine qa ρ H σ Γ S _ rs (pR.imp (pR.bind (rel1 := Rv M) h) ?_)
  rintro x H1 ⟨ρ1, vx, S1, n1, o1, rx, h1⟩
  refine qb ρ1 H1 σ Γ S1 _ ⟨o1, rs.en.mono n1⟩ (pR.imp (pR.bind (rel1 := Rv M) h1) ?_)
  rintro y H2 ⟨ρ2, vy, S2, n2, o2, ry, h2⟩
  exact hr W ρ2 H2 σ S2 x y vx vy Q o2 (rx.mono n2) ry h2
/-- the classes of the instances that have a field f -/
structure ClsF (M : Mx) (f : Str) (cs : List Nat) : Prop where
  ok : ∀ c, c ∈ cs → Cls M.K (M.cx c) ∧ NoAttr M.K (M.cx c) f
theorem ge_fld {f : Str} {cs : List Nat} (m : MX M X) (k : ClsF M f cs) (ha : GE M W X e fa) (hb : attributeBase e f X.env (eval e X.env) = eval e X.env) : GE M W X (.Attribute e f pos) (fUn (gFldC cs f) fa) := by
  obtain ⟨ta, pa, qa⟩ := ha.run
  refine ⟨_, pe_fld pa hb, fun ρ H σ Γ S Q rs h => ?_⟩
  refine qa ρ H σ Γ S _ rs (pR.imp (pR.bind (rel1 := Rv M) h) ?_)
  rintro x H1 ⟨ρ1, vx, S1, n1, o1, rx, h1⟩
  cases rx with
  | @obj a dx c fv fs h2 h3 r =>
    unfold gFldC at h1
    dsimp only at h1
    by_cases hc : c ∈ cs
    · rw [if_pos hc] at h1
      unfold gFld at h1
      dsimp only at h1
      cases q : lkF f fs with
      | none => rw [q] at h1; exact h1.elim
      | some v =>
        rw [q] at h1
        obtain ⟨y, e1, ry⟩ := r.look q
        exact ⟨a, _, dx, fv, y, rfl, h2, by rw [m.K]; exact (k.ok c hc).1, by rw [m.K]; exact (k.ok c hc).2, e1, h1 ρ1 H1 _ (Nx.refl _ _) o1 ry⟩
    · rw [if_neg hc] at h1
      exact h1.elim
  | @loc n a hn =>
    obtain ⟨u, hu, ra⟩ := o1.ix hn
    unfold gFldC at h1
    dsimp only at h1
    rw [hu] at h1
    cases u with
    | ins c fs =>
      dsimp only at h1
      by_cases hc : c ∈ cs
      · rw [if_pos hc] at h1
        unfold gFld at h1
        dsimp only at h1
        rw [hu] at h1
        dsimp only at h1
        obtain ⟨dx, fv, h2, r⟩ := ra
        cases q : lkF f fs with
        | none => rw [q] at h1; exact h1.elim
        | some v =>
          rw [q] at h1
          obtain ⟨y, e1, ry⟩ := r.look q
          exact ⟨a, _, dx, fv, y, rfl, h2, by rw [m.K]; exact (k.ok c hc).1, by rw [m.K]; exact (k.ok c hc).2, e1, h1 ρ1 H1 _ (Nx.refl _ _) o1 ry⟩
      · rw [if_neg hc] at h1
        exact h1.elim
    | _ => exact h1.elim
  | _ => exact h1.elim
end
end G

set_option Elab.async false
set_option linter.all false
set_option maxRecDepth 100000
set_option maxHeartbeats 4000000
/-! G, the rules: calls, methods, comprehensions, statements, loops, defs. -/
namespace G
open PySem PySem.Spec PyProof.Rows L2

/-! ### what a def promises -/
def wE (E : XK) : WX := fun cls d _ H => E cls d H
def spG (M : Mx) (n : Nat) (g : FF) : Sp := fun vs H Q E => ∃ ρ S args, Ok M ρ H S ∧ Rvs M ρ H vs args ∧ args.length = n ∧ pE M (wE E) ρ H [] (g args S) Q
theorem spG.len {M : Mx} {n : Nat} {g : FF} {vs : List V} {H : Hp} {Q : VK} {E : XK} (h : spG M n g vs H Q E) : vs.length = n := by
  obtain ⟨ρ, S, args, o, r, e, _⟩ := h
  rw [r.len, e]
section
variable {M : Mx} {W : WX} {X : Cx} {a b c e : Expr} {es : List Expr} {fa fb fc : FE} {f : FE} {fr : FA} {pos p : Pos}
/-- another wish: at the caller's slots -/
theorem pE_at {ρ : List Addr} {H : Hp} {σ : L2.St} {r : XR AV} {Q : VK} (h : pE M W ρ H σ r Q) : pE M (wE (WE W σ)) ρ H [] r Q := by
  cases r with
  | ok a S => exact h
  | ex c fs S => exact h
  | bad => exact h
theorem ge_call {x : Str} {fn : Addr} {fd : FuncData} {k : Nat} {ps : List Str} {g : FF} {n : Nat} (F : FnOk X.prog X.w X.K X.mg X.base (L2.CX X.prog X.w) k fn fd ps (spG M n g)) (hl : ps.length = n) (hr : Room k X.A) (hg : Gl X x) (hm : X.mg x = some (.ref fn))
    (hk : PySem.W.keepIn X.K (.ref fn) = true) (hb : Binds X.K fd ps []) (hx : ∀ σ, PassesAt (L2.CX X.prog X.w) X σ (WE W σ)) (ha : GA M W X (e :: es) fr)
    (hdb : (x == ("__debug__" : Str)) = false := by decide) (he : starEach (e :: es) X.env = (false, eval e X.env) :: starEach es X.env := by rfl) (hpl : (backTo pos (starEach es X.env)).any (·.1) = false := by rfl) :
    GE M W X (.Call (.Name x p) (e :: es) [] pos) (fCall n g fr) := by
  obtain ⟨t, pa, qa⟩ := ha.run
  refine ⟨_, pe_callS (E := WE W) F hr hg hm hk hb hx pa hdb he hpl, fun ρ H σ Γ S Q rs h => ?_⟩
  refine qa ρ H σ Γ S _ rs (pR.imp (pR.bind (rel1 := Rvs M) h) ?_)
  rintro xs H1 ⟨ρ1, vs, S1, n1, o1, rx, h1⟩
  by_cases c : vs.length = n
  · rw [if_pos c] at h1
    exact ⟨ρ1, S1, vs, o1, rx, c, pE_at h1⟩
  · rw [if_neg c] at h1
    exact h1.elim
/-! making an instance -/
/-- C(..), what __init__ raises wished for at the slots -/
def tMkS (C : Addr) (sp : Sp) (E : L2.St → XK) (t : TA) : TE := fun σ H Q => t σ H fun vs H1 =>
  ∀ x dx, H1 x = none → H1 dx = none → dx ≠ x → sp (.ref x :: vs) (upd (upd H1 dx (.own x)) x (.ins C dx [])) (fun v H2 => v = .non ∧ Q (.ref x) H2) (E σ)
theorem pe_mkS {C fn : Addr} {x : Str} {k : Nat} {fd : FuncData} {ps : List Str} {sp : Sp} {E : L2.St → XK} {t : TA} (mk : Mk X.K C fn) (F : FnOk X.prog X.w X.K X.mg X.base (L2.CX X.prog X.w) k fn fd ps sp) (room : Room (k + 1) X.A) (hg : Gl X x) (hm : X.mg x = some (.ref C)) (bi : Binds X.K fd ps [])
    (out : ∀ σ, PassesAt (L2.CX X.prog X.w) X σ (E σ)) (ha : PA X (e :: es) t) (hdb : (x == ("__debug__" : Str)) = false := by decide) (he : starEach (e :: es) X.env = (false, eval e X.env) :: starEach es X.env := by rfl) (hpl : (backTo pos (starEach es X.env)).any (·.1) = false := by rfl) :
    PE X (.Call (.Name x p) (e :: es) [] pos) (tMkS C sp E t) := by
  constructor
  intro pins s σ H Q inv want
  apply wpAny_Call_Name_kw (ld_glob inv hg hm ?_ hdb)
  apply PySem.W.callWith_K (h₀ := X.base) inv.ok.mod.kin mk.kp (thn (ha.run pos pins s σ H _ inv want) ?_) he hpl
  rintro us s1 ⟨vs, H1, J, rel, next⟩
  refine ⟨J.kIn, ?_⟩
  -- the two new objects: the dict, the instance
  generalize hz : s1.heap.objs.size = z at *
  have fz : H1 z = none := J.hok.fresh (Nat.le_of_eq hz)
  have fx : H1 (z + 1) = none := J.hok.fresh (by rw [hz]; exact Nat.le_succ z)
  have prom := next (z + 1) z fx fz (Nat.ne_of_lt (Nat.lt_succ_self z))
  have made := Inv.made (C := C) J
  rw [hz] at made
  have both : Vals (V.ref (z + 1) :: vs) (Value.ref (z + 1) :: us) := .cons rfl rel
  have count : (Value.ref (z + 1) :: us).length = ps.length := both.length.symm.trans (F.len _ _ _ _ prom)
  have bound := bi _ (Value.ref (z + 1) :: us) made.kIn (by rw [List.append_nil]; exact count)
  rw [List.append_nil] at bound
  have ran := F.run _ X.stack _ _ ⟨Value.ref (z + 1) :: us, []⟩ (Value.ref (z + 1) :: us) _ _ (E σ) (room.make C us []) (made.env0.make C us []) bound both prom
  subst hz
  apply wpAny_call (make_map (f := fn) J.kIn mk.makes mk.init (beq_iff_eq.mp mk.fn) (codeAny_mono ran ?_))
  intro r s' h'
  match r, h' with
  | .error er, h' => exact out σ pins _ _ er s' made h'
  | .ok (.ret u), h' =>
    obtain ⟨v, H', I3, rv, ev, q3⟩ := made.after h'
    subst ev
    exact ⟨rv, ⟨V.ref _, H', I3, rfl, q3⟩⟩
  | .ok .next, h' => exact h'.elim
  | .ok .brk, h' => exact h'.elim
  | .ok .cont, h' => exact h'.elim
/-- leaving: what fin says -/
theorem fin_use {ρ : List Addr} {H : Hp} {S0 S : Sto} {t : List Addr} {H' : Hp} {x : V} {v : AV} {Q : VK} {E : XK} {H0 : Hp} {ρ0 : List Addr} {E' : WX} {σ : L2.St} (n0 : Nx ρ0 H0 ρ H) (o0 : Ok M ρ H S0) (n : Nx ρ H (ρ ++ t) H') (o : Ok M (ρ ++ t) H' S) (r : Rv M (ρ ++ t) H' x v)
    (o1 : ∀ (m : Nat) (b : Addr) (u : AO), ρ[m]? = some b → S0[m]? = some u → lfO S0.length u = true) (h : pE M E' ρ0 H0 σ (fin S0 v S) Q) : Q x H' := by
  unfold fin at h
  by_cases cl : clo S0 S
  · rw [if_pos cl] at h
    have hle : S0.length ≤ S.length := by
      have := o.len
      rw [List.length_append, o0.len] at this
      omega
    have od : Ok M ρ H' (S.take S0.length) := by
      refine ⟨by rw [List.length_take, o0.len]; omega, (List.nodup_append.mp o.nd).1, fun m b ob ha hb => ?_⟩
      have hn : m < ρ.length := (List.getElem?_eq_some_iff.mp ha).1
      have hn0 : m < S0.length := by rw [← o0.len]; exact hn
      rw [List.getElem?_take_of_lt hn0] at hb
      have h := o.obj m b ob (by rw [List.getElem?_append_left hn]; exact ha) hb
      refine h.down ?_
      rcases cl m ob hn0 hb with q | q
      · rw [o0.len]
        exact o1 m b ob ha q
      · rw [o0.len]; exact q
    have nd : Nx ρ H ρ H' := ⟨⟨[], by simp⟩, n.ext, fun a q nn => absurd q nn, n.stay⟩
    cases q : fz S0.length S v with
    | none => rw [q] at h; exact h.elim
    | some u =>
      rw [q] at h
      refine h ρ H' x (n0.trans nd) od ?_
      have plain : ∀ w, G.lf S0.length w = true → Rv M (ρ ++ t) H' x w → Rv M ρ H' x w := fun w l r => r.down (by rw [o0.len]; exact l)
      cases r with
      | @loc m b hm =>
        unfold fz at q
        dsimp only at q
        by_cases cm : m < S0.length
        · rw [if_pos cm] at q
          cases q
          exact .loc (by rw [List.getElem?_append_left (by rw [o0.len]; exact cm)] at hm; exact hm)
        · rw [if_neg cm] at q
          obtain ⟨ob, hob, ra⟩ := o.ix hm
          rw [hob] at q
          have hb : b ∉ ρ := fun hb => by
            obtain ⟨j, hj⟩ := List.mem_iff_getElem?.mp hb
            have hjl : j < ρ.length := (List.getElem?_eq_some_iff.mp hj).1
            have hj' : (ρ ++ t)[j]? = some b := by rw [List.getElem?_append_left hjl]; exact hj
            have := ix_inj o.nd hm hj'
            rw [o0.len] at hjl
            omega
          cases ob with
          | lst xs =>
            dsimp only at q
            by_cases cx : lfs S0.length xs = true
            · rw [if_pos cx] at q
              cases q
              obtain ⟨vs, e1, r1⟩ := ra
              exact .lst e1 hb (r1.down (by rw [o0.len]; exact cx))
            · rw [if_neg cx] at q
              cases q
          | ins c fs =>
            dsimp only at q
            by_cases cx : lff S0.length fs = true
            · rw [if_pos cx] at q
              cases q
              obtain ⟨dx, fv, e1, r1⟩ := ra
              exact .obj e1 hb (r1.down (by rw [o0.len]; exact cx))
            · rw [if_neg cx] at q
              cases q
          | dK kvs => cases q
          | dN kvs => cases q
      | _ =>
        unfold fz at q
        dsimp only at q
        split at q
        · rename_i l
          cases q
          refine plain _ l ?_
          first
            | exact .non | exact .bl _ | exact .int _ | exact .str _
            | (exact .tup (by assumption) (by assumption)) | (exact .lst (by assumption) (by assumption) (by assumption)) | (exact .scr (by assumption) (by assumption)) | (exact .obj (by assumption) (by assumption) (by assumption)) | (exact .exc (by assumption) (by assumption) (by assumption))
        · cases q
  · rw [if_neg cl] at h
    exact h.elim
theorem Ok.lfO {ρ : List Addr} {H : Hp} {S : Sto} (o : Ok M ρ H S) : ∀ (m : Nat) (b : Addr) (u : AO), ρ[m]? = some b → S[m]? = some u → lfO S.length u = true := fun m b u h1 h2 => by
  rw [← o.len]
  exact (o.obj m b u h1 h2).lfO
/-- the younger forgotten, for an exception -/
theorem down_use {ρ : List Addr} {H H' : Hp} {S0 S : Sto} {t : List Addr} (o0 : Ok M ρ H S0) (n : Nx ρ H (ρ ++ t) H') (cl : clo S0 S) (o : Ok M (ρ ++ t) H' S) : Ok M ρ H' (S.take S0.length) ∧ Nx ρ H ρ H' := by
  have hle : S0.length ≤ S.length := by
    have := o.len
    rw [List.length_append, o0.len] at this
    omega
  refine ⟨⟨by rw [List.length_take, o0.len]; omega, (List.nodup_append.mp o.nd).1, fun m b ob ha hb => ?_⟩, ⟨⟨[], by simp⟩, n.ext, fun a q nn => absurd q nn, n.stay⟩⟩
  have hn : m < ρ.length := (List.getElem?_eq_some_iff.mp ha).1
  have hn0 : m < S0.length := by rw [← o0.len]; exact hn
  rw [List.getElem?_take_of_lt hn0] at hb
  have h := o.obj m b ob (by rw [List.getElem?_append_left hn]; exact ha) hb
  refine h.down ?_
  rcases cl m ob hn0 hb with q | q
  · exact (o0.obj m b ob ha q).lfO
  · rw [o0.len]; exact q
/-- how a def may be left -/
def Lv (M : Mx) (lv : Sto → SR → XR AV) : Prop := ∀ ρ H S E r Q, Ok M ρ H S → pE M (wE E) ρ H [] (lv S r) Q → pS M (wE E) ρ H r { nx := fun _ H' => Q .non H', rt := Q }
theorem lv_F : Lv M lvF := fun ρ H S0 E r Q o0 h => by
  cases r with
  | nx Γ S =>
    intro ρ' H' σ' n rs
    obtain ⟨t, rfl⟩ := id n.pre
    exact fin_use (E := E) (ρ := ρ) (Nx.refl _ _) o0 n rs.ok .non o0.lfO h
  | rt v S =>
    intro ρ' H' x n o rv
    obtain ⟨t, rfl⟩ := id n.pre
    exact fin_use (E := E) (ρ := ρ) (Nx.refl _ _) o0 n o rv o0.lfO h
  | ex c fs Γ S =>
    intro ρ' H' σ' d fv n rs hd nd r
    obtain ⟨t, rfl⟩ := id n.pre
    unfold lvF at h
    dsimp only at h
    by_cases cl : clo S0 S ∧ lff S0.length fs = true
    · rw [if_pos cl] at h
      obtain ⟨od, n1⟩ := down_use o0 n cl.1 rs.ok
      exact h ρ H' d fv n1 od hd (fun z => nd (List.mem_append_left _ z)) (r.down (by rw [o0.len]; exact cl.2))
    · rw [if_neg cl] at h
      exact h.elim
  | bk Γ S => exact h.elim
  | ct Γ S => exact h.elim
  | bad => exact h.elim
theorem lv_K : Lv M lvK := fun ρ H S0 E r Q o0 h => by
  cases r with
  | nx Γ S => exact fun ρ' H' σ' n rs => h ρ' H' _ n rs.ok .non
  | rt v S => exact fun ρ' H' x n o rv => h ρ' H' _ n o rv
  | ex c fs Γ S => exact fun ρ' H' σ' d fv n rs hd nd r => h ρ' H' d fv n rs.ok hd nd r
  | bk Γ S => exact h.elim
  | ct Γ S => exact h.elim
  | bad => exact h.elim
theorem lv_L : Lv M lvL := fun ρ H S0 E r Q o0 h => by
  cases r with
  | nx Γ S => exact h.elim
  | rt v S =>
    intro ρ' H' x n o rv
    obtain ⟨t, rfl⟩ := id n.pre
    cases rv with
    | @loc m b hm =>
      obtain ⟨ob, hob, ra⟩ := o.ix hm
      unfold lvL at h
      dsimp only at h
      rw [hob] at h
      dsimp only at h
      by_cases cl : clo S0 S ∧ S0.length ≤ m ∧ lfO S0.length ob = true
      · rw [if_pos cl] at h
        obtain ⟨od, n1⟩ := down_use o0 n cl.1 o
        have hb : b ∉ ρ := fun hb => by
          obtain ⟨j, hj⟩ := List.mem_iff_getElem?.mp hb
          have hjl : j < ρ.length := (List.getElem?_eq_some_iff.mp hj).1
          have hj' : (ρ ++ t)[j]? = some b := by rw [List.getElem?_append_left hjl]; exact hj
          have := ix_inj o.nd hm hj'
          rw [o0.len] at hjl
          have := cl.2.1
          omega
        have hb0 : H b = none := n.new b (List.mem_of_getElem? hm) hb
        have n2 : Nx ρ H (ρ ++ [b]) H' := ⟨⟨[b], rfl⟩, n1.ext, fun a q nn => by
          rcases List.mem_append.mp q with z | z
          · exact absurd z nn
          · rw [List.mem_singleton.mp z]; exact hb0, n1.stay⟩
        have sb : Sub ρ.length (ρ ++ [b]) (ρ ++ t) := ⟨fun i hi => by rw [List.getElem?_append_left hi, List.getElem?_append_left hi], fun a ha => by
          rcases List.mem_append.mp ha with z | z
          · exact List.mem_append_left _ z
          · rw [List.mem_singleton.mp z]; exact List.mem_of_getElem? hm⟩
        have ok2 : Ok M (ρ ++ [b]) H' (S.take S0.length ++ [ob]) := by
          have l0 := od.len
          refine ⟨by rw [List.length_append, List.length_append, l0]; rfl, ?_, fun i a u ha hu => ?_⟩
          · rw [List.nodup_append]
            exact ⟨od.nd, by simp, fun a ha c hc e => hb (by rw [List.mem_singleton.mp hc] at e; rw [← e]; exact ha)⟩
          · by_cases hi : i < ρ.length
            · have ha' := ha
              rw [List.getElem?_append_left hi] at ha
              rw [List.getElem?_append_left (by rw [← l0]; exact hi)] at hu
              have hi0 : i < S0.length := by rw [← o0.len]; exact hi
              have hu' := hu
              rw [List.getElem?_take_of_lt hi0] at hu'
              have q := o.obj i a u (by rw [List.getElem?_append_left hi]; exact ha) hu'
              exact q.sub sb (od.obj i a u ha hu).lfO
            · have e : i = ρ.length := by
                have := (List.getElem?_eq_some_iff.mp ha).1
                simp at this
                omega
              subst e
              rw [List.getElem?_append_right (Nat.le_refl _)] at ha
              rw [l0, List.getElem?_append_right (Nat.le_refl _)] at hu
              simp at ha hu
              subst ha hu
              exact ra.sub sb (by rw [o0.len]; exact cl.2.2)
        refine h _ H' _ n2 ok2 (.loc ?_)
        rw [← o0.len, List.getElem?_append_right (Nat.le_refl _)]
        simp
      · rw [if_neg cl] at h
        exact h.elim
    | _ => exact h.elim
  | ex c fs Γ S =>
    intro ρ' H' σ' d fv n rs hd nd r
    obtain ⟨t, rfl⟩ := id n.pre
    unfold lvL at h
    dsimp only at h
    by_cases cl : clo S0 S ∧ lff S0.length fs = true
    · rw [if_pos cl] at h
      obtain ⟨od, n1⟩ := down_use o0 n cl.1 rs.ok
      exact h ρ H' d fv n1 od hd (fun z => nd (List.mem_append_left _ z)) (r.down (by rw [o0.len]; exact cl.2))
    · rw [if_neg cl] at h
      exact h.elim
  | bk Γ S => exact h.elim
  | ct Γ S => exact h.elim
  | bad => exact h.elim
end
end G

set_option Elab.async false
set_option linter.all false
set_option maxRecDepth 100000
set_option maxHeartbeats 4000000
/-! G, the rules: making, built-ins, what loops walk, comprehensions. -/
namespace G
open PySem PySem.Spec PyProof.Rows L2
section
variable {M : Mx} {W : WX} {X : Cx} {a b c e : Expr} {es : List Expr} {fa fb fc : FE} {f : FE} {fr : FA} {pos p : Pos}

/-- C(..) of a class whose instances do not change behind their making -/
theorem ge_new {x : Str} {fn : Addr} {fd : FuncData} {k : Nat} {ps : List Str} {g : FF} {n c : Nat} (m : MX M X) (mk : Mk X.K (M.cx c) fn) (F : FnOk X.prog X.w X.K X.mg X.base (L2.CX X.prog X.w) k fn fd ps (spG M (n + 1) g)) (hr : Room (k + 1) X.A) (hg : Gl X x) (hm : X.mg x = some (.ref (M.cx c)))
    (hb : Binds X.K fd ps []) (hx : ∀ σ, PassesAt (L2.CX X.prog X.w) X σ (WE W σ)) (ha : GA M W X (e :: es) fr) (hdb : (x == ("__debug__" : Str)) = false := by decide)
    (he : starEach (e :: es) X.env = (false, eval e X.env) :: starEach es X.env := by rfl) (hpl : (backTo pos (starEach es X.env)).any (·.1) = false := by rfl) :
    GE M W X (.Call (.Name x p) (e :: es) [] pos) (fCall n (gNew c g) fr) := by
  obtain ⟨t, pa, qa⟩ := ha.run
  refine ⟨_, pe_mkS (E := WE W) mk F hr hg hm hb hx pa hdb he hpl, fun ρ H σ Γ S Q rs h => ?_⟩
  refine qa ρ H σ Γ S _ rs (pR.imp (pR.bind (rel1 := Rvs M) h) ?_)
  rintro xs H1 ⟨ρ1, vs, S1, n1, o1, rx, h1⟩ x dx hx0 hd0 hne
  by_cases cl : vs.length = n
  case neg => rw [if_neg cl] at h1; exact h1.elim
  rw [if_pos cl] at h1
  have hx1 : upd H1 dx (.own x) x = none := by rw [upd_ne (Ne.symm hne)]; exact hx0
  have na : Nx ρ1 H1 ρ1 (upd H1 dx (.own x)) := Nx.new1 hd0
  have nb : Nx ρ1 H1 (ρ1 ++ [x]) (upd (upd H1 dx (.own x)) x (.ins (M.cx c) dx [])) := na.trans (Nx.push hx1)
  have ob := (o1.new1 (o := .own x) hd0).push (o := .ins (M.cx c) dx []) (u := .ins c []) hx1 ⟨dx, [], upd_same, .nil⟩
  have hl : (ρ1 ++ [x])[S1.length]? = some x := at_last o1 x
  refine ⟨ρ1 ++ [x], S1 ++ [.ins c []], .loc S1.length :: vs, ob, .cons (.loc hl) (rx.mono nb), by simp [cl], ?_⟩
  unfold gNew at h1
  cases q : g (.loc S1.length :: vs) (S1 ++ [.ins c []]) with
  | ok u S2 =>
    rw [q] at h1
    intro ρ3 H3 y n3 o3 ry
    obtain ⟨t3, rfl⟩ := id n3.pre
    cases u with
    | non =>
      cases ry
      refine ⟨rfl, ?_⟩
      have n4 := nb.trans n3
      rw [List.append_assoc] at n4 o3 n3
      refine fin_use (E := fun _ _ _ => False) (H0 := H1) (ρ0 := ρ1) (E' := W) (σ := σ) (Nx.refl _ _) o1 n4 o3 (.loc ?_) o1.lfO h1
      rw [← List.append_assoc, List.getElem?_append_left (by rw [List.length_append, o1.len]; simp)]
      exact hl
    | _ => exact h1.elim
  | ex c' fs S2 =>
    rw [q] at h1
    intro ρ3 H3 d fv n3 o3 hd nd r
    obtain ⟨t3, rfl⟩ := id n3.pre
    unfold lvF at h1
    dsimp only at h1
    by_cases cx : clo S1 S2 ∧ lff S1.length fs = true
    · rw [if_pos cx] at h1
      have n4 := nb.trans n3
      rw [List.append_assoc] at n4 o3 n3 nd r
      obtain ⟨od, n5⟩ := down_use o1 n4 cx.1 o3
      exact h1 ρ1 H3 d fv n5 od hd (fun z => nd (List.mem_append_left _ z)) (r.down (by rw [o1.len]; exact cx.2))
    · rw [if_neg cx] at h1
      exact h1.elim
  | bad => rw [q] at h1; exact h1.elim
/-- .. whose instances may change -/
theorem ge_newM {x : Str} {fn : Addr} {fd : FuncData} {k : Nat} {ps : List Str} {g : FF} {n c : Nat} (m : MX M X) (mk : Mk X.K (M.cx c) fn) (F : FnOk X.prog X.w X.K X.mg X.base (L2.CX X.prog X.w) k fn fd ps (spG M (n + 1) g)) (hr : Room (k + 1) X.A) (hg : Gl X x) (hm : X.mg x = some (.ref (M.cx c)))
    (hb : Binds X.K fd ps []) (hx : ∀ σ, PassesAt (L2.CX X.prog X.w) X σ (WE W σ)) (ha : GA M W X (e :: es) fr) (hdb : (x == ("__debug__" : Str)) = false := by decide)
    (he : starEach (e :: es) X.env = (false, eval e X.env) :: starEach es X.env := by rfl) (hpl : (backTo pos (starEach es X.env)).any (·.1) = false := by rfl) :
    GE M W X (.Call (.Name x p) (e :: es) [] pos) (fCall n (gNewM c g) fr) := by
  obtain ⟨t, pa, qa⟩ := ha.run
  refine ⟨_, pe_mkS (E := WE W) mk F hr hg hm hb hx pa hdb he hpl, fun ρ H σ Γ S Q rs h => ?_⟩
  refine qa ρ H σ Γ S _ rs (pR.imp (pR.bind (rel1 := Rvs M) h) ?_)
  rintro xs H1 ⟨ρ1, vs, S1, n1, o1, rx, h1⟩ x dx hx0 hd0 hne
  by_cases cl : vs.length = n
  case neg => rw [if_neg cl] at h1; exact h1.elim
  rw [if_pos cl] at h1
  have hx1 : upd H1 dx (.own x) x = none := by rw [upd_ne (Ne.symm hne)]; exact hx0
  have na : Nx ρ1 H1 ρ1 (upd H1 dx (.own x)) := Nx.new1 hd0
  have nb : Nx ρ1 H1 (ρ1 ++ [x]) (upd (upd H1 dx (.own x)) x (.ins (M.cx c) dx [])) := na.trans (Nx.push hx1)
  have ob := (o1.new1 (o := .own x) hd0).push (o := .ins (M.cx c) dx []) (u := .ins c []) hx1 ⟨dx, [], upd_same, .nil⟩
  have hl : (ρ1 ++ [x])[S1.length]? = some x := at_last o1 x
  refine ⟨ρ1 ++ [x], S1 ++ [.ins c []], .loc S1.length :: vs, ob, .cons (.loc hl) (rx.mono nb), by simp [cl], ?_⟩
  unfold gNewM at h1
  cases q : g (.loc S1.length :: vs) (S1 ++ [.ins c []]) with
  | ok u S2 =>
    rw [q] at h1
    intro ρ3 H3 y n3 o3 ry
    cases u with
    | non =>
      cases ry
      exact ⟨rfl, h1 ρ3 H3 _ (nb.trans n3) o3 (.loc (n3.at hl))⟩
    | _ => exact h1.elim
  | ex c' fs S2 =>
    rw [q] at h1
    exact fun ρ3 H3 d fv n3 o3 hd nd r => h1 ρ3 H3 d fv (nb.trans n3) o3 hd nd r
  | bad => rw [q] at h1; exact h1.elim

/-! ### built-ins -/
structure CG (M : Mx) (X : Cx) (f : Value) (g : List AV → Sto → XR AV) : Prop where
  run : ∃ r, CallR X f r ∧ ∀ W ρ H σ S xs vs Q, Ok M ρ H S → Rvs M ρ H xs vs → pE M W ρ H σ (g vs S) Q → r xs H Q
theorem ge_callB {x : Str} {id : String} {g : List AV → Sto → XR AV} (o : CG M X (.builtin id) g) (hg : Gl X x) (hm : X.mg x = none) (hv : bootBuiltins x = some (.builtin id)) (ha : GA M W X (e :: es) fr) (hn : x ≠ "__name__" := by decide) (hdb : (x == ("__debug__" : Str)) = false := by decide)
    (he : starEach (e :: es) X.env = (false, eval e X.env) :: starEach es X.env := by rfl) (hpl : (backTo pos (starEach es X.env)).any (·.1) = false := by rfl) : GE M W X (.Call (.Name x p) (e :: es) [] pos) (fB g fr) := by
  obtain ⟨t, pa, qa⟩ := ha.run
  obtain ⟨r, ro, hr⟩ := o.run
  refine ⟨_, pe_callB ro hg hm hv pa hn hdb he hpl, fun ρ H σ Γ S Q rs h => ?_⟩
  refine qa ρ H σ Γ S _ rs (pR.imp (pR.bind (rel1 := Rvs M) h) ?_)
  rintro xs H1 ⟨ρ1, vs, S1, n1, o1, rx, h1⟩
  exact hr W ρ1 H1 σ S1 xs vs Q o1 rx h1
theorem ge_callT {x : Str} {T : String} {g : List AV → Sto → XR AV} (o : CG M X (.type T) g) (hg : Gl X x) (hm : X.mg x = none) (hv : bootBuiltins x = some (.type T)) (ha : GA M W X (e :: es) fr) (hn : x ≠ "__name__" := by decide) (hdb : (x == ("__debug__" : Str)) = false := by decide)
    (he : starEach (e :: es) X.env = (false, eval e X.env) :: starEach es X.env := by rfl) (hpl : (backTo pos (starEach es X.env)).any (·.1) = false := by rfl) : GE M W X (.Call (.Name x p) (e :: es) [] pos) (fB g fr) := by
  obtain ⟨t, pa, qa⟩ := ha.run
  obtain ⟨r, ro, hr⟩ := o.run
  refine ⟨_, pe_callTy ro hg hm hv pa hn hdb he hpl, fun ρ H σ Γ S Q rs h => ?_⟩
  refine qa ρ H σ Γ S _ rs (pR.imp (pR.bind (rel1 := Rvs M) h) ?_)
  rintro xs H1 ⟨ρ1, vs, S1, n1, o1, rx, h1⟩
  exact hr W ρ1 H1 σ S1 xs vs Q o1 rx h1
theorem call_lenK : CallR X (.builtin "len") (fun xs H Q => ∃ d kv, xs = [.ref d] ∧ H d = some (.dK kv) ∧ Q (.int kv.length) H) := by
  intro pins s σ H xs us Q I r h
  obtain ⟨d, kv, rfl, hd, h⟩ := h
  rw [Vals.ref1 r]
  exact d_len I (.inl hd) fun t s' J => ⟨.int kv.length, H, J, ⟨t, rfl⟩, h⟩
theorem cg_len (m : MX M X) : CG M X (.builtin "len") gLen := by
  refine ⟨_, call_len_seq.or (call_len_str.or call_lenK), fun W ρ H σ S xs vs Q k rx h => ?_⟩
  cases rx with
  | nil => exact h.elim
  | cons r rs =>
    cases rs with
    | cons r2 rs2 => cases r <;> exact h.elim
    | nil =>
      cases r with
      | tup hs r => exact .inl ⟨_, _, rfl, .inr (by rw [m.K]; exact hs.sq), by rw [r.len]; exact h ρ H _ (Nx.refl _ _) k (.int _)⟩
      | lst hs n r => exact .inl ⟨_, _, rfl, .inl (SqL.of hs), by rw [r.len]; exact h ρ H _ (Nx.refl _ _) k (.int _)⟩
      | scr hs r => exact .inl ⟨_, _, rfl, .inl (by rw [m.K]; exact hs.sq), by rw [r.len]; exact h ρ H _ (Nx.refl _ _) k (.int _)⟩
      | str z =>
        unfold gLen at h
        dsimp only at h
        by_cases c : z.length ≤ sizeLine
        · rw [if_pos c] at h
          exact .inr (.inl ⟨z, rfl, c, h ρ H _ (Nx.refl _ _) k (.int _)⟩)
        · rw [if_neg c] at h
          exact h.elim
      | loc hn =>
        obtain ⟨o, ho, ra⟩ := k.ix hn
        unfold gLen at h
        dsimp only at h
        rw [ho] at h
        cases o with
        | lst xs =>
          obtain ⟨vs, ha, r⟩ := ra
          exact .inl ⟨_, _, rfl, .inl (SqL.of ha), by rw [r.len]; exact h ρ H _ (Nx.refl _ _) k (.int _)⟩
        | dK kvs =>
          obtain ⟨kv, ha, r⟩ := ra
          exact .inr (.inr ⟨_, kv, rfl, ha, by rw [r.len]; exact h ρ H _ (Nx.refl _ _) k (.int _)⟩)
        | _ => exact h.elim
      | _ => exact h.elim
theorem cg_int : CG M X (.type "int") gInt := by
  refine ⟨_, call_int1, fun W ρ H σ S xs vs Q k rx h => ?_⟩
  cases rx with
  | nil => exact h.elim
  | cons r rs =>
    cases rs with
    | cons r2 rs2 => cases r <;> exact h.elim
    | nil =>
      cases r with
      | int i => exact .inl ⟨i, rfl, h ρ H _ (Nx.refl _ _) k (.int _)⟩
      | bl b => exact .inr ⟨b, rfl, h ρ H _ (Nx.refl _ _) k (.int _)⟩
      | _ => exact h.elim
theorem cg_abs : CG M X (.builtin "abs") gAbs := by
  refine ⟨_, call_abs, fun W ρ H σ S xs vs Q k rx h => ?_⟩
  cases rx with
  | nil => exact h.elim
  | cons r rs =>
    cases rs with
    | cons r2 rs2 => cases r <;> exact h.elim
    | nil =>
      cases r with
      | int i => exact ⟨i, rfl, h ρ H _ (Nx.refl _ _) k (.int _)⟩
      | _ => exact h.elim
theorem cg_tuple (m : MX M X) : CG M X (.type "tuple") gTuple := by
  refine ⟨_, call_tuple_of, fun W ρ H σ S xs vs Q k rx h => ?_⟩
  cases rx with
  | nil => exact h.elim
  | cons r rs =>
    cases rs with
    | cons r2 rs2 => cases r <;> exact h.elim
    | nil =>
      cases r with
      | tup hs r => exact ⟨_, _, rfl, .inr ⟨by rw [m.K]; exact hs.sq, h ρ H _ (Nx.refl _ _) k (.tup hs r)⟩⟩
      | lst hs n r => exact ⟨_, _, rfl, .inl ⟨SqL.of hs, fun p hp => h ρ _ _ (Nx.new1 hp) (k.new1 hp) (.tup (.inl ⟨.inl upd_same, k.fresh hp⟩) (r.mono (Nx.new1 hp)))⟩⟩
      | loc hn =>
        obtain ⟨o, ho, ra⟩ := k.ix hn
        unfold gTuple at h
        dsimp only at h
        rw [ho] at h
        cases o with
        | lst xs =>
          obtain ⟨vs, ha, r⟩ := ra
          exact ⟨_, _, rfl, .inl ⟨SqL.of ha, fun p hp => h ρ _ _ (Nx.new1 hp) (k.new1 hp) (.tup (.inl ⟨.inl upd_same, k.fresh hp⟩) (r.mono (Nx.new1 hp)))⟩⟩
        | _ => exact h.elim
      | _ => exact h.elim
theorem list_use {W : WX} {ρ : List Addr} {H : Hp} {σ : L2.St} {S : Sto} {xs : List V} {vs : List AV} {g : List AV → Sto → XR AV} {Q : VK} {F : List AV → Sto → XR AV} (m : MX M X) (k : Ok M ρ H S) (rx : Rvs M ρ H xs vs)
    (hg : ∀ vs S, g vs S = (match gList vs S with | .ok (.lst ys) S => F ys S | _ => .bad)) (h : pE M W ρ H σ (g vs S) Q) : ∃ p ys zs, xs = [.ref p] ∧ (SqL X.K H p ys ∨ SqT X.K H p ys) ∧ Rvs M ρ H ys zs ∧ pE M W ρ H σ (F zs S) Q := by
  rw [hg] at h
  cases rx with
  | nil => exact h.elim
  | cons r rs =>
    cases rs with
    | cons r2 rs2 => cases r <;> exact h.elim
    | nil =>
      cases r with
      | tup hs r => exact ⟨_, _, _, rfl, .inr (by rw [m.K]; exact hs.sq), r, h⟩
      | lst hs n r => exact ⟨_, _, _, rfl, .inl (SqL.of hs), r, h⟩
      | loc hn =>
        obtain ⟨o, ho, ra⟩ := k.ix hn
        unfold gList at h
        dsimp only at h
        rw [ho] at h
        cases o with
        | lst xs =>
          obtain ⟨vs, ha, r⟩ := ra
          exact ⟨_, _, _, rfl, .inl (SqL.of ha), r, h⟩
        | _ => exact h.elim
      | _ => exact h.elim
theorem gList_eq (vs : List AV) (S : Sto) : gList vs S = (match gList vs S with | .ok (.lst ys) S => .ok (.lst ys) S | _ => .bad) := by
  unfold gList
  split <;> first | rfl | (split <;> rfl)
theorem gListM_eq (vs : List AV) (S : Sto) : gListM vs S = (match gList vs S with | .ok (.lst ys) S => .ok (.loc S.length) (S ++ [.lst ys]) | _ => .bad) := rfl
theorem cg_list (m : MX M X) : CG M X (.type "list") gList := by
  refine ⟨_, call_list_of, fun W ρ H σ S xs vs Q k rx h => ?_⟩
  obtain ⟨p, ys, zs, rfl, hs, r, h⟩ := list_use m k rx gList_eq h
  exact ⟨p, ys, rfl, hs, fun l hl => h ρ _ _ (Nx.new1 hl) (k.new1 hl) (.lst upd_same (k.fresh hl) (r.mono (Nx.new1 hl)))⟩
theorem cg_listM (m : MX M X) : CG M X (.type "list") gListM := by
  refine ⟨_, call_list_of, fun W ρ H σ S xs vs Q k rx h => ?_⟩
  obtain ⟨p, ys, zs, rfl, hs, r, h⟩ := list_use m k rx gListM_eq h
  exact ⟨p, ys, rfl, hs, fun l hl => h _ _ _ (Nx.push hl) (k.push hl ⟨_, upd_same, r.mono (Nx.push hl)⟩) (.loc (at_last k l))⟩

/-! ### methods of built-in types -/
structure MG (M : Mx) (X : Cx) (id : String) (g : AV → List AV → Sto → XR AV) : Prop where
  run : ∃ r, MtR X id r ∧ ∀ W ρ H σ S x v xs vs Q, Ok M ρ H S → Rv M ρ H x v → Rvs M ρ H xs vs → pE M W ρ H σ (g v vs S) Q → r x xs H Q
structure TyG (M : Mx) (X : Cx) (T : String) (ty : AV → Sto → Bool) : Prop where
  run : ∀ ρ H S x v, Ok M ρ H S → Rv M ρ H x v → ty v S = true → tyV X.K T x H
theorem ty_str : TyG M X "str" tyS := ⟨fun ρ H S x v k r h => by cases r <;> first | rfl | cases h⟩
theorem ty_list (m : MX M X) : TyG M X "list" tyL := ⟨fun ρ H S x v k r h => by
  cases r with
  | lst hs n r => exact .inl ⟨rfl, _, SqL.of hs⟩
  | scr hs r => exact .inl ⟨rfl, _, by rw [m.K]; exact hs.sq⟩
  | loc hn =>
    obtain ⟨o, ho, ra⟩ := k.ix hn
    unfold tyL at h
    dsimp only at h
    rw [ho] at h
    cases o with
    | lst xs =>
      obtain ⟨vs, ha, r⟩ := ra
      exact .inl ⟨rfl, _, SqL.of ha⟩
    | _ => cases h
  | _ => cases h⟩
theorem ge_m {o : Expr} {T id : String} {name : Str} {apos cpos : Pos} {ty : AV → Sto → Bool} {g : AV → List AV → Sto → XR AV} (pa : PlainAttrs T) (slot : Slot T name id) (hty : typeOf (.builtin id) = pure (.type "method_descriptor")) (hm : MG M X id g) (ht : TyG M X T ty) (ho : GE M W X o fa) (ha : GA M W X (e :: es) fr)
    (hbase : attributeBase o name X.env (eval o X.env) = eval o X.env := by rfl)
    (hfew : ((backTo cpos (starEach (e :: es) X.env)).all (fun x => !x.1) && (backToKw cpos (keywordEach [] X.env)).all (fun x => x.1.isSome)
      && decide ((e :: es).length + ([] : List Keyword).length + (if ([] : List Keyword).isEmpty then 0 else 1) < 30)) = true := by rfl)
    (hline : (apos.endLine == cpos.line) = true := by rfl) (hs : starEach (e :: es) X.env = (false, eval e X.env) :: starEach es X.env := by rfl) (hplain : (backTo cpos (starEach es X.env)).any (·.1) = false := by rfl) :
    GE M W X (.Call (.Attribute o name apos) (e :: es) [] cpos) (fM ty g fa fr) := by
  obtain ⟨r, rm, hr⟩ := hm.run
  obtain ⟨to, po, qo⟩ := ho.run
  obtain ⟨t, pr, qr⟩ := ha.run
  refine ⟨_, pe_bm pa slot hty rm po pr hbase hfew hline hs hplain, fun ρ H σ Γ S Q rs h => ?_⟩
  refine qo ρ H σ Γ S _ rs (pR.imp (pR.bind (rel1 := Rv M) h) ?_)
  rintro x H1 ⟨ρ1, vx, S1, n1, o1, rx, h1⟩
  by_cases c : ty vx S1 = true
  · rw [if_pos c] at h1
    refine ⟨ht.run ρ1 H1 S1 x vx o1 rx c, ?_⟩
    refine qr ρ1 H1 σ Γ S1 _ ⟨o1, rs.en.mono n1⟩ (pR.imp (pR.bind (rel1 := Rvs M) h1) ?_)
    rintro xs H2 ⟨ρ2, vs, S2, n2, o2, rxs, h2⟩
    exact hr W ρ2 H2 σ S2 x vx xs vs Q o2 (rx.mono n2) rxs h2
  · rw [if_neg c] at h1
    exact h1.elim
theorem mg_append : MG M X "list.append" gApp := by
  refine ⟨_, mt_append, fun W ρ H σ S x v xs vs Q k r rs h => ?_⟩
  cases r with
  | loc hn =>
    cases rs with
    | nil => exact h.elim
    | cons r1 r2 =>
      cases r2 with
      | cons _ _ => exact h.elim
      | nil =>
        obtain ⟨o, ho, ra⟩ := k.ix hn
        unfold gApp at h
        dsimp only at h
        rw [ho] at h
        cases o with
        | lst zs =>
          dsimp only at h
          obtain ⟨ws, ha, rz⟩ := ra
          by_cases c : zs.length < sizeLine
          · rw [if_pos c] at h
            refine ⟨_, ws, _, rfl, rfl, ha, by rw [rz.len]; exact c, ?_⟩
            exact h ρ _ _ (Nx.set hn) (k.set hn ⟨_, upd_same, (rz.app (.cons r1 .nil)).mono (Nx.set hn)⟩) .non
          · rw [if_neg c] at h
            exact h.elim
        | _ => exact h.elim
  | _ => exact h.elim
theorem strs_of {ρ : List Addr} {H : Hp} : ∀ {vs : List V} {xs : List AV} {ys : List Str}, Rvs M ρ H vs xs → strsA xs = some ys → vs = ys.map V.str
  | _, _, _, .nil, e => by cases e; rfl
  | _, _, ys, .cons (v := v) (vs := vs) h r, e => by
    cases h with
    | str s =>
      unfold strsA at e
      cases q : strsA vs with
      | none => rw [q] at e; cases e
      | some zs =>
        rw [q] at e
        cases e
        rw [List.map_cons, strs_of r q]
    | _ => cases e
theorem mg_join : MG M X "str.join" gJoin := by
  refine ⟨_, mt_join, fun W ρ H σ S x v xs vs Q k r rs h => ?_⟩
  cases r with
  | str a =>
    cases rs with
    | nil => exact h.elim
    | cons r1 r2 =>
      cases r2 with
      | cons _ _ => cases r1 <;> exact h.elim
      | nil =>
        cases r1 with
        | @lst p vs xs hs n r =>
          unfold gJoin at h
          dsimp only at h
          cases q : strsA xs with
          | none => rw [q] at h; exact h.elim
          | some ys =>
            rw [q] at h
            dsimp only at h
            by_cases c : (ys.map (·.length)).sum + ys.length * a.length ≤ 16777216
            · rw [if_pos c] at h
              refine ⟨a, _, ys, rfl, rfl, .inl (SqL.of ?_), c, by rw [TL.join_eq]; exact h ρ H _ (Nx.refl _ _) k (.str _)⟩
              rw [← strs_of r q]
              exact hs
            · rw [if_neg c] at h
              exact h.elim
        | _ => exact h.elim
  | _ => exact h.elim
theorem mg_sindex : MG M X "str.index" gSIx := by
  refine ⟨_, mt_sindex, fun W ρ H σ S x v xs vs Q k r rs h => ?_⟩
  cases r with
  | str a =>
    cases rs with
    | nil => exact h.elim
    | cons r1 r2 =>
      cases r2 with
      | cons _ _ => cases r1 <;> exact h.elim
      | nil =>
        cases r1 with
        | str b =>
          unfold gSIx at h
          dsimp only at h
          cases q : Builtin.Str.occurrences a b 0 a.length 1 with
          | nil => rw [q] at h; exact h.elim
          | cons i rest =>
            rw [q] at h
            exact ⟨a, b, i, rest, rfl, rfl, q, h ρ H _ (Nx.refl _ _) k (.int _)⟩
        | _ => exact h.elim
  | _ => exact h.elim
end
end G

set_option Elab.async false
set_option linter.all false
set_option maxRecDepth 100000
set_option maxHeartbeats 4000000
/-! G, the rules: statements, loops, defs. -/
namespace G
open PySem PySem.Spec PyProof.Rows L2
section
variable {M : Mx} {W : WX} {X : Cx} {a b c e o i : Expr} {es : List Expr} {fa fb fc fo fi : FE} {f : FE} {fr : FA} {pos p pos' : Pos} {st : Stmt} {rest : List Stmt} {s t u : FSt} {tC : FT}

/-! ### small statements -/
theorem gss_nil : GSs M W X [] fNx := ⟨_, pss_nil, fun ρ H σ Γ S D rs h => h ρ H σ (Nx.refl _ _) rs⟩
theorem seq_use {ρ : List Addr} {H : Hp} {r : SR} {k : Sl → Sto → SR} {D : Ends} {T : TS} (hT : ∀ ρ H σ Γ S, Rs M ρ H σ Γ S → pS M W ρ H (k Γ S) D → T D σ H) (h : pS M W ρ H (match r with | .nx Γ S => k Γ S | r => r) D) : pS M W ρ H r { D with nx := T D } := by
  cases r with
  | nx Γ S => exact fun ρ' H' σ' n rs => hT ρ' H' σ' Γ S rs (pS.mono h n)
  | rt v S => exact h
  | bk Γ S => exact h
  | ct Γ S => exact h
  | ex c fs Γ S => exact h
  | bad => exact h
theorem gss_cons (h1 : GS M W X st s) (h2 : GSs M W X rest t) : GSs M W X (st :: rest) (fSeq s t) := by
  obtain ⟨T, p, q⟩ := h1.run
  obtain ⟨U, p', q'⟩ := h2.run
  exact ⟨_, pss_cons p p', fun ρ H σ Γ S D rs h => q ρ H σ Γ S _ rs (seq_use (fun ρ H σ Γ S => q' ρ H σ Γ S D) h)⟩
theorem gss_one (h1 : GS M W X st s) : GSs M W X [st] s := by
  obtain ⟨T, p, q⟩ := h1.run
  exact ⟨_, pss_one p, q⟩
theorem gs_pass : GS M W X (.Pass pos) fNx := ⟨_, ps_pass, fun ρ H σ Γ S D rs h => h ρ H σ (Nx.refl _ _) rs⟩
theorem gs_break : GS M W X (.Break pos) fBk := ⟨_, ps_break, fun ρ H σ Γ S D rs h => h ρ H σ (Nx.refl _ _) rs⟩
theorem gs_continue : GS M W X (.Continue pos) fCt := ⟨_, ps_continue, fun ρ H σ Γ S D rs h => h ρ H σ (Nx.refl _ _) rs⟩
theorem gs_expr (he : GE M W X e f) (hs : swapsWith e none pos.line X.env = pure false := by rfl) : GS M W X (.Expr e pos) (fDrop f) := by
  obtain ⟨T, p, q⟩ := he.run
  refine ⟨_, ps_expr p hs, fun ρ H σ Γ S D rs h => q ρ H σ Γ S _ rs (pR.imp (pS.st rs.en h) ?_)⟩
  rintro x H1 ⟨ρ1, v, S1, n1, o1, rx, h1⟩
  exact h1 ρ1 H1 σ (Nx.refl _ _) ⟨o1, rs.en.mono n1⟩
theorem gs_ret (he : GE M W X e f) : GS M W X (.Return (some e) pos) (fRet f) := by
  obtain ⟨T, p, q⟩ := he.run
  refine ⟨_, ps_ret p, fun ρ H σ Γ S D rs h => q ρ H σ Γ S _ rs (pR.imp (pS.st rs.en h) ?_)⟩
  rintro x H1 ⟨ρ1, v, S1, n1, o1, rx, h1⟩
  exact h1 ρ1 H1 x (Nx.refl _ _) o1 rx
theorem gs_retN : GS M W X (.Return none pos) (fRet (fC .non)) := ⟨_, ps_retN, fun ρ H σ Γ S D rs h => h ρ H _ (Nx.refl _ _) rs.ok .non⟩
theorem gs_set {i : Nat} {x : Str} (hN : X.N.Nodup) (hi : X.N[i]? = some x) (hx : Loc X.env.scope x) (he : GE M W X e f) (hs : swapsWith e (some (.Name x pos')) pos.line X.env = pure false := by rfl) (hf : X.fn x = true ∨ X.env.scope.names.lookup x = some .local := by first | exact .inl rfl | exact .inr rfl | assumption) :
    GS M W X (.Assign [.Name x pos'] e pos) (fAsg i f) := by
  obtain ⟨T, p, q⟩ := he.run
  refine ⟨_, ps_set hN hi hx p hs hf, fun ρ H σ Γ S D rs h => q ρ H σ Γ S _ rs (pR.imp (pS.st rs.en h) ?_)⟩
  rintro x H1 ⟨ρ1, v, S1, n1, o1, rx, h1⟩
  exact h1 ρ1 H1 _ (Nx.refl _ _) ⟨o1, (rs.en.mono n1).put i rx⟩
theorem gs_if {l r : List Stmt} (hc : GT M W X c tC) (ha : GSs M W X l s) (hb : GSs M W X r t) : GS M W X (.If c l r pos) (fIf tC s t) := by
  obtain ⟨T, p, q⟩ := hc.run
  obtain ⟨A, pa, qa⟩ := ha.run
  obtain ⟨B, pb, qb⟩ := hb.run
  refine ⟨_, ps_if p pa pb, fun ρ H σ Γ S D rs h => q ρ H σ Γ S _ rs (pR.imp (pS.stb rs.en h) ?_)⟩
  rintro k H1 ⟨ρ1, S1, n1, o1, h1⟩
  cases k with
  | true =>
    rw [if_pos rfl] at h1 ⊢
    exact qa ρ1 H1 σ Γ S1 D ⟨o1, rs.en.mono n1⟩ h1
  | false =>
    rw [if_neg Bool.false_ne_true] at h1 ⊢
    exact qb ρ1 H1 σ Γ S1 D ⟨o1, rs.en.mono n1⟩ h1

/-! ### targets -/
/-- a target: it changes the slots ch alone -/
structure GG (M : Mx) (X : Cx) (tg : Expr) (g : FG) (ch : List Nat) : Prop where
  run : ∃ t, PG X tg t ∧ ∀ ρ H σ Γ S x v Γ' (Q : L2.St → Hp → Prop), Rs M ρ H σ Γ S → Rv M ρ H x v → g v Γ = some Γ' →
    (∀ σ', En M ρ H σ' Γ' → σ'.length = σ.length → (∀ j : Nat, j ∉ ch → σ'[j]? = σ[j]?) → Q σ' H) → t x σ H Q
theorem gg_name {i : Nat} {x : Str} (hN : X.N.Nodup) (hi : X.N[i]? = some x) (hx : Loc X.env.scope x) (hf : X.fn x = true ∨ X.env.scope.names.lookup x = some .local := by first | exact .inl rfl | exact .inr rfl | assumption) : GG M X (.Name x pos) (gN i) [i] := by
  refine ⟨_, pg_name hN hi hx hf, fun ρ H σ Γ S x v Γ' Q rs rx e h => ?_⟩
  cases e
  refine h _ (rs.en.put i rx) (by simp) fun j hj => ?_
  rw [List.getElem?_set_ne (by simpa using (Ne.symm (by simpa using hj) : i ≠ j))]
structure GGs (M : Mx) (X : Cx) (ts : List Expr) (is : List Nat) : Prop where
  run : ∃ t, PGs X ts t ∧ ∀ ρ H σ Γ S xs vs Γ' (Q : L2.St → Hp → Prop), Rs M ρ H σ Γ S → Rvs M ρ H xs vs → unp is vs Γ = some Γ' →
    (∀ σ', En M ρ H σ' Γ' → σ'.length = σ.length → (∀ j : Nat, j ∉ is → σ'[j]? = σ[j]?) → Q σ' H) → t xs σ H Q
theorem ggs_nil : GGs M X [] [] := by
  refine ⟨_, pgs_nil, fun ρ H σ Γ S xs vs Γ' Q rs rx e h => ?_⟩
  cases rx with
  | nil =>
    cases e
    exact ⟨rfl, h σ rs.en rfl fun _ _ => rfl⟩
  | cons _ _ => cases e
theorem ggs_cons {i : Nat} {x : Str} {is : List Nat} (hN : X.N.Nodup) (hi : X.N[i]? = some x) (hx : Loc X.env.scope x) (hr : GGs M X es is) (hf : X.fn x = true ∨ X.env.scope.names.lookup x = some .local := by first | exact .inl rfl | exact .inr rfl | assumption)
    (hs : (assignEach (.Name x pos :: es) X.env).map (·.2) = assign (.Name x pos) X.env :: (assignEach es X.env).map (·.2) := by rfl) : GGs M X (.Name x pos :: es) (i :: is) := by
  obtain ⟨t, p, q⟩ := hr.run
  refine ⟨_, pgs_cons (pg_name hN hi hx hf) p hs, fun ρ H σ Γ S xs vs Γ' Q rs rx e h => ?_⟩
  cases rx with
  | nil => cases e
  | cons r rr =>
    refine ⟨_, _, rfl, ?_⟩
    show t _ (σ.set i _) H _
    refine q ρ H (σ.set i _) (Γ.set i _) S _ _ Γ' _ ⟨rs.ok, rs.en.put i r⟩ rr e fun σ' en hl hj => ?_
    refine h σ' en (by rw [hl]; simp) fun j hjn => ?_
    rw [hj j fun z => hjn (List.mem_cons_of_mem _ z), List.getElem?_set_ne]
    intro z
    exact hjn (by rw [z]; exact List.mem_cons_self)
theorem unp_len : ∀ {is : List Nat} {vs : List AV} {Γ Γ' : Sl}, unp is vs Γ = some Γ' → vs.length = is.length
  | [], [], _, _, _ => rfl
  | _ :: is, _ :: vs, _, _, e => by
    rw [List.length_cons, List.length_cons, unp_len (is := is) (vs := vs) e]
  | [], _ :: _, _, _, e => by cases e
  | _ :: _, [], _, _, e => by cases e
theorem gg_tup {is : List Nat} {k n : Nat} (m : MX M X) (hc : X.calm = true) (h : GGs M X es is) (hl : is.length = n) (hn : (assignEach es X.env).length = n := by rfl) (hst : (assignEach es X.env).findIdx? (·.1) = none := by rfl) : GG M X (.Tuple es k pos) (gU is) is := by
  obtain ⟨t, p, q⟩ := h.run
  refine ⟨_, pg_tup hc p hn hst, fun ρ H σ Γ S x v Γ' Q rs rx e hq => ?_⟩
  cases rx with
  | tup hs rr =>
    refine ⟨_, _, rfl, by rw [m.K]; exact hs.sq, by rw [rr.len, unp_len e, hl], ?_⟩
    exact q ρ H σ Γ S _ _ Γ' Q rs rr e hq
  | _ => cases e
/-- a, b, .. = e -/
theorem gs_unp {is : List Nat} {k : Nat} {tpos : Pos} (hg : GG M X (.Tuple es k tpos) (gU is) is) (he : GE M W X e f) (hs : swapsWithSole [.Tuple es k tpos] e pos.line X.env = pure false := by rfl) (hw : swappedStores [.Tuple es k tpos] e X.env = pure none := by rfl)
    (h1 : (assignEach [.Tuple es k tpos] X.env).map (·.2) = [assign (.Tuple es k tpos) X.env] := by rfl) : GS M W X (.Assign [.Tuple es k tpos] e pos) (fUnp is f) := by
  obtain ⟨T, p, q⟩ := he.run
  obtain ⟨t, pg, qg⟩ := hg.run
  refine ⟨_, ps_asg p pg hs hw h1, fun ρ H σ Γ S D rs h => q ρ H σ Γ S _ rs (pR.imp (pS.st rs.en h) ?_)⟩
  rintro x H1 ⟨ρ1, v, S1, n1, o1, rx, h1⟩
  cases hv : gU is v Γ with
  | none =>
    cases rx with
    | tup hs rr =>
      have e2 : unp is _ Γ = none := hv
      dsimp only at h1
      rw [e2] at h1
      exact h1.elim
    | _ => exact h1.elim
  | some Γ' =>
    refine qg ρ1 H1 σ Γ S1 x v Γ' _ ⟨o1, rs.en.mono n1⟩ rx hv fun σ' en hl hj => ?_
    cases rx with
    | tup hs rr =>
      have e2 : unp is _ Γ = some Γ' := hv
      dsimp only at h1
      rw [e2] at h1
      exact h1 ρ1 H1 σ' (Nx.refl _ _) ⟨o1, en⟩
    | _ => exact h1.elim
/-- x op= e -/
structure AG (M : Mx) (X : Cx) (op : Operator) (g : AV → AV → Sto → XR AV) : Prop where
  run : ∃ r, PIp X op r ∧ ∀ W ρ H σ S x y vx vy Q, Ok M ρ H S → Rv M ρ H x vx → Rv M ρ H y vy → pE M W ρ H σ (g vx vy S) Q → r x y H Q
theorem gs_aug {i : Nat} {x : Str} {op : Operator} {g : AV → AV → Sto → XR AV} (hN : X.N.Nodup) (hi : X.N[i]? = some x) (hx : Loc X.env.scope x) (he : GE M W X e f) (o : AG M X op g) (hf : X.fn x = true ∨ X.env.scope.names.lookup x = some .local := by first | exact .inl rfl | exact .inr rfl | assumption) :
    GS M W X (.AugAssign (.Name x pos') op e pos) (fAug i g f) := by
  obtain ⟨T, p, q⟩ := he.run
  obtain ⟨r, po, qo⟩ := o.run
  refine ⟨_, ps_aug hN hi hx p po hf, fun ρ H σ Γ S D rs h => ?_⟩
  unfold fAug at h
  cases e1 : Γ[i]? with
  | none => rw [e1] at h; exact h.elim
  | some ov =>
    cases ov with
    | none => rw [e1] at h; exact h.elim
    | some vx =>
      rw [e1] at h
      obtain ⟨x, e2, rx⟩ := rs.en.val i vx e1
      refine ⟨x, e2, q ρ H σ Γ S _ rs (pR.imp (pS.st rs.en h) ?_)⟩
      rintro y H1 ⟨ρ1, vy, S1, n1, o1, ry, h1⟩
      refine qo W ρ1 H1 σ S1 x y vx vy _ o1 (rx.mono n1) ry (pR.imp (pS.st (rs.en.mono n1) h1) ?_)
      rintro z H2 ⟨ρ2, vz, S2, n2, o2, rz, h2⟩
      exact h2 ρ2 H2 _ (Nx.refl _ _) ⟨o2, (rs.en.mono (n1.trans n2)).put i rz⟩
theorem PIp.of {op : Operator} {r : R2} (ho : OpR X (inplaceOp op) r) : PIp X op r := fun pins s σ H x y v u Q I rx ry h => ho pins s σ H x y v u Q I rx ry h
theorem ag_add : AG M X .Add (fun x y S => match x, y with | .int i, .int j => .ok (.int (i + j)) S | _, _ => .bad) := by
  refine ⟨_, PIp.of iop_add, fun W ρ H σ S x y vx vy Q k rx ry h => ?_⟩
  cases rx <;> cases ry <;> try exact False.elim h
  case int.int i j => exact ⟨i, j, rfl, rfl, h ρ H _ (Nx.refl _ _) k (.int _)⟩
/-- o.f = e -/
theorem gs_fld {f' : Str} {cs : List Nat} (m : MX M X) (k : ClsF M f' cs) (ho : GE M W X o fo) (he : GE M W X e f) (hs : swapsWith e (some (.Attribute o f' pos')) pos.line X.env = pure false := by rfl) :
    GS M W X (.Assign [.Attribute o f' pos'] e pos) (fun Γ S => (f Γ S).st Γ fun v S1 => (fo Γ S1).st Γ fun x S2 => match x with
      | .loc n => match S2[n]? with
        | some (.ins c fs) => if c ∈ cs ∧ fs.length < 1000 then .nx Γ (S2.set n (.ins c (putA f' v fs))) else .bad
        | _ => .bad
      | _ => .bad) := by
  obtain ⟨T, p, q⟩ := he.run
  obtain ⟨U, p', q'⟩ := ho.run
  refine ⟨_, ps_fld p' p hs, fun ρ H σ Γ S D rs h => q ρ H σ Γ S _ rs (pR.imp (pS.st rs.en h) ?_)⟩
  rintro y H1 ⟨ρ1, vy, S1, n1, o1, ry, h1⟩
  refine q' ρ1 H1 σ Γ S1 _ ⟨o1, rs.en.mono n1⟩ (pR.imp (pS.st (rs.en.mono n1) h1) ?_)
  rintro x H2 ⟨ρ2, vx, S2, n2, o2, rx, h2⟩
  cases rx with
  | @loc n a hn =>
    obtain ⟨u, hu, ra⟩ := o2.ix hn
    dsimp only at h2
    rw [hu] at h2
    cases u with
    | ins c fs =>
      dsimp only at h2
      by_cases cl : c ∈ cs ∧ fs.length < 1000
      · rw [if_pos cl] at h2
        obtain ⟨dx, fv, ha, r⟩ := ra
        refine ⟨a, _, dx, fv, rfl, ha, by rw [m.K]; exact (k.ok c cl.1).1, by rw [m.K]; exact (k.ok c cl.1).2, by rw [r.len]; exact cl.2, ?_⟩
        have nn : Nx ρ2 H2 ρ2 (upd H2 a (.ins (M.cx c) dx (putF f' y fv))) := Nx.set hn
        exact h2 ρ2 _ σ nn ⟨o2.set hn ⟨dx, _, upd_same, (Rfs.put (ry.mono n2) r).mono nn⟩, rs.en.mono ((n1.trans n2).trans nn)⟩
      · rw [if_neg cl] at h2
        exact h2.elim
    | _ => exact h2.elim
  | _ => exact h2.elim
/-- o[i] = e -/
theorem gs_sub {g : AV → AV → AV → Sto → Option Sto} (sg : SG M X g) (ho : GE M W X o fo) (hi : GE M W X i fi) (he : GE M W X e f)
    (ha : ∀ v, assign (.Subscript o i pos') X.env v = (do
      let ov ← holding [v] (eval o X.env)
      let iv ← holding [v, ov] (eval i X.env)
      standAt pos'
      holding [v, ov, iv] (setItem ov iv v)
      release [v, ov, iv] []) := by intro _; rfl)
    (hs : swapsWithSole [.Subscript o i pos'] e pos.line X.env = pure false := by rfl) (hw : swappedStores [.Subscript o i pos'] e X.env = pure none := by rfl)
    (h1 : (assignEach [.Subscript o i pos'] X.env).map (·.2) = [assign (.Subscript o i pos') X.env] := by rfl) :
    GS M W X (.Assign [.Subscript o i pos'] e pos) (fun Γ S => (f Γ S).st Γ fun v S1 => (fo Γ S1).st Γ fun x S2 => (fi Γ S2).st Γ fun k S3 => match g x k v S3 with
      | some S4 => .nx Γ S4
      | none => .bad) := by
  obtain ⟨T, p, q⟩ := he.run
  obtain ⟨U, p', q'⟩ := ho.run
  obtain ⟨V', p'', q''⟩ := hi.run
  obtain ⟨t, pt, qt⟩ := sg.run
  refine ⟨_, ps_asg p (pg_sub p' p'' pt ha) hs hw h1, fun ρ H σ Γ S D rs h => q ρ H σ Γ S _ rs (pR.imp (pS.st rs.en h) ?_)⟩
  rintro y H1 ⟨ρ1, vy, S1, n1, o1, ry, h1⟩
  refine q' ρ1 H1 σ Γ S1 _ ⟨o1, rs.en.mono n1⟩ (pR.imp (pS.st (rs.en.mono n1) h1) ?_)
  rintro x H2 ⟨ρ2, vx, S2, n2, o2, rx, h2⟩
  refine q'' ρ2 H2 σ Γ S2 _ ⟨o2, rs.en.mono (n1.trans n2)⟩ (pR.imp (pS.st (rs.en.mono (n1.trans n2)) h2) ?_)
  rintro k H3 ⟨ρ3, vk, S3, n3, o3, rk, h3⟩
  cases e1 : g vx vk vy S3 with
  | none => rw [e1] at h3; exact h3.elim
  | some S4 =>
    rw [e1] at h3
    exact qt ρ3 H3 S3 x k y vx vk vy _ o3 (rx.mono n3) rk (ry.mono (n2.trans n3)) ⟨S4, e1, fun H' nn ok' => h3 ρ3 H' σ nn ⟨ok', rs.en.mono (((n1.trans n2).trans n3).trans nn)⟩⟩

/-! ### what a loop walks -/
def Wk (M : Mx) (J : It) (xs : List AV) (l : Option Nat) (ρ1 : List Addr) (H1 : Hp) : Prop := ∀ (i : Nat) ρ' H' S', Nx ρ1 H1 ρ' H' → Ok M ρ' H' S' → still l xs S' →
  (i < xs.length → J.go i H' ∧ ∀ x H'', J.yld i H' x H'' → H'' = H' ∧ ∃ v, xs[i]? = some v ∧ Rv M ρ' H' x v) ∧ (xs.length ≤ i → J.stop i H')
theorem Wk.mono {J : It} {xs : List AV} {l : Option Nat} {ρ1 ρ2 : List Addr} {H1 H2 : Hp} (w : Wk M J xs l ρ1 H1) (n : Nx ρ1 H1 ρ2 H2) : Wk M J xs l ρ2 H2 := fun i ρ' H' S' n' => w i ρ' H' S' (n.trans n')
structure GI (M : Mx) (W : WX) (X : Cx) (tg it : Expr) (f : FI) : Prop where
  run : ∃ wi, PI X tg it wi ∧ ∀ ρ H σ Γ S (R : It → Hp → Prop), Rs M ρ H σ Γ S →
    pR (β := It) (fun ρ H J a => Wk M J a.1 a.2 ρ H) M W ρ H σ (f Γ S) R → wi σ H R
theorem pi_or {tg it : Expr} {wi wi' : TI} (h : PI X tg it wi) (h' : PI X tg it wi') : PI X tg it (fun σ H R => wi σ H R ∨ wi' σ H R) := ⟨fun pins s σ H R I q => q.elim (h.run pins s σ H R I) (h'.run pins s σ H R I)⟩
theorem wk_tup {ρ : List Addr} {H : Hp} {a : Addr} {vs : List V} {xs : List AV} (m : MX M X) (hs : SqTF M ρ H a vs) (r : Rvs M ρ H vs xs) : Wk M (Itt X.K a) xs none ρ H := fun i ρ' H' S' n o st => by
  have h1 : SqT X.K H' a vs := by rw [m.K]; exact (hs.mono n).sq
  have r1 := r.mono n
  refine ⟨fun hi => ?_, fun hi => ⟨vs, h1, by rw [r.len]; exact hi⟩⟩
  obtain ⟨x, ex, rx⟩ := r1.ix (i := i) (v := xs[i]) (by simp [hi])
  refine ⟨⟨vs, x, h1, ex⟩, fun y H'' hy => ⟨hy.1, xs[i], by simp [hi], ?_⟩⟩
  have := hy.2 vs h1
  rw [ex] at this
  cases this
  exact rx
theorem wk_list {ρ : List Addr} {H : Hp} {a : Addr} {vs : List V} {xs : List AV} (m : MX M X) (hs : SqLF M ρ H a vs) (r : Rvs M ρ H vs xs) : Wk M (Itl X.K a) xs none ρ H := fun i ρ' H' S' n o st => by
  have h1 : SqL X.K H' a vs := by rw [m.K]; exact (hs.mono n).sq
  have r1 := r.mono n
  refine ⟨fun hi => ?_, fun hi => ⟨vs, h1, by rw [r.len]; exact hi⟩⟩
  obtain ⟨x, ex, rx⟩ := r1.ix (i := i) (v := xs[i]) (by simp [hi])
  refine ⟨⟨vs, x, h1, ex⟩, fun y H'' hy => ⟨hy.1, xs[i], by simp [hi], ?_⟩⟩
  have := hy.2 vs h1
  rw [ex] at this
  cases this
  exact rx
theorem wk_loc {ρ : List Addr} {H : Hp} {a : Addr} {n : Nat} {xs : List AV} (hn : ρ[n]? = some a) : Wk M (Itl X.K a) xs (some n) ρ H := fun i ρ' H' S' nx o st => by
  obtain ⟨vs, ha, r1⟩ := o.obj n a _ (nx.at hn) st
  have h1 : SqL X.K H' a vs := SqL.of ha
  refine ⟨fun hi => ?_, fun hi => ⟨vs, h1, by rw [r1.len]; exact hi⟩⟩
  obtain ⟨x, ex, rx⟩ := r1.ix (i := i) (v := xs[i]) (by simp [hi])
  refine ⟨⟨vs, x, h1, ex⟩, fun y H'' hy => ⟨hy.1, xs[i], by simp [hi], ?_⟩⟩
  have := hy.2 vs h1
  rw [ex] at this
  cases this
  exact rx
theorem wk_str {ρ : List Addr} {H : Hp} {z : Str} : Wk M (Its z) (z.cps.toList.map fun c => .str ⟨#[c]⟩) none ρ H := fun i ρ' H' S' n o st => by
  refine ⟨fun hi => ?_, fun hi => by
    show z.cps.size ≤ i
    simpa using hi⟩
  have hi' : i < z.cps.size := by simpa using hi
  refine ⟨hi', fun y H'' hy => ⟨hy.1, .str ⟨#[z.cps[i]]⟩, by simp [hi'], ?_⟩⟩
  obtain ⟨c, e1, rfl⟩ := hy.2
  have e2 : z.cps[i]? = some z.cps[i] := by simp [hi']
  rw [e2] at e1
  cases e1
  exact .str _
theorem wk_rng {ρ : List Addr} {H : Hp} {lo : Int} {n : Nat} : Wk M (Itr lo n) ((List.range n).map fun (i : Nat) => .int (lo + i)) none ρ H := fun i ρ' H' S' _ o st => by
  refine ⟨fun hi => ?_, fun hi => by
    show n ≤ i
    simpa using hi⟩
  have hi' : i < n := by simpa using hi
  refine ⟨hi', fun y H'' hy => ⟨hy.1, .int (lo + i), by simp [hi'], ?_⟩⟩
  rw [hy.2]
  exact .int _
theorem gi_val {tg : Expr} (m : MX M X) (he : GE M W X e f) : GI M W X tg e (fiV f) := by
  obtain ⟨t, p, q⟩ := he.run
  refine ⟨_, pi_or (pi_tup p) (pi_or (pi_list p) (pi_str p)), fun ρ H σ Γ S R rs h => ?_⟩
  unfold fiV at h
  cases e1 : f Γ S with
  | bad => rw [e1] at h; exact h.elim
  | ex c fs S1 => rw [e1] at h; exact .inl (q ρ H σ Γ S _ rs (by rw [e1]; exact h))
  | ok v S1 =>
    rw [e1] at h
    dsimp only [XR.bind_ok] at h
    cases v with
    | tup xs =>
      refine .inl (q ρ H σ Γ S _ rs ?_)
      rw [e1]
      intro ρ' H' x n o r
      cases r with
      | @tup a vs _ hs r => exact ⟨a, rfl, ⟨vs, by rw [m.K]; exact hs.sq⟩, h ρ' H' _ n o (wk_tup m hs r)⟩
    | lst xs =>
      refine .inr (.inl (q ρ H σ Γ S _ rs ?_))
      rw [e1]
      intro ρ' H' x n o r
      cases r with
      | @lst a vs _ hs na r => exact ⟨a, rfl, ⟨vs, SqL.of hs⟩, h ρ' H' _ n o (wk_list m (.inl ⟨.inl hs, na⟩) r)⟩
    | scr xs =>
      refine .inr (.inl (q ρ H σ Γ S _ rs ?_))
      rw [e1]
      intro ρ' H' x n o r
      cases r with
      | @scr a vs _ hs r => exact ⟨a, rfl, ⟨vs, by rw [m.K]; exact hs.sq⟩, h ρ' H' _ n o (wk_list m hs r)⟩
    | str z =>
      refine .inr (.inr (q ρ H σ Γ S _ rs ?_))
      rw [e1]
      intro ρ' H' x n o r
      cases r with
      | str _ => exact ⟨z, rfl, h ρ' H' _ n o wk_str⟩
    | loc n =>
      refine .inr (.inl (q ρ H σ Γ S _ rs ?_))
      rw [e1]
      intro ρ' H' x nn o r
      cases r with
      | @loc _ a hn =>
        dsimp only at h
        obtain ⟨u, hu, ra⟩ := o.ix hn
        rw [hu] at h
        cases u with
        | lst xs =>
          obtain ⟨vs, ha, r⟩ := ra
          exact ⟨a, rfl, ⟨vs, SqL.of ha⟩, h ρ' H' _ nn o (wk_loc hn)⟩
        | _ => exact h.elim
    | _ => exact h.elim
theorem gi_range {tg : Expr} {rp : Pos} (hg : Gl X "range") (hm : X.mg "range" = none) (he : GE M W X e f) (hs : starEach [e] X.env = [(false, eval e X.env)] := by rfl) (hs2 : starEach (e :: []) X.env = (false, eval e X.env) :: starEach [] X.env := by rfl) : GI M W X tg (.Call (.Name "range" rp) [e] [] pos) (fiR f) := by
  obtain ⟨t, p, q⟩ := he.run
  refine ⟨_, pi_range1 hg hm (pa_cons p pa_nil hs2) hs, fun ρ H σ Γ S R rs h => ?_⟩
  refine q ρ H σ Γ S _ rs (pR.imp (pR.bind (rel1 := Rv M) h) ?_)
  rintro x H1 ⟨ρ1, vx, S1, n1, o1, rx, h1⟩
  cases rx with
  | int n =>
    dsimp only at h1
    by_cases c : n < 2 ^ 62 ∧ -(2 ^ 62) ≤ n
    · rw [if_pos c] at h1
      refine ⟨n, rfl, c.2, c.1, h1 ρ1 H1 _ (Nx.refl _ _) o1 ?_⟩
      have w := wk_rng (M := M) (ρ := ρ1) (H := H1) (lo := 0) (n := n.toNat)
      simpa using w
    · rw [if_neg c] at h1
      exact h1.elim
  | _ => exact h1.elim
theorem gi_range2 {tg : Expr} {rp : Pos} (hg : Gl X "range") (hm : X.mg "range" = none) (ha : GE M W X a fa) (hb : GE M W X b fb) (hs : starEach [a, b] X.env = [(false, eval a X.env), (false, eval b X.env)] := by rfl) (hs1 : starEach [b] X.env = [(false, eval b X.env)] := by rfl)
    (hs2 : starEach (a :: [b]) X.env = (false, eval a X.env) :: starEach [b] X.env := by rfl) (hs3 : starEach (b :: []) X.env = (false, eval b X.env) :: starEach [] X.env := by rfl) : GI M W X tg (.Call (.Name "range" rp) [a, b] [] pos) (fiR2 fa fb) := by
  obtain ⟨t, p, q⟩ := ha.run
  obtain ⟨t', p', q'⟩ := hb.run
  refine ⟨_, pi_range2 hg hm (pa_cons p (pa_cons p' pa_nil hs3) hs2) hs hs1, fun ρ H σ Γ S R rs h => ?_⟩
  refine q ρ H σ Γ S _ rs (pR.imp (pR.bind (rel1 := Rv M) h) ?_)
  rintro x H1 ⟨ρ1, vx, S1, n1, o1, rx, h1⟩
  refine q' ρ1 H1 σ Γ S1 _ ⟨o1, rs.en.mono n1⟩ (pR.imp (pR.bind (rel1 := Rv M) h1) ?_)
  rintro y H2 ⟨ρ2, vy, S2, n2, o2, ry, h2⟩
  cases rx with
  | int i =>
    cases ry with
    | int j =>
      dsimp only at h2
      by_cases c : (j < 2 ^ 62 ∧ -(2 ^ 62) ≤ j) ∧ i < 2 ^ 62 ∧ -(2 ^ 62) ≤ i
      · rw [if_pos c] at h2
        exact ⟨i, j, rfl, ⟨c.2.2, c.2.1, c.1.2, c.1.1⟩, h2 ρ2 H2 _ (Nx.refl _ _) o2 wk_rng⟩
      · rw [if_neg c] at h2
        exact h2.elim
    | _ => exact h2.elim
  | _ => (cases ry <;> exact h2.elim)

/-! ### for, while -/
theorem drop_at {α : Type} {xs : List α} {i : Nat} (h : i < xs.length) : xs.drop i = xs[i] :: xs.drop (i + 1) := List.drop_eq_getElem_cons h
theorem loop_use {ρ1 : List Addr} {H1 : Hp} {σ : L2.St} {Γ : Sl} {S1 : Sto} {D : Ends} {J : It} {xs : List AV} {l : Option Nat} {g : FG} {ch : List Nat} {tg : Expr} {tgr : TG} {tb : TS} {b : FSt}
    (qg : ∀ ρ H σ Γ S x v Γ' (Q : L2.St → Hp → Prop), Rs M ρ H σ Γ S → Rv M ρ H x v → g v Γ = some Γ' → (∀ σ', En M ρ H σ' Γ' → σ'.length = σ.length → (∀ j : Nat, j ∉ ch → σ'[j]? = σ[j]?) → Q σ' H) → tgr x σ H Q)
    (qb : ∀ ρ H σ Γ S D, Rs M ρ H σ Γ S → pS M W ρ H (b Γ S) D → tb D σ H) (w : Wk M J xs l ρ1 H1) (rs : Rs M ρ1 H1 σ Γ S1) (h : pS M W ρ1 H1 (loopF xs l g b xs Γ S1) D) :
    ∃ Wd : Nat → Nat → L2.St → Hp → Prop, (∃ m, Wd 0 m σ H1) ∧ ∀ i m σ H, Wd i m σ H → (J.stop i H ∧ D.nx σ H) ∨ (J.go i H ∧ ∃ N : L2.St → Hp → Prop, (∀ σ' H', N σ' H' → ∃ m', m' < m ∧ Wd (i + 1) m' σ' H') ∧
      ∀ x H', J.yld i H x H' → tgr x σ H' fun σ2 H2 => tb { D with nx := N, ct := N, bk := D.nx } σ2 H2) := by
  refine ⟨fun i m σ' H' => m = xs.length - i ∧ i ≤ xs.length ∧ ∃ ρ' Γ' S', Nx ρ1 H1 ρ' H' ∧ Rs M ρ' H' σ' Γ' S' ∧ pS M W ρ' H' (loopF xs l g b (xs.drop i) Γ' S') D, ⟨_, rfl, Nat.zero_le _, ρ1, Γ, S1, Nx.refl _ _, rs, by simpa using h⟩, ?_⟩
  rintro i m σ' H' ⟨rfl, hi, ρ', Γ', S', n, rs', h'⟩
  by_cases hlt : i < xs.length
  · rw [drop_at hlt] at h'
    unfold loopF at h'
    by_cases st : still l xs S'
    case neg => rw [if_neg st] at h'; exact h'.elim
    rw [if_pos st] at h'
    obtain ⟨go, yld⟩ := (w i ρ' H' S' n rs'.ok st).1 hlt
    refine .inr ⟨go, fun σ2 H2 => ∃ ρ2 Γ2 S2, Nx ρ1 H1 ρ2 H2 ∧ Rs M ρ2 H2 σ2 Γ2 S2 ∧ pS M W ρ2 H2 (loopF xs l g b (xs.drop (i + 1)) Γ2 S2) D, ?_, ?_⟩
    · rintro σ2 H2 ⟨ρ2, Γ2, S2, n2, rs2, h2⟩
      exact ⟨xs.length - (i + 1), by omega, rfl, hlt, ρ2, Γ2, S2, n2, rs2, h2⟩
    · intro x H'' hy
      obtain ⟨rfl, v, hv, rx⟩ := yld x H'' hy
      have ev : xs[i] = v := by
        rw [List.getElem?_eq_getElem hlt] at hv
        exact Option.some.inj hv
      rw [ev] at h'
      cases eg : g v Γ' with
      | none => rw [eg] at h'; exact h'.elim
      | some Γ1 =>
        rw [eg] at h'
        dsimp only at h'
        refine qg ρ' _ σ' Γ' S' x v Γ1 _ rs' rx eg fun σ2 en hl hj => ?_
        refine qb ρ' _ σ2 Γ1 S' _ ⟨rs'.ok, en⟩ ?_
        cases eb : b Γ1 S' with
        | nx Γ2 S2 =>
          rw [eb] at h'
          exact fun ρ2 H2 σ3 n2 rs2 => ⟨ρ2, Γ2, S2, n.trans n2, rs2, pS.mono h' n2⟩
        | ct Γ2 S2 =>
          rw [eb] at h'
          exact fun ρ2 H2 σ3 n2 rs2 => ⟨ρ2, Γ2, S2, n.trans n2, rs2, pS.mono h' n2⟩
        | bk Γ2 S2 => rw [eb] at h'; exact h'
        | rt u S2 => rw [eb] at h'; exact h'
        | ex c fs Γ2 S2 => rw [eb] at h'; exact h'
        | bad => rw [eb] at h'; exact h'
  · have e : i = xs.length := by omega
    subst e
    rw [List.drop_length] at h'
    unfold loopF at h'
    by_cases st : still l xs S'
    · rw [if_pos st] at h'
      exact .inl ⟨(w _ ρ' H' S' n rs'.ok st).2 (Nat.le_refl _), h' ρ' H' σ' (Nx.refl _ _) rs'⟩
    · rw [if_neg st] at h'
      exact h'.elim
theorem gs_for {tg it : Expr} {body : List Stmt} {fi : FI} {g : FG} {ch : List Nat} {b : FSt} (hp : PassesOwn (model X.prog X.w) X.A X.env X.xe) (hc : X.calm = true) (hi : GI M W X tg it fi) (hg : GG M X tg g ch) (hb : GSs M W X body b)
    (hs : ∀ x, foldedSetIterable it X.env x = pure x := by intro _; rfl) : GS M W X (.For tg it body [] pos) (fFor fi g b) := by
  obtain ⟨wi, pi, qi⟩ := hi.run
  obtain ⟨t, pg, qg⟩ := hg.run
  obtain ⟨tb, pb, qb⟩ := hb.run
  refine ⟨_, ps_for hp hc pi pg pb hs, fun ρ H σ Γ S D rs h => ?_⟩
  unfold fFor at h
  refine qi ρ H σ Γ S _ rs ?_
  cases e : fi Γ S with
  | bad => rw [e] at h; exact h
  | ex c fs S1 => rw [e] at h; exact fun ρ' H' d fv n o hd nd r => h ρ' H' σ d fv n ⟨o, rs.en.mono n⟩ hd nd r
  | ok p S1 =>
    rw [e] at h
    intro ρ1 H1 J n1 o1 w
    exact loop_use (tg := tg) qg qb w ⟨o1, rs.en.mono n1⟩ (pS.mono h n1)
theorem gs_while {body : List Stmt} {b : FSt} {n : Nat} (hp : PassesOwn (model X.prog X.w) X.A X.env X.xe) (hc : GT M W X c tC) (hb : GSs M W X body b) : GS M W X (.While c body [] pos) (whileF tC b n) := by
  obtain ⟨t, p, q⟩ := hc.run
  obtain ⟨tb, pb, qb⟩ := hb.run
  refine ⟨_, ps_while hp p pb, fun ρ H σ Γ S D rs h => ?_⟩
  refine ⟨fun m σ' H' => ∃ ρ' Γ' S', Rs M ρ' H' σ' Γ' S' ∧ pS M W ρ' H' (whileF tC b m Γ' S') D, ⟨n, ρ, Γ, S, rs, h⟩, ?_⟩
  rintro m σ' H' ⟨ρ', Γ', S', rs', h'⟩
  cases m with
  | zero => exact h'.elim
  | succ m =>
    unfold whileF at h'
    refine q ρ' H' σ' Γ' S' _ rs' (pR.imp (pS.stb rs'.en h') ?_)
    rintro k H1 ⟨ρ1, S1, n1, o1, h1⟩
    cases k with
    | false =>
      rw [if_neg Bool.false_ne_true] at h1 ⊢
      exact h1 ρ1 H1 σ' (Nx.refl _ _) ⟨o1, rs'.en.mono n1⟩
    | true =>
      rw [if_pos rfl] at h1 ⊢
      refine ⟨fun σ2 H2 => ∃ ρ2 Γ2 S2, Rs M ρ2 H2 σ2 Γ2 S2 ∧ pS M W ρ2 H2 (whileF tC b m Γ2 S2) D, fun σ2 H2 w2 => ⟨m, Nat.lt_succ_self m, w2⟩, ?_⟩
      refine qb ρ1 H1 σ' Γ' S1 _ ⟨o1, rs'.en.mono n1⟩ ?_
      cases eb : b Γ' S1 with
      | nx Γ2 S2 => rw [eb] at h1; exact fun ρ2 H2 σ3 n2 rs2 => ⟨ρ2, Γ2, S2, rs2, pS.mono h1 n2⟩
      | ct Γ2 S2 => rw [eb] at h1; exact fun ρ2 H2 σ3 n2 rs2 => ⟨ρ2, Γ2, S2, rs2, pS.mono h1 n2⟩
      | bk Γ2 S2 => rw [eb] at h1; exact h1
      | rt u S2 => rw [eb] at h1; exact h1
      | ex c fs Γ2 S2 => rw [eb] at h1; exact h1
      | bad => rw [eb] at h1; exact h1
end
end G

set_option Elab.async false
set_option linter.all false
set_option maxRecDepth 100000
set_option maxHeartbeats 4000000
/-! G, the rules: comprehensions, raise, try, a def as a whole. -/
namespace G
open PySem PySem.Spec PyProof.Rows L2

/-! ### one reading for a family of contexts -/
section
variable {ι : Type} {M : Mx} {W : WX} {X : ι → Cx}
theorem GE.uni {e : Expr} {f : FE} (h : ∀ i, GE M W (X i) e f) : ∃ t : TE, (∀ i, PE (X i) e t) ∧ ∀ ρ H σ Γ S Q, Rs M ρ H σ Γ S → pE M W ρ H σ (f Γ S) Q → t σ H Q :=
  ⟨fun σ H Q => ∀ i, Classical.choose (h i).run σ H Q, fun i => ⟨fun pins s σ H Q I q => (Classical.choose_spec (h i).run).1.run pins s σ H Q I (q i)⟩,
    fun ρ H σ Γ S Q rs q i => (Classical.choose_spec (h i).run).2 ρ H σ Γ S Q rs q⟩
theorem GSs.uni {sts : List Stmt} {f : FSt} (h : ∀ i, GSs M W (X i) sts f) : ∃ t : TS, (∀ i, PSs (X i) sts t) ∧ ∀ ρ H σ Γ S D, Rs M ρ H σ Γ S → pS M W ρ H (f Γ S) D → t D σ H :=
  ⟨fun D σ H => ∀ i, Classical.choose (h i).run D σ H, fun i => ⟨fun pins s σ H D I q => (Classical.choose_spec (h i).run).1.run pins s σ H D I (q i)⟩,
    fun ρ H σ Γ S D rs q i => (Classical.choose_spec (h i).run).2 ρ H σ Γ S D rs q⟩
theorem GG.uni {tg : Expr} {g : FG} {ch : List Nat} (h : ∀ i, GG M (X i) tg g ch) : ∃ t : TG, (∀ i, PG (X i) tg t) ∧ ∀ ρ H σ Γ S x v Γ' (Q : L2.St → Hp → Prop), Rs M ρ H σ Γ S → Rv M ρ H x v → g v Γ = some Γ' →
    (∀ σ', En M ρ H σ' Γ' → σ'.length = σ.length → (∀ j : Nat, j ∉ ch → σ'[j]? = σ[j]?) → Q σ' H) → t x σ H Q :=
  ⟨fun x σ H Q => ∀ i, Classical.choose (h i).run x σ H Q, fun i => ⟨fun pins s σ H v u Q I r q => (Classical.choose_spec (h i).run).1.run pins s σ H v u Q I r (q i)⟩,
    fun ρ H σ Γ S x v Γ' Q rs rx e q i => (Classical.choose_spec (h i).run).2 ρ H σ Γ S x v Γ' Q rs rx e q⟩
end
/-- the tests of a comprehension -/
structure GTs (M : Mx) (W : WX) (X : Cx) (ifs : List Expr) (f : FT) : Prop where
  run : ∃ t, PTs X ifs t ∧ ∀ ρ H σ Γ S Q, Rs M ρ H σ Γ S → pT M W ρ H σ (f Γ S) Q → t σ H Q
theorem gts_nil {M : Mx} {W : WX} {X : Cx} : GTs M W X [] fTrue := ⟨_, pts_nil, fun ρ H σ Γ S Q rs h => h ρ H true (Nx.refl _ _) rs.ok rfl⟩
theorem gts_one {M : Mx} {W : WX} {X : Cx} {c : Expr} {f : FT} (h : GT M W X c f) : GTs M W X [c] f := by
  obtain ⟨t, p, q⟩ := h.run
  exact ⟨_, pts_one p, q⟩
theorem GTs.uni {ι : Type} {M : Mx} {W : WX} {X : ι → Cx} {ifs : List Expr} {f : FT} (h : ∀ i, GTs M W (X i) ifs f) : ∃ t : TT, (∀ i, PTs (X i) ifs t) ∧ ∀ ρ H σ Γ S Q, Rs M ρ H σ Γ S → pT M W ρ H σ (f Γ S) Q → t σ H Q :=
  ⟨fun σ H Q => ∀ i, Classical.choose (h i).run σ H Q, fun i => ⟨fun pins s σ H Q I q => (Classical.choose_spec (h i).run).1.run pins s σ H Q I (q i)⟩,
    fun ρ H σ Γ S Q rs q i => (Classical.choose_spec (h i).run).2 ρ H σ Γ S Q rs q⟩

/-! ### the slots of a comprehension -/
theorem wipe_in {σ : L2.St} {i : Nat} : ∀ {vs : List Nat}, i ∈ vs → (wipe σ vs)[i]? = if i < σ.length then some none else none
  | v :: vs, h => by
    show ((wipe σ vs).set v none)[i]? = _
    by_cases hv : i = v
    · subst hv
      by_cases hl : i < σ.length
      · rw [if_pos hl, List.getElem?_set_self (by rw [wipe_length]; exact hl)]
      · rw [if_neg hl, List.getElem?_eq_none (by rw [List.length_set, wipe_length]; omega)]
    · rw [List.getElem?_set_ne (Ne.symm hv)]
      exact wipe_in ((List.mem_cons.mp h).resolve_left hv)
theorem wipe_ext {a b : L2.St} {vs : List Nat} (hl : a.length = b.length) (h : ∀ j : Nat, j ∉ vs → a[j]? = b[j]?) : wipe a vs = wipe b vs := by
  apply List.ext_getElem?
  intro j
  by_cases hj : j ∈ vs
  · rw [wipe_in hj, wipe_in hj, hl]
  · rw [wipe_out hj, wipe_out hj, h j hj]
theorem wipe_wipe {a : L2.St} {vs : List Nat} : wipe (wipe a vs) vs = wipe a vs := by
  apply List.ext_getElem?
  intro j
  by_cases hj : j ∈ vs
  · rw [wipe_in hj, wipe_in hj, wipe_length]
  · rw [wipe_out hj]
theorem En.wipe {M : Mx} {ρ : List Addr} {H : Hp} {σ : L2.St} {Γ : Sl} (h : En M ρ H σ Γ) : ∀ vs : List Nat, En M ρ H (L2.wipe σ vs) (wipeA Γ vs)
  | [] => h
  | v :: vs => by
    show En M ρ H ((L2.wipe σ vs).set v none) ((wipeA Γ vs).set v none)
    exact (En.wipe h vs).drop v

/-! ### comprehensions -/
abbrev W0 : WX := fun _ _ _ _ => False
def pL (F : List AV → Sto → Prop) (r : XR (List AV)) : Prop := match r with
  | .ok a S => F a S
  | .ex _ _ _ => True
  | .bad => False
section
variable {M : Mx} {W : WX} {X : Cx}
theorem lc_use {J : It} {xs : List AV} {l : Option Nat} {ρ1 : List Addr} {H1 : Hp} {σ : L2.St} {Γ : Sl} {S1 : Sto} {g : FG} {ch vs : List Nat} {gr : TG} {tt : TT} {te : TE} {ft : FT} {fe : FE} {QD : Addr → Hp → Prop} {F : List AV → Sto → Prop}
    (qg : ∀ ρ H σ Γ S x v Γ' (Q : L2.St → Hp → Prop), Rs M ρ H σ Γ S → Rv M ρ H x v → g v Γ = some Γ' → (∀ σ', En M ρ H σ' Γ' → σ'.length = σ.length → (∀ j : Nat, j ∉ ch → σ'[j]? = σ[j]?) → Q σ' H) → gr x σ H Q)
    (qt : ∀ ρ H σ Γ S Q, Rs M ρ H σ Γ S → pT M W0 ρ H σ (ft Γ S) Q → tt σ H Q) (qe : ∀ ρ H σ Γ S Q, Rs M ρ H σ Γ S → pE M W0 ρ H σ (fe Γ S) Q → te σ H Q) (hch : ∀ j ∈ ch, j ∈ vs)
    (w : Wk M J xs l ρ1 H1) (o1 : Ok M ρ1 H1 S1) (en : En M ρ1 H1 σ Γ) (D : Addr) (hD : H1 D = none) (h : pL F (lcF xs l g ft fe vs Γ S1.length xs (S1 ++ [.lst []])))
    (fin : ∀ ρ' H' S' acc, Nx (ρ1 ++ [D]) (upd H1 D (.lst [])) ρ' H' → Ok M ρ' H' S' → S'.length = S1.length + 1 → S'[S1.length]? = some (.lst acc) → F acc S' → QD D H') :
    ∃ Wd : Nat → Nat → Hp → Prop, (∃ m, Wd 0 m (upd H1 D (.lst []))) ∧ ∀ i m H, Wd i m H → (J.stop i H ∧ QD D H) ∨ (J.go i H ∧ ∃ N : Hp → Prop, (∀ H', N H' → ∃ m', m' < m ∧ Wd (i + 1) m' H') ∧
      ∀ x H', J.yld i H x H' → gr x (L2.wipe σ vs) H' fun σ2 H2 => L2.wipe σ2 vs = L2.wipe σ vs ∧ tt σ2 H2 fun b H3 =>
        if b = true then te σ2 H3 fun y H4 => ∃ acc, H4 D = some (.lst acc) ∧ acc.length < sizeLine ∧ N (upd H4 D (.lst (acc ++ [y]))) else N H3) := by
  have n0 : Nx ρ1 H1 (ρ1 ++ [D]) (upd H1 D (.lst [])) := Nx.push hD
  have k0 : Ok M (ρ1 ++ [D]) (upd H1 D (.lst [])) (S1 ++ [.lst []]) := o1.push hD ⟨[], upd_same, .nil⟩
  have hDl : (ρ1 ++ [D])[S1.length]? = some D := at_last o1 D
  refine ⟨fun i m H' => m = xs.length - i ∧ i ≤ xs.length ∧ ∃ ρ' S', Nx (ρ1 ++ [D]) (upd H1 D (.lst [])) ρ' H' ∧ Ok M ρ' H' S' ∧ pL F (lcF xs l g ft fe vs Γ S1.length (xs.drop i) S'), ⟨_, rfl, Nat.zero_le _, _, _, Nx.refl _ _, k0, by simpa using h⟩, ?_⟩
  rintro i m H' ⟨rfl, hi, ρ', S', n, k, h'⟩
  by_cases hlt : i < xs.length
  · rw [drop_at hlt] at h'
    unfold lcF at h'
    by_cases st : still l xs S'
    case neg => rw [if_neg st] at h'; exact h'.elim
    rw [if_pos st] at h'
    obtain ⟨go, yld⟩ := (w i ρ' H' S' (n0.trans n) k st).1 hlt
    refine .inr ⟨go, fun H2 => ∃ ρ2 S2, Nx (ρ1 ++ [D]) (upd H1 D (.lst [])) ρ2 H2 ∧ Ok M ρ2 H2 S2 ∧ pL F (lcF xs l g ft fe vs Γ S1.length (xs.drop (i + 1)) S2), ?_, ?_⟩
    · rintro H2 ⟨ρ2, S2, n2, k2, h2⟩
      exact ⟨xs.length - (i + 1), by omega, rfl, hlt, ρ2, S2, n2, k2, h2⟩
    intro x H'' hy
    obtain ⟨rfl, v, hv, rx⟩ := yld x H'' hy
    have ev : xs[i] = v := by
      rw [List.getElem?_eq_getElem hlt] at hv
      exact Option.some.inj hv
    rw [ev] at h'
    have enw : En M ρ' H'' (L2.wipe σ vs) (wipeA Γ vs) := (en.mono (n0.trans n)).wipe vs
    cases eg : g v (wipeA Γ vs) with
    | none => rw [eg] at h'; exact h'.elim
    | some Γ1 =>
      rw [eg] at h'
      dsimp only at h'
      refine qg ρ' _ (L2.wipe σ vs) (wipeA Γ vs) S' x v Γ1 _ ⟨k, enw⟩ rx eg fun σ2 en2 hl hj => ⟨?_, ?_⟩
      · rw [wipe_ext hl fun j hjn => hj j fun z => hjn (hch j z), wipe_wipe]
      · refine qt ρ' _ σ2 Γ1 S' _ ⟨k, en2⟩ ?_
        cases et : ft Γ1 S' with
        | bad => rw [et] at h'; exact h'.elim
        | ex c fs S2 => rw [et] at h'; exact h'.elim
        | ok b S2 =>
          rw [et] at h'
          intro ρ2 H2 b' n2 k2 eb
          subst eb
          cases b' with
          | false =>
            rw [if_neg Bool.false_ne_true]
            exact ⟨ρ2, S2, n.trans n2, k2, h'⟩
          | true =>
            rw [if_pos rfl]
            dsimp only at h'
            refine qe ρ2 _ σ2 Γ1 S2 _ ⟨k2, en2.mono n2⟩ ?_
            cases ee : fe Γ1 S2 with
            | bad => rw [ee] at h'; exact h'.elim
            | ex c fs S3 => rw [ee] at h'; exact h'.elim
            | ok u S3 =>
              rw [ee] at h'
              intro ρ3 H3 y n3 k3 ry
              dsimp only at h'
              cases e3 : S3[S1.length]? with
              | none => rw [e3] at h'; exact h'.elim
              | some ob =>
                rw [e3] at h'
                cases ob with
                | lst acc =>
                  dsimp only at h'
                  by_cases cl : G.lf S1.length u = true ∧ acc.length < sizeLine
                  · rw [if_pos cl] at h'
                    have hD3 : ρ3[S1.length]? = some D := ((n.trans n2).trans n3).at hDl
                    obtain ⟨ws, ha, rw'⟩ := k3.obj _ _ _ hD3 e3
                    refine ⟨ws, ha, by rw [rw'.len]; exact cl.2, ρ3, _, (n.trans n2).trans (n3.trans (Nx.set hD3)), k3.set (u := .lst (acc ++ [u])) hD3 ⟨_, upd_same, (rw'.app (.cons ry .nil)).mono (Nx.set hD3)⟩, h'⟩
                  · rw [if_neg cl] at h'
                    exact h'.elim
                | _ => exact h'.elim
  · have e : i = xs.length := by omega
    subst e
    rw [List.drop_length] at h'
    unfold lcF at h'
    by_cases st : still l xs S' ∧ S'.length = S1.length + 1
    · rw [if_pos st] at h'
      cases e3 : S'[S1.length]? with
      | none => rw [e3] at h'; exact h'.elim
      | some ob =>
        rw [e3] at h'
        cases ob with
        | lst acc => exact .inl ⟨(w _ ρ' H' S' (n0.trans n) k st.1).2 (Nat.le_refl _), fin ρ' H' S' acc n k st.2 e3 h'⟩
        | _ => exact h'.elim
    · rw [if_neg st] at h'
      exact h'.elim
open Classical in
theorem fin_lc {ρ1 : List Addr} {H1 : Hp} {S1 : Sto} {D : Addr} {σ : L2.St} {Q : VK} (o1 : Ok M ρ1 H1 S1) (hD : H1 D = none) : ∀ ρ' H' S' acc, Nx (ρ1 ++ [D]) (upd H1 D (.lst [])) ρ' H' → Ok M ρ' H' S' → S'.length = S1.length + 1 → S'[S1.length]? = some (.lst acc) →
    pE M W ρ1 H1 σ (if clo S1 S' ∧ lfs S1.length acc = true then .ok (.lst acc) (S'.take S1.length) else .bad) Q → Q (.ref D) H' := fun ρ' H' S' acc n k hl e h => by
  by_cases cl : clo S1 S' ∧ lfs S1.length acc = true
  · rw [if_pos cl] at h
    have n0 : Nx ρ1 H1 (ρ1 ++ [D]) (upd H1 D (.lst [])) := Nx.push hD
    have hDl : (ρ1 ++ [D])[S1.length]? = some D := at_last o1 D
    have hD3 : ρ'[S1.length]? = some D := n.at hDl
    obtain ⟨ws, ha, rw'⟩ := k.obj _ _ _ hD3 e
    have nn := n0.trans n
    obtain ⟨t, rfl⟩ := id nn.pre
    obtain ⟨od, nd⟩ := down_use o1 nn cl.1 k
    exact h ρ1 H' _ nd od (.lst ha (o1.fresh hD) (rw'.down (by rw [o1.len]; exact cl.2)))
  · rw [if_neg cl] at h
    exact h.elim
/-- the context of a comprehension's block -/
structure BlkX where
  s : Shared
  H : Hp
  C : Addr
  cl : List (Str × Addr)
  fp : List Addr
abbrev Cx.bk (X : Cx) (scope : Scope) (z : BlkX) : Cx := X.blk z.s z.H scope (compEnvC scope z.cl z.C X.env) z.fp
theorem pL_of {F : List AV → Sto → XR AV} {r : XR (List AV)} {ρ : List Addr} {H : Hp} {σ : L2.St} {Q : VK} (h : pE M W ρ H σ (r.bind F) Q) : pL (fun a S => pE M W ρ H σ (F a S) Q) r := by
  cases r with
  | ok a S => exact h
  | ex c fs S => trivial
  | bad => exact h
theorem lc_all {elt tg iter : Expr} {ifs : List Expr} {scope : Scope} {own : List (Str × Nat)} {fi : FI} {g : FG} {ch : List Nat} {ft : FT} {fe : FE} (hi : GI M W X tg iter fi) (hch : ∀ j ∈ ch, j ∈ own.map (·.2))
    (hg : ∀ z : BlkX, GG M (Cx.bk X scope z) tg g ch) (ht : ∀ z : BlkX, GTs M W0 (Cx.bk X scope z) ifs ft) (he : ∀ z : BlkX, GE M W0 (Cx.bk X scope z) elt fe) :
    ∃ wi gr tt te, PI X tg iter wi ∧ (∀ s H C cl fp, PG (X.blk s H scope (compEnvC scope cl C X.env) fp) tg gr) ∧ (∀ s H C cl fp, PTs (X.blk s H scope (compEnvC scope cl C X.env) fp) ifs tt) ∧ (∀ s H C cl fp, PE (X.blk s H scope (compEnvC scope cl C X.env) fp) elt te) ∧
      ∀ ρ H σ Γ S Q, Rs M ρ H σ Γ S → pE M W ρ H σ (fLc fi g ft fe (own.map (·.2)) Γ S) Q ∨ pE M W ρ H σ (fLcM fi g ft fe (own.map (·.2)) Γ S) Q → tLc wi gr tt te (own.map (·.2)) σ H Q := by
  obtain ⟨wi, pi, qi⟩ := hi.run
  obtain ⟨gr, pg, qg⟩ := GG.uni hg
  obtain ⟨tt, pt, qt⟩ := GTs.uni ht
  obtain ⟨te, pe, qe⟩ := GE.uni he
  refine ⟨wi, gr, tt, te, pi, fun s H C cl fp => pg ⟨s, H, C, cl, fp⟩, fun s H C cl fp => pt ⟨s, H, C, cl, fp⟩, fun s H C cl fp => pe ⟨s, H, C, cl, fp⟩, fun ρ H σ Γ S Q rs h => ?_⟩
  refine qi ρ H σ Γ S _ rs ?_
  cases e : fi Γ S with
  | bad => rcases h with h | h <;> (first | unfold fLc at h | unfold fLcM at h) <;> (rw [e] at h; exact h.elim)
  | ex c fs S1 => rcases h with h | h <;> (first | unfold fLc at h | unfold fLcM at h) <;> (rw [e] at h; exact h)
  | ok p S1 =>
    intro ρ1 H1 J n1 o1 w D hD
    rcases h with h | h
    · unfold fLc at h
      rw [e] at h
      exact lc_use (QD := fun D H => Q (.ref D) H) qg qt qe hch w o1 (rs.en.mono n1) D hD (pL_of (pR.mono h n1)) (fin_lc (σ := σ) (W := W) o1 hD)
    · unfold fLcM at h
      rw [e] at h
      refine lc_use (QD := fun D H => Q (.ref D) H) qg qt qe hch w o1 (rs.en.mono n1) D hD (pL_of (pR.mono h n1)) fun ρ' H' S' acc n k hl e2 hq => ?_
      exact hq ρ' H' _ ((Nx.push hD).trans n) k (.loc (n.at (at_last o1 D)))
theorem ge_lc {elt tg iter : Expr} {ifs : List Expr} {scope : Scope} {own : List (Str × Nat)} {pos : Pos} {fi : FI} {g : FG} {ch : List Nat} {ft : FT} {fe : FE} (hc : X.calm = true) (hN : X.N.Nodup) (hi : GI M W X tg iter fi) (ok : BlkOk X.N X.env.scope scope own) (hch : ∀ j ∈ ch, j ∈ own.map (·.2))
    (hg : ∀ z : BlkX, GG M (Cx.bk X scope z) tg g ch) (ht : ∀ z : BlkX, GTs M W0 (Cx.bk X scope z) ifs ft) (he : ∀ z : BlkX, GE M W0 (Cx.bk X scope z) elt fe) (hs : ∀ x, foldedSetIterable iter X.env x = pure x := by intro _; rfl) :
    GE M W X (.ListComp elt [⟨tg, iter, ifs, 0⟩] scope pos) (fLc fi g ft fe (own.map (·.2))) := by
  obtain ⟨wi, gr, tt, te, pi, pg, pt, pe, q⟩ := lc_all hi hch hg ht he
  exact ⟨_, pe_lc hc hN pi ok pg pt pe hs, fun ρ H σ Γ S Q rs h => q ρ H σ Γ S Q rs (.inl h)⟩
theorem ge_lcM {elt tg iter : Expr} {ifs : List Expr} {scope : Scope} {own : List (Str × Nat)} {pos : Pos} {fi : FI} {g : FG} {ch : List Nat} {ft : FT} {fe : FE} (hc : X.calm = true) (hN : X.N.Nodup) (hi : GI M W X tg iter fi) (ok : BlkOk X.N X.env.scope scope own) (hch : ∀ j ∈ ch, j ∈ own.map (·.2))
    (hg : ∀ z : BlkX, GG M (Cx.bk X scope z) tg g ch) (ht : ∀ z : BlkX, GTs M W0 (Cx.bk X scope z) ifs ft) (he : ∀ z : BlkX, GE M W0 (Cx.bk X scope z) elt fe) (hs : ∀ x, foldedSetIterable iter X.env x = pure x := by intro _; rfl) :
    GE M W X (.ListComp elt [⟨tg, iter, ifs, 0⟩] scope pos) (fLcM fi g ft fe (own.map (·.2))) := by
  obtain ⟨wi, gr, tt, te, pi, pg, pt, pe, q⟩ := lc_all hi hch hg ht he
  exact ⟨_, pe_lc hc hN pi ok pg pt pe hs, fun ρ H σ Γ S Q rs h => q ρ H σ Γ S Q rs (.inr h)⟩
/-- y = [..] on one line -/
theorem gs_setLc {i : Nat} {y : Str} {py : Pos} {elt tg iter : Expr} {ifs : List Expr} {scope : Scope} {own : List (Str × Nat)} {pos spos : Pos} {fi : FI} {g : FG} {ch : List Nat} {ft : FT} {fe : FE} (hc : X.calm = true) (hN : X.N.Nodup) (hy : X.N[i]? = some y) (hyl : X.env.scope.names.lookup y = some .local)
    (hsw : swapsWith (.ListComp elt [⟨tg, iter, ifs, 0⟩] scope pos) (some (.Name y py)) spos.line X.env = pure true) (hi : GI M W X tg iter fi) (ok : BlkOk X.N X.env.scope scope own) (hch : ∀ j ∈ ch, j ∈ own.map (·.2))
    (hg : ∀ z : BlkX, GG M (Cx.bk X scope z) tg g ch) (ht : ∀ z : BlkX, GTs M W0 (Cx.bk X scope z) ifs ft) (he : ∀ z : BlkX, GE M W0 (Cx.bk X scope z) elt fe) (hs : ∀ x, foldedSetIterable iter X.env x = pure x := by intro _; rfl) :
    GS M W X (.Assign [.Name y py] (.ListComp elt [⟨tg, iter, ifs, 0⟩] scope pos) spos) (fAsg i (fLc fi g ft fe (own.map (·.2)))) := by
  obtain ⟨wi, gr, tt, te, pi, pg, pt, pe, q⟩ := lc_all hi hch hg ht he
  refine ⟨_, ps_setLc hc hN hy hyl hsw pi ok pg pt pe hs, fun ρ H σ Γ S D rs h => q ρ H σ Γ S _ rs (.inl (pR.imp (pS.st rs.en h) ?_))⟩
  rintro x H1 ⟨ρ1, v, S1, n1, o1, rx, h1⟩
  exact h1 ρ1 H1 _ (Nx.refl _ _) ⟨o1, (rs.en.mono n1).put i rx⟩
end
end G

set_option Elab.async false
set_option linter.all false
set_option maxRecDepth 100000
set_option maxHeartbeats 4000000
/-! G, the rules: a def as a whole, raise, try. -/
namespace G
open PySem PySem.Spec PyProof.Rows L2

/-! ### what a context must have -/
/-- .. for expressions -/
structure Go (M : Mx) (W : WX) (X : Cx) (k : Nat) : Prop where
  m : MX M X
  calm : X.calm = true
  room : Room k X.A
  hx : ∀ σ, PassesAt (L2.CX X.prog X.w) X σ (WE W σ)
/-- .. for statements -/
structure Gs (M : Mx) (W : WX) (X : Cx) (k : Nat) : Prop extends Go M W X k where
  hp : PassesOwn (model X.prog X.w) X.A X.env X.xe
  tk : Takes X W
  stk : X.stack = X.env :: X.outer
  frm : X.env.frame = some X.env.locals
theorem Go.hu {M : Mx} {W : WX} {X : Cx} {k : Nat} (g : Go M W X k) : X.A.units + 64 < cLine := g.room.units
theorem Go.blk {M : Mx} {W : WX} {X : Cx} {k : Nat} (g : Go M W X k) (scope : Scope) (z : BlkX) : Go M W0 (Cx.bk X scope z) k :=
  ⟨⟨g.m.K, g.m.P, g.m.w⟩, g.calm, g.room, fun σ pins H s e s' I c => by
    obtain ⟨_, _, _, _, _, _, _, _, _, _, _, _, z⟩ := c
    exact z.elim⟩
theorem Gs.of {M : Mx} {mg : Str → Option Value} {base : Heap} {N : List Str} {qual : Str} {sc : Scope} {f : Addr} {cdv : Value} {A : Around} {outer : List Env} {s : Shared} {H : Hp} {E : XK} {k : Nat} (hr : Room k (A.deeper (envOfC qual sc s.heap.objs.size f cdv))) :
    Gs M (wE E) (cxOf (L2.CX M.P M.w) M.P M.w M.K mg base N qual sc f cdv A outer s H E) k := by
  have tk : Takes (cxOf (L2.CX M.P M.w) M.P M.w M.K mg base N qual sc f cdv A outer s H E) (wE E) := takes_of rfl rfl rfl rfl
  exact ⟨⟨⟨rfl, rfl, rfl⟩, rfl, hr, passAt tk⟩, passes_of rfl, tk, rfl, rfl⟩
theorem Gs.tr {M : Mx} {W W' : WX} {X : Cx} {k : Nat} (g : Gs M W X k) {pn : List (Addr × Obj)} {xe : Value → Shared → Prop} (tk : Takes (X.tr pn xe) W') (hp : PassesOwn (model X.prog X.w) X.A X.env xe) : Gs M W' (X.tr pn xe) k :=
  ⟨⟨⟨g.m.K, g.m.P, g.m.w⟩, g.calm, g.room, passAt tk⟩, hp, tk, g.stk, g.frm⟩

/-! ### a def -/
theorem en_start {M : Mx} {ρ : List Addr} {H : Hp} {vs : List V} {args : List AV} (N : List Str) (r : Rvs M ρ H vs args) : En M ρ H (L2.start N vs) (sl0 N.length args) := by
  refine ⟨by unfold L2.start sl0; simp [r.len], fun i v e => ?_⟩
  unfold sl0 at e
  by_cases hi : i < args.length
  · rw [List.getElem?_append_left (by simpa using hi), List.getElem?_map] at e
    cases q : args[i]? with
    | none => rw [q] at e; cases e
    | some u =>
      rw [q] at e
      cases e
      obtain ⟨x, ex, rx⟩ := r.ix q
      refine ⟨x, ?_, rx⟩
      unfold L2.start
      rw [List.getElem?_append_left (by rw [List.length_map, r.len]; exact hi), List.getElem?_map, ex]
      rfl
  · rw [List.getElem?_append_right (by simpa using hi), List.getElem?_replicate] at e
    split at e <;> cases e
theorem g_fn {M : Mx} {mg : Str → Option Value} {base : Heap} {x qual : Str} {pa : Arguments} {body : List Stmt} {sc : Scope} {dvs : List V} {kws : List (Str × V)} {f : Addr} {fd : FuncData} {N ps : List Str} {k n : Nat} {lv : Sto → SR → XR AV} {fb : FSt}
    (F : FunD M.K x qual pa body sc dvs kws f fd) (S : FnScope N ps sc) (hl : ps.length = n) (hlv : Lv M lv)
    (hb : ∀ (cdv : Value) (A : Around) (outer : List Env) (s : Shared) (H : Hp) (E : XK), Room k (A.deeper (envOfC qual sc s.heap.objs.size f cdv)) → GSs M (wE E) (cxOf (L2.CX M.P M.w) M.P M.w M.K mg base N qual sc f cdv A outer s H E) body fb) :
    FnOk M.P M.w M.K mg base (L2.CX M.P M.w) (k + 1) f fd ps (spG M n (gF lv N.length fb)) :=
  F.ok S (fun vs H Q E h => h.len.trans hl.symm) fun cdv A outer s H vs Q E hr h => by
    obtain ⟨ρ, S0, args, o, r, e, h⟩ := h
    obtain ⟨t, p, q⟩ := (hb cdv A outer s H E hr).run
    exact ⟨t, p, q ρ H _ _ S0 _ ⟨o, en_start N r⟩ (hlv _ _ _ _ _ _ o h)⟩

/-! ### raise: a class with its own __init__ -/
theorem pick_rel {M : Mx} {ρ : List Addr} {H : Hp} {xs : List V} {vs : List AV} (r : Rvs M ρ H xs vs) : ∀ {sel : List (Str × Nat)} {fs : Flds}, pick vs sel = some fs → ∃ fv, pick xs sel = some fv ∧ Rfs M ρ H fv fs
  | [], fs, e => by cases e; exact ⟨[], rfl, .nil⟩
  | (f, i) :: sel, fs, e => by
    unfold pick at e
    cases q : vs[i]? with
    | none => rw [q] at e; cases e
    | some v =>
      rw [q] at e
      cases q2 : pick vs sel with
      | none => rw [q2] at e; cases e
      | some fr =>
        rw [q2] at e
        cases e
        obtain ⟨x, ex, rx⟩ := r.ix q
        obtain ⟨fv, ef, rf⟩ := pick_rel r q2
        exact ⟨(f, x) :: fv, by unfold pick; rw [ex, ef], .cons rx rf⟩
/-- what __init__ of class c promises -/
def spI (M : Mx) (c : Nat) (sel : List (Str × Nat)) (okV : List V → Prop) (n : Nat) : Sp := fun vs H Q _ => ∃ a ws fv, vs = .ref a :: ws ∧ ws.length = n ∧ okV ws ∧ pick ws sel = some fv ∧ H a = some (exo a (M.cx c) none) ∧
  ∀ H' dx, (∀ b o, H b = some o → H' b = some o) → H' dx = none → dx ≠ a → Q .non (upd (upd H' dx (exd dx fv)) a (exo a (M.cx c) (some dx)))
theorem Nx.ofExt {ρ : List Addr} {H H' : Hp} (h : ∀ b o, H b = some o → H' b = some o) : Nx ρ H ρ H' := ⟨⟨[], by simp⟩, fun a o e _ => h a o e, fun a q n => absurd q n, fun a _ e => by
  cases q : H a with
  | none => exact absurd q e
  | some o => rw [h a o q]; simp⟩
theorem Ok.ofExt {M : Mx} {ρ : List Addr} {H H' : Hp} {S : Sto} (h : ∀ b o, H b = some o → H' b = some o) (k : Ok M ρ H S) : Ok M ρ H' S := ⟨k.len, k.nd, fun n a u ha hu => by
  have r := k.obj n a u ha hu
  refine r.mono (Nx.ofExt h) ?_
  cases q : H a with
  | none => exact absurd q r.there
  | some o => exact h a o q⟩
section
variable {M : Mx} {W : WX} {X : Cx} {k : Nat}
theorem gs_raise {x : Str} {fI : Addr} {kI c n : Nat} {fd : FuncData} {ps : List Str} {sel : List (Str × Nat)} {ok : List AV → Bool} {okV : List V → Prop} {e : Expr} {es : List Expr} {p pos pos' : Pos} {fa : FA} (g : Gs M W X k) (T : OexC X.K (M.cx c)) (iC : PySem.W.findIn X.K (.ref (M.cx c)) "__init__" = some (some (.ref fI)))
    (tI : PySem.W.typeIn X.K (.ref fI) = some (.type "function")) (F : FnOk X.prog X.w X.K X.mg X.base (L2.CX X.prog X.w) kI fI fd ps (spI M c sel okV n)) (hk : kI + 1 ≤ k) (hb : Binds X.K fd ps []) (hg : Gl X x) (hm : X.mg x = some (.ref (M.cx c))) (ha : GA M W X (e :: es) fa)
    (hn : ∀ ρ H xs vs, Rvs M ρ H xs vs → ok vs = true → okV xs ∧ xs.length = n) (hdb : (x == ("__debug__" : Str)) = false := by decide) (he : starEach (e :: es) X.env = (false, eval e X.env) :: starEach es X.env := by rfl) (hpl : (backTo pos (starEach es X.env)).any (·.1) = false := by rfl) :
    GS M W X (.Raise (some (.Call (.Name x p) (e :: es) [] pos)) none pos') (fRaise c sel ok fa) := by
  obtain ⟨ta, pa, qa⟩ := ha.run
  refine ⟨_, ps_raise g.calm g.tk (pmk_oex (ds := []) (dvs := []) T iC tI F (g.room.mono hk) hb .nil passL hg hm pa hdb he hpl), fun ρ H σ Γ S D rs h => ?_⟩
  refine qa ρ H σ Γ S _ rs ?_
  unfold fRaise at h
  cases q : fa Γ S with
  | bad => rw [q] at h; exact h.elim
  | ex c' fs S1 =>
    rw [q] at h
    exact fun ρ' H' d fv n' o e nd r => h ρ' H' σ d fv n' ⟨o, rs.en.mono n'⟩ e nd r
  | ok vs S1 =>
    rw [q] at h
    intro ρ1 H1 xs n1 o1 rx
    dsimp only at h
    by_cases hl : vs.length ≤ 1000 ∧ ok vs = true
    case neg => rw [if_neg hl] at h; exact h.elim
    rw [if_pos hl] at h
    cases em : pick vs sel with
    | none => rw [em] at h; exact h.elim
    | some fs =>
      rw [em] at h
      obtain ⟨fv, ev, rf⟩ := pick_rel rx em
      obtain ⟨hV, hnn⟩ := hn ρ1 H1 xs vs rx hl.2
      refine ⟨by rw [rx.len]; exact hl.1, fun a ha0 => ?_⟩
      refine ⟨a, xs, fv, by rw [List.append_nil], hnn, hV, ev, upd_same, fun H2 dx hext hd hda => ⟨rfl, dx, fv, upd_same, ?_, ?_, ?_⟩⟩
      · rw [upd_ne hda, upd_same]
      · cases q : H1 dx with
        | none => rfl
        | some o =>
          have := hext dx o (by rw [upd_ne hda]; exact q)
          rw [hd] at this
          cases this
      · have ext : ∀ b o, H1 b = some o → (upd (del (upd (upd H2 dx (exd dx fv)) a (exo a (M.cx c) (some dx))) a) dx (.xd fv)) b = some o := fun b o e => by
          have hba : b ≠ a := fun z => by rw [z, ha0] at e; cases e
          have e2 := hext b o (by rw [upd_ne hba]; exact e)
          have hbd : b ≠ dx := fun z => by rw [z, hd] at e2; cases e2
          rw [upd_ne hbd, del_ne hba, upd_ne hba, upd_ne hbd]
          exact e2
        have n2 : Nx ρ1 H1 ρ1 _ := Nx.ofExt ext
        exact h ρ1 _ σ dx fv (n1.trans n2) ⟨o1.ofExt ext, rs.en.mono (n1.trans n2)⟩ upd_same (fun z => by
          obtain ⟨o, ho⟩ : ∃ o, H1 dx = some o := by
            cases q : H1 dx with
            | none => exact absurd q (o1.there z)
            | some o => exact ⟨o, rfl⟩
          have := hext dx o (by rw [upd_ne hda]; exact ho)
          rw [hd] at this
          cases this) (rf.mono n2)

/-! ### __init__ of such a class -/
/-- B.__init__(self, ..), B an own class over ValueError -/
theorem pe_binit {B : Addr} {bn : Str} {e : Expr} {es : List Expr} {p1 p2 pos : Pos} {ta : TA} {pl : Sem Bool} (hg : Gl X bn) (hm : X.mg bn = some (.ref B)) (r : ClX.CRead X.K B (.type "type")) (vV : PySem.W.findCls X.K (.ref B) (.type "type") "__init__" = some (.val (.builtin "ValueError.__init__"))) (ha : PA X (e :: es) ta)
    (hc : eval (.Call (.Attribute (.Name bn p1) "__init__" p2) (e :: es) [] pos) X.env = (do
      let ov ← eval (.Name bn p1) X.env
      standAt p2.atName
      let (f, first) ← holding [ov] (getMethod ov "__init__" pl)
      callWith pos f first (backTo pos (starEach (e :: es) X.env)) (backToKw pos (keywordEach [] X.env))) := by rfl)
    (hdb : (bn == ("__debug__" : Str)) = false := by decide) (he : starEach (e :: es) X.env = (false, eval e X.env) :: starEach es X.env := by rfl) (hpl : (backTo pos (starEach es X.env)).any (·.1) = false := by rfl) :
    PE X (.Call (.Attribute (.Name bn p1) "__init__" p2) (e :: es) [] pos) (tVeI X.K ta) := by
  refine ⟨fun pins s σ H Q I h => ?_⟩
  refine PySem.W.methodCall_KW (ld_glob I hg hm ?_ hdb) hc
  refine PySem.W.method_cls I.kIn r.ga (PySem.W.cls_value I.kIn r.rd vV (by decide +kernel) ?_)
  show wpAny _ _ (callWith pos (Value.builtin "ValueError.__init__") [] (backTo pos (starEach (e :: es) X.env)) []) _ _ _
  refine PyProof.Rows.callWith_method1 (thn (ha.run pos pins _ σ H _ (I.tok _) h) fun us s1 ⟨vs, H1, I1, r1, a, C, ws, ev, hl, T, ea, q⟩ => ?_) he hpl
  subst ev
  cases r1 with
  | @cons _ u0 _ ur ra rw' =>
    obtain rfl : u0 = Value.ref a := ra
    have hlen : ur.length ≤ sizeLine := by
      rw [← Paired.length rw', sizeLine_eq]
      omega
    exact oinit_ok T I1 ea hlen fun s' J => ⟨.non, H1, J, rfl, q⟩

/-! ### try: body, except x as n: suite -/
theorem ps_uni3 {Y : Type} {cxs : Y → Prop} {tt : Y → Cx} {sts : List Stmt} {f : FSt} (h : ∀ y, cxs y → GSs M W (tt y) sts f) : ∃ t : TS, (∀ y, cxs y → PSs (tt y) sts t) ∧ ∀ ρ H σ Γ S D, Rs M ρ H σ Γ S → pS M W ρ H (f Γ S) D → t D σ H := by
  obtain ⟨t, p, q⟩ := GSs.uni (ι := { y // cxs y }) (X := fun z => tt z.1) fun z => h z.1 z.2
  exact ⟨t, fun y hy => p ⟨y, hy⟩, q⟩
theorem gs_try {x n : Str} {c : Value} {i : Nat} {body suite : List Stmt} {b₀ : Stmt} {np pos pos' : Pos} {yes no : List Nat} {b : FSt} {h : Nat → Nat → Nat → FSt} (g : Gs M W X k) (hN : X.N.Nodup) (hi : X.N[i]? = some n) (hln : X.env.kindOf n = some .local) (hc : Names X x c)
    (hy : ∀ j ∈ yes, PySem.W.exmOne X.K (.ref (M.cx j)) c = some true) (hno : ∀ j ∈ no, PySem.W.exmOne X.K (.ref (M.cx j)) c = some false) (hinj : ∀ j ∈ yes, ∀ l ∈ yes, M.cx j = M.cx l → j = l)
    (hb : ∀ (W' : WX) (pn : List (Addr × Obj)) (xe : Value → Shared → Prop), Gs M W' (X.tr pn xe) k → GSs M W' (X.tr pn xe) body b)
    (hsu : ∀ (j a : Addr) (oe : Obj) (d : Addr) (pn : List (Addr × Obj)), j ∈ yes → Zc (.ref (M.cx j)) (some d) oe → (∃ vs, oe.data = .fields vs) → GSs M W0 (X.suite a ((a, oe) :: pn)) (b₀ :: suite) (h a d j)) :
    GS M W X (.Try body [.ExceptHandler (some (.Name x np)) (some n) (b₀ :: suite) pos'] [] [] pos) (fTry b yes no i h) := by
  classical
  have B : ∀ W' : WX, ∃ t : TS, (∀ z : List (Addr × Obj) × (Value → Shared → Prop), Gs M W' (X.tr z.1 z.2) k → PSs (X.tr z.1 z.2) body t) ∧ ∀ ρ H σ Γ S D, Rs M ρ H σ Γ S → pS M W' ρ H (b Γ S) D → t D σ H := fun W' =>
    ps_uni3 fun z hz => hb W' z.1 z.2 hz
  have U : ∀ j a d : Nat, ∃ t : TS, (∀ z : Obj × List (Addr × Obj), (j ∈ yes ∧ Zc (.ref (M.cx j)) (some d) z.1 ∧ ∃ vs, z.1.data = .fields vs) → PSs (X.suite a ((a, z.1) :: z.2)) (b₀ :: suite) t) ∧ ∀ ρ H σ Γ S D, Rs M ρ H σ Γ S → pS M W0 ρ H (h a d j Γ S) D → t D σ H := fun j a d =>
    ps_uni3 fun z hz => hsu j a z.1 d z.2 hz.1 hz.2.1 hz.2.2
  let ts : Addr → Value → Option Addr → TS := fun a cls d => if z : ∃ j ∈ yes, cls = .ref (M.cx j) then (match d with
    | some d => Classical.choose (U (Classical.choose z) a d)
    | none => fun _ _ _ => False) else fun _ _ _ => False
  have hsu' : ∀ (a : Addr) (oe : Obj) (cls : Value) (d : Option Addr) (pn : List (Addr × Obj)), Zc cls d oe → (∃ vs, oe.data = .fields vs) → PSs (X.suite a ((a, oe) :: pn)) (b₀ :: suite) (ts a cls d) := fun a oe cls d pn hz hf => by
    by_cases z : ∃ j ∈ yes, cls = .ref (M.cx j)
    · cases d with
      | none =>
        have e : ts a cls none = fun _ _ _ => False := by
          show (if z : ∃ j ∈ yes, cls = .ref (M.cx j) then _ else _) = _
          rw [dif_pos z]
        rw [e]
        exact ⟨fun pins s σ H D I q => q.elim⟩
      | some d =>
        have e : ts a cls (some d) = Classical.choose (U (Classical.choose z) a d) := by
          show (if z : ∃ j ∈ yes, cls = .ref (M.cx j) then _ else _) = _
          rw [dif_pos z]
        rw [e]
        have zz := Classical.choose_spec z
        refine (Classical.choose_spec (U (Classical.choose z) a d)).1 (oe, pn) ⟨zz.1, ?_, hf⟩
        rw [← zz.2]
        exact hz
    · have e : ts a cls d = fun _ _ _ => False := by
        show (if z : ∃ j ∈ yes, cls = .ref (M.cx j) then _ else _) = _
        rw [dif_neg z]
      rw [e]
      exact ⟨fun pins s σ H D I q => q.elim⟩
  refine ⟨_, ps_try_as (tb := fun W' => Classical.choose (B W')) (ts := ts) g.stk g.frm hN hi hln hc g.tk (fun W' pn xe tk hp => (Classical.choose_spec (B W')).1 (pn, xe) (g.tr tk hp)) hsu', fun ρ H σ Γ S D rs q => ?_⟩
  refine (Classical.choose_spec (B (wAs X.K c i ts W D))).2 ρ H σ Γ S D rs ?_
  unfold fTry at q
  cases e : b Γ S with
  | bad => rw [e] at q; exact q
  | nx Γ1 S1 => rw [e] at q; exact q
  | rt v S1 => rw [e] at q; exact q
  | bk Γ1 S1 => rw [e] at q; exact q
  | ct Γ1 S1 => rw [e] at q; exact q
  | ex j fs Γ1 S1 =>
    rw [e] at q
    dsimp only at q
    intro ρ' H' σ' d fv n' rs' hd nd rf
    by_cases cy : j ∈ yes
    · rw [if_pos cy] at q
      refine ⟨true, hy j cy, fun _ a ha => ?_, (fun z => absurd z.symm Bool.false_ne_true)⟩
      by_cases st : ∀ a d, dropI i (h a d j (Γ1.set i (some (.exc a d j fs))) S1) = dropI i (h 0 0 j (Γ1.set i (some (.exc 0 0 j fs))) S1)
      case neg => rw [if_neg st] at q; exact q.elim
      rw [if_pos st] at q
      have z : ∃ l ∈ yes, (Value.ref (M.cx j)) = .ref (M.cx l) := ⟨j, cy, rfl⟩
      have zz := Classical.choose_spec z
      have ej : Classical.choose z = j := (hinj _ zz.1 _ cy (Value.ref.inj zz.2).symm)
      have e : ts a (.ref (M.cx j)) (some d) = Classical.choose (U j a d) := by
        show (if z : ∃ l ∈ yes, (Value.ref (M.cx j)) = .ref (M.cx l) then _ else _) = _
        rw [dif_pos z]
        show Classical.choose (U (Classical.choose z) a d) = _
        rw [ej]
      rw [e]
      refine (Classical.choose_spec (U j a d)).2 ρ' H' _ (Γ1.set i (some (.exc a d j fs))) S1 _ ⟨rs'.ok, rs'.en.put i (.exc hd nd rf)⟩ ?_
      rw [← st a d] at q
      cases e3 : h a d j (Γ1.set i (some (.exc a d j fs))) S1 with
      | bad => rw [e3] at q; exact q.elim
      | ex _ _ _ _ => rw [e3] at q; exact q.elim
      | nx Γ2 S2 => rw [e3] at q; exact fun ρ3 H3 σ3 n3 rs3 => q ρ3 H3 _ (n'.trans n3) ⟨rs3.ok, rs3.en.drop i⟩
      | bk Γ2 S2 => rw [e3] at q; exact fun ρ3 H3 σ3 n3 rs3 => q ρ3 H3 _ (n'.trans n3) ⟨rs3.ok, rs3.en.drop i⟩
      | ct Γ2 S2 => rw [e3] at q; exact fun ρ3 H3 σ3 n3 rs3 => q ρ3 H3 _ (n'.trans n3) ⟨rs3.ok, rs3.en.drop i⟩
      | rt v S2 => rw [e3] at q; exact fun ρ3 H3 x n3 o3 rx => q ρ3 H3 x (n'.trans n3) o3 rx
    · rw [if_neg cy] at q
      by_cases cn : j ∈ no
      · rw [if_pos cn] at q
        exact ⟨false, hno j cn, (fun z => absurd z Bool.false_ne_true), fun _ => q ρ' H' σ' d fv n' rs' hd nd rf⟩
      · rw [if_neg cn] at q
        exact q.elim
/-- e.f in the suite -/
theorem ge_xf {a d j : Nat} {oe : Obj} {pn : List (Addr × Obj)} {e : Expr} {fe : FE} {pos : Pos} {f : Str} (T : XfC X.K (M.cx j)) (hno : PySem.W.findIn X.K (.ref (M.cx j)) f = some none) (hz : Zc (.ref (M.cx j)) (some d) oe) (hf : ∃ vs, oe.data = .fields vs)
    (he : GE M W (X.suite a ((a, oe) :: pn)) e fe) (hb : attributeBase e f X.env (eval e X.env) = eval e X.env := by rfl) : GE M W (X.suite a ((a, oe) :: pn)) (.Attribute e f pos) (fUn (gXf a d j f) fe) := by
  obtain ⟨t, p, q⟩ := he.run
  refine ⟨_, pe_xf T hno hz hf p hb, fun ρ H σ Γ S Q rs h => ?_⟩
  refine q ρ H σ Γ S _ rs (pR.imp (pR.bind (rel1 := Rv M) h) ?_)
  rintro x H1 ⟨ρ1, v, S1, n1, o1, rx, h1⟩
  unfold gXf at h1
  cases v with
  | exc a' d' c' fs =>
    dsimp only at h1
    by_cases z : a' = a ∧ d' = d ∧ c' = j
    · rw [if_pos z] at h1
      obtain ⟨rfl, rfl, rfl⟩ := z
      cases rx with
      | exc hd nd rf =>
        cases el : lkF f fs with
        | none => rw [el] at h1; exact h1.elim
        | some u =>
          rw [el] at h1
          obtain ⟨y, ly, ry⟩ := rf.look el
          exact ⟨rfl, rfl, _, _, y, rfl, hd, ly, h1 ρ1 H1 y (Nx.refl _ _) o1 ry⟩
    · rw [if_neg z] at h1
      exact h1.elim
  | _ => exact h1.elim
end
end G

set_option Elab.async false
set_option linter.all false
set_option maxRecDepth 100000
set_option maxHeartbeats 4000000
/-! G, the rules: dict displays. -/
namespace G
open PySem PySem.Spec PyProof.Rows L2
/-! a dict that stood already becomes a location -/
section
variable {M : Mx} {ρ : List Addr} {H : Hp} {p : Addr} {zs : List (NestedKey × Addr × Value)}
theorem rawN_ne {P : Program} {w : World} {d : Addr} {xs : List (NestedKey × Addr × Value)} {o : HO} (h : ∀ φ, o ≠ .ext φ) : rawN P w d xs ≠ o := fun e => h _ e.symm
theorem Fz.adopt {a : Addr} {u : HO} (hp : H p = some (rawN M.P M.w p zs)) (hu : ∀ φ, u ≠ .ext φ) (h : Fz ρ H a u) : Fz (ρ ++ [p]) H a u := by
  refine ⟨h.1, fun q => ?_⟩
  rcases List.mem_append.mp q with z | z
  · exact h.2 z
  · rw [List.mem_singleton.mp z] at h
    rcases h.1 with e | ⟨o, e⟩
    · rw [hp] at e
      exact hu _ (Option.some.inj e).symm
    · rw [hp] at e
      have e' := Option.some.inj e
      unfold rawN at e'
      cases e'
theorem na_adopt {a : Addr} {u : HO} (hp : H p = some (rawN M.P M.w p zs)) (hu : ∀ φ, u ≠ .ext φ) (h : H a = some u) (na : a ∉ ρ) : a ∉ ρ ++ [p] := (Fz.adopt (M := M) (zs := zs) hp hu ⟨.inl h, na⟩).2
theorem at_adopt {n : Nat} {a : Addr} (h : ρ[n]? = some a) : (ρ ++ [p])[n]? = some a := by
  rw [List.getElem?_append_left (List.getElem?_eq_some_iff.mp h).1]
  exact h
mutual
theorem Rv.adopt (hp : H p = some (rawN M.P M.w p zs)) : ∀ {x : V} {v : AV}, Rv M ρ H x v → Rv M (ρ ++ [p]) H x v
  | _, _, .non => .non
  | _, _, .bl b => .bl b
  | _, _, .int i => .int i
  | _, _, .str s => .str s
  | _, _, .tup h r => .tup (h.elim (fun z => .inl (z.adopt hp fun _ e => by cases e)) .inr) (Rvs.adopt hp r)
  | _, _, .lst h na r => .lst h (na_adopt hp (fun _ e => by cases e) h na) (Rvs.adopt hp r)
  | _, _, .scr h r => .scr (h.elim (fun z => .inl (z.adopt hp fun _ e => by cases e)) .inr) (Rvs.adopt hp r)
  | _, _, .obj h na r => .obj h (na_adopt hp (fun _ e => by cases e) h na) (Rfs.adopt hp r)
  | _, _, .exc h na r => .exc h (na_adopt hp (fun _ e => by cases e) h na) (Rfs.adopt hp r)
  | _, _, .loc h => .loc (at_adopt h)
theorem Rvs.adopt (hp : H p = some (rawN M.P M.w p zs)) : ∀ {x : List V} {v : List AV}, Rvs M ρ H x v → Rvs M (ρ ++ [p]) H x v
  | _, _, .nil => .nil
  | _, _, .cons h r => .cons (Rv.adopt hp h) (Rvs.adopt hp r)
theorem Rfs.adopt (hp : H p = some (rawN M.P M.w p zs)) : ∀ {x : List (Str × V)} {v : Flds}, Rfs M ρ H x v → Rfs M (ρ ++ [p]) H x v
  | _, _, .nil => .nil
  | _, _, .cons h r => .cons (Rv.adopt hp h) (Rfs.adopt hp r)
end
theorem Rks.adopt (hp : H p = some (rawN M.P M.w p zs)) : ∀ {x : List (Key × V)} {v : List (GKey × AV)}, Rks M ρ H x v → Rks M (ρ ++ [p]) H x v
  | _, _, .nil => .nil
  | _, _, .cons h r => .cons (h.adopt hp) (Rks.adopt hp r)
theorem Rns.adopt (hp : H p = some (rawN M.P M.w p zs)) : ∀ {x : List (NestedKey × Addr × Value)} {v : List (AV × AV)}, Rns M ρ H x v → Rns M (ρ ++ [p]) H x v
  | _, _, .nil => .nil
  | _, _, .cons e k h rv h2 r => .cons e k (h.adopt hp) rv (h2.adopt hp) (Rns.adopt hp r)
theorem Ra.adopt (hp : H p = some (rawN M.P M.w p zs)) {a : Addr} {o : AO} (h : Ra M ρ H a o) : Ra M (ρ ++ [p]) H a o := by
  cases o with
  | lst xs => obtain ⟨vs, e, r⟩ := h; exact ⟨vs, e, r.adopt hp⟩
  | ins c fs => obtain ⟨dx, fv, e, r⟩ := h; exact ⟨dx, fv, e, r.adopt hp⟩
  | dK kvs => obtain ⟨kv, e, r⟩ := h; exact ⟨kv, e, r.adopt hp⟩
  | dN kvs => obtain ⟨z, xs, e, r⟩ := h; exact ⟨z, xs, e, r.adopt hp⟩
theorem Ok.adopt {S : Sto} {u : AO} (hp : H p = some (rawN M.P M.w p zs)) (na : p ∉ ρ) (o : Ok M ρ H S) (r : Ra M (ρ ++ [p]) H p u) : Ok M (ρ ++ [p]) H (S ++ [u]) := by
  refine ⟨by simp [o.len], ?_, fun n a v ha hv => ?_⟩
  · rw [List.nodup_append]
    refine ⟨o.nd, by simp, fun a ha b hb e => ?_⟩
    rw [List.mem_singleton.mp hb] at e
    exact na (by rw [← e]; exact ha)
  · by_cases hn : n < ρ.length
    · rw [List.getElem?_append_left hn] at ha
      rw [List.getElem?_append_left (by rw [← o.len]; exact hn)] at hv
      exact (o.obj n a v ha hv).adopt hp
    · have hn' : n = ρ.length := by
        have := (List.getElem?_eq_some_iff.mp ha).1
        simp at this
        omega
      subst hn'
      rw [List.getElem?_append_right (Nat.le_refl _)] at ha
      rw [o.len, List.getElem?_append_right (Nat.le_refl _)] at hv
      simp at ha hv
      subst ha hv
      exact r
end
section
variable {M : Mx} {W : WX} {X : Cx} {pos : Pos}
def tRaw0 (M : Mx) : TE := fun _ H Q => ∀ p, H p = none → Q (.ref p) (upd H p (rawN M.P M.w p []))
theorem not_sys {pins : List (Addr × Obj)} {σ : L2.St} {H : Hp} {s : Shared} (I : Inv X pins σ H s) : (s.heap.objs.size == sysModules) = false := beq_eq_false_iff_ne.mpr (Nat.ne_of_gt I.big)
theorem pe_draw0 (m : MX M X) : PE X (.Dict [] [] pos) (tRaw0 M) := ⟨fun pins s σ H Q I h => by
  refine wpAny_Dict_empty ⟨.ref s.heap.objs.size, upd H s.heap.objs.size (rawN M.P M.w s.heap.objs.size []), I.laid (a := s.heap.objs.size) (t' := s.toks) (fun _ _ q => Heap.get?_push_of_some _ q) (Nat.le_refl _) ?_, rfl, h _ (I.hok.fresh (Nat.le_refl _))⟩
  rw [m.P, m.w]
  exact raw_ok (not_sys I) (Heap.DictOfH.new s.heap)⟩
theorem ge_dN0 (m : MX M X) : GE M W X (.Dict [] [] pos) fDN0 := ⟨_, pe_draw0 m, fun ρ H σ Γ S Q rs h p hp =>
  h _ _ _ (Nx.push hp) (rs.ok.push (u := .dN []) hp ⟨Nat.zero_le _, [], upd_same, .nil⟩) (.loc (at_last rs.ok p))⟩
theorem ge_dK0 : GE M W X (.Dict [] [] pos) fDK0 := ⟨_, pe_dnewK, fun ρ H σ Γ S Q rs h p hp =>
  h _ _ _ (Nx.push hp) (rs.ok.push (u := .dK []) hp ⟨[], upd_same, .nil⟩) (.loc (at_last rs.ok p))⟩
def tDN1 (M : Mx) (tk tv : TE) : TE := fun σ H Q => ∀ p, H p = none → tk σ (upd H p (rawN M.P M.w p [])) fun x H1 => tv σ H1 fun y H2 => ∃ ρ a vx q, x = .ref a ∧ Rv M ρ H2 (.ref a) vx ∧ toNK vx = some q ∧ okN vx = true ∧ H2 p = some (rawN M.P M.w p []) ∧
  ∀ u, RelV y u → Q (.ref p) (upd H2 p (rawN M.P M.w p [(q, a, u)]))
theorem pe_dN1 {k v : Expr} {tk tv : TE} (m : MX M X) (hu : X.A.units + 64 < cLine) (hk : PE X k tk) (hv : PE X v tv) : PE X (.Dict [some k] [v] pos) (tDN1 M tk tv) := ⟨fun pins s σ H Q I h => by
  have hz := h s.heap.objs.size (I.hok.fresh (Nat.le_refl _))
  have I0 : Inv X pins σ (upd H s.heap.objs.size (rawN M.P M.w s.heap.objs.size [])) { s with heap := s.heap.push { cls := .type "dict", data := .dict #[] } } := by
    refine I.laid (a := s.heap.objs.size) (t' := s.toks) (fun _ _ q => Heap.get?_push_of_some _ q) (Nat.le_refl _) ?_
    rw [m.P, m.w]
    exact raw_ok (not_sys I) (Heap.DictOfH.new s.heap)
  rw [arm_eval_Dict]
  show wpAny _ _ (do standAt pos; dictDisplay ((pairTrees [some k] [v] X.env pos).map fun p => (some p.1, p.2))) _ _ _
  rw [dictDisplay_pairs _ (by unfold pairTrees; simp) (by unfold pairTrees pairTrees; simp)]
  have hroom : (nestedKind X.prog X.w).room X.A := by
    show X.A.units + 8 < cLine
    omega
  refine wpAny_bind (wpAny_standAt (wpAny_bind (wpAny_subDictH (knd := nestedKind X.prog X.w) (Q := fun d s' => wpAny _ _ (pure (Value.ref d)) _ _ s') hroom (by unfold pairTrees pairTrees; simp) ?_)))
  refine pairTrees_cons_walk (thn (hk.run pins _ σ _ _ I0 hz) fun u1 s1 ⟨x, H1, I1, rx, q1⟩ => thn (hv.run pins s1 σ H1 _ I1 q1) fun u2 s2 ⟨y, H2, I2, ry, q2⟩ => ?_)
  obtain ⟨ρ, a, vx, q, rfl, hr, hq, ok, hp, q2⟩ := q2
  cases rx
  refine pairTrees_nil_walk ?_
  obtain ⟨h1, h2⟩ := raw_of (ρ := ρ) m I2 hp .nil
  refine ⟨[(q, a, u2)], ⟨rfl, rfl, key_is m I2 hr hq ok, trivial⟩, h2, fun h' tk' dd' hs => wpAny_pure ?_⟩
  have he : ∃ o, h'.get? s.heap.objs.size = some o := let ⟨o, _, _, ho, _⟩ := dd'; ⟨o, ho⟩
  have J := d_write (t' := tk') (ob := rawN X.prog X.w s.heap.objs.size [(q, a, u2)]) I2 (by rw [hp]; exact True.intro) hs he (raw_ok h1 dd')
  rw [m.P, m.w] at J
  exact ⟨.ref s.heap.objs.size, _, J, rfl, q2 u2 ry⟩⟩
/-- a piece, then the rest, told from where it began -/
theorem pR.bind1 {α β γ δ : Type} {rel1 : List Addr → Hp → β → α → Prop} {rel2 : List Addr → Hp → δ → γ → Prop} {ρ ρ0 : List Addr} {H H0 : Hp} {σ : L2.St} {r : XR α} {k : α → Sto → XR γ} {Q : δ → Hp → Prop} (n0 : Nx ρ H ρ0 H0) (h : pR rel2 M W ρ H σ (r.bind k) Q) :
    pR rel1 M W ρ0 H0 σ r (fun x H1 => ∃ ρ1 a S1, Nx ρ0 H0 ρ1 H1 ∧ Ok M ρ1 H1 S1 ∧ rel1 ρ1 H1 x a ∧ pR rel2 M W ρ H σ (k a S1) Q) := by
  cases r with
  | ok a S => exact fun ρ' H' x n o e => ⟨ρ', a, S, n, o, e, h⟩
  | ex c fs S => exact pX.mono h n0
  | bad => exact h
theorem ge_dN1 {k v : Expr} {fk fv : FE} (m : MX M X) (hu : X.A.units + 64 < cLine) (hk : GE M W X k fk) (hv : GE M W X v fv) : GE M W X (.Dict [some k] [v] pos) (fDN1 fk fv) := by
  obtain ⟨tk, pk, qk⟩ := hk.run
  obtain ⟨tv, pv, qv⟩ := hv.run
  refine ⟨_, pe_dN1 m hu pk pv, fun ρ H σ Γ S Q rs h p hp => ?_⟩
  have n0 : Nx ρ H ρ (upd H p (rawN M.P M.w p [])) := Nx.new1 hp
  have hpn : p ∉ ρ := rs.ok.fresh hp
  refine qk ρ _ σ Γ S _ ⟨rs.ok.new1 hp, rs.en.mono n0⟩ (pR.imp (pR.bind1 (rel1 := Rv M) n0 h) ?_)
  rintro x H1 ⟨ρ1, vx, S1, n1, o1, rx, h1⟩
  refine qv ρ1 H1 σ Γ S1 _ ⟨o1, (rs.en.mono n0).mono n1⟩ (pR.imp (pR.bind1 (rel1 := Rv M) (n0.trans n1) h1) ?_)
  rintro y H2 ⟨ρ2, vy, S2, n2, o2, ry, h2⟩
  by_cases ok : okN vx = true
  case neg => rw [if_neg ok] at h2; exact h2.elim
  rw [if_pos ok] at h2
  obtain ⟨xs, q, rfl, hq, _⟩ := okN_of ok
  have rx2 := rx.mono n2
  obtain ⟨e2, na2⟩ := (n1.trans n2).fz (u := rawN M.P M.w p []) upd_same hpn
  cases rx2 with
  | @tup a vs _ hs rr =>
    refine ⟨ρ2, a, _, q, rfl, .tup hs rr, hq, ok, e2, fun u ru => ?_⟩
    have oa : Ok M (ρ2 ++ [p]) H2 (S2 ++ [.dN []]) := Ok.adopt e2 na2 o2 ⟨Nat.zero_le _, [], e2, .nil⟩
    have hl : (ρ2 ++ [p])[S2.length]? = some p := at_last o2 p
    have ns : Nx (ρ2 ++ [p]) H2 (ρ2 ++ [p]) (upd H2 p (rawN M.P M.w p [(q, a, u)])) := Nx.set hl
    have kx : Rv M (ρ2 ++ [p]) H2 (.ref a) (.tup xs) := (Rv.tup hs rr).adopt e2
    have vy' := (ry.adopt e2).mono ns
    have of := oa.set (u := .dN [(.tup xs, vy)]) (o := rawN M.P M.w p [(q, a, u)]) hl ⟨show 1 ≤ sizeLine by decide, [(q, a, u)], upd_same, .cons hq ok (kx.mono ns) ru vy' .nil⟩
    have es : (S2 ++ [AO.dN []]).set S2.length (.dN [(.tup xs, vy)]) = S2 ++ [.dN [(.tup xs, vy)]] := by
      rw [List.set_append_right _ _ (Nat.le_refl _)]
      simp
    rw [es] at of
    refine h2 (ρ2 ++ [p]) _ _ ?_ of (.loc hl)
    have n3 := (n0.trans n1).trans n2
    obtain ⟨tt, e3⟩ := n3.pre
    refine ⟨⟨tt ++ [p], by rw [e3, List.append_assoc]⟩, fun b ob eb nb => ?_, fun b hb nb => ?_, fun b hb eb => ?_⟩
    · have hbp : b ≠ p := fun z => by rw [z, hp] at eb; cases eb
      rw [upd_ne hbp]
      exact n3.ext b ob eb nb
    · by_cases hbp : b = p
      · rw [hbp]; exact hp
      · rcases List.mem_append.mp hb with z | z
        · exact n3.new b z nb
        · exact absurd (List.mem_singleton.mp z) hbp
    · by_cases hbp : b = p
      · rw [hbp, upd_same]; simp
      · rw [upd_ne hbp]
        exact n3.stay b hb eb
end
end G

set_option Elab.async false
set_option linter.all false
set_option maxRecDepth 100000
set_option maxHeartbeats 4000000
/-! G, a program: its defs by names, its constants, its exceptions, its law. -/
namespace G
open PySem PySem.Spec PyProof.Rows L2

/-! ### defs, by where they stand -/
/-- the def at «at_» does g -/
structure OkF (M : Mx) (mg : Str → Option Value) (base : Heap) (k : Nat) (at_ : Str × Option Str) (n : Nat) (g : FF) : Prop where
  ex : ∃ (fd : FuncData) (ps : List Str), ps.length = n ∧ FnOk M.P M.w M.K mg base (L2.CX M.P M.w) k (He.fAd M.K at_) fd ps (spG M n g) ∧ Binds M.K fd ps []
  kp : PySem.W.keepIn M.K (.ref (He.fAd M.K at_)) = true
section
variable {M : Mx} {W : WX} {X : Cx} {k j : Nat} {e : Expr} {es : List Expr} {fr : FA} {pos p : Pos} {x : Str} {at_ : Str × Option Str} {n : Nat} {gf : FF}
theorem ge_callF (g : Go M W X k) (F : OkF M X.mg X.base j at_ n gf) (hj : j ≤ k) (hg : Gl X x) (hm : X.mg x = some (.ref (He.fAd M.K at_))) (ha : GA M W X (e :: es) fr)
    (hdb : (x == ("__debug__" : Str)) = false := by decide) (he : starEach (e :: es) X.env = (false, eval e X.env) :: starEach es X.env := by rfl) (hpl : (backTo pos (starEach es X.env)).any (·.1) = false := by rfl) :
    GE M W X (.Call (.Name x p) (e :: es) [] pos) (fCall n gf fr) := by
  obtain ⟨fd, ps, hl, F1, hb⟩ := F.ex
  have kp : PySem.W.keepIn X.K (.ref (He.fAd M.K at_)) = true := by rw [g.m.K]; exact F.kp
  rw [← g.m.K] at hb
  have F2 : FnOk X.prog X.w X.K X.mg X.base (L2.CX X.prog X.w) j (He.fAd M.K at_) fd ps (spG M n gf) := by
    rw [g.m.K, g.m.P, g.m.w]
    exact F1
  exact ge_call F2 hl (g.room.mono hj) hg hm kp hb g.hx ha hdb he hpl
theorem ge_newF {c : Nat} {cn : Str} (g : Go M W X k) (F : OkF M X.mg X.base j (cn, some "__init__") (n + 1) gf) (mk : Mk M.K (M.cx c) (He.fAd M.K (cn, some "__init__"))) (hj : j + 1 ≤ k) (hg : Gl X x) (hm : X.mg x = some (.ref (M.cx c))) (ha : GA M W X (e :: es) fr)
    (hdb : (x == ("__debug__" : Str)) = false := by decide) (he : starEach (e :: es) X.env = (false, eval e X.env) :: starEach es X.env := by rfl) (hpl : (backTo pos (starEach es X.env)).any (·.1) = false := by rfl) :
    GE M W X (.Call (.Name x p) (e :: es) [] pos) (fCall n (gNew c gf) fr) := by
  obtain ⟨fd, ps, hl, F1, hb⟩ := F.ex
  rw [← g.m.K] at hb
  have F2 : FnOk X.prog X.w X.K X.mg X.base (L2.CX X.prog X.w) j (He.fAd M.K (cn, some "__init__")) fd ps (spG M (n + 1) gf) := by
    rw [g.m.K, g.m.P, g.m.w]
    exact F1
  exact ge_new g.m (by rw [g.m.K]; exact mk) F2 (g.room.mono hj) hg hm hb g.hx ha hdb he hpl
theorem ge_newMF {c : Nat} {cn : Str} (g : Go M W X k) (F : OkF M X.mg X.base j (cn, some "__init__") (n + 1) gf) (mk : Mk M.K (M.cx c) (He.fAd M.K (cn, some "__init__"))) (hj : j + 1 ≤ k) (hg : Gl X x) (hm : X.mg x = some (.ref (M.cx c))) (ha : GA M W X (e :: es) fr)
    (hdb : (x == ("__debug__" : Str)) = false := by decide) (he : starEach (e :: es) X.env = (false, eval e X.env) :: starEach es X.env := by rfl) (hpl : (backTo pos (starEach es X.env)).any (·.1) = false := by rfl) :
    GE M W X (.Call (.Name x p) (e :: es) [] pos) (fCall n (gNewM c gf) fr) := by
  obtain ⟨fd, ps, hl, F1, hb⟩ := F.ex
  rw [← g.m.K] at hb
  have F2 : FnOk X.prog X.w X.K X.mg X.base (L2.CX X.prog X.w) j (He.fAd M.K (cn, some "__init__")) fd ps (spG M (n + 1) gf) := by
    rw [g.m.K, g.m.P, g.m.w]
    exact F1
  exact ge_newM g.m (by rw [g.m.K]; exact mk) F2 (g.room.mono hj) hg hm hb g.hx ha hdb he hpl
end

/-! ### constants of the text: tuples, texts, numbers -/
mutual
def avB (K : PySem.W.Frag) : AV → Value → Bool
  | .non, .none => true
  | .bl b, .bool c => b == c
  | .int i, .int j _ => decide (i = j)
  | .str x, .str y _ => decide (x = y)
  | .tup xs, .ref a => (match K.lookup a with
    | some ⟨.type c, _, .seq its _, _⟩ => decide (c = "tuple") && (decide (its.size ≤ sizeLine) && avsB K xs its.toList)
    | _ => false)
  | _, _ => false
def avsB (K : PySem.W.Frag) : List AV → List Value → Bool
  | [], [] => true
  | x :: xs, u :: us => avB K x u && avsB K xs us
  | _, _ => false
end
mutual
theorem avB_ok {M : Mx} : ∀ {v : AV} {u : Value}, avB M.K v u = true → ∃ x, RelV x u ∧ ∀ ρ H, Rv M ρ H x v
  | .non, u, h => by
    cases u <;> first | exact ⟨.non, rfl, fun _ _ => .non⟩ | (unfold avB at h; cases h)
  | .bl b, u, h => by
    cases u with
    | bool c =>
      unfold avB at h
      exact ⟨.bl b, by rw [eq_of_beq h]; rfl, fun _ _ => .bl _⟩
    | _ => unfold avB at h; cases h
  | .int i, u, h => by
    cases u with
    | int c t =>
      unfold avB at h
      exact ⟨.int i, ⟨t, by rw [of_decide_eq_true h]⟩, fun _ _ => .int _⟩
    | _ => unfold avB at h; cases h
  | .str i, u, h => by
    cases u with
    | str c t =>
      unfold avB at h
      exact ⟨.str i, ⟨t, by rw [of_decide_eq_true h]⟩, fun _ _ => .str _⟩
    | _ => unfold avB at h; cases h
  | .tup xs, u, h => by
    cases u with
    | ref a =>
      unfold avB at h
      cases q : M.K.lookup a with
      | none => rw [q] at h; cases h
      | some o =>
        obtain ⟨oc, od, dt, osl⟩ := o
        rw [q] at h
        cases oc with
        | type c =>
          cases dt with
          | seq its n =>
            obtain ⟨h1, h2⟩ := He.ba h
            obtain ⟨h3, h4⟩ := He.ba h2
            obtain ⟨vs, r1, r2⟩ := avsB_ok h4
            exact ⟨.ref a, rfl, fun ρ H => .tup (.inr ⟨_, its, n, q, by rw [of_decide_eq_true h1], rfl, of_decide_eq_true h3, r1⟩) (r2 ρ H)⟩
          | _ => cases h
        | _ => cases dt <;> cases h
    | _ => unfold avB at h; cases h
  | .lst xs, u, h => by unfold avB at h; cases h
  | .scr xs, u, h => by unfold avB at h; cases h
  | .obj c fs, u, h => by unfold avB at h; cases h
  | .loc n, u, h => by unfold avB at h; cases h
  | .exc a d c fs, u, h => by unfold avB at h; cases h
theorem avsB_ok {M : Mx} : ∀ {v : List AV} {u : List Value}, avsB M.K v u = true → ∃ x, Vals x u ∧ ∀ ρ H, Rvs M ρ H x v
  | [], u, h => by
    cases u with
    | nil => exact ⟨[], .nil, fun _ _ => .nil⟩
    | cons a b => unfold avsB at h; cases h
  | v :: vs, u, h => by
    cases u with
    | nil => unfold avsB at h; cases h
    | cons a b =>
      unfold avsB at h
      obtain ⟨h1, h2⟩ := He.ba h
      obtain ⟨x, r1, r2⟩ := avB_ok h1
      obtain ⟨xs, s1, s2⟩ := avsB_ok h2
      exact ⟨x :: xs, .cons r1 s1, fun ρ H => .cons (r2 ρ H) (s2 ρ H)⟩
end
/-- the global x is the constant v -/
def conB (K : PySem.W.Frag) (p : Str × AV) : Bool := match PySem.W.nsIn K mainGlobals p.1 with
  | some (some u) => avB K p.2 u
  | _ => false
theorem ge_con {M : Mx} {W : WX} {X : Cx} {x : Str} {v : AV} {pos : Pos} {h : Heap} (KX : M.K.In h) (GN : h.Ns mainGlobals X.mg) (c : conB M.K (x, v) = true) (hg : Gl X x) (hd : (x == ("__debug__" : Str)) = false := by decide) : GE M W X (.Name x pos) (fC v) := by
  unfold conB at c
  cases e : PySem.W.nsIn M.K mainGlobals x with
  | none => rw [e] at c; cases c
  | some o =>
    rw [e] at c
    cases o with
    | none => cases c
    | some u =>
      obtain ⟨y, r1, r2⟩ := avB_ok (M := M) c
      exact ge_glob hg (PySem.W.mg_of KX GN e) r1 r2 hd

/-! ### exceptions of the text -/
/-- what an own class over ValueError must have, to be raised and caught -/
def oexB (K : PySem.W.Frag) (C : Addr) : Bool := (match K.lookup C with
  | some ⟨.type c, _, .cls cd, sl⟩ => (match cd.mro, sl.toList with
    | C' :: bm, [_, _, _, _, some (.builtin n), _] => decide (c = "type") && (decide (C' = .ref C) && (decide (n = "ValueError.__new__") && (cd.hasDict && (!cd.hasDel && PySem.HandSPX.refsVE bm))))
    | _, _ => false)
  | _ => false) && (decide (PySem.W.findIn K (.ref C) "__setattr__" = some (some (.builtin "object.__setattr__"))) && (decide (PySem.W.subIn K (.ref C) (.type "BaseException") = some true) && (decide (PySem.W.typeIn K (.ref C) = some (.type "type")) && PySem.W.keepIn K (.ref C))))
theorem oexB_ok {K : PySem.W.Frag} {C : Addr} (h : oexB K C = true) : OexC K C := by
  obtain ⟨h1, h⟩ := He.ba h
  obtain ⟨h2, h⟩ := He.ba h
  obtain ⟨h3, h⟩ := He.ba h
  obtain ⟨h4, h5⟩ := He.ba h
  refine ⟨?_, of_decide_eq_true h2, of_decide_eq_true h3, of_decide_eq_true h4, h5⟩
  cases q : K.lookup C with
  | none => rw [q] at h1; cases h1
  | some o =>
    obtain ⟨oc, od, dt, osl⟩ := o
    rw [q] at h1
    cases oc with
    | type c =>
      cases dt with
      | cls cd =>
        dsimp only at h1
        split at h1
        · rename_i C' bm k0 k1 k2 k3 n k5 hm hs
          obtain ⟨e0, h1⟩ := He.ba h1
          obtain ⟨e1, h1⟩ := He.ba h1
          obtain ⟨e2, h1⟩ := He.ba h1
          obtain ⟨e3, h1⟩ := He.ba h1
          obtain ⟨e4, e5⟩ := He.ba h1
          obtain ⟨nm, bs, mro, ns, qn, hd, sn, sub, ab, col, del⟩ := cd
          dsimp only at hm e3 e4
          have e4' : del = false := by simpa using e4
          subst hm e3 e4'
          have es : osl = #[k0, k1, k2, k3, some (.builtin n), k5] := by
            obtain ⟨l⟩ := osl
            simp only at hs
            rw [hs]
          rw [es, of_decide_eq_true e0, of_decide_eq_true e1, of_decide_eq_true e2]
          exact ⟨_, _, _, _, _, _, _, _, _, _, _, _, _, _, _, rfl, e5⟩
        · cases h1
      | _ => cases h1
    | _ => cases dt <;> cases h1
def veIn (r : Option PySem.W.CFound) : Bool := match r with
  | some (.val (.builtin n)) => decide (n = "ValueError.__init__")
  | _ => false
theorem veIn_ok {r : Option PySem.W.CFound} (h : veIn r = true) : r = some (.val (.builtin "ValueError.__init__")) := by
  unfold veIn at h
  split at h
  · rw [of_decide_eq_true h]
  · cases h
/-- .. and its __init__, its base (ValueError's __init__ within reach), its fields -/
def errB (K : PySem.W.Frag) (C B : Addr) (I : Addr) (fs : List Str) : Bool := oexB K C && (xfB K C && (decide (PySem.W.findIn K (.ref C) "__init__" = some (some (.ref I))) && (decide (PySem.W.typeIn K (.ref I) = some (.type "function")) && (decide (PySem.W.specialIn K (.ref B) "__getattribute__" = some (some (.builtin "type.__getattribute__"))) &&
  (PySem.W.readsIn K B (.type "type") && (veIn (PySem.W.findCls K (.ref B) (.type "type") "__init__") && fs.all fun f => decide (PySem.W.findIn K (.ref C) f = some none)))))))
structure ErrC (K : PySem.W.Frag) (C B : Addr) (I : Addr) (fs : List Str) : Prop where
  o : OexC K C
  x : XfC K C
  iC : PySem.W.findIn K (.ref C) "__init__" = some (some (.ref I))
  tI : PySem.W.typeIn K (.ref I) = some (.type "function")
  r : ClX.CRead K B (.type "type")
  vV : PySem.W.findCls K (.ref B) (.type "type") "__init__" = some (.val (.builtin "ValueError.__init__"))
  no : ∀ f ∈ fs, PySem.W.findIn K (.ref C) f = some none
theorem errB_ok {K : PySem.W.Frag} {C B I : Addr} {fs : List Str} (h : errB K C B I fs = true) : ErrC K C B I fs := by
  obtain ⟨h1, h⟩ := He.ba h
  obtain ⟨h2, h⟩ := He.ba h
  obtain ⟨h3, h⟩ := He.ba h
  obtain ⟨h4, h⟩ := He.ba h
  obtain ⟨h5, h⟩ := He.ba h
  obtain ⟨h6, h⟩ := He.ba h
  obtain ⟨h7, h8⟩ := He.ba h
  exact ⟨oexB_ok h1, xfB_ok h2, of_decide_eq_true h3, of_decide_eq_true h4, ⟨h6, of_decide_eq_true h5⟩, veIn_ok h7, fun f hf => of_decide_eq_true (List.all_eq_true.mp h8 f hf)⟩

/-! ### the __init__ of such a class: B.__init__(self, message), then self.f = argument for each field -/
def tSets (K : PySem.W.Frag) : List (Str × Nat) → TS
  | [] => tNext
  | (f, i) :: r => tSeq (tOst K f (tVar 0) (tVar (i + 1))) (tSets K r)
section
variable {X : Cx} {rest : List Stmt} {p1 p2 p3 pos : Pos}
theorem pss_set {f : Str} {i : Nat} {r : List (Str × Nat)} {o : Expr} {e : Expr} (ho : PE X o (tVar 0)) (he : PE X e (tVar (i + 1))) (hr : PSs X rest (tSets X.K r)) (hs : swapsWith e (some (.Attribute o f p3)) pos.line X.env = pure false := by rfl) : PSs X (.Assign [.Attribute o f p3] e pos :: rest) (tSets X.K ((f, i) :: r)) :=
  pss_cons (ps_ost ho he hs) hr
end
/-- where the exception's dict stands already -/
theorem sets_old {K : PySem.W.Frag} {C a dx : Addr} {ws : List V} {σ : L2.St} {D : Ends} (T : OexC K C) (hda : dx ≠ a) (h0 : σ[0]? = some (some (.ref a))) (hw : ∀ i x, ws[i]? = some x → σ[i + 1]? = some (some x)) : ∀ (sel : List (Str × Nat)) (fs fv : List (Str × V)) (H : Hp), (∀ f ∈ sel.map (·.1), PySem.W.findIn K (.ref C) f = some none) →
    fs.length + sel.length ≤ 900 → pick ws sel = some fv → D.nx σ (upd (upd H dx (exd dx (fv.reverse ++ fs))) a (exo a C (some dx))) → tSets K sel D σ (upd (upd H dx (exd dx fs)) a (exo a C (some dx)))
  | [], fs, fv, H, _, _, e, h => by
    cases e
    exact h
  | (f, i) :: r, fs, fv, H, hn, hl, e, h => by
    unfold pick at e
    cases q : ws[i]? with
    | none => rw [q] at e; cases e
    | some x =>
      rw [q] at e
      cases q2 : pick ws r with
      | none => rw [q2] at e; cases e
      | some fr =>
        rw [q2] at e
        cases e
        refine ⟨x, hw i x q, .ref a, h0, a, C, rfl, T, hn f (by simp), .inr ⟨dx, fs, upd_same, ?_, by simp at hl; omega, ?_⟩⟩
        · rw [upd_ne hda, upd_same]
        · have eH : upd (upd (upd H dx (exd dx fs)) a (exo a C (some dx))) dx (exd dx ((f, x) :: fs)) = upd (upd H dx (exd dx ((f, x) :: fs))) a (exo a C (some dx)) := by
            funext b
            by_cases hb : b = dx
            · rw [hb, upd_same, upd_ne hda, upd_same]
            · rw [upd_ne hb]
              by_cases hba : b = a
              · rw [hba, upd_same, upd_same]
              · rw [upd_ne hba, upd_ne hba, upd_ne hb, upd_ne hb]
          show tSets K r D σ _
          rw [eH]
          refine sets_old T hda h0 hw r ((f, x) :: fs) fr H (fun g hg => hn g (by simp at hg ⊢; exact .inr hg)) (by simp at hl ⊢; omega) q2 ?_
          rw [List.reverse_cons, List.append_assoc] at h
          exact h
theorem sets_new {K : PySem.W.Frag} {C a : Addr} {ws : List V} {σ : L2.St} {D : Ends} (T : OexC K C) (h0 : σ[0]? = some (some (.ref a))) (hw : ∀ i x, ws[i]? = some x → σ[i + 1]? = some (some x)) (f : Str) (i : Nat) (r : List (Str × Nat)) (fv : List (Str × V)) (H : Hp) (hn : ∀ g ∈ ((f, i) :: r).map (·.1), PySem.W.findIn K (.ref C) g = some none)
    (hl : r.length ≤ 800) (e : pick ws ((f, i) :: r) = some fv) (ha : H a = some (exo a C none)) (h : ∀ dx, H dx = none → dx ≠ a → D.nx σ (upd (upd H dx (exd dx fv.reverse)) a (exo a C (some dx)))) : tSets K ((f, i) :: r) D σ H := by
  unfold pick at e
  cases q : ws[i]? with
  | none => rw [q] at e; cases e
  | some x =>
    rw [q] at e
    cases q2 : pick ws r with
    | none => rw [q2] at e; cases e
    | some fr =>
      rw [q2] at e
      cases e
      refine ⟨x, hw i x q, .ref a, h0, a, C, rfl, T, hn f (by simp), .inl ⟨ha, fun dx hd hda => ?_⟩⟩
      refine sets_old T hda h0 hw r [(f, x)] fr H (fun g hg => hn g (by simp at hg ⊢; exact .inr hg)) (by simp; omega) q2 ?_
      have := h dx hd hda
      rw [List.reverse_cons] at this
      exact this
theorem pick_app {α : Type} (ws : List α) : ∀ (a b : List (Str × Nat)), pick ws (a ++ b) = (match pick ws a, pick ws b with
    | some x, some y => some (x ++ y)
    | _, _ => none)
  | [], b => by
    show pick ws b = (match some [], pick ws b with
      | some x, some y => some (x ++ y)
      | _, _ => none)
    cases pick ws b <;> rfl
  | (f, i) :: a, b => by
    show (match ws[i]?, pick ws (a ++ b) with
      | some x, some y => some ((f, x) :: y)
      | _, _ => none) = (match (match ws[i]?, pick ws a with
        | some x, some y => some ((f, x) :: y)
        | _, _ => none), pick ws b with
      | some x, some y => some (x ++ y)
      | _, _ => none)
    rw [pick_app ws a b]
    cases ws[i]? <;> cases pick ws a <;> cases pick ws b <;> rfl
theorem pick_rev {α : Type} (ws : List α) : ∀ (a : List (Str × Nat)) {fs : List (Str × α)}, pick ws a.reverse = some fs → pick ws a = some fs.reverse
  | [], fs, e => by
    have : pick ws [] = some fs := e
    unfold pick at this
    cases this
    rfl
  | (f, i) :: a, fs, e => by
    rw [List.reverse_cons, pick_app] at e
    cases q : pick ws a.reverse with
    | none => rw [q] at e; cases e
    | some y =>
      rw [q] at e
      have h1 := pick_rev ws a q
      have e2 : pick ws [(f, i)] = (match ws[i]? with
        | some x => some [(f, x)]
        | none => none) := by
        unfold pick pick
        cases ws[i]? <;> rfl
      rw [e2] at e
      cases q2 : ws[i]? with
      | none => rw [q2] at e; cases e
      | some x =>
        rw [q2] at e
        cases e
        unfold pick
        rw [q2, h1]
        simp
/-- the def: msg the message, sets the fields in the order of the text -/
theorem init_ok {M : Mx} {mg : Str → Option Value} {base : Heap} {x qual : Str} {pa : Arguments} {body : List Stmt} {sc : Scope} {f : Addr} {fd : FuncData} {N ps : List Str} {k c n : Nat} {B I : Addr} {fs : List Str} {okA : List AV → Bool} {fm : FE} {f0 : Str} {i0 : Nat} {sets : List (Str × Nat)}
    (T : ErrC M.K (M.cx c) B I fs) (F : FunD M.K x qual pa body sc [] [] f fd) (S : FnScope N ps sc) (hN : N.length = n + 1) (hl : ps.length = n + 1) (hs : sets.length ≤ 800) (hfs : ∀ f ∈ ((f0, i0) :: sets).map (·.1), f ∈ fs)
    (hok : ∀ vs : List AV, okA vs = true → ∃ u, fm (none :: vs.map some) [] = .ok u [])
    (hb : ∀ (cdv : Value) (A : Around) (outer : List Env) (s : Shared) (H : Hp) (E : XK), Room k (A.deeper (envOfC qual sc s.heap.objs.size f cdv)) → ∃ te, (∃ tm, (∀ ρ H σ Γ S Q, Rs M ρ H σ Γ S → pE M W0 ρ H σ (fm Γ S) Q → tm σ H Q) ∧ te = tVeI M.K (tCons (tVar 0) (tCons tm tNil))) ∧
      PSs (cxOf (L2.CX M.P M.w) M.P M.w M.K mg base N qual sc f cdv A outer s H E) body (tSeq (tDrop te) (tSets M.K ((f0, i0) :: sets)))) :
    FnOk M.P M.w M.K mg base (L2.CX M.P M.w) (k + 1) f fd ps (spI M c ((f0, i0) :: sets).reverse (fun ws => ∃ vs, (∀ ρ H, Rvs M ρ H ws vs) ∧ okA vs = true) n) :=
  F.ok S (fun vs H Q E h => by
    obtain ⟨a, ws, fv, rfl, hw, _⟩ := h
    rw [hl, List.length_cons, hw]) fun cdv A outer s H vs Q E hr h => by
    obtain ⟨a, ws, fv, rfl, hw, ⟨av, rav, oka⟩, ep, ha, hq⟩ := h
    obtain ⟨te, ⟨tm, qm, rfl⟩, p⟩ := hb cdv A outer s H E hr
    refine ⟨_, p, ?_⟩
    have eN : N.length - (V.ref a :: ws).length = 0 := by rw [List.length_cons, hw, hN]; omega
    have es : L2.start N (V.ref a :: ws) = some (V.ref a) :: ws.map some := by
      unfold L2.start
      rw [eN]
      simp
    rw [es]
    have hav : ws.length = av.length := (rav [] H).len
    obtain ⟨u, hu⟩ := hok av oka
    unfold tSeq tDrop tVeI
    show ∃ v, _ ∧ _
    refine ⟨.ref a, rfl, ?_⟩
    refine qm [] H _ (none :: av.map some) [] _ ⟨⟨rfl, List.nodup_nil, fun n b o h => by simp at h⟩, ⟨by simp [hav], fun i v e => ?_⟩⟩ ?_
    · cases i with
      | zero => simp at e
      | succ i =>
        simp at e
        obtain ⟨y, e2, r2⟩ := (rav [] H).ix (i := i) (v := v) (by simpa using e)
        exact ⟨y, by simp [e2], r2⟩
    · rw [hu]
      intro ρ' H' y n o ry
      have hext : ∀ b o, H b = some o → H' b = some o := fun b o e => n.ext b o e (by simp)
      refine ⟨a, M.cx c, [y], rfl, by simp, T.o, hext a _ ha, ?_⟩
      have ep2 := pick_rev ws _ ep
      refine sets_new T.o rfl (fun i x hx => by simp [hx]) f0 i0 sets fv.reverse H' (fun g hg => T.no g (hfs g hg)) hs ep2 (hext a _ ha) fun dx hd hda => ?_
      rw [List.reverse_reverse]
      exact hq H' dx hext hd hda

/-! ### raise, by where its __init__ stands -/
/-- the class c, its __init__ walked: sel its fields (the last set first), okA the arguments that it takes, n their number -/
structure OkE (M : Mx) (mg : Str → Option Value) (base : Heap) (k : Nat) (cn : Str) (c n : Nat) (sel : List (Str × Nat)) (okA : List AV → Bool) : Prop where
  ex : ∃ (fd : FuncData) (ps : List Str), FnOk M.P M.w M.K mg base (L2.CX M.P M.w) k (He.fAd M.K (cn, some "__init__")) fd ps (spI M c sel (fun ws => ∃ vs, (∀ ρ H, Rvs M ρ H ws vs) ∧ okA vs = true) n) ∧ Binds M.K fd ps []
  o : OexC M.K (M.cx c)
  iC : PySem.W.findIn M.K (.ref (M.cx c)) "__init__" = some (some (.ref (He.fAd M.K (cn, some "__init__"))))
  tI : PySem.W.typeIn M.K (.ref (He.fAd M.K (cn, some "__init__"))) = some (.type "function")
theorem gs_raiseF {M : Mx} {W : WX} {X : Cx} {k j c n : Nat} {cn x : Str} {sel : List (Str × Nat)} {okA : List AV → Bool} {e : Expr} {es : List Expr} {p pos pos' : Pos} {fa : FA} (g : Gs M W X k) (F : OkE M X.mg X.base j cn c n sel okA) (hj : j + 1 ≤ k) (hg : Gl X x) (hm : X.mg x = some (.ref (M.cx c))) (ha : GA M W X (e :: es) fa)
    (hn : ∀ ρ H xs vs, Rvs M ρ H xs vs → okA vs = true → (∀ ρ H, Rvs M ρ H xs vs) ∧ xs.length = n) (hdb : (x == ("__debug__" : Str)) = false := by decide) (he : starEach (e :: es) X.env = (false, eval e X.env) :: starEach es X.env := by rfl) (hpl : (backTo pos (starEach es X.env)).any (·.1) = false := by rfl) :
    GS M W X (.Raise (some (.Call (.Name x p) (e :: es) [] pos)) none pos') (fRaise c sel okA fa) := by
  obtain ⟨fd, ps, F1, hb⟩ := F.ex
  rw [← g.m.K] at hb
  have F2 : FnOk X.prog X.w X.K X.mg X.base (L2.CX X.prog X.w) j (He.fAd M.K (cn, some "__init__")) fd ps (spI M c sel (fun ws => ∃ vs, (∀ ρ H, Rvs M ρ H ws vs) ∧ okA vs = true) n) := by
    rw [g.m.K, g.m.P, g.m.w]
    exact F1
  exact gs_raise g (by rw [g.m.K]; exact F.o) (by rw [g.m.K]; exact F.iC) (by rw [g.m.K]; exact F.tI) F2 hj hb hg hm ha (fun ρ H xs vs r e => ⟨⟨vs, (hn ρ H xs vs r e).1, e⟩, (hn ρ H xs vs r e).2⟩) hdb he hpl
theorem okTxt_flat {M : Mx} {m : Nat} : ∀ ρ H xs vs, Rvs M ρ H xs vs → okTxt m vs = true → (∀ ρ H, Rvs M ρ H xs vs) ∧ xs.length = 1 := fun ρ H xs vs r e => by
  cases r with
  | nil => unfold okTxt at e; cases e
  | cons h r =>
    cases r with
    | nil =>
      cases h with
      | str s => exact ⟨fun ρ H => .cons (.str s) .nil, rfl⟩
      | _ => unfold okTxt at e; cases e
    | cons h2 r2 => cases h <;> (unfold okTxt at e; cases e)

/-! ### the law -/
/-- what the head has told -/
structure Tp (fa : List He.Fa) (fn : List He.DefD) (ex : PySem.W.Frag → Bool) (M : Mx) (mg : Str → Option Value) (h : Heap) : Prop where
  KX : M.K.In h
  GN : h.Ns mainGlobals mg
  d : He.SaysD fa fn M.K
  more : ex M.K = true
section
variable {fa : List He.Fa} {fn : List He.DefD} {ex : PySem.W.Frag → Bool} {M : Mx} {mg : Str → Option Value} {h : Heap}
theorem Tp.fact (T : Tp fa fn ex M mg h) (i : Nat) {f : He.Fa} (e : fa[i]? = some f := by rfl) : f.ok M.K = true := T.d.fact i e
theorem Tp.glo (T : Tp fa fn ex M mg h) (i : Nat) {x : Str} (e : fa[i]? = some (.glo x) := by rfl) : mg x = some (.ref (He.ga M.K x)) := He.glo_ok T.KX T.GN (T.d.fact i e)
theorem Tp.free (T : Tp fa fn ex M mg h) (i : Nat) {x : Str} (e : fa[i]? = some (.free x) := by rfl) : mg x = none := He.free_ok T.KX T.GN (T.d.fact i e)
theorem Tp.def_ (T : Tp fa fn ex M mg h) (i : Nat) {d : He.DefD} (e : fn[i]? = some d := by rfl) : ∃ fd, FunD M.K d.name d.qual d.params d.body d.scope (d.dvs M.K) (d.kws M.K) (He.fAd M.K d.at_) fd := T.d.def_ i e
end
/-! the Hook: what the module's names reach, and the statics -/
def asS (g : Addr → Option Obj) (n : Nat) : List Addr := He.asD g n ++ [cStatics]
def obsS (n : Nat) (fa : List He.Fa) (fn : List He.DefD) (ex : PySem.W.Frag → Bool) (g : Addr → Option Obj) : He.AlD × Bool := (He.obsD fa fn (He.frG g (asS g n)), ex (He.frG g (asS g n)))
def hookS (n : Nat) (fa : List He.Fa) (fn : List He.DefD) (ex : PySem.W.Frag → Bool) : PySem.W.Hook where
  α := He.AlD × Bool
  obs := fun s => obsS n fa fn ex s.heap.get?
  val := fun _ => (He.valD fn, true)
  says := fun _ h => ∃ K : PySem.W.Frag, K.In h ∧ He.SaysD fa fn K ∧ ex K = true
  of := fun _ _ e => ⟨_, He.frG_in, congrArg Prod.fst e, congrArg Prod.snd e⟩
  keeps := fun _ _ _ ⟨K, hK, c⟩ k => ⟨K, PySem.W.Frag.In.keeps hK k, c⟩
theorem obsS_eq {n : Nat} {fa : List He.Fa} {fn : List He.DefD} {ex : PySem.W.Frag → Bool} {g : Addr → Option Obj} {s : Shared} (h : ∀ a, g a = s.heap.get? a) : obsS n fa fn ex g = (hookS n fa fn ex).obs s := by
  have e : g = s.heap.get? := funext h
  rw [e] <;> rfl
theorem walk_G {l : PySem.W.OpenLaw} {n k : Nat} {q : Program} {loose : List Str} {XP : (Str → Option Value) → Heap → Prop} {d : DefRec} {fa : List He.Fa} {fn : List He.DefD} {ex : PySem.W.Frag → Bool} {cx : PySem.W.Frag → Nat → Addr} {g : FF}
    (hn : l.most = some n) (hn2 : n ≤ sizeLine) (hdf : d.params.defaults = []) (hr : Room k callerA)
    (F : ∀ (w : World) (K : PySem.W.Frag) (mg : Str → Option Value) (fA : Addr) (h : Heap), Tp fa fn ex ⟨K, l.prog, w, cx K⟩ mg h → mg d.name = some (.ref fA) →
      ∃ fd : FuncData, (∀ (s : Shared) (u : Value), BindsTo s fd ⟨[u], []⟩ [(("script" : Str), u)]) ∧ ∀ base : Heap, K.In base → base.Ns mainGlobals mg → FnOk l.prog w K mg base (L2.CX l.prog w) k fA fd ["script"] (spG ⟨K, l.prog, w, cx K⟩ 1 g))
    (plain : ∀ ns : List Int, ns.length ≤ n → ∃ S, g [.scr (ns.map AV.int)] [] = .ok (.bl true) S) :
    PySem.W.WalkO q loose XP (fun _ h => ∃ K : PySem.W.Frag, K.In h ∧ He.SaysD fa fn K ∧ ex K = true) l.row.toRowW d [] (fun f vs => PySem.call f vs) := by
  refine LamX.walk_ofTsE (n := n) (k := k) (x := "script") (CX := fun w => L2.CX l.prog w) hn hn2 hdf hr (fun w mg fA h Y G hmg => ?_) fun w H s e s' z => ?_
  · obtain ⟨K, KX, c⟩ := Y
    obtain ⟨fd, hb, hF⟩ := F w K mg fA h ⟨KX, G, c.1, c.2⟩ hmg
    refine ⟨K, KX, fd, [], spG ⟨K, l.prog, w, cx K⟩ 1 g, (fun p hp => nomatch hp), (fun p hp => nomatch hp), (fun p hp => nomatch hp), hb, fun H a ns hl _ _ hS => ?_, fun base h1 h2 _ => hF base h1 h2⟩
    obtain ⟨S, e⟩ := plain ns hl
    have hints : ∀ ns : List Int, Rvs ⟨K, l.prog, w, cx K⟩ [] H (ns.map V.int) (ns.map AV.int) := fun ns => by
      induction ns with
      | nil => exact .nil
      | cons a b ih => exact .cons (.int a) ih
    refine ⟨[], [], [.scr (ns.map AV.int)], ⟨rfl, List.nodup_nil, fun n b o h => by simp at h⟩, .cons (.scr (hS.elim (fun z => .inl ⟨z, by simp⟩) .inr) (hints ns)) .nil, rfl, ?_⟩
    rw [e]
    intro ρ' H' x n' o rx
    cases rx
    rfl
  · obtain ⟨_, _, _, _, _, _, _, _, _, _, _, _, z⟩ := z
    exact z.elim

/-! ### words for the printed part -/
theorem og_is {M : Mx} {X : Cx} : OG M X (compareOp .Is) gIs := og_isN
theorem og_isNot {M : Mx} {X : Cx} : OG M X (compareOp .IsNot) gIsNot := og_notN
theorem ag_iadd {M : Mx} {X : Cx} : AG M X .Add gIAdd := ag_add
theorem ClsF.nil {M : Mx} {f : Str} : ClsF M f [] := ⟨fun c h => by cases h⟩
theorem ClsF.cons {M : Mx} {f : Str} {c : Nat} {cs : List Nat} (h1 : Cls M.K (M.cx c)) (h2 : NoAttr M.K (M.cx c) f) (h : ClsF M f cs) : ClsF M f (c :: cs) := ⟨fun d hd => by
  rcases List.mem_cons.mp hd with e | e
  · rw [e]
    exact ⟨h1, h2⟩
  · exact h.ok d e⟩
/-- the body of such an __init__ -/
structure InitB (M : Mx) (X : Cx) (body : List Stmt) (fm : FE) (sets : List (Str × Nat)) : Prop where
  run : ∃ tm, (∀ ρ H σ Γ S Q, Rs M ρ H σ Γ S → pE M W0 ρ H σ (fm Γ S) Q → tm σ H Q) ∧ PSs X body (tSeq (tDrop (tVeI M.K (tCons (tVar 0) (tCons tm tNil)))) (tSets M.K sets))
theorem initB {M : Mx} {X : Cx} {bn : Str} {B : Addr} {o e : Expr} {rest : List Stmt} {fm : FE} {sets : List (Str × Nat)} {p1 p2 pos pos2 : Pos} {pl : Sem Bool} (m : MX M X) (hg : Gl X bn) (hm : X.mg bn = some (.ref B)) (r : ClX.CRead M.K B (.type "type"))
    (vV : PySem.W.findCls M.K (.ref B) (.type "type") "__init__" = some (.val (.builtin "ValueError.__init__"))) (ho : PE X o (tVar 0)) (he : GE M W0 X e fm) (hr : PSs X rest (tSets X.K sets))
    (hc : eval (.Call (.Attribute (.Name bn p1) "__init__" p2) [o, e] [] pos) X.env = (do
      let ov ← eval (.Name bn p1) X.env
      standAt p2.atName
      let (f, first) ← holding [ov] (getMethod ov "__init__" pl)
      callWith pos f first (backTo pos (starEach [o, e] X.env)) (backToKw pos (keywordEach [] X.env))) := by rfl)
    (hs1 : starEach [e] X.env = (false, eval e X.env) :: starEach [] X.env := by rfl) (hs : swapsWith (.Call (.Attribute (.Name bn p1) "__init__" p2) [o, e] [] pos) none pos2.line X.env = pure false := by rfl)
    (hdb : (bn == ("__debug__" : Str)) = false := by decide) (hx : starEach [o, e] X.env = (false, eval o X.env) :: starEach [e] X.env := by rfl) (hpl : (backTo pos (starEach [e] X.env)).any (·.1) = false := by rfl) :
    InitB M X (.Expr (.Call (.Attribute (.Name bn p1) "__init__" p2) [o, e] [] pos) pos2 :: rest) fm sets := by
  obtain ⟨tm, pm, qm⟩ := he.run
  refine ⟨tm, qm, ?_⟩
  have q := pss_cons (ps_expr (pe_binit (pos := pos) (p1 := p1) (p2 := p2) hg hm (by rw [m.K]; exact r) (by rw [m.K]; exact vV) (pa_cons ho (pa_cons pm pa_nil hs1) hx) hc hdb hx hpl) hs) hr
  rw [m.K] at q
  exact q
theorem initE {M : Mx} {mg : Str → Option Value} {base : Heap} {x qual : Str} {pa : Arguments} {body : List Stmt} {sc : Scope} {fd : FuncData} {N ps : List Str} {k c n : Nat} {B : Addr} {cn : Str} {fs : List Str} {okA : List AV → Bool} {fm : FE} {f0 : Str} {i0 : Nat} {sets : List (Str × Nat)}
    (T : ErrC M.K (M.cx c) B (He.fAd M.K (cn, some "__init__")) fs) (F : FunD M.K x qual pa body sc [] [] (He.fAd M.K (cn, some "__init__")) fd) (S : FnScope N ps sc) (hN : N.length = n + 1) (hl : ps.length = n + 1) (hs : sets.length ≤ 800) (hfs : ∀ f ∈ ((f0, i0) :: sets).map (·.1), f ∈ fs)
    (hok : ∀ vs : List AV, okA vs = true → ∃ u, fm (none :: vs.map some) [] = .ok u []) (hbi : Binds M.K fd ps [])
    (hb : ∀ (cdv : Value) (A : Around) (outer : List Env) (s : Shared) (H : Hp) (E : XK), Room k (A.deeper (envOfC qual sc s.heap.objs.size (He.fAd M.K (cn, some "__init__")) cdv)) → InitB M (cxOf (L2.CX M.P M.w) M.P M.w M.K mg base N qual sc (He.fAd M.K (cn, some "__init__")) cdv A outer s H E) body fm ((f0, i0) :: sets)) :
    OkE M mg base (k + 1) cn c n ((f0, i0) :: sets).reverse okA := ⟨⟨fd, ps, init_ok T F S hN hl hs hfs hok fun cdv A outer s H E hr => by
      obtain ⟨tm, qm, p⟩ := (hb cdv A outer s H E hr).run
      exact ⟨_, ⟨tm, qm, rfl⟩, p⟩, hbi⟩, T.o, T.iC, T.tI⟩
/-- a message: a text, then the argument -/
theorem msg_cat {p : Str} {m : Nat} (hm : p.length = m) : ∀ vs : List AV, okTxt m vs = true → ∃ u, (fOp gAdd (fC (.str p)) (fV 1)) (none :: vs.map some) [] = .ok u [] := fun vs h => by
  unfold okTxt at h
  split at h
  · rename_i s
    have h' := of_decide_eq_true h
    refine ⟨.str (p ++ s), ?_⟩
    show (if p.length + s.length ≤ sizeLine then XR.ok (AV.str (p ++ s)) [] else .bad) = _
    rw [if_pos (by rw [hm]; exact h')]
  · cases h
theorem gs_fldC {M : Mx} {W : WX} {X : Cx} {o e : Expr} {fo f : FE} {pos pos' : Pos} {f' : Str} {cs : List Nat} (m : MX M X) (k : ClsF M f' cs) (ho : GE M W X o fo) (he : GE M W X e f) (hs : swapsWith e (some (.Attribute o f' pos')) pos.line X.env = pure false := by rfl) :
    GS M W X (.Assign [.Attribute o f' pos'] e pos) (fSetFC cs fo f f') := gs_fld m k ho he hs
/-- the slots of a comprehension, by a test -/
def blkB (N : List Str) (sc scope : Scope) (own : List (Str × Nat)) : Bool := decide (scope.kind = .function) && (scope.names.all (fun y => decide (scope.names.lookup y.1 = some y.2)) && (own.all (fun p => decide (N[p.2]? = some p.1)) &&
  (scope.names.all (fun y => decide (y.2 ≠ .free) || (decide (sc.names.lookup y.1 = some .cell) || decide (sc.names.lookup y.1 = some .free))) && scope.names.all (fun y => (decide (y.2 ≠ .local) && decide (y.2 ≠ .cell)) || (decide (y.1 ∈ own.map (·.1)) || decide (y.1 ∉ N))))))
theorem blk_ok {N : List Str} {sc scope : Scope} {own : List (Str × Nat)} (h : blkB N sc scope own = true) : BlkOk N sc scope own := by
  obtain ⟨h1, h⟩ := He.ba h
  obtain ⟨h2, h⟩ := He.ba h
  obtain ⟨h3, h⟩ := He.ba h
  obtain ⟨h4, h5⟩ := He.ba h
  refine ⟨of_decide_eq_true h1, fun y hy => of_decide_eq_true (List.all_eq_true.mp h2 y hy), fun p hp => of_decide_eq_true (List.all_eq_true.mp h3 p hp), fun y hy e => ?_, fun y hy e => ?_⟩
  · have := List.all_eq_true.mp h4 y hy
    simp only [Bool.or_eq_true, decide_eq_true_eq] at this
    rcases this with q | q | q
    · exact absurd e q
    · exact .inl q
    · exact .inr q
  · have := List.all_eq_true.mp h5 y hy
    simp only [Bool.or_eq_true, Bool.and_eq_true, decide_eq_true_eq] at this
    rcases this with q | q | q
    · rcases e with e | e
      · exact absurd e q.1
      · exact absurd e q.2
    · exact .inl q
    · exact .inr q
end G

set_option Elab.async false
set_option linter.all false
set_option maxRecDepth 100000
set_option maxHeartbeats 4000000
/-! G, plain: how the words of the pure part are worked out. -/
namespace G
open PySem

@[simp] theorem sizeLine_is : sizeLine = 16777216 := rfl
/-! ### leaving a def -/
theorem clo_refl (S : Sto) : clo S S := fun i o h e => .inl e
theorem clo_app (S T : Sto) : clo S (S ++ T) := fun i o h e => .inl (by rw [List.getElem?_append_left h] at e; exact e)
theorem clo_set {S : Sto} {n : Nat} {o : AO} (h : lfO S.length o = true) : clo S (S.set n o) := fun i u hi e => by
  by_cases hn : n = i
  · subst hn
    rw [List.getElem?_set_self hi] at e
    cases e
    exact .inr h
  · rw [List.getElem?_set_ne hn] at e
    exact .inl e
theorem clo_set_app {S T : Sto} {n : Nat} {o : AO} (h : lfO S.length o = true) : clo S (S.set n o ++ T) := fun i u hi e => by
  rw [List.getElem?_append_left (by simpa using hi)] at e
  exact clo_set h i u hi e
/-- a value without locations -/
def nl (v : AV) : Bool := lf 0 v
mutual
theorem lf_mono {m n : Nat} (h : m ≤ n) : ∀ {v : AV}, lf m v = true → lf n v = true
  | .non, _ => by unfold lf; rfl
  | .bl b, _ => by unfold lf; rfl
  | .int i, _ => by unfold lf; rfl
  | .str s, _ => by unfold lf; rfl
  | .tup xs, e => by unfold lf at e ⊢; exact lfs_mono h e
  | .lst xs, e => by unfold lf at e ⊢; exact lfs_mono h e
  | .scr xs, e => by unfold lf at e ⊢; exact lfs_mono h e
  | .obj c fs, e => by unfold lf at e ⊢; exact lff_mono h e
  | .exc a d c fs, e => by unfold lf at e ⊢; exact lff_mono h e
  | .loc k, e => by
    unfold lf at e ⊢
    exact decide_eq_true (Nat.lt_of_lt_of_le (of_decide_eq_true e) h)
theorem lfs_mono {m n : Nat} (h : m ≤ n) : ∀ {v : List AV}, lfs m v = true → lfs n v = true
  | [], _ => by unfold lfs; rfl
  | v :: vs, e => by
    unfold lfs at e ⊢
    rw [Bool.and_eq_true] at e
    rw [lf_mono h e.1, lfs_mono h e.2]
    rfl
theorem lff_mono {m n : Nat} (h : m ≤ n) : ∀ {v : Flds}, lff m v = true → lff n v = true
  | [], _ => by unfold lff; rfl
  | (f, v) :: vs, e => by
    unfold lff at e ⊢
    rw [Bool.and_eq_true] at e
    rw [lf_mono h e.1, lff_mono h e.2]
    rfl
end
theorem fz_nl {n : Nat} {S : Sto} : ∀ {v : AV}, nl v = true → fz n S v = some v := fun {v} h => by
  have h' := lf_mono (Nat.zero_le n) h
  cases v with
  | loc k =>
    unfold nl lf at h
    exact absurd (of_decide_eq_true h) (Nat.not_lt_zero k)
  | _ => exact if_pos (e := none) h'
/-- the store keeps its length -/
theorem fin_keep {S S' : Sto} {v : AV} (c : clo S S') (hl : S'.length = S.length) (h : nl v = true) : fin S v S' = .ok v S' := by
  unfold fin
  rw [if_pos c, fz_nl h]
  show XR.ok v (S'.take S.length) = _
  rw [← hl, List.take_length]
/-- it grows, what is new is forgotten -/
theorem fin_drop {S S' T : Sto} {v u : AV} (c : clo S (S' ++ T)) (hl : S'.length = S.length) (h : fz S.length (S' ++ T) v = some u) : fin S v (S' ++ T) = .ok u S' := by
  unfold fin
  rw [if_pos c, h]
  show XR.ok u ((S' ++ T).take S.length) = _
  rw [← hl, List.take_left]
theorem lvF_rt {S S' : Sto} {v : AV} : lvF S (.rt v S') = fin S v S' := rfl
theorem lvF_nx {S S' : Sto} {Γ : Sl} : lvF S (.nx Γ S') = fin S .non S' := rfl
theorem fin_self {S : Sto} {v : AV} (h : nl v = true) : fin S v S = .ok v S := fin_keep (clo_refl S) rfl h
theorem lvF_ex {S S' : Sto} {c : Nat} {fs : Flds} {Γ : Sl} (h : lff 0 fs = true) (hc : clo S S') (T : Sto) (e : S' = S ++ T) : lvF S (.ex c fs Γ S') = .ex c fs S := by
  unfold lvF
  dsimp only
  rw [if_pos ⟨hc, lff_mono (Nat.zero_le _) h⟩, e, List.take_left]
theorem lvF_exT {S : Sto} {c : Nat} {fs : Flds} {Γ : Sl} {T : Sto} (h : lff 0 fs = true) : lvF S (.ex c fs Γ (S ++ T)) = .ex c fs S := lvF_ex h (clo_app S T) T rfl
theorem lvF_ex0 {S : Sto} {c : Nat} {fs : Flds} {Γ : Sl} (h : lff 0 fs = true) : lvF S (.ex c fs Γ S) = .ex c fs S := lvF_ex h (clo_refl S) [] (by simp)
/-- an instance that does not change -/
theorem new_ok {S : Sto} {c : Nat} {g : FF} {args : List AV} {fs : Flds} (h : g (.loc S.length :: args) (S ++ [.ins c []]) = .ok .non (S ++ [.ins c fs])) (hf : lff 0 fs = true) : gNew c g args S = .ok (.obj c fs) S := by
  unfold gNew
  rw [h]
  refine fin_drop (clo_app _ _) rfl ?_
  unfold fz
  simp [lff_mono (Nat.zero_le _) hf]
theorem new_ex {S : Sto} {c c' : Nat} {g : FF} {args : List AV} {fs fs' : Flds} (h : g (.loc S.length :: args) (S ++ [.ins c []]) = .ex c' fs' (S ++ [.ins c fs])) (hf : lff 0 fs' = true) : gNew c g args S = .ex c' fs' S := by
  unfold gNew
  rw [h]
  exact lvF_ex hf (clo_app _ _) _ rfl

/-! ### loops -/
section
variable {all : List AV} {g : FG} {b : FSt} {t : FT}
theorem loop_nil {Γ : Sl} {S : Sto} : loopF all none g b [] Γ S = .nx Γ S := by
  unfold loopF
  simp [still]
theorem loop_cons {x : AV} {xs : List AV} {Γ Γ1 : Sl} {S : Sto} (h : g x Γ = some Γ1) : loopF all none g b (x :: xs) Γ S = (match b Γ1 S with
      | .nx Γ2 S2 => loopF all none g b xs Γ2 S2
      | .ct Γ2 S2 => loopF all none g b xs Γ2 S2
      | .bk Γ2 S2 => .nx Γ2 S2
      | r => r) := by
  rw [loopF]
  simp only [still, if_true, h]
  all_goals (cases b Γ1 S <;> rfl)
/-- over a list that stands in the store -/
theorem loop_runL {l : Option Nat} {I : List AV → Sl → Sto → Prop} {R : SR → Prop} (st : ∀ xs Γ S, I xs Γ S → still l all S) (fin : ∀ Γ S, I [] Γ S → R (.nx Γ S))
    (step : ∀ x xs Γ S, I (x :: xs) Γ S → ∃ Γ1, g x Γ = some Γ1 ∧ ((∃ Γ2 S2, (b Γ1 S = .nx Γ2 S2 ∨ b Γ1 S = .ct Γ2 S2) ∧ I xs Γ2 S2) ∨ (∃ v S2, b Γ1 S = .rt v S2 ∧ R (.rt v S2)) ∨ ∃ Γ2 S2, b Γ1 S = .bk Γ2 S2 ∧ R (.nx Γ2 S2))) :
    ∀ xs Γ S, I xs Γ S → R (loopF all l g b xs Γ S)
  | [], Γ, S, h => by
    unfold loopF
    rw [if_pos (st _ _ _ h)]
    exact fin Γ S h
  | x :: xs, Γ, S, h => by
    have hs := st _ _ _ h
    obtain ⟨Γ1, e, h⟩ := step x xs Γ S h
    rw [loopF]
    dsimp only
    rw [if_pos hs, e]
    dsimp only
    rcases h with ⟨Γ2, S2, e2 | e2, h⟩ | ⟨v, S2, e2, h⟩ | ⟨Γ2, S2, e2, h⟩
    · rw [e2]
      exact loop_runL st fin step xs Γ2 S2 h
    · rw [e2]
      exact loop_runL st fin step xs Γ2 S2 h
    · rw [e2]
      exact h
    · rw [e2]
      exact h
theorem loop_run {I : List AV → Sl → Sto → Prop} {R : SR → Prop} (fin : ∀ Γ S, I [] Γ S → R (.nx Γ S))
    (step : ∀ x xs Γ S, I (x :: xs) Γ S → ∃ Γ1, g x Γ = some Γ1 ∧ ((∃ Γ2 S2, (b Γ1 S = .nx Γ2 S2 ∨ b Γ1 S = .ct Γ2 S2) ∧ I xs Γ2 S2) ∨ (∃ v S2, b Γ1 S = .rt v S2 ∧ R (.rt v S2)) ∨ ∃ Γ2 S2, b Γ1 S = .bk Γ2 S2 ∧ R (.nx Γ2 S2))) :
    ∀ xs Γ S, I xs Γ S → R (loopF all none g b xs Γ S) := loop_runL (fun _ _ _ _ => trivial) fin step
theorem while_run {I : Nat → Sl → Sto → Prop} {R : SR → Prop}
    (step : ∀ m Γ S, I m Γ S → (∃ S', t Γ S = .ok false S' ∧ R (.nx Γ S')) ∨ ∃ S', t Γ S = .ok true S' ∧ ((∃ m2 Γ2 S2, (b Γ S' = .nx Γ2 S2 ∨ b Γ S' = .ct Γ2 S2) ∧ m2 < m ∧ I m2 Γ2 S2) ∨ (∃ v S2, b Γ S' = .rt v S2 ∧ R (.rt v S2)) ∨ ∃ Γ2 S2, b Γ S' = .bk Γ2 S2 ∧ R (.nx Γ2 S2))) :
    ∀ n m, m < n → ∀ Γ S, I m Γ S → R (whileF t b n Γ S)
  | 0, m, h, _, _, _ => absurd h (Nat.not_lt_zero m)
  | n + 1, m, hm, Γ, S, h => by
    unfold whileF
    rcases step m Γ S h with ⟨S', e, h⟩ | ⟨S', e, h⟩
    · rw [e]
      exact h
    · rw [e, XR.stb_ok, if_pos rfl]
      rcases h with ⟨m2, Γ2, S2, e2 | e2, hl, h⟩ | ⟨v, S2, e2, h⟩ | ⟨Γ2, S2, e2, h⟩
      · rw [e2]
        exact while_run step n m2 (by omega) Γ2 S2 h
      · rw [e2]
        exact while_run step n m2 (by omega) Γ2 S2 h
      · rw [e2]
        exact h
      · rw [e2]
        exact h
theorem for_eq {it : FI} {xs : List AV} {Γ : Sl} {S S1 : Sto} (h : it Γ S = .ok (xs, none) S1) : fFor it g b Γ S = loopF xs none g b xs Γ S1 := by
  unfold fFor
  rw [h]
theorem for_eqL {it : FI} {xs : List AV} {l : Option Nat} {Γ : Sl} {S S1 : Sto} (h : it Γ S = .ok (xs, l) S1) : fFor it g b Γ S = loopF xs l g b xs Γ S1 := by
  unfold fFor
  rw [h]
/-- a loop that asks each item for something, answers v at the first that has it not -/
theorem loop_all {l : Option Nat} {α : Type} {enc : α → AV} {ok : α → Bool} {v : AV} {S : Sto} {P : Sl → Prop} (st : still l all S) : ∀ (xs : List α) (Γ : Sl), (∀ x ∈ xs, ∀ Γ, P Γ → ∃ Γ1, g (enc x) Γ = some Γ1 ∧ P Γ1 ∧ b Γ1 S = (if ok x = true then .nx Γ1 S else .rt v S)) → P Γ →
    (∃ Γ', P Γ' ∧ xs.all ok = true ∧ loopF all l g b (xs.map enc) Γ S = .nx Γ' S) ∨ (xs.all ok = false ∧ loopF all l g b (xs.map enc) Γ S = .rt v S)
  | [], Γ, _, h => by
    refine .inl ⟨Γ, h, rfl, ?_⟩
    show loopF all l g b [] Γ S = _
    unfold loopF
    rw [if_pos st]
  | x :: xs, Γ, step, h => by
    obtain ⟨Γ1, e, h1, e2⟩ := step x (List.mem_cons_self ..) Γ h
    show (∃ Γ', _ ∧ _ ∧ loopF all l g b (enc x :: xs.map enc) Γ S = _) ∨ (_ ∧ loopF all l g b (enc x :: xs.map enc) Γ S = _)
    rw [loopF]
    dsimp only
    rw [if_pos st, e]
    dsimp only
    rw [e2]
    cases q : ok x with
    | false => exact .inr ⟨by simp [q], by simp⟩
    | true =>
      rw [if_pos rfl]
      dsimp only
      rcases loop_all st xs Γ1 (fun y hy => step y (List.mem_cons_of_mem _ hy)) h1 with ⟨Γ', h2, h3, h4⟩ | ⟨h3, h4⟩
      · exact .inl ⟨Γ', h2, by simpa [q] using h3, h4⟩
      · exact .inr ⟨by simpa [q] using h3, h4⟩
end

/-! ### comprehensions -/
section
variable {all : List AV} {g : FG} {tt : FT} {te : FE} {vs : List Nat} {Γ : Sl} {it : FI}
/-- elements that leave the store as it is -/
theorem lc_pure {α : Type} {enc : α → AV} {n : Nat} {S : Sto} (hn : S.length = n) {p : α → Bool} {f : α → AV} : ∀ (xs : List α) (acc : List AV), acc.length + xs.length ≤ sizeLine →
    (∀ x ∈ xs, ∃ Γ1, g (enc x) (wipeA Γ vs) = some Γ1 ∧ ∀ acc, tt Γ1 (S ++ [.lst acc]) = .ok (p x) (S ++ [.lst acc]) ∧ (p x = true → te Γ1 (S ++ [.lst acc]) = .ok (f x) (S ++ [.lst acc]) ∧ nl (f x) = true)) →
    lcF all none g tt te vs Γ n (xs.map enc) (S ++ [.lst acc]) = .ok (acc ++ (xs.filter p).map f) (S ++ [.lst (acc ++ (xs.filter p).map f)])
  | [], acc, _, _ => by
    unfold lcF
    simp [hn]
  | x :: xs, acc, hl, h => by
    obtain ⟨Γ1, e, h1⟩ := h x (List.mem_cons_self ..)
    obtain ⟨h2, h3⟩ := h1 acc
    rw [List.map_cons, lcF]
    simp only [still, if_true, e, h2]
    cases q : p x with
    | false =>
      dsimp only
      rw [lc_pure hn xs acc (by simp at hl ⊢; omega) fun y hy => h y (List.mem_cons_of_mem _ hy)]
      simp [List.filter_cons, q]
    | true =>
      obtain ⟨h4, h5⟩ := h3 q
      dsimp only
      rw [h4]
      dsimp only
      have e3 : (S ++ [AO.lst acc])[n]? = some (.lst acc) := by rw [← hn, List.getElem?_append_right (Nat.le_refl _)]; simp
      rw [e3]
      dsimp only
      rw [if_pos ⟨lf_mono (Nat.zero_le _) h5, by simp at hl ⊢; omega⟩]
      have e4 : (S ++ [AO.lst acc]).set n (.lst (acc ++ [f x])) = S ++ [.lst (acc ++ [f x])] := by
        rw [← hn, List.set_append_right _ _ (Nat.le_refl _)]
        simp
      rw [e4, lc_pure hn xs (acc ++ [f x]) (by simp at hl ⊢; omega) fun y hy => h y (List.mem_cons_of_mem _ hy)]
      simp [List.filter_cons, q]
theorem lfs_all {n : Nat} : ∀ {xs : List AV}, (∀ x ∈ xs, lf n x = true) → lfs n xs = true
  | [], _ => by unfold lfs; rfl
  | x :: xs, h => by
    unfold lfs
    rw [h x (List.mem_cons_self ..), lfs_all fun y hy => h y (List.mem_cons_of_mem _ hy)]
    rfl
theorem fLc_pure {α : Type} {enc : α → AV} {S S1 : Sto} {xs : List α} {p : α → Bool} {f : α → AV} (hi : it Γ S = .ok (xs.map enc, none) S1) (hl : xs.length ≤ sizeLine)
    (h : ∀ x ∈ xs, ∃ Γ1, g (enc x) (wipeA Γ vs) = some Γ1 ∧ ∀ acc, tt Γ1 (S1 ++ [.lst acc]) = .ok (p x) (S1 ++ [.lst acc]) ∧ (p x = true → te Γ1 (S1 ++ [.lst acc]) = .ok (f x) (S1 ++ [.lst acc]) ∧ nl (f x) = true)) :
    fLc it g tt te vs Γ S = .ok (.lst ((xs.filter p).map f)) S1 := by
  unfold fLc
  rw [hi]
  have hlf : lfs S1.length ((xs.filter p).map f) = true := lfs_all fun y hy => by
    obtain ⟨x, hx, rfl⟩ := List.mem_map.mp hy
    obtain ⟨hx1, hx2⟩ := List.mem_filter.mp hx
    obtain ⟨Γ1, e, h1⟩ := h x hx1
    exact lf_mono (Nat.zero_le _) ((h1 []).2 hx2).2
  rw [XR.bind_ok]
  dsimp only
  rw [lc_pure rfl xs [] (by simpa using hl) h, XR.bind_ok, List.nil_append, if_pos ⟨clo_app _ _, hlf⟩, List.take_left]
/-- .. without a test -/
theorem fLc_map {α : Type} {enc : α → AV} {S S1 : Sto} {xs : List α} {f : α → AV} (hi : it Γ S = .ok (xs.map enc, none) S1) (hl : xs.length ≤ sizeLine)
    (h : ∀ x ∈ xs, ∃ Γ1, g (enc x) (wipeA Γ vs) = some Γ1 ∧ ∀ acc, te Γ1 (S1 ++ [.lst acc]) = .ok (f x) (S1 ++ [.lst acc]) ∧ nl (f x) = true) :
    fLc it g fTrue te vs Γ S = .ok (.lst (xs.map f)) S1 := by
  rw [fLc_pure (p := fun _ => true) (f := f) hi hl fun x hx => ?_]
  · congr 2
    exact congrArg _ (List.filter_eq_self.mpr fun _ _ => rfl)
  · obtain ⟨Γ1, e, h1⟩ := h x hx
    exact ⟨Γ1, e, fun acc => ⟨rfl, fun _ => h1 acc⟩⟩
/-- elements that may write the store: J the store's invariant, P the element's -/
theorem lc_st {n : Nat} {J : Sto → Prop} {P : AV → Prop} (hJ : ∀ S, J S → S.length = n) : ∀ (xs acc : List AV) (S : Sto), J S → acc.length + xs.length ≤ sizeLine →
    (∀ x ∈ xs, ∀ S acc, J S → ∃ Γ1 u S', g x (wipeA Γ vs) = some Γ1 ∧ te Γ1 (S ++ [.lst acc]) = .ok u (S' ++ [.lst acc]) ∧ J S' ∧ P u ∧ nl u = true) →
    ∃ us S', J S' ∧ (∀ u ∈ us, P u ∧ nl u = true) ∧ us.length = xs.length ∧ lcF all none g fTrue te vs Γ n xs (S ++ [.lst acc]) = .ok (acc ++ us) (S' ++ [.lst (acc ++ us)])
  | [], acc, S, j, _, _ => ⟨[], S, j, (fun u hu => by cases hu), rfl, by
    unfold lcF
    simp [hJ S j]⟩
  | x :: xs, acc, S, j, hl, h => by
    obtain ⟨Γ1, u, S', e, e2, j', hp, hu⟩ := h x (List.mem_cons_self ..) S acc j
    have hn := hJ S' j'
    obtain ⟨us, S2, j2, h2, h3, h4⟩ := lc_st hJ xs (acc ++ [u]) S' j' (by simp at hl ⊢; omega) fun y hy => h y (List.mem_cons_of_mem _ hy)
    refine ⟨u :: us, S2, j2, fun w hw => ?_, by simp [h3], ?_⟩
    · rcases List.mem_cons.mp hw with q | q
      · rw [q]; exact ⟨hp, hu⟩
      · exact h2 w q
    · rw [lcF]
      simp only [still, if_true, e, fTrue]
      rw [e2]
      dsimp only
      have e3 : (S' ++ [AO.lst acc])[n]? = some (.lst acc) := by rw [← hn, List.getElem?_append_right (Nat.le_refl _)]; simp
      rw [e3]
      dsimp only
      rw [if_pos ⟨lf_mono (Nat.zero_le _) hu, by simp at hl ⊢; omega⟩]
      have e4 : (S' ++ [AO.lst acc]).set n (.lst (acc ++ [u])) = S' ++ [.lst (acc ++ [u])] := by
        rw [← hn, List.set_append_right _ _ (Nat.le_refl _)]
        simp
      rw [e4, h4]
      simp
theorem fLc_st {S S1 : Sto} {xs : List AV} {J : Sto → Prop} {P : AV → Prop} (hi : it Γ S = .ok (xs, none) S1) (hl : xs.length ≤ sizeLine) (j : J S1) (hJ : ∀ S, J S → S.length = S1.length ∧ clo S1 S)
    (h : ∀ x ∈ xs, ∀ S acc, J S → ∃ Γ1 u S', g x (wipeA Γ vs) = some Γ1 ∧ te Γ1 (S ++ [.lst acc]) = .ok u (S' ++ [.lst acc]) ∧ J S' ∧ P u ∧ nl u = true) :
    ∃ us S', J S' ∧ (∀ u ∈ us, P u ∧ nl u = true) ∧ us.length = xs.length ∧ fLc it g fTrue te vs Γ S = .ok (.lst us) S' := by
  obtain ⟨us, S2, j2, h2, h3, h4⟩ := lc_st (all := xs) (n := S1.length) (fun S j => (hJ S j).1) xs [] S1 j (by simpa using hl) h
  refine ⟨us, S2, j2, h2, h3, ?_⟩
  unfold fLc
  rw [hi]
  rw [XR.bind_ok]
  dsimp only
  rw [h4, XR.bind_ok]
  obtain ⟨hl2, c⟩ := hJ S2 j2
  have c2 : clo S1 (S2 ++ [.lst ([] ++ us)]) := fun i o hi e => c i o hi (by rw [List.getElem?_append_left (by rw [hl2]; exact hi)] at e; exact e)
  rw [if_pos ⟨c2, lfs_all fun y hy => lf_mono (Nat.zero_le _) (h2 y (by simpa using hy)).2⟩, ← hl2, List.take_left]
  rfl
end

/-! ### == -/
theorem gEqB_of {x y : AV} {d e : PyData} {S : Sto} (h1 : toPy (rdL S x) = some d) (h2 : toPy (rdL S y) = some e) (h3 : SeqAt.shaped d = true) (h4 : SeqAt.shaped e = true) : gEqB x y S = .ok (PyData.eqv d e) S := by
  unfold gEqB
  rw [h1, h2]
  show (if _ then _ else _) = _
  rw [if_pos ⟨h3, h4⟩]
theorem sh_int (i : Int) : SeqAt.shaped (.int i) = true := by unfold SeqAt.shaped PyData.canLay0 PyData.depth; rfl
theorem sh_bl (i : Bool) : SeqAt.shaped (.bool i) = true := by unfold SeqAt.shaped PyData.canLay0 PyData.depth; rfl
theorem sh_non : SeqAt.shaped .none = true := by unfold SeqAt.shaped PyData.canLay0 PyData.depth; rfl
theorem sh_str {s : Str} (h : PyData.strOk s = true) : SeqAt.shaped (.str s) = true := by unfold SeqAt.shaped PyData.canLay0 PyData.depth; rw [h]; rfl
@[simp] theorem gEqB_int (i j : Int) (S : Sto) : gEqB (.int i) (.int j) S = .ok (i == j) S := by
  rw [gEqB_of (d := .int i) (e := .int j) (by simp [toPy]) (by simp [toPy]) (sh_int i) (sh_int j)]
  unfold PyData.eqv
  rfl
theorem gEqB_str {i j : Str} {S : Sto} (h : PyData.strOk i = true) (h' : PyData.strOk j = true) : gEqB (.str i) (.str j) S = .ok (i == j) S := by
  rw [gEqB_of (d := .str i) (e := .str j) (by simp [toPy]) (by simp [toPy]) (sh_str h) (sh_str h')]
  unfold PyData.eqv
  rfl
/-- values of a kind, as data: == is equality -/
structure Eqn {α : Type} [DecidableEq α] (enc : α → AV) (ok : α → Prop) (n : Nat) : Prop where
  ex : ∃ d : α → PyData, (∀ x, ok x → toPy (enc x) = some (d x) ∧ (d x).canLay0 = true ∧ (d x).depth ≤ n) ∧ ∀ x y, ok x → ok y → PyData.eqv (d x) (d y) = decide (x = y)
section
variable {α β γ : Type} [DecidableEq α] [DecidableEq β] [DecidableEq γ] {enc : α → AV} {enc2 : β → AV} {enc3 : γ → AV} {ok : α → Prop} {ok2 : β → Prop} {ok3 : γ → Prop} {n m k : Nat}
theorem Eqn.eqB (E : Eqn enc ok n) (hn : n ≤ 64) {u v : AV} {x y : α} {S : Sto} (hu : rdL S u = enc x) (hv : rdL S v = enc y) (ox : ok x) (oy : ok y) : gEqB u v S = .ok (decide (x = y)) S := by
  obtain ⟨d, h1, h2⟩ := E.ex
  obtain ⟨a1, a2, a3⟩ := h1 x ox
  obtain ⟨b1, b2, b3⟩ := h1 y oy
  rw [gEqB_of (d := d x) (e := d y) (by rw [hu]; exact a1) (by rw [hv]; exact b1), h2 x y ox oy]
  · unfold SeqAt.shaped
    rw [a2, decide_eq_true (Nat.le_trans a3 hn)]
    rfl
  · unfold SeqAt.shaped
    rw [b2, decide_eq_true (Nat.le_trans b3 hn)]
    rfl
theorem eqn_int : Eqn AV.int (fun _ => True) 0 := ⟨PyData.int, fun x _ => ⟨by unfold toPy; rfl, by unfold PyData.canLay0; rfl, by unfold PyData.depth; exact Nat.le_refl _⟩, fun x y _ _ => by unfold PyData.eqv; by_cases h : x = y <;> simp [h]⟩
theorem eqn_bl : Eqn AV.bl (fun _ => True) 0 := ⟨PyData.bool, fun x _ => ⟨by unfold toPy; rfl, by unfold PyData.canLay0; rfl, by unfold PyData.depth; exact Nat.le_refl _⟩, fun x y _ _ => by unfold PyData.eqv; by_cases h : x = y <;> simp [h]⟩
theorem eqn_str : Eqn AV.str (fun s => PyData.strOk s = true) 0 := ⟨PyData.str, fun x h => ⟨by unfold toPy; rfl, by unfold PyData.canLay0; exact h, by unfold PyData.depth; exact Nat.le_refl _⟩, fun x y _ _ => by unfold PyData.eqv; by_cases h : x = y <;> simp [h]⟩
theorem eqn_all (E : Eqn enc ok n) : ∃ d : α → PyData, (∀ xs : List α, (∀ x ∈ xs, ok x) → toPys (xs.map enc) = some (xs.map d) ∧ PyData.canLayAll0 (xs.map d) = true ∧ PyData.depthAll (xs.map d) ≤ n) ∧ ∀ xs ys : List α, (∀ x ∈ xs, ok x) → (∀ x ∈ ys, ok x) → PyData.eqvAll (xs.map d) (ys.map d) = decide (xs = ys) := by
  obtain ⟨d, h1, h2⟩ := E.ex
  refine ⟨d, fun xs => ?_, fun xs => ?_⟩
  · induction xs with
    | nil =>
      intro _
      refine ⟨?_, ?_, ?_⟩
      · show toPys [] = _
        unfold toPys
        rfl
      · show PyData.canLayAll0 [] = _
        unfold PyData.canLayAll0
        rfl
      · show PyData.depthAll [] ≤ _
        unfold PyData.depthAll
        exact Nat.zero_le _
    | cons x xs ih =>
      intro h
      obtain ⟨a1, a2, a3⟩ := h1 x (h x (List.mem_cons_self ..))
      obtain ⟨b1, b2, b3⟩ := ih fun y hy => h y (List.mem_cons_of_mem _ hy)
      refine ⟨?_, ?_, ?_⟩
      · show toPys (enc x :: xs.map enc) = _
        unfold toPys
        rw [a1, b1]
        rfl
      · show PyData.canLayAll0 (d x :: xs.map d) = _
        unfold PyData.canLayAll0
        rw [a2, b2]
        rfl
      · show PyData.depthAll (d x :: xs.map d) ≤ _
        unfold PyData.depthAll
        exact Nat.max_le.mpr ⟨a3, b3⟩
  · induction xs with
    | nil =>
      intro ys _ _
      cases ys with
      | nil =>
        show PyData.eqvAll [] [] = _
        unfold PyData.eqvAll
        rfl
      | cons y ys =>
        show PyData.eqvAll [] (d y :: ys.map d) = _
        unfold PyData.eqvAll
        simp
    | cons x xs ih =>
      intro ys hx hy
      cases ys with
      | nil =>
        show PyData.eqvAll (d x :: xs.map d) [] = _
        unfold PyData.eqvAll
        simp
      | cons y ys =>
        show PyData.eqvAll (d x :: xs.map d) (d y :: ys.map d) = _
        unfold PyData.eqvAll
        rw [h2 x y (hx x (List.mem_cons_self ..)) (hy y (List.mem_cons_self ..)), ih ys (fun z hz => hx z (List.mem_cons_of_mem _ hz)) fun z hz => hy z (List.mem_cons_of_mem _ hz)]
        by_cases e1 : x = y <;> by_cases e2 : xs = ys <;> simp [e1, e2]
theorem eqn_lst (E : Eqn enc ok n) : Eqn (fun xs : List α => .lst (xs.map enc)) (fun xs => ∀ x ∈ xs, ok x) (n + 1) := by
  obtain ⟨d, h1, h2⟩ := eqn_all E
  refine ⟨fun xs => .list (xs.map d), fun xs h => ?_, fun xs ys hx hy => ?_⟩
  · obtain ⟨a1, a2, a3⟩ := h1 xs h
    refine ⟨?_, ?_, ?_⟩
    · unfold toPy
      rw [a1]
      rfl
    · unfold PyData.canLay0
      exact a2
    · unfold PyData.depth
      omega
  · unfold PyData.eqv
    exact h2 xs ys hx hy
theorem eqn_tup (E : Eqn enc ok n) : Eqn (fun xs : List α => .tup (xs.map enc)) (fun xs => ∀ x ∈ xs, ok x) (n + 1) := by
  obtain ⟨d, h1, h2⟩ := eqn_all E
  refine ⟨fun xs => .tuple (xs.map d), fun xs h => ?_, fun xs ys hx hy => ?_⟩
  · obtain ⟨a1, a2, a3⟩ := h1 xs h
    refine ⟨?_, ?_, ?_⟩
    · unfold toPy
      rw [a1]
      rfl
    · unfold PyData.canLay0
      exact a2
    · unfold PyData.depth
      omega
  · unfold PyData.eqv
    exact h2 xs ys hx hy
theorem toPys1 {x : AV} {xs : List AV} {d : PyData} {ds : List PyData} (h : toPy x = some d) (hs : toPys xs = some ds) : toPys (x :: xs) = some (d :: ds) := by
  unfold toPys
  rw [h, hs]
theorem toPys0 : toPys [] = some [] := by unfold toPys; rfl
theorem lay1 {d : PyData} {ds : List PyData} (h : d.canLay0 = true) (hs : PyData.canLayAll0 ds = true) : PyData.canLayAll0 (d :: ds) = true := by
  unfold PyData.canLayAll0
  rw [h, hs]
  rfl
theorem lay0 : PyData.canLayAll0 [] = true := by unfold PyData.canLayAll0; rfl
theorem dep1 {d : PyData} {ds : List PyData} {n : Nat} (h : d.depth ≤ n) (hs : PyData.depthAll ds ≤ n) : PyData.depthAll (d :: ds) ≤ n := by
  unfold PyData.depthAll
  exact Nat.max_le.mpr ⟨h, hs⟩
theorem dep0 {n : Nat} : PyData.depthAll [] ≤ n := by unfold PyData.depthAll; exact Nat.zero_le _
theorem eqv1 {d e : PyData} {ds es : List PyData} : PyData.eqvAll (d :: ds) (e :: es) = (PyData.eqv d e && PyData.eqvAll ds es) := by
  rw [PyData.eqvAll]
theorem eqv0 : PyData.eqvAll [] [] = true := by rw [PyData.eqvAll]
/-- pairs -/
theorem eqn_2 (E : Eqn enc ok n) (F : Eqn enc2 ok2 m) : Eqn (fun p : α × β => .tup [enc p.1, enc2 p.2]) (fun p => ok p.1 ∧ ok2 p.2) (max n m + 1) := by
  obtain ⟨d, h1, h2⟩ := E.ex
  obtain ⟨f, i1, i2⟩ := F.ex
  refine ⟨fun p => .tuple [d p.1, f p.2], fun p h => ?_, fun p q hp hq => ?_⟩
  · obtain ⟨a1, a2, a3⟩ := h1 _ h.1
    obtain ⟨b1, b2, b3⟩ := i1 _ h.2
    refine ⟨?_, ?_, ?_⟩
    · unfold toPy
      rw [toPys1 a1 (toPys1 b1 toPys0)]
      rfl
    · unfold PyData.canLay0
      exact lay1 a2 (lay1 b2 lay0)
    · unfold PyData.depth
      exact Nat.succ_le_succ (dep1 (by omega) (dep1 (by omega) dep0))
  · unfold PyData.eqv
    rw [eqv1, eqv1, eqv0, h2 _ _ hp.1 hq.1, i2 _ _ hp.2 hq.2]
    obtain ⟨p1, p2⟩ := p
    obtain ⟨q1, q2⟩ := q
    by_cases e1 : p1 = q1 <;> by_cases e2 : p2 = q2 <;> simp [e1, e2]
theorem eqn_3 (E : Eqn enc ok n) (F : Eqn enc2 ok2 m) (G : Eqn enc3 ok3 k) : Eqn (fun p : α × β × γ => .tup [enc p.1, enc2 p.2.1, enc3 p.2.2]) (fun p => ok p.1 ∧ ok2 p.2.1 ∧ ok3 p.2.2) (max n (max m k) + 1) := by
  obtain ⟨d, h1, h2⟩ := E.ex
  obtain ⟨f, i1, i2⟩ := F.ex
  obtain ⟨g, j1, j2⟩ := G.ex
  refine ⟨fun p => .tuple [d p.1, f p.2.1, g p.2.2], fun p h => ?_, fun p q hp hq => ?_⟩
  · obtain ⟨a1, a2, a3⟩ := h1 _ h.1
    obtain ⟨b1, b2, b3⟩ := i1 _ h.2.1
    obtain ⟨c1, c2, c3⟩ := j1 _ h.2.2
    refine ⟨?_, ?_, ?_⟩
    · unfold toPy
      rw [toPys1 a1 (toPys1 b1 (toPys1 c1 toPys0))]
      rfl
    · unfold PyData.canLay0
      exact lay1 a2 (lay1 b2 (lay1 c2 lay0))
    · unfold PyData.depth
      exact Nat.succ_le_succ (dep1 (by omega) (dep1 (by omega) (dep1 (by omega) dep0)))
  · unfold PyData.eqv
    rw [eqv1, eqv1, eqv1, eqv0, h2 _ _ hp.1 hq.1, i2 _ _ hp.2.1 hq.2.1, j2 _ _ hp.2.2 hq.2.2]
    obtain ⟨p1, p2, p3⟩ := p
    obtain ⟨q1, q2, q3⟩ := q
    by_cases e1 : p1 = q1 <;> by_cases e2 : p2 = q2 <;> by_cases e3 : p3 = q3 <;> simp [e1, e2, e3]
end
/-- data that is laid: == with itself -/
def Shp (v : AV) : Prop := ∃ d, toPy v = some d ∧ SeqAt.shaped d = true
theorem Shp.eqB {u v : AV} {S : Sto} (h : Shp (rdL S u)) (e : rdL S u = rdL S v) : gEqB u v S = .ok true S := by
  obtain ⟨d, h1, h2⟩ := h
  rw [gEqB_of h1 (by rw [← e]; exact h1) h2 h2, SeqAt.eqv_refl d (SeqAt.canLay_of_shaped h2)]
theorem Eqn.shp {α : Type} [DecidableEq α] {enc : α → AV} {ok : α → Prop} {n : Nat} (E : Eqn enc ok n) (hn : n ≤ 64) {x : α} (ox : ok x) : Shp (enc x) := by
  obtain ⟨d, h1, h2⟩ := E.ex
  obtain ⟨a1, a2, a3⟩ := h1 x ox
  refine ⟨d x, a1, ?_⟩
  unfold SeqAt.shaped
  rw [a2, decide_eq_true (Nat.le_trans a3 hn)]
  rfl
/-! ### the store's end -/
section
variable {α : Type} {S T : List α} {x y z w : α}
@[simp] theorem at0 : (S ++ x :: T)[S.length]? = some x := by rw [List.getElem?_append_right (Nat.le_refl _), Nat.sub_self]; rfl
@[simp] theorem at1 : (S ++ x :: y :: T)[S.length + 1]? = some y := by rw [List.getElem?_append_right (by omega)]; simp
@[simp] theorem at2 : (S ++ x :: y :: w :: T)[S.length + 2]? = some w := by rw [List.getElem?_append_right (by omega)]; simp
@[simp] theorem set0 : (S ++ x :: T).set S.length z = S ++ z :: T := by rw [List.set_append_right _ _ (Nat.le_refl _), Nat.sub_self]; rfl
@[simp] theorem set1 : (S ++ x :: y :: T).set (S.length + 1) z = S ++ x :: z :: T := by rw [List.set_append_right _ _ (by omega)]; simp
@[simp] theorem set2 : (S ++ x :: y :: w :: T).set (S.length + 2) z = S ++ x :: y :: z :: T := by rw [List.set_append_right _ _ (by omega)]; simp
end
/-- items pushed on a list of the store -/
theorem loop_push {all : List AV} {g : FG} {b : FSt} {α : Type} {enc f : α → AV} {P : Sl → Prop} {S0 T : Sto} : ∀ (xs : List α) (Γ : Sl) (acc : List AV), acc.length + xs.length ≤ 16777216 →
    (∀ x ∈ xs, ∀ Γ acc, acc.length < 16777216 → P Γ → ∃ Γ1 Γ2, g (enc x) Γ = some Γ1 ∧ P Γ2 ∧ b Γ1 (S0 ++ .lst acc :: T) = .nx Γ2 (S0 ++ .lst (acc ++ [f x]) :: T)) → P Γ →
    ∃ Γ', P Γ' ∧ loopF all none g b (xs.map enc) Γ (S0 ++ .lst acc :: T) = .nx Γ' (S0 ++ .lst (acc ++ xs.map f) :: T)
  | [], Γ, acc, _, _, h => ⟨Γ, h, by rw [List.map_nil, loop_nil, List.map_nil, List.append_nil]⟩
  | x :: xs, Γ, acc, hl, step, h => by
    rw [List.length_cons] at hl
    obtain ⟨Γ1, Γ2, e, h2, e2⟩ := step x (List.mem_cons_self ..) Γ acc (by omega) h
    obtain ⟨Γ', h3, e3⟩ := loop_push xs Γ2 (acc ++ [f x]) (by simp; omega) (fun y hy => step y (List.mem_cons_of_mem _ hy)) h2
    refine ⟨Γ', h3, ?_⟩
    rw [List.map_cons, loop_cons e, e2]
    dsimp only
    rw [e3]
    simp
/-! ### dicts with tuples as keys -/
section
variable {α : Type} [DecidableEq α] {enc : α → AV} {v : α → AV} {k : α} {w : AV}
theorem lkN_map (inj : ∀ x y, toNK (enc x) = toNK (enc y) → x = y) : ∀ ks : List α, lkN (enc k) (ks.map fun x => (enc x, v x)) = if k ∈ ks then some (v k) else none
  | [] => by unfold List.map lkN; simp
  | x :: ks => by
    rw [List.map_cons, lkN, lkN_map inj ks]
    by_cases h : toNK (enc x) = toNK (enc k)
    · have := inj _ _ h
      subst this
      rw [if_pos rfl]
      simp
    · have hx : ¬ k = x := fun z => h (by rw [z])
      rw [if_neg h]
      simp [hx]
theorem putN_new (inj : ∀ x y, toNK (enc x) = toNK (enc y) → x = y) : ∀ ks : List α, k ∉ ks → putN (enc k) w (ks.map fun x => (enc x, v x)) = (ks.map fun x => (enc x, v x)) ++ [(enc k, w)]
  | [], _ => by unfold List.map putN; rfl
  | x :: ks, h => by
    have hx : ¬ toNK (enc x) = toNK (enc k) := fun z => h (by rw [← inj _ _ z]; exact List.mem_cons_self ..)
    rw [List.map_cons, putN, if_neg hx, putN_new inj ks fun z => h (List.mem_cons_of_mem _ z)]
    rfl
end
theorem nodup_le {α : Type} [DecidableEq α] : ∀ {l l' : List α}, l.Nodup → (∀ x ∈ l, x ∈ l') → l.length ≤ l'.length
  | [], _, _, _ => Nat.zero_le _
  | x :: l, l', nd, h => by
    obtain ⟨h1, h2⟩ := List.nodup_cons.mp nd
    have hx := h x (List.mem_cons_self ..)
    have := nodup_le (l := l) (l' := l'.erase x) h2 fun y hy => (List.mem_erase_of_ne (fun e => h1 (by rw [← e]; exact hy))).mpr (h y (List.mem_cons_of_mem _ hy))
    rw [List.length_erase_of_mem hx] at this
    have := List.length_pos_of_mem hx
    rw [List.length_cons]
    omega
theorem Eqn.comap {α β : Type} [DecidableEq α] [DecidableEq β] {enc : α → AV} {ok : α → Prop} {n : Nat} (E : Eqn enc ok n) (f : β → α) (inj : ∀ x y, f x = f y → x = y) : Eqn (fun x => enc (f x)) (fun x => ok (f x)) n := by
  obtain ⟨d, h1, h2⟩ := E.ex
  refine ⟨fun x => d (f x), fun x h => h1 _ h, fun x y hx hy => ?_⟩
  rw [h2 _ _ hx hy]
  by_cases h : x = y
  · subst h
    simp
  · rw [decide_eq_false h, decide_eq_false fun z => h (inj _ _ z)]
theorem lvL_ok {S : Sto} {o : AO} (h : lfO S.length o = true) : lvL S (.rt (.loc S.length) (S ++ [o])) = .ok (.loc S.length) (S ++ [o]) := by
  unfold lvL
  simp only [at0]
  rw [if_pos ⟨clo_app _ _, Nat.le_refl _, h⟩, List.take_left]
/-! ### try -/
theorem try_rt {b : FSt} {yes no : List Nat} {i : Nat} {h : Nat → Nat → Nat → FSt} {Γ : Sl} {S S' : Sto} {v : AV} (e : b Γ S = .rt v S') : fTry b yes no i h Γ S = .rt v S' := by
  unfold fTry
  rw [e]
theorem try_nx {b : FSt} {yes no : List Nat} {i : Nat} {h : Nat → Nat → Nat → FSt} {Γ Γ' : Sl} {S S' : Sto} (e : b Γ S = .nx Γ' S') : fTry b yes no i h Γ S = .nx Γ' S' := by
  unfold fTry
  rw [e]
theorem try_ex {b : FSt} {yes no : List Nat} {i : Nat} {h : Nat → Nat → Nat → FSt} {Γ Γ1 : Sl} {S S1 : Sto} {c : Nat} {fs : Flds} {q : SR} (e : b Γ S = .ex c fs Γ1 S1) (hc : c ∈ yes) (hh : ∀ a d, dropI i (h a d c (Γ1.set i (some (.exc a d c fs))) S1) = q) : fTry b yes no i h Γ S = q := by
  unfold fTry
  rw [e]
  dsimp only
  rw [if_pos hc, if_pos fun a d => by rw [hh a d, hh 0 0], hh 0 0]
/-! ### a comprehension whose elements are written in another way -/
theorem lcF_cg {all : List AV} {l : Option Nat} {g : FG} {tt : FT} {te te' : FE} {vs : List Nat} {Γ : Sl} {n : Nat} : ∀ (xs : List AV) (S : Sto), (∀ x ∈ xs, ∀ Γ1, g x (wipeA Γ vs) = some Γ1 → ∀ S, te Γ1 S = te' Γ1 S) → lcF all l g tt te vs Γ n xs S = lcF all l g tt te' vs Γ n xs S
  | [], S, _ => by unfold lcF; rfl
  | x :: xs, S, h => by
    have ih := fun S => lcF_cg (all := all) (l := l) (tt := tt) (n := n) xs S fun y hy => h y (List.mem_cons_of_mem _ hy)
    have hx := h x (List.mem_cons_self ..)
    rw [lcF, lcF]
    by_cases st : still l all S
    · rw [if_pos st, if_pos st]
      cases e : g x (wipeA Γ vs) with
      | none => rfl
      | some Γ1 =>
        dsimp only
        cases e2 : tt Γ1 S with
        | bad => rfl
        | ex c fs S2 => rfl
        | ok b S1 =>
          cases b with
          | false => exact ih S1
          | true =>
            dsimp only
            rw [hx Γ1 e S1]
            cases e3 : te' Γ1 S1 with
            | bad => rfl
            | ex c fs S2 => rfl
            | ok v S2 =>
              dsimp only
              cases e4 : S2[n]? with
              | none => rfl
              | some o =>
                cases o with
                | lst acc =>
                  dsimp only
                  by_cases c : lf n v = true ∧ acc.length < sizeLine
                  · rw [if_pos c, if_pos c]
                    exact ih _
                  · rw [if_neg c, if_neg c]
                | _ => rfl
    · rw [if_neg st, if_neg st]
theorem fLc_cg {it : FI} {g : FG} {tt : FT} {te te' : FE} {vs : List Nat} {Γ : Sl} {S : Sto} (h : ∀ x Γ1, g x (wipeA Γ vs) = some Γ1 → ∀ S, te Γ1 S = te' Γ1 S) : fLc it g tt te vs Γ S = fLc it g tt te' vs Γ S := by
  unfold fLc
  cases it Γ S with
  | bad => rfl
  | ex c fs S1 => rfl
  | ok p S1 =>
    rw [XR.bind_ok, XR.bind_ok, lcF_cg p.1 _ fun x _ => h x]
end G

set_option Elab.async false
set_option linter.all false
set_option maxRecDepth 100000
set_option maxHeartbeats 0
/-! K12: what the defs do, and that they do it. Printed by gen.py, then turned by hand where told. -/
namespace K12
open PySem PySem.Spec PyProof.Rows L2 G
--BEGIN PURE
abbrev c_EVENTS : AV := .str "LGHRFD"
abbrev c_MOST_CHANGE : AV := .int 3
abbrev c_MOST_MARKS : AV := .int 4
abbrev c_STILL : AV := .tup [.tup [.int 0, .int 0], .tup [.int 0, .int 0], .tup [.int 0, .int 0], .tup [.int 0, .int 0], .tup [.int 0, .int 0], .tup [.int 0, .int 0]]
abbrev c_START : AV := .tup [.int 0, .bl false, .str "shut"]
abbrev c_MODES : AV := .tup [.str "held", .str "copied", .str "refused"]
abbrev c_SHARINGS : AV := .tup [.str "one", .str "each"]
abbrev c_LEASES : AV := .tup [.str "always", .str "call"]
abbrev c_GRIPS : AV := .tup [.str "slot", .str "place", .str "pin"]
abbrev sel_InvalidRow : List (Str × Nat) := [("what", 0)]
abbrev ok_A_InvalidRow : List AV → Bool := okTxt 13
noncomputable def f_is_mark_1 : FSt := fIf (fOr (fNot (fTB (fChain gLe gLt (fC (.int 0)) (fV 2) (fV 1)))) (fTB (fOp gGt (fB gAbs (faC (fV 3) faN)) (fC c_MOST_CHANGE)))) (fRet (fC (.bl false))) fNx
noncomputable def f_is_mark : FSt := fSeq (fIf (fTB (fOp gNe (fB gLen (faC (fV 0) faN)) (fB gLen (faC (fC c_EVENTS) faN)))) (fRet (fC (.bl false))) fNx) (fSeq (fFor (fiV (fV 0)) (gU [2, 3]) f_is_mark_1) (fRet (fC (.bl true))))
noncomputable def g_is_mark : FF := gF lvF 4 f_is_mark
noncomputable def f_is_rule_1 : FSt := fIf (fNot (fTB (fCall 2 g_is_mark (faC (fV 1) (faC (fB gLen (faC (fV 0) faN)) faN))))) (fRet (fC (.bl false))) fNx
noncomputable def f_is_rule : FSt := fSeq (fIf (fNot (fTB (fChain gLe gLe (fC (.int 1)) (fB gLen (faC (fV 0) faN)) (fC c_MOST_MARKS)))) (fRet (fC (.bl false))) fNx) (fSeq (fFor (fiV (fV 0)) (gN 1) f_is_rule_1) (fRet (fC (.bl true))))
noncomputable def g_is_rule : FF := gF lvF 2 f_is_rule
noncomputable def f_Row_init_1 : FSt := fDrop (fM tyL gApp (fV 7) (faC (fB gTuple (faC (fLc (fiV (fV 8)) (gN 9) fTrue (fB gTuple (faC (fV 9) faN)) [9]) faN)) faN))
noncomputable def f_Row_init : FSt := fSeq (fIf (fTB (fOp gNotIn (fV 1) (fC c_MODES))) (fRaise 1 sel_InvalidRow ok_A_InvalidRow (faC (fC (.str "mode")) faN)) fNx) (fSeq (fAsg 6 (fOp gEq (fV 1) (fC (.str "held")))) (fSeq (fIf (fOr (fTB (fOp gNotIn (fV 2) (fC c_SHARINGS))) (fAnd (fNot (fTB (fV 6))) (fTB (fOp gNe (fV 2) (fC (.str "one")))))) (fRaise 1 sel_InvalidRow ok_A_InvalidRow (faC (fC (.str "sharing")) faN)) fNx) (fSeq (fIf (fOr (fTB (fOp gNotIn (fV 3) (fC c_LEASES))) (fAnd (fNot (fTB (fV 6))) (fTB (fOp gNe (fV 3) (fC (.str "always")))))) (fRaise 1 sel_InvalidRow ok_A_InvalidRow (faC (fC (.str "lease")) faN)) fNx) (fSeq (fIf (fOr (fTB (fOp gNotIn (fV 4) (fC c_GRIPS))) (fAnd (fNot (fTB (fV 6))) (fTB (fOp gNe (fV 4) (fC (.str "slot")))))) (fRaise 1 sel_InvalidRow ok_A_InvalidRow (faC (fC (.str "grip")) faN)) fNx) (fSeq (fAsg 7 (fLstM faN)) (fSeq (fFor (fiV (fV 5)) (gN 8) f_Row_init_1) (fSeq (fIf (fOr (fNot (fTB (fCall 1 g_is_rule (faC (fV 7) faN)))) (fAnd (fNot (fTB (fV 6))) (fTB (fOp gNe (fV 7) (fLst (faC (fC c_STILL) faN)))))) (fRaise 1 sel_InvalidRow ok_A_InvalidRow (faC (fC (.str "rule")) faN)) fNx) (fSeq (fSetFC [2] (fV 0) (fV 1) "mode") (fSeq (fSetFC [2] (fV 0) (fV 2) "sharing") (fSeq (fSetFC [2] (fV 0) (fV 3) "lease") (fSeq (fSetFC [2] (fV 0) (fV 4) "grip") (fSetFC [2] (fV 0) (fB gTuple (faC (fV 7) faN)) "rule"))))))))))))
noncomputable def g_Row_init : FF := gF lvF 10 f_Row_init
noncomputable def f__law_digit : FSt := fSeq (fAsg 2 (fOp gMod (fB gInt (faC (fOp gIx (fV 0) (fC (.int 0))) faN)) (fV 1))) (fSeq (fSetI (fV 0) (fC (.int 0)) (fOp gDiv (fOp gIx (fV 0) (fC (.int 0))) (fV 1))) (fRet (fV 2)))
noncomputable def g__law_digit : FF := gF lvF 3 f__law_digit
noncomputable def f_plain_row : FSt := fSeq (fIf (fTB (fOp gEq (fV 0) (fC (.str "held")))) (fRaise 1 sel_InvalidRow ok_A_InvalidRow (faC (fC (.str "mode")) faN)) fNx) (fRet (fCall 5 (gNew 2 g_Row_init) (faC (fV 0) (faC (fC (.str "one")) (faC (fC (.str "always")) (faC (fC (.str "slot")) (faC (fLst (faC (fC c_STILL) faN)) faN)))))))
noncomputable def g_plain_row : FF := gF lvF 1 f_plain_row
noncomputable def f__law_plain_1 : FSt := fRet (fUn (gFldC [2] "mode") (fCall 1 g_plain_row (faC (fV 0) faN)))
noncomputable def f__law_plain : FSt := fTry f__law_plain_1 [1] [] 1 (fun a d j => fRet (fOp gAdd (fC (.str "wrong ")) (fUn (gXf a d j "what") (fV 1))))
noncomputable def g__law_plain : FF := gF lvF 2 f__law_plain
noncomputable def f__law_mark_1 : FSt := fSeq (fAsg 5 (fCall 2 g__law_digit (faC (fV 0) (faC (fV 1) faN)))) (fSeq (fAsg 6 (fOp gSub (fCall 2 g__law_digit (faC (fV 0) (faC (fC (.int 7)) faN))) (fC (.int 3)))) (fSeq (fIf (fTB (fOp gEq (fCall 2 g__law_digit (faC (fV 0) (faC (fC (.int 60)) faN))) (fC (.int 0)))) (fUnp [5, 6] (fOp gIx (fLst (faC (fTup (faC (fV 1) (faC (fC (.int 0)) faN))) (faC (fTup (faC (fOp gSub (fC (.int 0)) (fC (.int 1))) (faC (fC (.int 0)) faN))) (faC (fTup (faC (fC (.int 0)) (faC (fC (.int 4)) faN))) (faC (fTup (faC (fC (.int 0)) (faC (fOp gSub (fC (.int 0)) (fC (.int 4))) faN))) faN))))) (fCall 2 g__law_digit (faC (fV 0) (faC (fC (.int 4)) faN))))) fNx) (fDrop (fM tyL gApp (fV 3) (faC (fTup (faC (fV 5) (faC (fV 6) faN))) faN)))))
noncomputable def f__law_mark : FSt := fSeq (fAsg 2 (fIfE (fTB (fOp gGt (fCall 2 g__law_digit (faC (fV 0) (faC (fC (.int 9)) faN))) (fC (.int 0)))) (fC (.int 6)) (fOp gAdd (fC (.int 5)) (fOp gMul (fC (.int 2)) (fCall 2 g__law_digit (faC (fV 0) (faC (fC (.int 2)) faN))))))) (fSeq (fAsg 3 (fLstM faN)) (fSeq (fFor (fiR (fV 2)) (gN 4) f__law_mark_1) (fRet (fV 3))))
noncomputable def g__law_mark : FF := gF lvF 7 f__law_mark
noncomputable def f__law_rule : FSt := fSeq (fAsg 1 (fOp gAdd (fC (.int 1)) (fCall 2 g__law_digit (faC (fV 0) (faC (fC (.int 4)) faN))))) (fSeq (fIf (fTB (fOp gEq (fCall 2 g__law_digit (faC (fV 0) (faC (fC (.int 9)) faN))) (fC (.int 0)))) (fRet (fOp gIx (fLst (faC (fLst faN) (faC (fOp gMul (fLst (faC (fOp gMul (fLst (faC (fTup (faC (fC (.int 0)) (faC (fC (.int 0)) faN))) faN)) (fC (.int 6))) faN)) (fC (.int 5))) faN))) (fCall 2 g__law_digit (faC (fV 0) (faC (fC (.int 2)) faN))))) fNx) (fRet (fLc (fiR (fV 1)) (gN 2) fTrue (fCall 2 g__law_mark (faC (fV 0) (faC (fV 1) faN))) [2])))
noncomputable def g__law_rule : FF := gF lvF 3 f__law_rule
noncomputable def f__law_start_1 : FSt := fSeq (fAsg 4 (fOp gMod (fB gInt (faC (fOp gAdd (fOp gAdd (fOp gAdd (fOp gAdd (fOp gMul (fV 4) (fV 4)) (fOp gMul (fC (.int 7)) (fV 4))) (fOp gMul (fC (.int 131)) (fV 1))) (fV 6)) (fC (.int 3))) faN)) (fV 3))) (fAsg 5 (fOp gAdd (fOp gMul (fV 5) (fV 3)) (fV 4)))
noncomputable def f__law_start : FSt := fSeq (fAsg 2 (fC (.int 0))) (fSeq (fIf (fTB (fOp gGt (fB gLen (faC (fV 0) faN)) (fC (.int 0)))) (fAsg 2 (fB gInt (faC (fOp gIx (fV 0) (fOp gMod (fB gInt (faC (fV 1) faN)) (fB gLen (faC (fV 0) faN)))) faN))) fNx) (fSeq (fIf (fAnd (fTB (fOp gLt (fV 1) (fB gLen (faC (fV 0) faN)))) (fTB (fOp gGe (fB gAbs (faC (fV 2) faN)) (fOp gPow (fC (.int 10)) (fC (.int 18)))))) (fRet (fLstM (faC (fB gAbs (faC (fV 2) faN)) faN))) fNx) (fSeq (fAsg 3 (fC (.int 618970019642690137449562111))) (fSeq (fAsg 4 (fOp gMod (fB gInt (faC (fOp gAdd (fOp gAdd (fOp gMul (fV 2) (fC (.int 2654435761))) (fOp gMul (fOp gAdd (fV 1) (fC (.int 1))) (fC (.int 6700417)))) (fC (.int 11))) faN)) (fV 3))) (fSeq (fAsg 5 (fC (.int 0))) (fSeq (fFor (fiR (fC (.int 6))) (gN 6) f__law_start_1) (fRet (fLstM (faC (fV 5) faN)))))))))
noncomputable def g__law_start : FF := gF lvL 7 f__law_start
noncomputable def f__law_rule_fits_1 : FT := fOr (fNot (fTB (fChain gLe gLt (fC (.int 0)) (fOp gIx (fV 2) (fC (.int 0))) (fB gLen (faC (fV 0) faN))))) (fNot (fTB (fChain gLe gLe (fOp gSub (fC (.int 0)) (fC (.int 3))) (fOp gIx (fV 2) (fC (.int 1))) (fC (.int 3)))))
noncomputable def f__law_rule_fits_2 : FSt := fIf (fOr (fTB (fOp gNe (fB gLen (faC (fV 1) faN)) (fC (.int 6)))) (fTB (fOp gGt (fB gLen (faC (fLc (fiV (fV 1)) (gN 2) f__law_rule_fits_1 (fV 2) [2]) faN)) (fC (.int 0))))) (fRet (fC (.bl false))) fNx
noncomputable def f__law_rule_fits : FSt := fSeq (fIf (fNot (fTB (fChain gLe gLe (fC (.int 1)) (fB gLen (faC (fV 0) faN)) (fC (.int 4))))) (fRet (fC (.bl false))) fNx) (fSeq (fFor (fiV (fV 0)) (gN 1) f__law_rule_fits_2) (fRet (fC (.bl true))))
noncomputable def g__law_rule_fits : FF := gF lvF 3 f__law_rule_fits
noncomputable def f__law_wrong : FSt := fSeq (fAsg 5 (fOp gIn (fV 0) (fTup (faC (fC (.str "copied")) (faC (fC (.str "refused")) faN))))) (fSeq (fIf (fTB (fOp gNotIn (fV 0) (fTup (faC (fC (.str "held")) (faC (fC (.str "copied")) (faC (fC (.str "refused")) faN)))))) (fRet (fC (.str "mode"))) fNx) (fSeq (fIf (fTB (fOp gNotIn (fV 1) (fIfE (fTB (fV 5)) (fTup (faC (fC (.str "one")) faN)) (fTup (faC (fC (.str "one")) (faC (fC (.str "each")) faN)))))) (fRet (fC (.str "sharing"))) fNx) (fSeq (fIf (fTB (fOp gNotIn (fV 2) (fIfE (fTB (fV 5)) (fTup (faC (fC (.str "always")) faN)) (fTup (faC (fC (.str "always")) (faC (fC (.str "call")) faN)))))) (fRet (fC (.str "lease"))) fNx) (fSeq (fIf (fTB (fOp gNotIn (fV 3) (fIfE (fTB (fV 5)) (fTup (faC (fC (.str "slot")) faN)) (fTup (faC (fC (.str "slot")) (faC (fC (.str "place")) (faC (fC (.str "pin")) faN))))))) (fRet (fC (.str "grip"))) fNx) (fSeq (fIf (fOr (fNot (fTB (fCall 1 g__law_rule_fits (faC (fV 4) faN)))) (fAnd (fTB (fV 5)) (fTB (fOp gNe (fV 4) (fLst (faC (fOp gMul (fLst (faC (fTup (faC (fC (.int 0)) (faC (fC (.int 0)) faN))) faN)) (fC (.int 6))) faN)))))) (fRet (fC (.str "rule"))) fNx) (fRet (fC .non)))))))
noncomputable def g__law_wrong : FF := gF lvF 6 f__law_wrong
noncomputable def f_is_usable : FSt := fRet (fAndV (fOp gIx (fV 1) (fC (.int 1))) (fOrV (fOp gEq (fUn (gFldC [2] "lease") (fV 0)) (fC (.str "always"))) (fOp gNe (fOp gIx (fV 1) (fC (.int 2))) (fC (.str "shut")))))
noncomputable def g_is_usable : FF := gF lvF 2 f_is_usable
noncomputable def f_can_happen : FSt := fSeq (fIf (fTB (fOp gNe (fUn (gFldC [2] "mode") (fV 0)) (fC (.str "held")))) (fRet (fC (.bl false))) fNx) (fSeq (fIf (fOr (fTB (fOp gEq (fV 2) (fC (.str "L")))) (fTB (fOp gEq (fV 2) (fC (.str "G"))))) (fSeq (fIf (fAnd (fTB (fOp gEq (fUn (gFldC [2] "sharing") (fV 0)) (fC (.str "each")))) (fNot (fTB (fV 3)))) (fRet (fC (.bl false))) fNx) (fRet (fOrV (fOp gEq (fV 2) (fC (.str "L"))) (fOp gNe (fOp gIx (fV 1) (fC (.int 2))) (fC (.str "open")))))) fNx) (fSeq (fIf (fTB (fOp gEq (fV 2) (fC (.str "H")))) (fRet (fCall 2 g_is_usable (faC (fV 0) (faC (fV 1) faN)))) fNx) (fSeq (fIf (fTB (fOp gEq (fV 2) (fC (.str "D")))) (fRet (fOp gIx (fV 1) (fC (.int 1)))) fNx) (fRet (fOp gEq (fOp gIx (fV 1) (fC (.int 2))) (fC (.str "open")))))))
noncomputable def g_can_happen : FF := gF lvF 4 f_can_happen
noncomputable def f_possible_1 : FT := fTB (fCall 4 g_can_happen (faC (fV 0) (faC (fV 1) (faC (fV 3) (faC (fV 2) faN)))))
noncomputable def f_possible : FSt := fRet (fM tyS gJoin (fC (.str "")) (faC (fLc (fiV (fC c_EVENTS)) (gN 3) f_possible_1 (fV 3) [3]) faN))
noncomputable def g_possible : FF := gF lvF 4 f_possible
noncomputable def f_step : FSt := fSeq (fUnp [3, 4, 5] (fV 1)) (fSeq (fUnp [6, 7] (fOp gIx (fOp gIx (fUn (gFldC [2] "rule") (fV 0)) (fV 3)) (fM tyS gSIx (fC c_EVENTS) (faC (fV 2) faN)))) (fSeq (fIf (fTB (fOp gEq (fV 2) (fC (.str "L")))) (fSeq (fAsg 4 (fC (.bl true))) (fIf (fTB (fOp gEq (fV 5) (fC (.str "shut")))) (fAsg 5 (fC (.str "open"))) fNx)) (fIf (fTB (fOp gEq (fV 2) (fC (.str "G")))) (fSeq (fAsg 4 (fC (.bl true))) (fAsg 5 (fC (.str "free")))) (fIf (fOr (fTB (fOp gEq (fV 2) (fC (.str "R")))) (fTB (fOp gEq (fV 2) (fC (.str "F"))))) (fAsg 5 (fC (.str "shut"))) (fIf (fTB (fOp gEq (fV 2) (fC (.str "D")))) (fAsg 4 (fC (.bl false))) fNx)))) (fRet (fTup (faC (fTup (faC (fV 6) (faC (fV 4) (faC (fV 5) faN)))) (faC (fV 7) faN))))))
noncomputable def g_step : FF := gF lvF 8 f_step
noncomputable def f_chart_1 : FSt := fSeq (fAsg 7 (fOp gIx (fCall 3 g_step (faC (fV 0) (faC (fV 4) (faC (fV 6) faN)))) (fC (.int 0)))) (fIf (fTB (fOp gNotIn (fV 7) (fV 2))) (fSeq (fSetI (fV 2) (fV 7) (fC (.bl true))) (fDrop (fM tyL gApp (fV 1) (faC (fTup (faC (fV 7) (faC (fOp gAdd (fV 5) (fV 6)) faN))) faN)))) fNx)
noncomputable def f_chart_2 : FSt := fSeq (fUnp [4, 5] (fOp gIx (fV 1) (fV 3))) (fSeq (fFor (fiV (fCall 3 g_possible (faC (fV 0) (faC (fV 4) (faC (fOp gEq (fV 5) (fC (.str ""))) faN))))) (gN 6) f_chart_1) (fAug 3 gIAdd (fC (.int 1))))
noncomputable def f_chart : FSt := fSeq (fAsg 1 (fLstM (faC (fTup (faC (fC c_START) (faC (fC (.str "")) faN))) faN))) (fSeq (fAsg 2 (fDN1 (fC c_START) (fC (.bl true)))) (fSeq (fAsg 3 (fC (.int 0))) (fSeq (whileF (fTB (fOp gLt (fV 3) (fB gLen (faC (fV 1) faN)))) f_chart_2 wN) (fRet (fV 1)))))
noncomputable def g_chart : FF := gF lvF 8 f_chart
noncomputable def f_is_finished : FSt := fRet (fAndV (fNotV (fOp gIx (fV 0) (fC (.int 1)))) (fOp gNe (fOp gIx (fV 0) (fC (.int 2))) (fC (.str "open"))))
noncomputable def g_is_finished : FF := gF lvF 1 f_is_finished
noncomputable def f_fault : FSt := fSeq (fIf (fTB (fOp gLt (fV 3) (fC (.int 0)))) (fRet (fC (.str "overdrawn"))) fNx) (fSeq (fIf (fAnd (fTB (fCall 1 g_is_finished (faC (fV 2) faN))) (fTB (fOp gGt (fV 3) (fC (.int 0))))) (fRet (fC (.str "stays"))) fNx) (fSeq (fIf (fTB (fCall 2 g_is_usable (faC (fV 0) (faC (fV 2) faN)))) (fSeq (fIf (fTB (fOp gEq (fV 3) (fC (.int 0)))) (fRet (fC (.str "bare"))) fNx) (fIf (fAnd (fTB (fOp gEq (fUn (gFldC [2] "grip") (fV 0)) (fC (.str "place")))) (fTB (fOp gEq (fV 1) (fC (.int 1))))) (fRet (fC (.str "moved"))) fNx)) fNx) (fRet (fC .non))))
noncomputable def g_fault : FF := gF lvF 4 f_fault
noncomputable def f_first_flaw_1 : FSt := fSeq (fUnp [9, 10] (fCall 3 g_step (faC (fV 0) (faC (fV 5) (faC (fV 8) faN))))) (fSeq (fAsg 11 (fCall 4 g_fault (faC (fV 0) (faC (fV 1) (faC (fV 9) (faC (fOp gAdd (fV 6) (fV 10)) faN)))))) (fSeq (fIf (fTB (fOp gIsNot (fV 11) (fC .non))) (fRet (fTup (faC (fOp gAdd (fV 7) (fV 8)) (faC (fV 11) faN)))) fNx) (fIf (fTB (fOp gNotIn (fTup (faC (fV 9) (faC (fOp gAdd (fV 6) (fV 10)) faN))) (fV 3))) (fSeq (fSetI (fV 3) (fTup (faC (fV 9) (faC (fOp gAdd (fV 6) (fV 10)) faN))) (fC (.bl true))) (fDrop (fM tyL gApp (fV 2) (faC (fTup (faC (fV 9) (faC (fOp gAdd (fV 6) (fV 10)) (faC (fOp gAdd (fV 7) (fV 8)) faN)))) faN)))) fNx)))
noncomputable def f_first_flaw_2 : FSt := fSeq (fUnp [5, 6, 7] (fOp gIx (fV 2) (fV 4))) (fSeq (fFor (fiV (fCall 3 g_possible (faC (fV 0) (faC (fV 5) (faC (fOp gEq (fV 7) (fC (.str ""))) faN))))) (gN 8) f_first_flaw_1) (fAug 4 gIAdd (fC (.int 1))))
noncomputable def f_first_flaw : FSt := fSeq (fAsg 2 (fLstM (faC (fTup (faC (fC c_START) (faC (fC (.int 0)) (faC (fC (.str "")) faN)))) faN))) (fSeq (fAsg 3 fDN0) (fSeq (fAsg 4 (fC (.int 0))) (fSeq (whileF (fTB (fOp gLt (fV 4) (fB gLen (faC (fV 2) faN)))) f_first_flaw_2 wN) (fRet (fC .non)))))
noncomputable def g_first_flaw : FF := gF lvF 12 f_first_flaw
noncomputable def f_law_1 : FSt := fSeq (fAsg 9 (fCall 5 (gNew 2 g_Row_init) (faC (fV 3) (faC (fV 4) (faC (fV 5) (faC (fV 6) (faC (fLc (fiV (fV 7)) (gN 12) fTrue (fB gList (faC (fV 12) faN)) [12]) faN))))))) (fIf (fTB (fOp gIsNot (fV 8) (fC .non))) (fRet (fC (.bl false))) fNx)
noncomputable def f_law_2 : FSt := fSeq (fAsg 2 (fCall 2 g__law_start (faC (fV 0) (faC (fV 1) faN)))) (fSeq (fAsg 3 (fOp gIx (fLst (faC (fC (.str "held")) (faC (fC (.str "held")) (faC (fC (.str "copied")) (faC (fC (.str "refused")) (faC (fC (.str "lent")) faN)))))) (fCall 2 g__law_digit (faC (fV 2) (faC (fC (.int 5)) faN))))) (fSeq (fAsg 4 (fOp gIx (fLst (faC (fC (.str "one")) (faC (fC (.str "each")) (faC (fC (.str "one")) (faC (fC (.str "always")) faN))))) (fCall 2 g__law_digit (faC (fV 2) (faC (fC (.int 4)) faN))))) (fSeq (fAsg 5 (fOp gIx (fLst (faC (fC (.str "always")) (faC (fC (.str "call")) (faC (fC (.str "always")) (faC (fC (.str "slot")) faN))))) (fCall 2 g__law_digit (faC (fV 2) (faC (fC (.int 4)) faN))))) (fSeq (fAsg 6 (fOp gIx (fLst (faC (fC (.str "slot")) (faC (fC (.str "place")) (faC (fC (.str "pin")) (faC (fC (.str "slot")) (faC (fC (.str "pen")) faN)))))) (fCall 2 g__law_digit (faC (fV 2) (faC (fC (.int 5)) faN))))) (fSeq (fAsg 7 (fIfE (fOr (fTB (fOp gEq (fV 3) (fC (.str "held")))) (fTB (fOp gEq (fCall 2 g__law_digit (faC (fV 2) (faC (fC (.int 2)) faN))) (fC (.int 0))))) (fCall 1 g__law_rule (faC (fV 2) faN)) (fLst (faC (fOp gMul (fLst (faC (fTup (faC (fC (.int 0)) (faC (fC (.int 0)) faN))) faN)) (fC (.int 6))) faN)))) (fSeq (fIf (fTB (fOp gEq (fCall 2 g__law_digit (faC (fV 2) (faC (fC (.int 2)) faN))) (fC (.int 0)))) (fUnp [4, 5, 6] (fTup (faC (fC (.str "one")) (faC (fC (.str "always")) (faC (fC (.str "slot")) faN))))) fNx) (fSeq (fAsg 8 (fCall 5 g__law_wrong (faC (fV 3) (faC (fV 4) (faC (fV 5) (faC (fV 6) (faC (fV 7) faN))))))) (fSeq (fTry f_law_1 [1] [] 10 (fun a d j => fSeq (fIf (fTB (fOp gNe (fUn (gXf a d j "what") (fV 10)) (fV 8))) (fRet (fC (.bl false))) fNx) (fAsg 9 (fC .non)))) (fIf (fTB (fOp gIsNot (fV 9) (fC .non))) (fSeq (fIf (fOr (fTB (fOp gNe (fTup (faC (fUn (gFldC [2] "mode") (fV 9)) (faC (fUn (gFldC [2] "sharing") (fV 9)) (faC (fUn (gFldC [2] "lease") (fV 9)) (faC (fUn (gFldC [2] "grip") (fV 9)) faN))))) (fTup (faC (fV 3) (faC (fV 4) (faC (fV 5) (faC (fV 6) faN))))))) (fTB (fOp gNe (fUn (gFldC [2] "rule") (fV 9)) (fB gTuple (faC (fLc (fiV (fV 7)) (gN 12) fTrue (fB gTuple (faC (fV 12) faN)) [12]) faN))))) (fRet (fC (.bl false))) fNx) (fSeq (fAsg 11 (fCall 5 (gNew 2 g_Row_init) (faC (fUn (gFldC [2] "mode") (fV 9)) (faC (fUn (gFldC [2] "sharing") (fV 9)) (faC (fUn (gFldC [2] "lease") (fV 9)) (faC (fUn (gFldC [2] "grip") (fV 9)) (faC (fLc (fiV (fUn (gFldC [2] "rule") (fV 9))) (gN 12) fTrue (fB gList (faC (fV 12) faN)) [12]) faN))))))) (fSeq (fIf (fOr (fTB (fOp gNe (fCall 1 g_chart (faC (fV 11) faN)) (fCall 1 g_chart (faC (fV 9) faN)))) (fTB (fOp gNe (fLc (fiR (fC (.int 2))) (gN 13) fTrue (fCall 2 g_first_flaw (faC (fV 11) (faC (fV 13) faN))) [13]) (fLc (fiR (fC (.int 2))) (gN 13) fTrue (fCall 2 g_first_flaw (faC (fV 9) (faC (fV 13) faN))) [13])))) (fRet (fC (.bl false))) fNx) (fIf (fAnd (fTB (fOp gNe (fV 3) (fC (.str "held")))) (fOr (fTB (fOp gNe (fCall 1 g_chart (faC (fV 9) faN)) (fLst (faC (fTup (faC (fTup (faC (fC (.int 0)) (faC (fC (.bl false)) (faC (fC (.str "shut")) faN)))) (faC (fC (.str "")) faN))) faN)))) (fOr (fTB (fOp gNe (fCall 3 g_possible (faC (fV 9) (faC (fTup (faC (fC (.int 0)) (faC (fC (.bl false)) (faC (fC (.str "shut")) faN)))) (faC (fC (.bl true)) faN)))) (fC (.str "")))) (fTB (fOp gIsNot (fCall 2 g_first_flaw (faC (fV 9) (faC (fC (.int 1)) faN))) (fC .non)))))) (fRet (fC (.bl false))) fNx)))) fNx)))))))))
noncomputable def f_law : FSt := fSeq (fFor (fiR (fC (.int 12))) (gN 1) f_law_2) (fRet (fOp gEq (fLc (fiV (fTup (faC (fC (.str "copied")) (faC (fC (.str "refused")) (faC (fC (.str "held")) (faC (fC (.str "one")) faN)))))) (gN 3) fTrue (fCall 1 g__law_plain (faC (fV 3) faN)) [3]) (fLst (faC (fC (.str "copied")) (faC (fC (.str "refused")) (faC (fC (.str "wrong mode")) (faC (fC (.str "wrong mode")) faN)))))))
noncomputable def g_law : FF := gF lvF 14 f_law
--END PURE
abbrev prog : Program := PySem.Challenge.pw_surebridge_k12_whole_rows_that_are_none
def top (i : Nat) : Stmt := prog.main.body.getD i (.Pass ⟨0, 0, 0, 0⟩)
abbrev s_InvalidRow_init : Stmt := inClass (top 2) 0
def d_InvalidRow_init : He.DefD := ⟨("InvalidRow", some "__init__"), "__init__", "InvalidRow.__init__", defArgs s_InvalidRow_init, defBody s_InvalidRow_init, defScope s_InvalidRow_init, [], []⟩
abbrev s_is_mark : Stmt := top 12
def d_is_mark : He.DefD := ⟨("is_mark", none), "is_mark", "is_mark", defArgs s_is_mark, defBody s_is_mark, defScope s_is_mark, [], []⟩
abbrev s_is_rule : Stmt := top 13
def d_is_rule : He.DefD := ⟨("is_rule", none), "is_rule", "is_rule", defArgs s_is_rule, defBody s_is_rule, defScope s_is_rule, [], []⟩
abbrev s_Row_init : Stmt := inClass (top 14) 0
def d_Row_init : He.DefD := ⟨("Row", some "__init__"), "__init__", "Row.__init__", defArgs s_Row_init, defBody s_Row_init, defScope s_Row_init, [], []⟩
abbrev s__law_digit : Stmt := top 29
def d__law_digit : He.DefD := ⟨("_law_digit", none), "_law_digit", "_law_digit", defArgs s__law_digit, defBody s__law_digit, defScope s__law_digit, [], []⟩
abbrev s_plain_row : Stmt := top 15
def d_plain_row : He.DefD := ⟨("plain_row", none), "plain_row", "plain_row", defArgs s_plain_row, defBody s_plain_row, defScope s_plain_row, [], []⟩
abbrev s__law_plain : Stmt := top 34
def d__law_plain : He.DefD := ⟨("_law_plain", none), "_law_plain", "_law_plain", defArgs s__law_plain, defBody s__law_plain, defScope s__law_plain, [], []⟩
abbrev s__law_mark : Stmt := top 30
def d__law_mark : He.DefD := ⟨("_law_mark", none), "_law_mark", "_law_mark", defArgs s__law_mark, defBody s__law_mark, defScope s__law_mark, [], []⟩
abbrev s__law_rule : Stmt := top 31
def d__law_rule : He.DefD := ⟨("_law_rule", none), "_law_rule", "_law_rule", defArgs s__law_rule, defBody s__law_rule, defScope s__law_rule, [], []⟩
abbrev s__law_start : Stmt := top 28
def d__law_start : He.DefD := ⟨("_law_start", none), "_law_start", "_law_start", defArgs s__law_start, defBody s__law_start, defScope s__law_start, [], []⟩
abbrev s__law_rule_fits : Stmt := top 32
def d__law_rule_fits : He.DefD := ⟨("_law_rule_fits", none), "_law_rule_fits", "_law_rule_fits", defArgs s__law_rule_fits, defBody s__law_rule_fits, defScope s__law_rule_fits, [], []⟩
abbrev s__law_wrong : Stmt := top 33
def d__law_wrong : He.DefD := ⟨("_law_wrong", none), "_law_wrong", "_law_wrong", defArgs s__law_wrong, defBody s__law_wrong, defScope s__law_wrong, [], []⟩
abbrev s_is_usable : Stmt := top 18
def d_is_usable : He.DefD := ⟨("is_usable", none), "is_usable", "is_usable", defArgs s_is_usable, defBody s_is_usable, defScope s_is_usable, [], []⟩
abbrev s_can_happen : Stmt := top 20
def d_can_happen : He.DefD := ⟨("can_happen", none), "can_happen", "can_happen", defArgs s_can_happen, defBody s_can_happen, defScope s_can_happen, [], []⟩
abbrev s_possible : Stmt := top 21
def d_possible : He.DefD := ⟨("possible", none), "possible", "possible", defArgs s_possible, defBody s_possible, defScope s_possible, [], []⟩
abbrev s_step : Stmt := top 22
def d_step : He.DefD := ⟨("step", none), "step", "step", defArgs s_step, defBody s_step, defScope s_step, [], []⟩
abbrev s_chart : Stmt := top 23
def d_chart : He.DefD := ⟨("chart", none), "chart", "chart", defArgs s_chart, defBody s_chart, defScope s_chart, [], []⟩
abbrev s_is_finished : Stmt := top 19
def d_is_finished : He.DefD := ⟨("is_finished", none), "is_finished", "is_finished", defArgs s_is_finished, defBody s_is_finished, defScope s_is_finished, [], []⟩
abbrev s_fault : Stmt := top 25
def d_fault : He.DefD := ⟨("fault", none), "fault", "fault", defArgs s_fault, defBody s_fault, defScope s_fault, [], []⟩
abbrev s_first_flaw : Stmt := top 26
def d_first_flaw : He.DefD := ⟨("first_flaw", none), "first_flaw", "first_flaw", defArgs s_first_flaw, defBody s_first_flaw, defScope s_first_flaw, [], []⟩
abbrev s_law : Stmt := top 35
def d_law : He.DefD := ⟨("law", none), "law", "law", defArgs s_law, defBody s_law, defScope s_law, [], []⟩
def fn : List He.DefD := [d_InvalidRow_init, d_is_mark, d_is_rule, d_Row_init, d__law_digit, d_plain_row, d__law_plain, d__law_mark, d__law_rule, d__law_start, d__law_rule_fits, d__law_wrong, d_is_usable, d_can_happen, d_possible, d_step, d_chart, d_is_finished, d_fault, d_first_flaw, d_law]
def fa : List He.Fa := [.free "len", .free "abs", .glo "is_mark", .glo "InvalidRow", .mkr "Row", .glo "Row", .glo "is_usable", .glo "can_happen", .glo "possible", .glo "step", .glo "is_finished", .glo "fault", .free "int", .free "range", .glo "_law_digit", .glo "_law_mark", .glo "_law_rule_fits", .glo "plain_row", .glo "_law_start", .glo "_law_rule", .glo "_law_wrong", .free "list", .free "tuple", .glo "chart", .glo "first_flaw", .glo "_law_plain", .glo "is_rule", .cls "Row", .noat "Row" "lease", .noat "Row" "mode", .noat "Row" "sharing", .noat "Row" "rule", .noat "Row" "grip", .glo "BridgeError", .glo "law"]
def cxn : Nat → Str
  | 0 => "BridgeError"
  | 1 => "InvalidRow"
  | 2 => "Row"
  | _ => "law"
def cx (K : PySem.W.Frag) (c : Nat) : Addr := He.ga K (cxn c)
def exs (K : PySem.W.Frag) : List Bool := [conB K ("EVENTS", c_EVENTS), conB K ("MOST_CHANGE", c_MOST_CHANGE), conB K ("MOST_MARKS", c_MOST_MARKS), conB K ("STILL", c_STILL), conB K ("START", c_START), conB K ("MODES", c_MODES), conB K ("SHARINGS", c_SHARINGS), conB K ("LEASES", c_LEASES), conB K ("GRIPS", c_GRIPS), errB K (cx K 1) (He.ga K "BridgeError") (He.fAd K ("InvalidRow", some "__init__")) ["what"], decide (PySem.W.exmOne K (.ref (cx K 1)) (.ref (He.ga K "InvalidRow")) = some true)]
def ex (K : PySem.W.Frag) : Bool := (exs K).all id
theorem ex_at {K : PySem.W.Frag} (h : ex K = true) (i : Nat) {b : Bool} (e : (exs K)[i]? = some b) : b = true := List.all_eq_true.mp h b (List.mem_of_getElem? e)
abbrev mx (w : World) (K : PySem.W.Frag) : Mx := ⟨K, prog, w, cx K⟩
section
variable {w : World} {K : PySem.W.Frag} {mg : Str → Option Value} {base : Heap}
theorem con_EVENTS (t : Tp fa fn ex (mx w K) mg base) : conB K ("EVENTS", c_EVENTS) = true := ex_at t.more 0 rfl
theorem con_MOST_CHANGE (t : Tp fa fn ex (mx w K) mg base) : conB K ("MOST_CHANGE", c_MOST_CHANGE) = true := ex_at t.more 1 rfl
theorem con_MOST_MARKS (t : Tp fa fn ex (mx w K) mg base) : conB K ("MOST_MARKS", c_MOST_MARKS) = true := ex_at t.more 2 rfl
theorem con_STILL (t : Tp fa fn ex (mx w K) mg base) : conB K ("STILL", c_STILL) = true := ex_at t.more 3 rfl
theorem con_START (t : Tp fa fn ex (mx w K) mg base) : conB K ("START", c_START) = true := ex_at t.more 4 rfl
theorem con_MODES (t : Tp fa fn ex (mx w K) mg base) : conB K ("MODES", c_MODES) = true := ex_at t.more 5 rfl
theorem con_SHARINGS (t : Tp fa fn ex (mx w K) mg base) : conB K ("SHARINGS", c_SHARINGS) = true := ex_at t.more 6 rfl
theorem con_LEASES (t : Tp fa fn ex (mx w K) mg base) : conB K ("LEASES", c_LEASES) = true := ex_at t.more 7 rfl
theorem con_GRIPS (t : Tp fa fn ex (mx w K) mg base) : conB K ("GRIPS", c_GRIPS) = true := ex_at t.more 8 rfl
theorem cf_lease (t : Tp fa fn ex (mx w K) mg base) : ClsF (mx w K) "lease" [2] := ClsF.cons (He.cls_ok (x := "Row") (t.fact 27)) (He.noat_ok (x := "Row") (t.fact 28)) (ClsF.nil)
theorem cf_mode (t : Tp fa fn ex (mx w K) mg base) : ClsF (mx w K) "mode" [2] := ClsF.cons (He.cls_ok (x := "Row") (t.fact 27)) (He.noat_ok (x := "Row") (t.fact 29)) (ClsF.nil)
theorem cf_sharing (t : Tp fa fn ex (mx w K) mg base) : ClsF (mx w K) "sharing" [2] := ClsF.cons (He.cls_ok (x := "Row") (t.fact 27)) (He.noat_ok (x := "Row") (t.fact 30)) (ClsF.nil)
theorem cf_rule (t : Tp fa fn ex (mx w K) mg base) : ClsF (mx w K) "rule" [2] := ClsF.cons (He.cls_ok (x := "Row") (t.fact 27)) (He.noat_ok (x := "Row") (t.fact 31)) (ClsF.nil)
theorem cf_grip (t : Tp fa fn ex (mx w K) mg base) : ClsF (mx w K) "grip" [2] := ClsF.cons (He.cls_ok (x := "Row") (t.fact 27)) (He.noat_ok (x := "Row") (t.fact 32)) (ClsF.nil)
theorem sc_InvalidRow_init : FnScope ["self", "what"] ["self", "what"] (defScope s_InvalidRow_init) := ⟨rfl, rfl, rfl, by decide +kernel, rfl, by decide +kernel, by decide +kernel⟩
theorem sc_is_mark : FnScope ["mark", "marks", "follow", "change"] ["mark", "marks"] (defScope s_is_mark) := ⟨rfl, rfl, rfl, by decide +kernel, rfl, by decide +kernel, by decide +kernel⟩
theorem sc_is_rule : FnScope ["rule", "mark"] ["rule"] (defScope s_is_rule) := ⟨rfl, rfl, rfl, by decide +kernel, rfl, by decide +kernel, by decide +kernel⟩
theorem sc_Row_init : FnScope ["self", "mode", "sharing", "lease", "grip", "rule", "held", "marks", "mark", "pair"] ["self", "mode", "sharing", "lease", "grip", "rule"] (defScope s_Row_init) := ⟨rfl, rfl, rfl, by decide +kernel, rfl, by decide +kernel, by decide +kernel⟩
theorem sc__law_digit : FnScope ["state", "many", "digit"] ["state", "many"] (defScope s__law_digit) := ⟨rfl, rfl, rfl, by decide +kernel, rfl, by decide +kernel, by decide +kernel⟩
theorem sc_plain_row : FnScope ["mode"] ["mode"] (defScope s_plain_row) := ⟨rfl, rfl, rfl, by decide +kernel, rfl, by decide +kernel, by decide +kernel⟩
theorem sc__law_plain : FnScope ["mode", "e"] ["mode"] (defScope s__law_plain) := ⟨rfl, rfl, rfl, by decide +kernel, rfl, by decide +kernel, by decide +kernel⟩
theorem sc__law_mark : FnScope ["state", "many", "size", "found", "k", "follow", "change"] ["state", "many"] (defScope s__law_mark) := ⟨rfl, rfl, rfl, by decide +kernel, rfl, by decide +kernel, by decide +kernel⟩
theorem sc__law_rule : FnScope ["state", "many", "k"] ["state"] (defScope s__law_rule) := ⟨rfl, rfl, rfl, by decide +kernel, rfl, by decide +kernel, by decide +kernel⟩
theorem sc__law_start : FnScope ["script", "k", "cell", "prime", "mixed", "number", "turn"] ["script", "k"] (defScope s__law_start) := ⟨rfl, rfl, rfl, by decide +kernel, rfl, by decide +kernel, by decide +kernel⟩
theorem sc__law_rule_fits : FnScope ["rule", "mark", "pair"] ["rule"] (defScope s__law_rule_fits) := ⟨rfl, rfl, rfl, by decide +kernel, rfl, by decide +kernel, by decide +kernel⟩
theorem sc__law_wrong : FnScope ["mode", "sharing", "lease", "grip", "rule", "plain"] ["mode", "sharing", "lease", "grip", "rule"] (defScope s__law_wrong) := ⟨rfl, rfl, rfl, by decide +kernel, rfl, by decide +kernel, by decide +kernel⟩
theorem sc_is_usable : FnScope ["row", "node"] ["row", "node"] (defScope s_is_usable) := ⟨rfl, rfl, rfl, by decide +kernel, rfl, by decide +kernel, by decide +kernel⟩
theorem sc_can_happen : FnScope ["row", "node", "event", "first"] ["row", "node", "event", "first"] (defScope s_can_happen) := ⟨rfl, rfl, rfl, by decide +kernel, rfl, by decide +kernel, by decide +kernel⟩
theorem sc_possible : FnScope ["row", "node", "first", "event"] ["row", "node", "first"] (defScope s_possible) := ⟨rfl, rfl, rfl, by decide +kernel, rfl, by decide +kernel, by decide +kernel⟩
theorem sc_step : FnScope ["row", "node", "event", "mark", "alive", "status", "follow", "change"] ["row", "node", "event"] (defScope s_step) := ⟨rfl, rfl, rfl, by decide +kernel, rfl, by decide +kernel, by decide +kernel⟩
theorem sc_chart : FnScope ["row", "found", "known", "at", "node", "life", "event", "follow"] ["row"] (defScope s_chart) := ⟨rfl, rfl, rfl, by decide +kernel, rfl, by decide +kernel, by decide +kernel⟩
theorem sc_is_finished : FnScope ["node"] ["node"] (defScope s_is_finished) := ⟨rfl, rfl, rfl, by decide +kernel, rfl, by decide +kernel, by decide +kernel⟩
theorem sc_fault : FnScope ["row", "home", "node", "hold"] ["row", "home", "node", "hold"] (defScope s_fault) := ⟨rfl, rfl, rfl, by decide +kernel, rfl, by decide +kernel, by decide +kernel⟩
theorem sc_first_flaw : FnScope ["row", "home", "queue", "known", "at", "node", "hold", "life", "event", "follow", "change", "what"] ["row", "home"] (defScope s_first_flaw) := ⟨rfl, rfl, rfl, by decide +kernel, rfl, by decide +kernel, by decide +kernel⟩
theorem sc_law : FnScope ["script", "turn", "state", "mode", "sharing", "lease", "grip", "rule", "due", "row", "e", "again", "mark", "home"] ["script"] (defScope s_law) := ⟨rfl, rfl, rfl, by decide +kernel, rfl, by decide +kernel, by decide +kernel⟩
theorem err_InvalidRow (t : Tp fa fn ex (mx w K) mg base) : ErrC K (cx K 1) (He.ga K "BridgeError") (He.fAd K ("InvalidRow", some "__init__")) ["what"] := errB_ok (ex_at t.more 9 rfl)
theorem flat_InvalidRow : ∀ ρ H xs vs, Rvs (mx w K) ρ H xs vs → ok_A_InvalidRow vs = true → (∀ ρ H, Rvs (mx w K) ρ H xs vs) ∧ xs.length = 1 := okTxt_flat
theorem oe_InvalidRow (t : Tp fa fn ex (mx w K) mg base) : OkE (mx w K) mg base 1 "InvalidRow" 1 1 sel_InvalidRow ok_A_InvalidRow := by
  obtain ⟨fd, F⟩ := t.def_ 0 (d := d_InvalidRow_init) rfl
  exact initE (M := mx w K) (f0 := "what") (i0 := 0) (sets := []) (fm := fOp gAdd (fC (.str "invalid row: ")) (fV 1)) (err_InvalidRow t) F sc_InvalidRow_init rfl rfl (by decide) (by decide) (msg_cat rfl) (F.bindsN fun _ _ _ _ _ _ us hl => match us, hl with | [_, _], _ => rfl)
    fun cdv A outer s H E hr => initB ⟨rfl, rfl, rfl⟩ rfl (t.glo 33) (err_InvalidRow t).r (err_InvalidRow t).vV (pv 0) (ge_op og_add ge_str (ge_var 1)) (pss_set (pv 0) (pv 1) (pss_nil))
theorem try_InvalidRow_y (t : Tp fa fn ex (mx w K) mg base) : ∀ j ∈ [1], PySem.W.exmOne K (.ref ((mx w K).cx j)) (.ref (He.ga K "InvalidRow")) = some true := fun j hj => by
  rcases List.mem_cons.mp hj with rfl | hj
  · exact of_decide_eq_true (ex_at t.more 10 rfl)
  · exact absurd hj (by simp)
theorem try_InvalidRow_n (t : Tp fa fn ex (mx w K) mg base) : ∀ j ∈ ([] : List Nat), PySem.W.exmOne K (.ref ((mx w K).cx j)) (.ref (He.ga K "InvalidRow")) = some false := fun j hj => by
  exact absurd hj (by simp)
theorem try_InvalidRow_i (t : Tp fa fn ex (mx w K) mg base) : ∀ j ∈ [1], ∀ l ∈ [1], (mx w K).cx j = (mx w K).cx l → j = l := fun j hj l hl e => by simp at hj hl; rw [hj, hl]
theorem try_InvalidRow_x (t : Tp fa fn ex (mx w K) mg base) : ∀ j ∈ [1], XfC K ((mx w K).cx j) := fun j hj => by
  rcases List.mem_cons.mp hj with rfl | hj
  · exact (err_InvalidRow t).x
  · exact absurd hj (by simp)
theorem try_InvalidRow_no (t : Tp fa fn ex (mx w K) mg base) : ∀ j ∈ [1], ∀ f : Str, f ∈ (["what"] : List Str) → PySem.W.findIn K (.ref ((mx w K).cx j)) f = some none := fun j hj f hf => by
  rcases List.mem_cons.mp hj with rfl | hj
  · exact (err_InvalidRow t).no f hf
  · exact absurd hj (by simp)
theorem ok_is_mark (t : Tp fa fn ex (mx w K) mg base) : OkF (mx w K) mg base 1 ("is_mark", none) 2 g_is_mark := by
  obtain ⟨fd, F⟩ := t.def_ 1 (d := d_is_mark) rfl
  refine ⟨⟨fd, ["mark", "marks"], rfl, g_fn F sc_is_mark rfl lv_F fun cdv A outer s H E hr => ?_, F.bindsN fun _ _ _ _ _ _ us hl => match us, hl with | [_, _], _ => rfl⟩, F.kp⟩
  have g0 := Gs.of (M := mx w K) (mg := mg) (base := base) (N := ["mark", "marks", "follow", "change"]) (E := E) (outer := outer) (H := H) hr
  exact gss_cons (gs_if (gt_cmp (og_ne g0.toGo.m g0.toGo.hu) (ge_callB (cg_len g0.toGo.m) rfl (t.free 0) PySem.boot_len (ga_cons (ge_var 0) ga_nil)) (ge_callB (cg_len g0.toGo.m) rfl (t.free 0) PySem.boot_len (ga_cons (ge_con t.KX t.GN (con_EVENTS t) rfl) ga_nil)) rfl) (gss_one (gs_ret ge_bl)) gss_nil) (gss_cons (gs_for g0.hp g0.toGo.calm (gi_val g0.toGo.m (ge_var 0)) (gg_tup g0.toGo.m g0.toGo.calm (ggs_cons sc_is_mark.nd rfl (by first | exact .inl rfl | exact .inr rfl) (ggs_cons sc_is_mark.nd rfl (by first | exact .inl rfl | exact .inr rfl) (ggs_nil))) rfl) (gss_one (gs_if (GW.gt (gw_or (gt_not (gt_chain og_le og_lt ge_int (ge_var 2) (ge_var 1))) (gw_or1 (gt_cmp og_gt (ge_callB cg_abs rfl (t.free 1) PyProof.Rows.Boot.«abs» (ga_cons (ge_var 3) ga_nil)) (ge_con t.KX t.GN (con_MOST_CHANGE t) rfl) rfl)))) (gss_one (gs_ret ge_bl)) gss_nil))) (gss_one (gs_ret ge_bl)))
theorem ok_is_rule (t : Tp fa fn ex (mx w K) mg base) : OkF (mx w K) mg base 2 ("is_rule", none) 1 g_is_rule := by
  obtain ⟨fd, F⟩ := t.def_ 2 (d := d_is_rule) rfl
  refine ⟨⟨fd, ["rule"], rfl, g_fn F sc_is_rule rfl lv_F fun cdv A outer s H E hr => ?_, F.bindsN fun _ _ _ _ _ _ us hl => match us, hl with | [_], _ => rfl⟩, F.kp⟩
  have g0 := Gs.of (M := mx w K) (mg := mg) (base := base) (N := ["rule", "mark"]) (E := E) (outer := outer) (H := H) hr
  exact gss_cons (gs_if (gt_not (gt_chain og_le og_le ge_int (ge_callB (cg_len g0.toGo.m) rfl (t.free 0) PySem.boot_len (ga_cons (ge_var 0) ga_nil)) (ge_con t.KX t.GN (con_MOST_MARKS t) rfl))) (gss_one (gs_ret ge_bl)) gss_nil) (gss_cons (gs_for g0.hp g0.toGo.calm (gi_val g0.toGo.m (ge_var 0)) (gg_name sc_is_rule.nd rfl (by first | exact .inl rfl | exact .inr rfl)) (gss_one (gs_if (gt_not (gt_val (ge_callF g0.toGo (ok_is_mark t) (by decide) rfl (t.glo 2) (ga_cons (ge_var 1) (ga_cons (ge_callB (cg_len g0.toGo.m) rfl (t.free 0) PySem.boot_len (ga_cons (ge_var 0) ga_nil)) ga_nil))))) (gss_one (gs_ret ge_bl)) gss_nil))) (gss_one (gs_ret ge_bl)))
theorem ok_Row_init (t : Tp fa fn ex (mx w K) mg base) : OkF (mx w K) mg base 3 ("Row", some "__init__") 6 g_Row_init := by
  obtain ⟨fd, F⟩ := t.def_ 3 (d := d_Row_init) rfl
  refine ⟨⟨fd, ["self", "mode", "sharing", "lease", "grip", "rule"], rfl, g_fn F sc_Row_init rfl lv_F fun cdv A outer s H E hr => ?_, F.bindsN fun _ _ _ _ _ _ us hl => match us, hl with | [_, _, _, _, _, _], _ => rfl⟩, F.kp⟩
  have g0 := Gs.of (M := mx w K) (mg := mg) (base := base) (N := ["self", "mode", "sharing", "lease", "grip", "rule", "held", "marks", "mark", "pair"]) (E := E) (outer := outer) (H := H) hr
  exact gss_cons (gs_if (gt_cmp (og_notIn g0.toGo.m g0.toGo.hu) (ge_var 1) (ge_con t.KX t.GN (con_MODES t) rfl) rfl) (gss_one (gs_raiseF g0 (oe_InvalidRow t) (by decide) rfl (t.glo 3) (ga_cons ge_str ga_nil) flat_InvalidRow)) gss_nil) (gss_cons (gs_set sc_Row_init.nd rfl (by first | exact .inl rfl | exact .inr rfl) (ge_cmp (og_eq g0.toGo.m g0.toGo.hu) (ge_var 1) ge_str rfl)) (gss_cons (gs_if (GW.gt (gw_or (gt_cmp (og_notIn g0.toGo.m g0.toGo.hu) (ge_var 2) (ge_con t.KX t.GN (con_SHARINGS t) rfl) rfl) (gw_or1 (GW.gt (gw_and (gt_not (gt_val (ge_var 6))) (gw_and1 (gt_cmp (og_ne g0.toGo.m g0.toGo.hu) (ge_var 2) ge_str rfl))))))) (gss_one (gs_raiseF g0 (oe_InvalidRow t) (by decide) rfl (t.glo 3) (ga_cons ge_str ga_nil) flat_InvalidRow)) gss_nil) (gss_cons (gs_if (GW.gt (gw_or (gt_cmp (og_notIn g0.toGo.m g0.toGo.hu) (ge_var 3) (ge_con t.KX t.GN (con_LEASES t) rfl) rfl) (gw_or1 (GW.gt (gw_and (gt_not (gt_val (ge_var 6))) (gw_and1 (gt_cmp (og_ne g0.toGo.m g0.toGo.hu) (ge_var 3) ge_str rfl))))))) (gss_one (gs_raiseF g0 (oe_InvalidRow t) (by decide) rfl (t.glo 3) (ga_cons ge_str ga_nil) flat_InvalidRow)) gss_nil) (gss_cons (gs_if (GW.gt (gw_or (gt_cmp (og_notIn g0.toGo.m g0.toGo.hu) (ge_var 4) (ge_con t.KX t.GN (con_GRIPS t) rfl) rfl) (gw_or1 (GW.gt (gw_and (gt_not (gt_val (ge_var 6))) (gw_and1 (gt_cmp (og_ne g0.toGo.m g0.toGo.hu) (ge_var 4) ge_str rfl))))))) (gss_one (gs_raiseF g0 (oe_InvalidRow t) (by decide) rfl (t.glo 3) (ga_cons ge_str ga_nil) flat_InvalidRow)) gss_nil) (gss_cons (gs_set sc_Row_init.nd rfl (by first | exact .inl rfl | exact .inr rfl) (ge_lstM ga_nil)) (gss_cons (gs_for g0.hp g0.toGo.calm (gi_val g0.toGo.m (ge_var 5)) (gg_name sc_Row_init.nd rfl (by first | exact .inl rfl | exact .inr rfl)) (gss_one (gs_expr (ge_m PySem.F.plainAttrs_list PySem.F.slot_list_append PySem.F.type_list_append mg_append (ty_list g0.toGo.m) (ge_var 7) (ga_cons (ge_callT (cg_tuple g0.toGo.m) rfl (t.free 22) PyProof.Rows.Boot.«tuple» (ga_cons (ge_lc (own := [("pair", 9)]) g0.toGo.calm sc_Row_init.nd (gi_val g0.toGo.m (ge_var 8)) (blk_ok (by kernel_rfl)) (by decide) (fun z1 => gg_name sc_Row_init.nd rfl (by first | exact .inl rfl | exact .inr rfl)) (fun z1 => gts_nil) (fun z1 => ge_callT (cg_tuple (Go.blk g0.toGo _ z1).m) rfl (t.free 22) PyProof.Rows.Boot.«tuple» (ga_cons (ge_var 9) ga_nil))) ga_nil)) ga_nil))))) (gss_cons (gs_if (GW.gt (gw_or (gt_not (gt_val (ge_callF g0.toGo (ok_is_rule t) (by decide) rfl (t.glo 26) (ga_cons (ge_var 7) ga_nil)))) (gw_or1 (GW.gt (gw_and (gt_not (gt_val (ge_var 6))) (gw_and1 (gt_cmp (og_ne g0.toGo.m g0.toGo.hu) (ge_var 7) (ge_lst (ga_cons (ge_con t.KX t.GN (con_STILL t) rfl) ga_nil)) rfl))))))) (gss_one (gs_raiseF g0 (oe_InvalidRow t) (by decide) rfl (t.glo 3) (ga_cons ge_str ga_nil) flat_InvalidRow)) gss_nil) (gss_cons (gs_fldC g0.toGo.m (cf_mode t) (ge_var 0) (ge_var 1)) (gss_cons (gs_fldC g0.toGo.m (cf_sharing t) (ge_var 0) (ge_var 2)) (gss_cons (gs_fldC g0.toGo.m (cf_lease t) (ge_var 0) (ge_var 3)) (gss_cons (gs_fldC g0.toGo.m (cf_grip t) (ge_var 0) (ge_var 4)) (gss_one (gs_fldC g0.toGo.m (cf_rule t) (ge_var 0) (ge_callT (cg_tuple g0.toGo.m) rfl (t.free 22) PyProof.Rows.Boot.«tuple» (ga_cons (ge_var 7) ga_nil)))))))))))))))
theorem ok__law_digit (t : Tp fa fn ex (mx w K) mg base) : OkF (mx w K) mg base 1 ("_law_digit", none) 2 g__law_digit := by
  obtain ⟨fd, F⟩ := t.def_ 4 (d := d__law_digit) rfl
  refine ⟨⟨fd, ["state", "many"], rfl, g_fn F sc__law_digit rfl lv_F fun cdv A outer s H E hr => ?_, F.bindsN fun _ _ _ _ _ _ us hl => match us, hl with | [_, _], _ => rfl⟩, F.kp⟩
  have g0 := Gs.of (M := mx w K) (mg := mg) (base := base) (N := ["state", "many", "digit"]) (E := E) (outer := outer) (H := H) hr
  exact gss_cons (gs_set sc__law_digit.nd rfl (by first | exact .inl rfl | exact .inr rfl) (ge_op og_mod (ge_callT cg_int rfl (t.free 12) PyProof.Rows.Boot.«int» (ga_cons (ge_ix (ig_ix g0.toGo.m g0.toGo.hu) (ge_var 0) ge_int (fun _ _ => rfl)) ga_nil)) (ge_var 1))) (gss_cons (gs_sub (sg_set g0.toGo.m g0.toGo.hu) (ge_var 0) ge_int (ge_op og_div (ge_ix (ig_ix g0.toGo.m g0.toGo.hu) (ge_var 0) ge_int (fun _ _ => rfl)) (ge_var 1))) (gss_one (gs_ret (ge_var 2))))
theorem ok_plain_row (t : Tp fa fn ex (mx w K) mg base) : OkF (mx w K) mg base 5 ("plain_row", none) 1 g_plain_row := by
  obtain ⟨fd, F⟩ := t.def_ 5 (d := d_plain_row) rfl
  refine ⟨⟨fd, ["mode"], rfl, g_fn F sc_plain_row rfl lv_F fun cdv A outer s H E hr => ?_, F.bindsN fun _ _ _ _ _ _ us hl => match us, hl with | [_], _ => rfl⟩, F.kp⟩
  have g0 := Gs.of (M := mx w K) (mg := mg) (base := base) (N := ["mode"]) (E := E) (outer := outer) (H := H) hr
  exact gss_cons (gs_if (gt_cmp (og_eq g0.toGo.m g0.toGo.hu) (ge_var 0) ge_str rfl) (gss_one (gs_raiseF g0 (oe_InvalidRow t) (by decide) rfl (t.glo 3) (ga_cons ge_str ga_nil) flat_InvalidRow)) gss_nil) (gss_one (gs_ret (ge_newF g0.toGo (ok_Row_init t) (He.mkr_ok (t.fact 4)) (by decide) rfl (t.glo 5) (ga_cons (ge_var 0) (ga_cons ge_str (ga_cons ge_str (ga_cons ge_str (ga_cons (ge_lst (ga_cons (ge_con t.KX t.GN (con_STILL t) rfl) ga_nil)) ga_nil))))))))
theorem ok__law_plain (t : Tp fa fn ex (mx w K) mg base) : OkF (mx w K) mg base 6 ("_law_plain", none) 1 g__law_plain := by
  obtain ⟨fd, F⟩ := t.def_ 6 (d := d__law_plain) rfl
  refine ⟨⟨fd, ["mode"], rfl, g_fn F sc__law_plain rfl lv_F fun cdv A outer s H E hr => ?_, F.bindsN fun _ _ _ _ _ _ us hl => match us, hl with | [_], _ => rfl⟩, F.kp⟩
  have g0 := Gs.of (M := mx w K) (mg := mg) (base := base) (N := ["mode", "e"]) (E := E) (outer := outer) (H := H) hr
  exact gss_one (gs_try (yes := [1]) (no := []) g0 sc__law_plain.nd rfl rfl ⟨rfl, by decide, .inl (t.glo 3)⟩ (try_InvalidRow_y t) (try_InvalidRow_n t) (try_InvalidRow_i t) (fun W1 pn xe g1 => gss_one (gs_ret (ge_fld g1.toGo.m (cf_mode t) (ge_callF g1.toGo (ok_plain_row t) (by decide) rfl (t.glo 17) (ga_cons (ge_var 0) ga_nil)) rfl))) (fun j a oe d pn hj hz hf => gss_one (gs_ret (ge_op og_add ge_str (ge_xf (try_InvalidRow_x t j hj) (try_InvalidRow_no t j hj "what" (by decide)) hz hf (ge_var 1))))))
theorem ok__law_mark (t : Tp fa fn ex (mx w K) mg base) : OkF (mx w K) mg base 2 ("_law_mark", none) 2 g__law_mark := by
  obtain ⟨fd, F⟩ := t.def_ 7 (d := d__law_mark) rfl
  refine ⟨⟨fd, ["state", "many"], rfl, g_fn F sc__law_mark rfl lv_F fun cdv A outer s H E hr => ?_, F.bindsN fun _ _ _ _ _ _ us hl => match us, hl with | [_, _], _ => rfl⟩, F.kp⟩
  have g0 := Gs.of (M := mx w K) (mg := mg) (base := base) (N := ["state", "many", "size", "found", "k", "follow", "change"]) (E := E) (outer := outer) (H := H) hr
  exact gss_cons (gs_set sc__law_mark.nd rfl (by first | exact .inl rfl | exact .inr rfl) (ge_if (gt_cmp og_gt (ge_callF g0.toGo (ok__law_digit t) (by decide) rfl (t.glo 14) (ga_cons (ge_var 0) (ga_cons ge_int ga_nil))) ge_int rfl) ge_int (ge_op og_add ge_int (ge_op og_mul ge_int (ge_callF g0.toGo (ok__law_digit t) (by decide) rfl (t.glo 14) (ga_cons (ge_var 0) (ga_cons ge_int ga_nil))))))) (gss_cons (gs_set sc__law_mark.nd rfl (by first | exact .inl rfl | exact .inr rfl) (ge_lstM ga_nil)) (gss_cons (gs_for g0.hp g0.toGo.calm (gi_range rfl (t.free 13) (ge_var 2)) (gg_name sc__law_mark.nd rfl (by first | exact .inl rfl | exact .inr rfl)) (gss_cons (gs_set sc__law_mark.nd rfl (by first | exact .inl rfl | exact .inr rfl) (ge_callF g0.toGo (ok__law_digit t) (by decide) rfl (t.glo 14) (ga_cons (ge_var 0) (ga_cons (ge_var 1) ga_nil)))) (gss_cons (gs_set sc__law_mark.nd rfl (by first | exact .inl rfl | exact .inr rfl) (ge_op og_sub (ge_callF g0.toGo (ok__law_digit t) (by decide) rfl (t.glo 14) (ga_cons (ge_var 0) (ga_cons ge_int ga_nil))) ge_int)) (gss_cons (gs_if (gt_cmp (og_eq g0.toGo.m g0.toGo.hu) (ge_callF g0.toGo (ok__law_digit t) (by decide) rfl (t.glo 14) (ga_cons (ge_var 0) (ga_cons ge_int ga_nil))) ge_int rfl) (gss_one (gs_unp (gg_tup g0.toGo.m g0.toGo.calm (ggs_cons sc__law_mark.nd rfl (by first | exact .inl rfl | exact .inr rfl) (ggs_cons sc__law_mark.nd rfl (by first | exact .inl rfl | exact .inr rfl) (ggs_nil))) rfl) (ge_ix (ig_ix g0.toGo.m g0.toGo.hu) (ge_lst (ga_cons (ge_tup (ga_cons (ge_var 1) (ga_cons ge_int ga_nil))) (ga_cons (ge_tup (ga_cons (ge_op og_sub ge_int ge_int) (ga_cons ge_int ga_nil))) (ga_cons (ge_tup (ga_cons ge_int (ga_cons ge_int ga_nil))) (ga_cons (ge_tup (ga_cons ge_int (ga_cons (ge_op og_sub ge_int ge_int) ga_nil))) ga_nil))))) (ge_callF g0.toGo (ok__law_digit t) (by decide) rfl (t.glo 14) (ga_cons (ge_var 0) (ga_cons ge_int ga_nil))) (fun _ _ => rfl)))) gss_nil) (gss_one (gs_expr (ge_m PySem.F.plainAttrs_list PySem.F.slot_list_append PySem.F.type_list_append mg_append (ty_list g0.toGo.m) (ge_var 3) (ga_cons (ge_tup (ga_cons (ge_var 5) (ga_cons (ge_var 6) ga_nil))) ga_nil)))))))) (gss_one (gs_ret (ge_var 3)))))
theorem ok__law_rule (t : Tp fa fn ex (mx w K) mg base) : OkF (mx w K) mg base 3 ("_law_rule", none) 1 g__law_rule := by
  obtain ⟨fd, F⟩ := t.def_ 8 (d := d__law_rule) rfl
  refine ⟨⟨fd, ["state"], rfl, g_fn F sc__law_rule rfl lv_F fun cdv A outer s H E hr => ?_, F.bindsN fun _ _ _ _ _ _ us hl => match us, hl with | [_], _ => rfl⟩, F.kp⟩
  have g0 := Gs.of (M := mx w K) (mg := mg) (base := base) (N := ["state", "many", "k"]) (E := E) (outer := outer) (H := H) hr
  exact gss_cons (gs_set sc__law_rule.nd rfl (by first | exact .inl rfl | exact .inr rfl) (ge_op og_add ge_int (ge_callF g0.toGo (ok__law_digit t) (by decide) rfl (t.glo 14) (ga_cons (ge_var 0) (ga_cons ge_int ga_nil))))) (gss_cons (gs_if (gt_cmp (og_eq g0.toGo.m g0.toGo.hu) (ge_callF g0.toGo (ok__law_digit t) (by decide) rfl (t.glo 14) (ga_cons (ge_var 0) (ga_cons ge_int ga_nil))) ge_int rfl) (gss_one (gs_ret (ge_ix (ig_ix g0.toGo.m g0.toGo.hu) (ge_lst (ga_cons (ge_lst ga_nil) (ga_cons (ge_op og_mul (ge_lst (ga_cons (ge_op og_mul (ge_lst (ga_cons (ge_tup (ga_cons ge_int (ga_cons ge_int ga_nil))) ga_nil)) ge_int) ga_nil)) ge_int) ga_nil))) (ge_callF g0.toGo (ok__law_digit t) (by decide) rfl (t.glo 14) (ga_cons (ge_var 0) (ga_cons ge_int ga_nil))) (fun _ _ => rfl)))) gss_nil) (gss_one (gs_ret (ge_lc (own := [("k", 2)]) g0.toGo.calm sc__law_rule.nd (gi_range rfl (t.free 13) (ge_var 1)) (blk_ok (by kernel_rfl)) (by decide) (fun z1 => gg_name sc__law_rule.nd rfl (by first | exact .inl rfl | exact .inr rfl)) (fun z1 => gts_nil) (fun z1 => ge_callF (Go.blk g0.toGo _ z1) (ok__law_mark t) (by decide) rfl (t.glo 15) (ga_cons (ge_var 0) (ga_cons (ge_var 1) ga_nil)))))))
theorem ok__law_start (t : Tp fa fn ex (mx w K) mg base) : OkF (mx w K) mg base 1 ("_law_start", none) 2 g__law_start := by
  obtain ⟨fd, F⟩ := t.def_ 9 (d := d__law_start) rfl
  refine ⟨⟨fd, ["script", "k"], rfl, g_fn F sc__law_start rfl lv_L fun cdv A outer s H E hr => ?_, F.bindsN fun _ _ _ _ _ _ us hl => match us, hl with | [_, _], _ => rfl⟩, F.kp⟩
  have g0 := Gs.of (M := mx w K) (mg := mg) (base := base) (N := ["script", "k", "cell", "prime", "mixed", "number", "turn"]) (E := E) (outer := outer) (H := H) hr
  exact gss_cons (gs_set sc__law_start.nd rfl (by first | exact .inl rfl | exact .inr rfl) ge_int) (gss_cons (gs_if (gt_cmp og_gt (ge_callB (cg_len g0.toGo.m) rfl (t.free 0) PySem.boot_len (ga_cons (ge_var 0) ga_nil)) ge_int rfl) (gss_one (gs_set sc__law_start.nd rfl (by first | exact .inl rfl | exact .inr rfl) (ge_callT cg_int rfl (t.free 12) PyProof.Rows.Boot.«int» (ga_cons (ge_ix (ig_ix g0.toGo.m g0.toGo.hu) (ge_var 0) (ge_op og_mod (ge_callT cg_int rfl (t.free 12) PyProof.Rows.Boot.«int» (ga_cons (ge_var 1) ga_nil)) (ge_callB (cg_len g0.toGo.m) rfl (t.free 0) PySem.boot_len (ga_cons (ge_var 0) ga_nil))) (fun _ _ => rfl)) ga_nil)))) gss_nil) (gss_cons (gs_if (GW.gt (gw_and (gt_cmp og_lt (ge_var 1) (ge_callB (cg_len g0.toGo.m) rfl (t.free 0) PySem.boot_len (ga_cons (ge_var 0) ga_nil)) rfl) (gw_and1 (gt_cmp og_ge (ge_callB cg_abs rfl (t.free 1) PyProof.Rows.Boot.«abs» (ga_cons (ge_var 2) ga_nil)) (ge_op og_pow ge_int ge_int) rfl)))) (gss_one (gs_ret (ge_lstM (ga_cons (ge_callB cg_abs rfl (t.free 1) PyProof.Rows.Boot.«abs» (ga_cons (ge_var 2) ga_nil)) ga_nil)))) gss_nil) (gss_cons (gs_set sc__law_start.nd rfl (by first | exact .inl rfl | exact .inr rfl) ge_int) (gss_cons (gs_set sc__law_start.nd rfl (by first | exact .inl rfl | exact .inr rfl) (ge_op og_mod (ge_callT cg_int rfl (t.free 12) PyProof.Rows.Boot.«int» (ga_cons (ge_op og_add (ge_op og_add (ge_op og_mul (ge_var 2) ge_int) (ge_op og_mul (ge_op og_add (ge_var 1) ge_int) ge_int)) ge_int) ga_nil)) (ge_var 3))) (gss_cons (gs_set sc__law_start.nd rfl (by first | exact .inl rfl | exact .inr rfl) ge_int) (gss_cons (gs_for g0.hp g0.toGo.calm (gi_range rfl (t.free 13) ge_int) (gg_name sc__law_start.nd rfl (by first | exact .inl rfl | exact .inr rfl)) (gss_cons (gs_set sc__law_start.nd rfl (by first | exact .inl rfl | exact .inr rfl) (ge_op og_mod (ge_callT cg_int rfl (t.free 12) PyProof.Rows.Boot.«int» (ga_cons (ge_op og_add (ge_op og_add (ge_op og_add (ge_op og_add (ge_op og_mul (ge_var 4) (ge_var 4)) (ge_op og_mul ge_int (ge_var 4))) (ge_op og_mul ge_int (ge_var 1))) (ge_var 6)) ge_int) ga_nil)) (ge_var 3))) (gss_one (gs_set sc__law_start.nd rfl (by first | exact .inl rfl | exact .inr rfl) (ge_op og_add (ge_op og_mul (ge_var 5) (ge_var 3)) (ge_var 4)))))) (gss_one (gs_ret (ge_lstM (ga_cons (ge_var 5) ga_nil))))))))))
theorem ok__law_rule_fits (t : Tp fa fn ex (mx w K) mg base) : OkF (mx w K) mg base 1 ("_law_rule_fits", none) 1 g__law_rule_fits := by
  obtain ⟨fd, F⟩ := t.def_ 10 (d := d__law_rule_fits) rfl
  refine ⟨⟨fd, ["rule"], rfl, g_fn F sc__law_rule_fits rfl lv_F fun cdv A outer s H E hr => ?_, F.bindsN fun _ _ _ _ _ _ us hl => match us, hl with | [_], _ => rfl⟩, F.kp⟩
  have g0 := Gs.of (M := mx w K) (mg := mg) (base := base) (N := ["rule", "mark", "pair"]) (E := E) (outer := outer) (H := H) hr
  exact gss_cons (gs_if (gt_not (gt_chain og_le og_le ge_int (ge_callB (cg_len g0.toGo.m) rfl (t.free 0) PySem.boot_len (ga_cons (ge_var 0) ga_nil)) ge_int)) (gss_one (gs_ret ge_bl)) gss_nil) (gss_cons (gs_for g0.hp g0.toGo.calm (gi_val g0.toGo.m (ge_var 0)) (gg_name sc__law_rule_fits.nd rfl (by first | exact .inl rfl | exact .inr rfl)) (gss_one (gs_if (GW.gt (gw_or (gt_cmp (og_ne g0.toGo.m g0.toGo.hu) (ge_callB (cg_len g0.toGo.m) rfl (t.free 0) PySem.boot_len (ga_cons (ge_var 1) ga_nil)) ge_int rfl) (gw_or1 (gt_cmp og_gt (ge_callB (cg_len g0.toGo.m) rfl (t.free 0) PySem.boot_len (ga_cons (ge_lc (own := [("pair", 2)]) g0.toGo.calm sc__law_rule_fits.nd (gi_val g0.toGo.m (ge_var 1)) (blk_ok (by kernel_rfl)) (by decide) (fun z1 => gg_name sc__law_rule_fits.nd rfl (by first | exact .inl rfl | exact .inr rfl)) (fun z1 => gts_one (GW.gt (gw_or (gt_not (gt_chain og_le og_lt ge_int (ge_ix (ig_ix (Go.blk g0.toGo _ z1).m (Go.blk g0.toGo _ z1).hu) (ge_var 2) ge_int (fun _ _ => rfl)) (ge_callB (cg_len (Go.blk g0.toGo _ z1).m) rfl (t.free 0) PySem.boot_len (ga_cons (ge_var 0) ga_nil)))) (gw_or1 (gt_not (gt_chain og_le og_le (ge_op og_sub ge_int ge_int) (ge_ix (ig_ix (Go.blk g0.toGo _ z1).m (Go.blk g0.toGo _ z1).hu) (ge_var 2) ge_int (fun _ _ => rfl)) ge_int)))))) (fun z1 => ge_var 2)) ga_nil)) ge_int rfl)))) (gss_one (gs_ret ge_bl)) gss_nil))) (gss_one (gs_ret ge_bl)))
theorem ok__law_wrong (t : Tp fa fn ex (mx w K) mg base) : OkF (mx w K) mg base 2 ("_law_wrong", none) 5 g__law_wrong := by
  obtain ⟨fd, F⟩ := t.def_ 11 (d := d__law_wrong) rfl
  refine ⟨⟨fd, ["mode", "sharing", "lease", "grip", "rule"], rfl, g_fn F sc__law_wrong rfl lv_F fun cdv A outer s H E hr => ?_, F.bindsN fun _ _ _ _ _ _ us hl => match us, hl with | [_, _, _, _, _], _ => rfl⟩, F.kp⟩
  have g0 := Gs.of (M := mx w K) (mg := mg) (base := base) (N := ["mode", "sharing", "lease", "grip", "rule", "plain"]) (E := E) (outer := outer) (H := H) hr
  exact gss_cons (gs_set sc__law_wrong.nd rfl (by first | exact .inl rfl | exact .inr rfl) (ge_cmp (og_in g0.toGo.m g0.toGo.hu) (ge_var 0) (ge_tup (ga_cons ge_str (ga_cons ge_str ga_nil))) rfl)) (gss_cons (gs_if (gt_cmp (og_notIn g0.toGo.m g0.toGo.hu) (ge_var 0) (ge_tup (ga_cons ge_str (ga_cons ge_str (ga_cons ge_str ga_nil)))) rfl) (gss_one (gs_ret ge_str)) gss_nil) (gss_cons (gs_if (gt_cmp (og_notIn g0.toGo.m g0.toGo.hu) (ge_var 1) (ge_if (gt_val (ge_var 5)) (ge_tup (ga_cons ge_str ga_nil)) (ge_tup (ga_cons ge_str (ga_cons ge_str ga_nil)))) rfl) (gss_one (gs_ret ge_str)) gss_nil) (gss_cons (gs_if (gt_cmp (og_notIn g0.toGo.m g0.toGo.hu) (ge_var 2) (ge_if (gt_val (ge_var 5)) (ge_tup (ga_cons ge_str ga_nil)) (ge_tup (ga_cons ge_str (ga_cons ge_str ga_nil)))) rfl) (gss_one (gs_ret ge_str)) gss_nil) (gss_cons (gs_if (gt_cmp (og_notIn g0.toGo.m g0.toGo.hu) (ge_var 3) (ge_if (gt_val (ge_var 5)) (ge_tup (ga_cons ge_str ga_nil)) (ge_tup (ga_cons ge_str (ga_cons ge_str (ga_cons ge_str ga_nil))))) rfl) (gss_one (gs_ret ge_str)) gss_nil) (gss_cons (gs_if (GW.gt (gw_or (gt_not (gt_val (ge_callF g0.toGo (ok__law_rule_fits t) (by decide) rfl (t.glo 16) (ga_cons (ge_var 4) ga_nil)))) (gw_or1 (GW.gt (gw_and (gt_val (ge_var 5)) (gw_and1 (gt_cmp (og_ne g0.toGo.m g0.toGo.hu) (ge_var 4) (ge_lst (ga_cons (ge_op og_mul (ge_lst (ga_cons (ge_tup (ga_cons ge_int (ga_cons ge_int ga_nil))) ga_nil)) ge_int) ga_nil)) rfl))))))) (gss_one (gs_ret ge_str)) gss_nil) (gss_one (gs_ret ge_non)))))))
theorem ok_is_usable (t : Tp fa fn ex (mx w K) mg base) : OkF (mx w K) mg base 1 ("is_usable", none) 2 g_is_usable := by
  obtain ⟨fd, F⟩ := t.def_ 12 (d := d_is_usable) rfl
  refine ⟨⟨fd, ["row", "node"], rfl, g_fn F sc_is_usable rfl lv_F fun cdv A outer s H E hr => ?_, F.bindsN fun _ _ _ _ _ _ us hl => match us, hl with | [_, _], _ => rfl⟩, F.kp⟩
  have g0 := Gs.of (M := mx w K) (mg := mg) (base := base) (N := ["row", "node"]) (E := E) (outer := outer) (H := H) hr
  exact gss_one (gs_ret (ge_and (ge_ix (ig_ix g0.toGo.m g0.toGo.hu) (ge_var 1) ge_int (fun _ _ => rfl)) (ge_one (ge_or (ge_cmp (og_eq g0.toGo.m g0.toGo.hu) (ge_fld g0.toGo.m (cf_lease t) (ge_var 0) rfl) ge_str rfl) (ge_one (ge_cmp (og_ne g0.toGo.m g0.toGo.hu) (ge_ix (ig_ix g0.toGo.m g0.toGo.hu) (ge_var 1) ge_int (fun _ _ => rfl)) ge_str rfl))))))
theorem ok_can_happen (t : Tp fa fn ex (mx w K) mg base) : OkF (mx w K) mg base 2 ("can_happen", none) 4 g_can_happen := by
  obtain ⟨fd, F⟩ := t.def_ 13 (d := d_can_happen) rfl
  refine ⟨⟨fd, ["row", "node", "event", "first"], rfl, g_fn F sc_can_happen rfl lv_F fun cdv A outer s H E hr => ?_, F.bindsN fun _ _ _ _ _ _ us hl => match us, hl with | [_, _, _, _], _ => rfl⟩, F.kp⟩
  have g0 := Gs.of (M := mx w K) (mg := mg) (base := base) (N := ["row", "node", "event", "first"]) (E := E) (outer := outer) (H := H) hr
  exact gss_cons (gs_if (gt_cmp (og_ne g0.toGo.m g0.toGo.hu) (ge_fld g0.toGo.m (cf_mode t) (ge_var 0) rfl) ge_str rfl) (gss_one (gs_ret ge_bl)) gss_nil) (gss_cons (gs_if (GW.gt (gw_or (gt_cmp (og_eq g0.toGo.m g0.toGo.hu) (ge_var 2) ge_str rfl) (gw_or1 (gt_cmp (og_eq g0.toGo.m g0.toGo.hu) (ge_var 2) ge_str rfl)))) (gss_cons (gs_if (GW.gt (gw_and (gt_cmp (og_eq g0.toGo.m g0.toGo.hu) (ge_fld g0.toGo.m (cf_sharing t) (ge_var 0) rfl) ge_str rfl) (gw_and1 (gt_not (gt_val (ge_var 3)))))) (gss_one (gs_ret ge_bl)) gss_nil) (gss_one (gs_ret (ge_or (ge_cmp (og_eq g0.toGo.m g0.toGo.hu) (ge_var 2) ge_str rfl) (ge_one (ge_cmp (og_ne g0.toGo.m g0.toGo.hu) (ge_ix (ig_ix g0.toGo.m g0.toGo.hu) (ge_var 1) ge_int (fun _ _ => rfl)) ge_str rfl)))))) gss_nil) (gss_cons (gs_if (gt_cmp (og_eq g0.toGo.m g0.toGo.hu) (ge_var 2) ge_str rfl) (gss_one (gs_ret (ge_callF g0.toGo (ok_is_usable t) (by decide) rfl (t.glo 6) (ga_cons (ge_var 0) (ga_cons (ge_var 1) ga_nil))))) gss_nil) (gss_cons (gs_if (gt_cmp (og_eq g0.toGo.m g0.toGo.hu) (ge_var 2) ge_str rfl) (gss_one (gs_ret (ge_ix (ig_ix g0.toGo.m g0.toGo.hu) (ge_var 1) ge_int (fun _ _ => rfl)))) gss_nil) (gss_one (gs_ret (ge_cmp (og_eq g0.toGo.m g0.toGo.hu) (ge_ix (ig_ix g0.toGo.m g0.toGo.hu) (ge_var 1) ge_int (fun _ _ => rfl)) ge_str rfl))))))
theorem ok_possible (t : Tp fa fn ex (mx w K) mg base) : OkF (mx w K) mg base 3 ("possible", none) 3 g_possible := by
  obtain ⟨fd, F⟩ := t.def_ 14 (d := d_possible) rfl
  refine ⟨⟨fd, ["row", "node", "first"], rfl, g_fn F sc_possible rfl lv_F fun cdv A outer s H E hr => ?_, F.bindsN fun _ _ _ _ _ _ us hl => match us, hl with | [_, _, _], _ => rfl⟩, F.kp⟩
  have g0 := Gs.of (M := mx w K) (mg := mg) (base := base) (N := ["row", "node", "first", "event"]) (E := E) (outer := outer) (H := H) hr
  exact gss_one (gs_ret (ge_m PySem.F.plainAttrs_str PySem.F.slot_str_join PySem.F.type_str_join mg_join ty_str ge_str (ga_cons (ge_lc (own := [("event", 3)]) g0.toGo.calm sc_possible.nd (gi_val g0.toGo.m (ge_con t.KX t.GN (con_EVENTS t) rfl)) (blk_ok (by kernel_rfl)) (by decide) (fun z1 => gg_name sc_possible.nd rfl (by first | exact .inl rfl | exact .inr rfl)) (fun z1 => gts_one (gt_val (ge_callF (Go.blk g0.toGo _ z1) (ok_can_happen t) (by decide) rfl (t.glo 7) (ga_cons (ge_var 0) (ga_cons (ge_var 1) (ga_cons (ge_var 3) (ga_cons (ge_var 2) ga_nil))))))) (fun z1 => ge_var 3)) ga_nil)))
theorem ok_step (t : Tp fa fn ex (mx w K) mg base) : OkF (mx w K) mg base 1 ("step", none) 3 g_step := by
  obtain ⟨fd, F⟩ := t.def_ 15 (d := d_step) rfl
  refine ⟨⟨fd, ["row", "node", "event"], rfl, g_fn F sc_step rfl lv_F fun cdv A outer s H E hr => ?_, F.bindsN fun _ _ _ _ _ _ us hl => match us, hl with | [_, _, _], _ => rfl⟩, F.kp⟩
  have g0 := Gs.of (M := mx w K) (mg := mg) (base := base) (N := ["row", "node", "event", "mark", "alive", "status", "follow", "change"]) (E := E) (outer := outer) (H := H) hr
  exact gss_cons (gs_unp (gg_tup g0.toGo.m g0.toGo.calm (ggs_cons sc_step.nd rfl (by first | exact .inl rfl | exact .inr rfl) (ggs_cons sc_step.nd rfl (by first | exact .inl rfl | exact .inr rfl) (ggs_cons sc_step.nd rfl (by first | exact .inl rfl | exact .inr rfl) (ggs_nil)))) rfl) (ge_var 1)) (gss_cons (gs_unp (gg_tup g0.toGo.m g0.toGo.calm (ggs_cons sc_step.nd rfl (by first | exact .inl rfl | exact .inr rfl) (ggs_cons sc_step.nd rfl (by first | exact .inl rfl | exact .inr rfl) (ggs_nil))) rfl) (ge_ix (ig_ix g0.toGo.m g0.toGo.hu) (ge_ix (ig_ix g0.toGo.m g0.toGo.hu) (ge_fld g0.toGo.m (cf_rule t) (ge_var 0) rfl) (ge_var 3) (fun _ _ => rfl)) (ge_m PySem.F.plainAttrs_str PySem.F.slot_str_index PySem.F.type_str_index mg_sindex ty_str (ge_con t.KX t.GN (con_EVENTS t) rfl) (ga_cons (ge_var 2) ga_nil)) (fun _ _ => rfl))) (gss_cons (gs_if (gt_cmp (og_eq g0.toGo.m g0.toGo.hu) (ge_var 2) ge_str rfl) (gss_cons (gs_set sc_step.nd rfl (by first | exact .inl rfl | exact .inr rfl) ge_bl) (gss_one (gs_if (gt_cmp (og_eq g0.toGo.m g0.toGo.hu) (ge_var 5) ge_str rfl) (gss_one (gs_set sc_step.nd rfl (by first | exact .inl rfl | exact .inr rfl) ge_str)) gss_nil))) (gss_one (gs_if (gt_cmp (og_eq g0.toGo.m g0.toGo.hu) (ge_var 2) ge_str rfl) (gss_cons (gs_set sc_step.nd rfl (by first | exact .inl rfl | exact .inr rfl) ge_bl) (gss_one (gs_set sc_step.nd rfl (by first | exact .inl rfl | exact .inr rfl) ge_str))) (gss_one (gs_if (GW.gt (gw_or (gt_cmp (og_eq g0.toGo.m g0.toGo.hu) (ge_var 2) ge_str rfl) (gw_or1 (gt_cmp (og_eq g0.toGo.m g0.toGo.hu) (ge_var 2) ge_str rfl)))) (gss_one (gs_set sc_step.nd rfl (by first | exact .inl rfl | exact .inr rfl) ge_str)) (gss_one (gs_if (gt_cmp (og_eq g0.toGo.m g0.toGo.hu) (ge_var 2) ge_str rfl) (gss_one (gs_set sc_step.nd rfl (by first | exact .inl rfl | exact .inr rfl) ge_bl)) gss_nil))))))) (gss_one (gs_ret (ge_tup (ga_cons (ge_tup (ga_cons (ge_var 6) (ga_cons (ge_var 4) (ga_cons (ge_var 5) ga_nil)))) (ga_cons (ge_var 7) ga_nil)))))))
theorem ok_chart (t : Tp fa fn ex (mx w K) mg base) : OkF (mx w K) mg base 4 ("chart", none) 1 g_chart := by
  obtain ⟨fd, F⟩ := t.def_ 16 (d := d_chart) rfl
  refine ⟨⟨fd, ["row"], rfl, g_fn F sc_chart rfl lv_F fun cdv A outer s H E hr => ?_, F.bindsN fun _ _ _ _ _ _ us hl => match us, hl with | [_], _ => rfl⟩, F.kp⟩
  have g0 := Gs.of (M := mx w K) (mg := mg) (base := base) (N := ["row", "found", "known", "at", "node", "life", "event", "follow"]) (E := E) (outer := outer) (H := H) hr
  exact gss_cons (gs_set sc_chart.nd rfl (by first | exact .inl rfl | exact .inr rfl) (ge_lstM (ga_cons (ge_tup (ga_cons (ge_con t.KX t.GN (con_START t) rfl) (ga_cons ge_str ga_nil))) ga_nil))) (gss_cons (gs_set sc_chart.nd rfl (by first | exact .inl rfl | exact .inr rfl) (ge_dN1 g0.toGo.m g0.toGo.hu (ge_con t.KX t.GN (con_START t) rfl) ge_bl)) (gss_cons (gs_set sc_chart.nd rfl (by first | exact .inl rfl | exact .inr rfl) ge_int) (gss_cons (gs_while g0.hp (gt_cmp og_lt (ge_var 3) (ge_callB (cg_len g0.toGo.m) rfl (t.free 0) PySem.boot_len (ga_cons (ge_var 1) ga_nil)) rfl) (gss_cons (gs_unp (gg_tup g0.toGo.m g0.toGo.calm (ggs_cons sc_chart.nd rfl (by first | exact .inl rfl | exact .inr rfl) (ggs_cons sc_chart.nd rfl (by first | exact .inl rfl | exact .inr rfl) (ggs_nil))) rfl) (ge_ix (ig_ix g0.toGo.m g0.toGo.hu) (ge_var 1) (ge_var 3) (fun _ _ => rfl))) (gss_cons (gs_for g0.hp g0.toGo.calm (gi_val g0.toGo.m (ge_callF g0.toGo (ok_possible t) (by decide) rfl (t.glo 8) (ga_cons (ge_var 0) (ga_cons (ge_var 4) (ga_cons (ge_cmp (og_eq g0.toGo.m g0.toGo.hu) (ge_var 5) ge_str rfl) ga_nil))))) (gg_name sc_chart.nd rfl (by first | exact .inl rfl | exact .inr rfl)) (gss_cons (gs_set sc_chart.nd rfl (by first | exact .inl rfl | exact .inr rfl) (ge_ix (ig_ix g0.toGo.m g0.toGo.hu) (ge_callF g0.toGo (ok_step t) (by decide) rfl (t.glo 9) (ga_cons (ge_var 0) (ga_cons (ge_var 4) (ga_cons (ge_var 6) ga_nil)))) ge_int (fun _ _ => rfl))) (gss_one (gs_if (gt_cmp (og_notIn g0.toGo.m g0.toGo.hu) (ge_var 7) (ge_var 2) rfl) (gss_cons (gs_sub (sg_set g0.toGo.m g0.toGo.hu) (ge_var 2) (ge_var 7) ge_bl) (gss_one (gs_expr (ge_m PySem.F.plainAttrs_list PySem.F.slot_list_append PySem.F.type_list_append mg_append (ty_list g0.toGo.m) (ge_var 1) (ga_cons (ge_tup (ga_cons (ge_var 7) (ga_cons (ge_op og_add (ge_var 5) (ge_var 6)) ga_nil))) ga_nil))))) gss_nil)))) (gss_one (gs_aug sc_chart.nd rfl (by first | exact .inl rfl | exact .inr rfl) ge_int ag_iadd))))) (gss_one (gs_ret (ge_var 1))))))
theorem ok_is_finished (t : Tp fa fn ex (mx w K) mg base) : OkF (mx w K) mg base 1 ("is_finished", none) 1 g_is_finished := by
  obtain ⟨fd, F⟩ := t.def_ 17 (d := d_is_finished) rfl
  refine ⟨⟨fd, ["node"], rfl, g_fn F sc_is_finished rfl lv_F fun cdv A outer s H E hr => ?_, F.bindsN fun _ _ _ _ _ _ us hl => match us, hl with | [_], _ => rfl⟩, F.kp⟩
  have g0 := Gs.of (M := mx w K) (mg := mg) (base := base) (N := ["node"]) (E := E) (outer := outer) (H := H) hr
  exact gss_one (gs_ret (ge_and (ge_not (ge_ix (ig_ix g0.toGo.m g0.toGo.hu) (ge_var 0) ge_int (fun _ _ => rfl))) (ge_one (ge_cmp (og_ne g0.toGo.m g0.toGo.hu) (ge_ix (ig_ix g0.toGo.m g0.toGo.hu) (ge_var 0) ge_int (fun _ _ => rfl)) ge_str rfl))))
theorem ok_fault (t : Tp fa fn ex (mx w K) mg base) : OkF (mx w K) mg base 2 ("fault", none) 4 g_fault := by
  obtain ⟨fd, F⟩ := t.def_ 18 (d := d_fault) rfl
  refine ⟨⟨fd, ["row", "home", "node", "hold"], rfl, g_fn F sc_fault rfl lv_F fun cdv A outer s H E hr => ?_, F.bindsN fun _ _ _ _ _ _ us hl => match us, hl with | [_, _, _, _], _ => rfl⟩, F.kp⟩
  have g0 := Gs.of (M := mx w K) (mg := mg) (base := base) (N := ["row", "home", "node", "hold"]) (E := E) (outer := outer) (H := H) hr
  exact gss_cons (gs_if (gt_cmp og_lt (ge_var 3) ge_int rfl) (gss_one (gs_ret ge_str)) gss_nil) (gss_cons (gs_if (GW.gt (gw_and (gt_val (ge_callF g0.toGo (ok_is_finished t) (by decide) rfl (t.glo 10) (ga_cons (ge_var 2) ga_nil))) (gw_and1 (gt_cmp og_gt (ge_var 3) ge_int rfl)))) (gss_one (gs_ret ge_str)) gss_nil) (gss_cons (gs_if (gt_val (ge_callF g0.toGo (ok_is_usable t) (by decide) rfl (t.glo 6) (ga_cons (ge_var 0) (ga_cons (ge_var 2) ga_nil)))) (gss_cons (gs_if (gt_cmp (og_eq g0.toGo.m g0.toGo.hu) (ge_var 3) ge_int rfl) (gss_one (gs_ret ge_str)) gss_nil) (gss_one (gs_if (GW.gt (gw_and (gt_cmp (og_eq g0.toGo.m g0.toGo.hu) (ge_fld g0.toGo.m (cf_grip t) (ge_var 0) rfl) ge_str rfl) (gw_and1 (gt_cmp (og_eq g0.toGo.m g0.toGo.hu) (ge_var 1) ge_int rfl)))) (gss_one (gs_ret ge_str)) gss_nil))) gss_nil) (gss_one (gs_ret ge_non))))
theorem ok_first_flaw (t : Tp fa fn ex (mx w K) mg base) : OkF (mx w K) mg base 4 ("first_flaw", none) 2 g_first_flaw := by
  obtain ⟨fd, F⟩ := t.def_ 19 (d := d_first_flaw) rfl
  refine ⟨⟨fd, ["row", "home"], rfl, g_fn F sc_first_flaw rfl lv_F fun cdv A outer s H E hr => ?_, F.bindsN fun _ _ _ _ _ _ us hl => match us, hl with | [_, _], _ => rfl⟩, F.kp⟩
  have g0 := Gs.of (M := mx w K) (mg := mg) (base := base) (N := ["row", "home", "queue", "known", "at", "node", "hold", "life", "event", "follow", "change", "what"]) (E := E) (outer := outer) (H := H) hr
  exact gss_cons (gs_set sc_first_flaw.nd rfl (by first | exact .inl rfl | exact .inr rfl) (ge_lstM (ga_cons (ge_tup (ga_cons (ge_con t.KX t.GN (con_START t) rfl) (ga_cons ge_int (ga_cons ge_str ga_nil)))) ga_nil))) (gss_cons (gs_set sc_first_flaw.nd rfl (by first | exact .inl rfl | exact .inr rfl) (ge_dN0 g0.toGo.m)) (gss_cons (gs_set sc_first_flaw.nd rfl (by first | exact .inl rfl | exact .inr rfl) ge_int) (gss_cons (gs_while g0.hp (gt_cmp og_lt (ge_var 4) (ge_callB (cg_len g0.toGo.m) rfl (t.free 0) PySem.boot_len (ga_cons (ge_var 2) ga_nil)) rfl) (gss_cons (gs_unp (gg_tup g0.toGo.m g0.toGo.calm (ggs_cons sc_first_flaw.nd rfl (by first | exact .inl rfl | exact .inr rfl) (ggs_cons sc_first_flaw.nd rfl (by first | exact .inl rfl | exact .inr rfl) (ggs_cons sc_first_flaw.nd rfl (by first | exact .inl rfl | exact .inr rfl) (ggs_nil)))) rfl) (ge_ix (ig_ix g0.toGo.m g0.toGo.hu) (ge_var 2) (ge_var 4) (fun _ _ => rfl))) (gss_cons (gs_for g0.hp g0.toGo.calm (gi_val g0.toGo.m (ge_callF g0.toGo (ok_possible t) (by decide) rfl (t.glo 8) (ga_cons (ge_var 0) (ga_cons (ge_var 5) (ga_cons (ge_cmp (og_eq g0.toGo.m g0.toGo.hu) (ge_var 7) ge_str rfl) ga_nil))))) (gg_name sc_first_flaw.nd rfl (by first | exact .inl rfl | exact .inr rfl)) (gss_cons (gs_unp (gg_tup g0.toGo.m g0.toGo.calm (ggs_cons sc_first_flaw.nd rfl (by first | exact .inl rfl | exact .inr rfl) (ggs_cons sc_first_flaw.nd rfl (by first | exact .inl rfl | exact .inr rfl) (ggs_nil))) rfl) (ge_callF g0.toGo (ok_step t) (by decide) rfl (t.glo 9) (ga_cons (ge_var 0) (ga_cons (ge_var 5) (ga_cons (ge_var 8) ga_nil))))) (gss_cons (gs_set sc_first_flaw.nd rfl (by first | exact .inl rfl | exact .inr rfl) (ge_callF g0.toGo (ok_fault t) (by decide) rfl (t.glo 11) (ga_cons (ge_var 0) (ga_cons (ge_var 1) (ga_cons (ge_var 9) (ga_cons (ge_op og_add (ge_var 6) (ge_var 10)) ga_nil)))))) (gss_cons (gs_if (gt_cmp og_isNot (ge_var 11) ge_non rfl) (gss_one (gs_ret (ge_tup (ga_cons (ge_op og_add (ge_var 7) (ge_var 8)) (ga_cons (ge_var 11) ga_nil))))) gss_nil) (gss_one (gs_if (gt_cmp (og_notIn g0.toGo.m g0.toGo.hu) (ge_tup (ga_cons (ge_var 9) (ga_cons (ge_op og_add (ge_var 6) (ge_var 10)) ga_nil))) (ge_var 3) rfl) (gss_cons (gs_sub (sg_set g0.toGo.m g0.toGo.hu) (ge_var 3) (ge_tup (ga_cons (ge_var 9) (ga_cons (ge_op og_add (ge_var 6) (ge_var 10)) ga_nil))) ge_bl) (gss_one (gs_expr (ge_m PySem.F.plainAttrs_list PySem.F.slot_list_append PySem.F.type_list_append mg_append (ty_list g0.toGo.m) (ge_var 2) (ga_cons (ge_tup (ga_cons (ge_var 9) (ga_cons (ge_op og_add (ge_var 6) (ge_var 10)) (ga_cons (ge_op og_add (ge_var 7) (ge_var 8)) ga_nil)))) ga_nil))))) gss_nil)))))) (gss_one (gs_aug sc_first_flaw.nd rfl (by first | exact .inl rfl | exact .inr rfl) ge_int ag_iadd))))) (gss_one (gs_ret ge_non)))))
theorem ok_law (t : Tp fa fn ex (mx w K) mg base) : OkF (mx w K) mg base 7 ("law", none) 1 g_law := by
  obtain ⟨fd, F⟩ := t.def_ 20 (d := d_law) rfl
  refine ⟨⟨fd, ["script"], rfl, g_fn F sc_law rfl lv_F fun cdv A outer s H E hr => ?_, F.bindsN fun _ _ _ _ _ _ us hl => match us, hl with | [_], _ => rfl⟩, F.kp⟩
  have g0 := Gs.of (M := mx w K) (mg := mg) (base := base) (N := ["script", "turn", "state", "mode", "sharing", "lease", "grip", "rule", "due", "row", "e", "again", "mark", "home"]) (E := E) (outer := outer) (H := H) hr
  exact gss_cons (gs_for g0.hp g0.toGo.calm (gi_range rfl (t.free 13) ge_int) (gg_name sc_law.nd rfl (by first | exact .inl rfl | exact .inr rfl)) (gss_cons (gs_set sc_law.nd rfl (by first | exact .inl rfl | exact .inr rfl) (ge_callF g0.toGo (ok__law_start t) (by decide) rfl (t.glo 18) (ga_cons (ge_var 0) (ga_cons (ge_var 1) ga_nil)))) (gss_cons (gs_set sc_law.nd rfl (by first | exact .inl rfl | exact .inr rfl) (ge_ix (ig_ix g0.toGo.m g0.toGo.hu) (ge_lst (ga_cons ge_str (ga_cons ge_str (ga_cons ge_str (ga_cons ge_str (ga_cons ge_str ga_nil)))))) (ge_callF g0.toGo (ok__law_digit t) (by decide) rfl (t.glo 14) (ga_cons (ge_var 2) (ga_cons ge_int ga_nil))) (fun _ _ => rfl))) (gss_cons (gs_set sc_law.nd rfl (by first | exact .inl rfl | exact .inr rfl) (ge_ix (ig_ix g0.toGo.m g0.toGo.hu) (ge_lst (ga_cons ge_str (ga_cons ge_str (ga_cons ge_str (ga_cons ge_str ga_nil))))) (ge_callF g0.toGo (ok__law_digit t) (by decide) rfl (t.glo 14) (ga_cons (ge_var 2) (ga_cons ge_int ga_nil))) (fun _ _ => rfl))) (gss_cons (gs_set sc_law.nd rfl (by first | exact .inl rfl | exact .inr rfl) (ge_ix (ig_ix g0.toGo.m g0.toGo.hu) (ge_lst (ga_cons ge_str (ga_cons ge_str (ga_cons ge_str (ga_cons ge_str ga_nil))))) (ge_callF g0.toGo (ok__law_digit t) (by decide) rfl (t.glo 14) (ga_cons (ge_var 2) (ga_cons ge_int ga_nil))) (fun _ _ => rfl))) (gss_cons (gs_set sc_law.nd rfl (by first | exact .inl rfl | exact .inr rfl) (ge_ix (ig_ix g0.toGo.m g0.toGo.hu) (ge_lst (ga_cons ge_str (ga_cons ge_str (ga_cons ge_str (ga_cons ge_str (ga_cons ge_str ga_nil)))))) (ge_callF g0.toGo (ok__law_digit t) (by decide) rfl (t.glo 14) (ga_cons (ge_var 2) (ga_cons ge_int ga_nil))) (fun _ _ => rfl))) (gss_cons (gs_set sc_law.nd rfl (by first | exact .inl rfl | exact .inr rfl) (ge_if (GW.gt (gw_or (gt_cmp (og_eq g0.toGo.m g0.toGo.hu) (ge_var 3) ge_str rfl) (gw_or1 (gt_cmp (og_eq g0.toGo.m g0.toGo.hu) (ge_callF g0.toGo (ok__law_digit t) (by decide) rfl (t.glo 14) (ga_cons (ge_var 2) (ga_cons ge_int ga_nil))) ge_int rfl)))) (ge_callF g0.toGo (ok__law_rule t) (by decide) rfl (t.glo 19) (ga_cons (ge_var 2) ga_nil)) (ge_lst (ga_cons (ge_op og_mul (ge_lst (ga_cons (ge_tup (ga_cons ge_int (ga_cons ge_int ga_nil))) ga_nil)) ge_int) ga_nil)))) (gss_cons (gs_if (gt_cmp (og_eq g0.toGo.m g0.toGo.hu) (ge_callF g0.toGo (ok__law_digit t) (by decide) rfl (t.glo 14) (ga_cons (ge_var 2) (ga_cons ge_int ga_nil))) ge_int rfl) (gss_one (gs_unp (gg_tup g0.toGo.m g0.toGo.calm (ggs_cons sc_law.nd rfl (by first | exact .inl rfl | exact .inr rfl) (ggs_cons sc_law.nd rfl (by first | exact .inl rfl | exact .inr rfl) (ggs_cons sc_law.nd rfl (by first | exact .inl rfl | exact .inr rfl) (ggs_nil)))) rfl) (ge_tup (ga_cons ge_str (ga_cons ge_str (ga_cons ge_str ga_nil)))))) gss_nil) (gss_cons (gs_set sc_law.nd rfl (by first | exact .inl rfl | exact .inr rfl) (ge_callF g0.toGo (ok__law_wrong t) (by decide) rfl (t.glo 20) (ga_cons (ge_var 3) (ga_cons (ge_var 4) (ga_cons (ge_var 5) (ga_cons (ge_var 6) (ga_cons (ge_var 7) ga_nil))))))) (gss_cons (gs_try (yes := [1]) (no := []) g0 sc_law.nd rfl rfl ⟨rfl, by decide, .inl (t.glo 3)⟩ (try_InvalidRow_y t) (try_InvalidRow_n t) (try_InvalidRow_i t) (fun W1 pn xe g1 => gss_cons (gs_set sc_law.nd rfl (by first | exact .inl rfl | exact .inr rfl) (ge_newF g1.toGo (ok_Row_init t) (He.mkr_ok (t.fact 4)) (by decide) rfl (t.glo 5) (ga_cons (ge_var 3) (ga_cons (ge_var 4) (ga_cons (ge_var 5) (ga_cons (ge_var 6) (ga_cons (ge_lc (own := [("mark", 12)]) g1.toGo.calm sc_law.nd (gi_val g1.toGo.m (ge_var 7)) (blk_ok (by kernel_rfl)) (by decide) (fun z1 => gg_name sc_law.nd rfl (by first | exact .inl rfl | exact .inr rfl)) (fun z1 => gts_nil) (fun z1 => ge_callT (cg_list (Go.blk g1.toGo _ z1).m) rfl (t.free 21) PyProof.Rows.Boot.«list» (ga_cons (ge_var 12) ga_nil))) ga_nil))))))) (gss_one (gs_if (gt_cmp og_isNot (ge_var 8) ge_non rfl) (gss_one (gs_ret ge_bl)) gss_nil))) (fun j a oe d pn hj hz hf => gss_cons (gs_if (gt_cmp (og_ne ⟨g0.toGo.m.K, g0.toGo.m.P, g0.toGo.m.w⟩ g0.toGo.hu) (ge_xf (try_InvalidRow_x t j hj) (try_InvalidRow_no t j hj "what" (by decide)) hz hf (ge_var 10)) (ge_var 8) rfl) (gss_one (gs_ret ge_bl)) gss_nil) (gss_one (gs_set sc_law.nd rfl (by first | exact .inl rfl | exact .inr rfl) ge_non)))) (gss_one (gs_if (gt_cmp og_isNot (ge_var 9) ge_non rfl) (gss_cons (gs_if (GW.gt (gw_or (gt_cmp (og_ne g0.toGo.m g0.toGo.hu) (ge_tup (ga_cons (ge_fld g0.toGo.m (cf_mode t) (ge_var 9) rfl) (ga_cons (ge_fld g0.toGo.m (cf_sharing t) (ge_var 9) rfl) (ga_cons (ge_fld g0.toGo.m (cf_lease t) (ge_var 9) rfl) (ga_cons (ge_fld g0.toGo.m (cf_grip t) (ge_var 9) rfl) ga_nil))))) (ge_tup (ga_cons (ge_var 3) (ga_cons (ge_var 4) (ga_cons (ge_var 5) (ga_cons (ge_var 6) ga_nil))))) rfl) (gw_or1 (gt_cmp (og_ne g0.toGo.m g0.toGo.hu) (ge_fld g0.toGo.m (cf_rule t) (ge_var 9) rfl) (ge_callT (cg_tuple g0.toGo.m) rfl (t.free 22) PyProof.Rows.Boot.«tuple» (ga_cons (ge_lc (own := [("mark", 12)]) g0.toGo.calm sc_law.nd (gi_val g0.toGo.m (ge_var 7)) (blk_ok (by kernel_rfl)) (by decide) (fun z1 => gg_name sc_law.nd rfl (by first | exact .inl rfl | exact .inr rfl)) (fun z1 => gts_nil) (fun z1 => ge_callT (cg_tuple (Go.blk g0.toGo _ z1).m) rfl (t.free 22) PyProof.Rows.Boot.«tuple» (ga_cons (ge_var 12) ga_nil))) ga_nil)) rfl)))) (gss_one (gs_ret ge_bl)) gss_nil) (gss_cons (gs_set sc_law.nd rfl (by first | exact .inl rfl | exact .inr rfl) (ge_newF g0.toGo (ok_Row_init t) (He.mkr_ok (t.fact 4)) (by decide) rfl (t.glo 5) (ga_cons (ge_fld g0.toGo.m (cf_mode t) (ge_var 9) rfl) (ga_cons (ge_fld g0.toGo.m (cf_sharing t) (ge_var 9) rfl) (ga_cons (ge_fld g0.toGo.m (cf_lease t) (ge_var 9) rfl) (ga_cons (ge_fld g0.toGo.m (cf_grip t) (ge_var 9) rfl) (ga_cons (ge_lc (own := [("mark", 12)]) g0.toGo.calm sc_law.nd (gi_val g0.toGo.m (ge_fld g0.toGo.m (cf_rule t) (ge_var 9) rfl)) (blk_ok (by kernel_rfl)) (by decide) (fun z1 => gg_name sc_law.nd rfl (by first | exact .inl rfl | exact .inr rfl)) (fun z1 => gts_nil) (fun z1 => ge_callT (cg_list (Go.blk g0.toGo _ z1).m) rfl (t.free 21) PyProof.Rows.Boot.«list» (ga_cons (ge_var 12) ga_nil))) ga_nil))))))) (gss_cons (gs_if (GW.gt (gw_or (gt_cmp (og_ne g0.toGo.m g0.toGo.hu) (ge_callF g0.toGo (ok_chart t) (by decide) rfl (t.glo 23) (ga_cons (ge_var 11) ga_nil)) (ge_callF g0.toGo (ok_chart t) (by decide) rfl (t.glo 23) (ga_cons (ge_var 9) ga_nil)) rfl) (gw_or1 (gt_cmp (og_ne g0.toGo.m g0.toGo.hu) (ge_lc (own := [("home", 13)]) g0.toGo.calm sc_law.nd (gi_range rfl (t.free 13) ge_int) (blk_ok (by kernel_rfl)) (by decide) (fun z1 => gg_name sc_law.nd rfl (by first | exact .inl rfl | exact .inr rfl)) (fun z1 => gts_nil) (fun z1 => ge_callF (Go.blk g0.toGo _ z1) (ok_first_flaw t) (by decide) rfl (t.glo 24) (ga_cons (ge_var 11) (ga_cons (ge_var 13) ga_nil)))) (ge_lc (own := [("home", 13)]) g0.toGo.calm sc_law.nd (gi_range rfl (t.free 13) ge_int) (blk_ok (by kernel_rfl)) (by decide) (fun z1 => gg_name sc_law.nd rfl (by first | exact .inl rfl | exact .inr rfl)) (fun z1 => gts_nil) (fun z1 => ge_callF (Go.blk g0.toGo _ z1) (ok_first_flaw t) (by decide) rfl (t.glo 24) (ga_cons (ge_var 9) (ga_cons (ge_var 13) ga_nil)))) rfl)))) (gss_one (gs_ret ge_bl)) gss_nil) (gss_one (gs_if (GW.gt (gw_and (gt_cmp (og_ne g0.toGo.m g0.toGo.hu) (ge_var 3) ge_str rfl) (gw_and1 (GW.gt (gw_or (gt_cmp (og_ne g0.toGo.m g0.toGo.hu) (ge_callF g0.toGo (ok_chart t) (by decide) rfl (t.glo 23) (ga_cons (ge_var 9) ga_nil)) (ge_lst (ga_cons (ge_tup (ga_cons (ge_tup (ga_cons ge_int (ga_cons ge_bl (ga_cons ge_str ga_nil)))) (ga_cons ge_str ga_nil))) ga_nil)) rfl) (gw_or (gt_cmp (og_ne g0.toGo.m g0.toGo.hu) (ge_callF g0.toGo (ok_possible t) (by decide) rfl (t.glo 8) (ga_cons (ge_var 9) (ga_cons (ge_tup (ga_cons ge_int (ga_cons ge_bl (ga_cons ge_str ga_nil)))) (ga_cons ge_bl ga_nil)))) ge_str rfl) (gw_or1 (gt_cmp og_isNot (ge_callF g0.toGo (ok_first_flaw t) (by decide) rfl (t.glo 24) (ga_cons (ge_var 9) (ga_cons ge_int ga_nil))) ge_non rfl)))))))) (gss_one (gs_ret ge_bl)) gss_nil))))) gss_nil)))))))))))) (gss_one (gs_ret (ge_cmp (og_eq g0.toGo.m g0.toGo.hu) (ge_lc (own := [("mode", 3)]) g0.toGo.calm sc_law.nd (gi_val g0.toGo.m (ge_tup (ga_cons ge_str (ga_cons ge_str (ga_cons ge_str (ga_cons ge_str ga_nil)))))) (blk_ok (by kernel_rfl)) (by decide) (fun z1 => gg_name sc_law.nd rfl (by first | exact .inl rfl | exact .inr rfl)) (fun z1 => gts_nil) (fun z1 => ge_callF (Go.blk g0.toGo _ z1) (ok__law_plain t) (by decide) rfl (t.glo 25) (ga_cons (ge_var 3) ga_nil))) (ge_lst (ga_cons ge_str (ga_cons ge_str (ga_cons ge_str (ga_cons ge_str ga_nil))))) rfl)))
end
def names0 : List Str := ["BridgeError", "InvalidRow", "EVENTS", "MODES", "SHARINGS", "LEASES", "GRIPS", "MOST_MARKS", "MOST_CHANGE", "STILL", "is_mark", "is_rule", "Row", "plain_row", "START", "is_usable", "is_finished", "can_happen", "possible", "step", "chart", "fault", "first_flaw", "_law_start", "_law_digit", "_law_mark", "_law_rule", "_law_rule_fits", "_law_wrong", "_law_plain"]
def names : List Str := names0
/-! ### the head -/
abbrev R : PySem.W.OpenRow := PySem.W.OpenLaw.row PySem.Challenge.rw_surebridge_k12_whole_rows_that_are_none
abbrev hk : PySem.W.Hook := G.hookS 6 fa fn ex
def ob (s : PySem.W.SharedT) : He.AlD × Bool := G.obsS 6 fa fn ex (HandSHeadRun.getT s)
theorem ob_eq (s : PySem.W.SharedT) : ob s = hk.obs s.abs := G.obsS_eq (HandSHeadRun.getT_eq s)
--BEGIN HEAD
theorem run (w : World) : HandSHeadRun.RunEq R (PySem.W.view R.prog [35]) hk ob 6000 names w := by
  intro os
  kernel_rfl
--END HEAD
theorem facts (w : World) (K : PySem.W.Frag) (mg : Str → Option Value) (fA : Addr) (h : Heap) (t : Tp fa fn ex (mx w K) mg h) (hmg : mg "law" = some (.ref fA)) :
    ∃ fd : FuncData, (∀ (s : Shared) (u : Value), BindsTo s fd ⟨[u], []⟩ [(("script" : Str), u)]) ∧ ∀ base : Heap, K.In base → base.Ns mainGlobals mg → FnOk prog w K mg base (L2.CX prog w) 7 fA fd ["script"] (spG (mx w K) 1 g_law) := by
  obtain ⟨fd, F⟩ := t.def_ 20 (d := d_law) rfl
  have e := hmg.symm.trans (t.glo 34)
  cases e
  have b := FunD.bindsA (ps := ["script"]) F fun _ _ _ _ _ _ us hl => match us, hl with | [_], _ => rfl
  refine ⟨fd, fun s v => b s [v] rfl, fun base hK hN => ?_⟩
  have t : Tp fa fn ex (mx w K) mg base := ⟨hK, hN, t.d, t.more⟩
  refine g_fn F sc_law rfl lv_F fun cdv A outer s H E hr => ?_
  have g0 := Gs.of (M := mx w K) (mg := mg) (base := base) (N := ["script", "turn", "state", "mode", "sharing", "lease", "grip", "rule", "due", "row", "e", "again", "mark", "home"]) (E := E) (outer := outer) (H := H) hr
  exact gss_cons (gs_for g0.hp g0.toGo.calm (gi_range rfl (t.free 13) ge_int) (gg_name sc_law.nd rfl (by first | exact .inl rfl | exact .inr rfl)) (gss_cons (gs_set sc_law.nd rfl (by first | exact .inl rfl | exact .inr rfl) (ge_callF g0.toGo (ok__law_start t) (by decide) rfl (t.glo 18) (ga_cons (ge_var 0) (ga_cons (ge_var 1) ga_nil)))) (gss_cons (gs_set sc_law.nd rfl (by first | exact .inl rfl | exact .inr rfl) (ge_ix (ig_ix g0.toGo.m g0.toGo.hu) (ge_lst (ga_cons ge_str (ga_cons ge_str (ga_cons ge_str (ga_cons ge_str (ga_cons ge_str ga_nil)))))) (ge_callF g0.toGo (ok__law_digit t) (by decide) rfl (t.glo 14) (ga_cons (ge_var 2) (ga_cons ge_int ga_nil))) (fun _ _ => rfl))) (gss_cons (gs_set sc_law.nd rfl (by first | exact .inl rfl | exact .inr rfl) (ge_ix (ig_ix g0.toGo.m g0.toGo.hu) (ge_lst (ga_cons ge_str (ga_cons ge_str (ga_cons ge_str (ga_cons ge_str ga_nil))))) (ge_callF g0.toGo (ok__law_digit t) (by decide) rfl (t.glo 14) (ga_cons (ge_var 2) (ga_cons ge_int ga_nil))) (fun _ _ => rfl))) (gss_cons (gs_set sc_law.nd rfl (by first | exact .inl rfl | exact .inr rfl) (ge_ix (ig_ix g0.toGo.m g0.toGo.hu) (ge_lst (ga_cons ge_str (ga_cons ge_str (ga_cons ge_str (ga_cons ge_str ga_nil))))) (ge_callF g0.toGo (ok__law_digit t) (by decide) rfl (t.glo 14) (ga_cons (ge_var 2) (ga_cons ge_int ga_nil))) (fun _ _ => rfl))) (gss_cons (gs_set sc_law.nd rfl (by first | exact .inl rfl | exact .inr rfl) (ge_ix (ig_ix g0.toGo.m g0.toGo.hu) (ge_lst (ga_cons ge_str (ga_cons ge_str (ga_cons ge_str (ga_cons ge_str (ga_cons ge_str ga_nil)))))) (ge_callF g0.toGo (ok__law_digit t) (by decide) rfl (t.glo 14) (ga_cons (ge_var 2) (ga_cons ge_int ga_nil))) (fun _ _ => rfl))) (gss_cons (gs_set sc_law.nd rfl (by first | exact .inl rfl | exact .inr rfl) (ge_if (GW.gt (gw_or (gt_cmp (og_eq g0.toGo.m g0.toGo.hu) (ge_var 3) ge_str rfl) (gw_or1 (gt_cmp (og_eq g0.toGo.m g0.toGo.hu) (ge_callF g0.toGo (ok__law_digit t) (by decide) rfl (t.glo 14) (ga_cons (ge_var 2) (ga_cons ge_int ga_nil))) ge_int rfl)))) (ge_callF g0.toGo (ok__law_rule t) (by decide) rfl (t.glo 19) (ga_cons (ge_var 2) ga_nil)) (ge_lst (ga_cons (ge_op og_mul (ge_lst (ga_cons (ge_tup (ga_cons ge_int (ga_cons ge_int ga_nil))) ga_nil)) ge_int) ga_nil)))) (gss_cons (gs_if (gt_cmp (og_eq g0.toGo.m g0.toGo.hu) (ge_callF g0.toGo (ok__law_digit t) (by decide) rfl (t.glo 14) (ga_cons (ge_var 2) (ga_cons ge_int ga_nil))) ge_int rfl) (gss_one (gs_unp (gg_tup g0.toGo.m g0.toGo.calm (ggs_cons sc_law.nd rfl (by first | exact .inl rfl | exact .inr rfl) (ggs_cons sc_law.nd rfl (by first | exact .inl rfl | exact .inr rfl) (ggs_cons sc_law.nd rfl (by first | exact .inl rfl | exact .inr rfl) (ggs_nil)))) rfl) (ge_tup (ga_cons ge_str (ga_cons ge_str (ga_cons ge_str ga_nil)))))) gss_nil) (gss_cons (gs_set sc_law.nd rfl (by first | exact .inl rfl | exact .inr rfl) (ge_callF g0.toGo (ok__law_wrong t) (by decide) rfl (t.glo 20) (ga_cons (ge_var 3) (ga_cons (ge_var 4) (ga_cons (ge_var 5) (ga_cons (ge_var 6) (ga_cons (ge_var 7) ga_nil))))))) (gss_cons (gs_try (yes := [1]) (no := []) g0 sc_law.nd rfl rfl ⟨rfl, by decide, .inl (t.glo 3)⟩ (try_InvalidRow_y t) (try_InvalidRow_n t) (try_InvalidRow_i t) (fun W1 pn xe g1 => gss_cons (gs_set sc_law.nd rfl (by first | exact .inl rfl | exact .inr rfl) (ge_newF g1.toGo (ok_Row_init t) (He.mkr_ok (t.fact 4)) (by decide) rfl (t.glo 5) (ga_cons (ge_var 3) (ga_cons (ge_var 4) (ga_cons (ge_var 5) (ga_cons (ge_var 6) (ga_cons (ge_lc (own := [("mark", 12)]) g1.toGo.calm sc_law.nd (gi_val g1.toGo.m (ge_var 7)) (blk_ok (by kernel_rfl)) (by decide) (fun z1 => gg_name sc_law.nd rfl (by first | exact .inl rfl | exact .inr rfl)) (fun z1 => gts_nil) (fun z1 => ge_callT (cg_list (Go.blk g1.toGo _ z1).m) rfl (t.free 21) PyProof.Rows.Boot.«list» (ga_cons (ge_var 12) ga_nil))) ga_nil))))))) (gss_one (gs_if (gt_cmp og_isNot (ge_var 8) ge_non rfl) (gss_one (gs_ret ge_bl)) gss_nil))) (fun j a oe d pn hj hz hf => gss_cons (gs_if (gt_cmp (og_ne ⟨g0.toGo.m.K, g0.toGo.m.P, g0.toGo.m.w⟩ g0.toGo.hu) (ge_xf (try_InvalidRow_x t j hj) (try_InvalidRow_no t j hj "what" (by decide)) hz hf (ge_var 10)) (ge_var 8) rfl) (gss_one (gs_ret ge_bl)) gss_nil) (gss_one (gs_set sc_law.nd rfl (by first | exact .inl rfl | exact .inr rfl) ge_non)))) (gss_one (gs_if (gt_cmp og_isNot (ge_var 9) ge_non rfl) (gss_cons (gs_if (GW.gt (gw_or (gt_cmp (og_ne g0.toGo.m g0.toGo.hu) (ge_tup (ga_cons (ge_fld g0.toGo.m (cf_mode t) (ge_var 9) rfl) (ga_cons (ge_fld g0.toGo.m (cf_sharing t) (ge_var 9) rfl) (ga_cons (ge_fld g0.toGo.m (cf_lease t) (ge_var 9) rfl) (ga_cons (ge_fld g0.toGo.m (cf_grip t) (ge_var 9) rfl) ga_nil))))) (ge_tup (ga_cons (ge_var 3) (ga_cons (ge_var 4) (ga_cons (ge_var 5) (ga_cons (ge_var 6) ga_nil))))) rfl) (gw_or1 (gt_cmp (og_ne g0.toGo.m g0.toGo.hu) (ge_fld g0.toGo.m (cf_rule t) (ge_var 9) rfl) (ge_callT (cg_tuple g0.toGo.m) rfl (t.free 22) PyProof.Rows.Boot.«tuple» (ga_cons (ge_lc (own := [("mark", 12)]) g0.toGo.calm sc_law.nd (gi_val g0.toGo.m (ge_var 7)) (blk_ok (by kernel_rfl)) (by decide) (fun z1 => gg_name sc_law.nd rfl (by first | exact .inl rfl | exact .inr rfl)) (fun z1 => gts_nil) (fun z1 => ge_callT (cg_tuple (Go.blk g0.toGo _ z1).m) rfl (t.free 22) PyProof.Rows.Boot.«tuple» (ga_cons (ge_var 12) ga_nil))) ga_nil)) rfl)))) (gss_one (gs_ret ge_bl)) gss_nil) (gss_cons (gs_set sc_law.nd rfl (by first | exact .inl rfl | exact .inr rfl) (ge_newF g0.toGo (ok_Row_init t) (He.mkr_ok (t.fact 4)) (by decide) rfl (t.glo 5) (ga_cons (ge_fld g0.toGo.m (cf_mode t) (ge_var 9) rfl) (ga_cons (ge_fld g0.toGo.m (cf_sharing t) (ge_var 9) rfl) (ga_cons (ge_fld g0.toGo.m (cf_lease t) (ge_var 9) rfl) (ga_cons (ge_fld g0.toGo.m (cf_grip t) (ge_var 9) rfl) (ga_cons (ge_lc (own := [("mark", 12)]) g0.toGo.calm sc_law.nd (gi_val g0.toGo.m (ge_fld g0.toGo.m (cf_rule t) (ge_var 9) rfl)) (blk_ok (by kernel_rfl)) (by decide) (fun z1 => gg_name sc_law.nd rfl (by first | exact .inl rfl | exact .inr rfl)) (fun z1 => gts_nil) (fun z1 => ge_callT (cg_list (Go.blk g0.toGo _ z1).m) rfl (t.free 21) PyProof.Rows.Boot.«list» (ga_cons (ge_var 12) ga_nil))) ga_nil))))))) (gss_cons (gs_if (GW.gt (gw_or (gt_cmp (og_ne g0.toGo.m g0.toGo.hu) (ge_callF g0.toGo (ok_chart t) (by decide) rfl (t.glo 23) (ga_cons (ge_var 11) ga_nil)) (ge_callF g0.toGo (ok_chart t) (by decide) rfl (t.glo 23) (ga_cons (ge_var 9) ga_nil)) rfl) (gw_or1 (gt_cmp (og_ne g0.toGo.m g0.toGo.hu) (ge_lc (own := [("home", 13)]) g0.toGo.calm sc_law.nd (gi_range rfl (t.free 13) ge_int) (blk_ok (by kernel_rfl)) (by decide) (fun z1 => gg_name sc_law.nd rfl (by first | exact .inl rfl | exact .inr rfl)) (fun z1 => gts_nil) (fun z1 => ge_callF (Go.blk g0.toGo _ z1) (ok_first_flaw t) (by decide) rfl (t.glo 24) (ga_cons (ge_var 11) (ga_cons (ge_var 13) ga_nil)))) (ge_lc (own := [("home", 13)]) g0.toGo.calm sc_law.nd (gi_range rfl (t.free 13) ge_int) (blk_ok (by kernel_rfl)) (by decide) (fun z1 => gg_name sc_law.nd rfl (by first | exact .inl rfl | exact .inr rfl)) (fun z1 => gts_nil) (fun z1 => ge_callF (Go.blk g0.toGo _ z1) (ok_first_flaw t) (by decide) rfl (t.glo 24) (ga_cons (ge_var 9) (ga_cons (ge_var 13) ga_nil)))) rfl)))) (gss_one (gs_ret ge_bl)) gss_nil) (gss_one (gs_if (GW.gt (gw_and (gt_cmp (og_ne g0.toGo.m g0.toGo.hu) (ge_var 3) ge_str rfl) (gw_and1 (GW.gt (gw_or (gt_cmp (og_ne g0.toGo.m g0.toGo.hu) (ge_callF g0.toGo (ok_chart t) (by decide) rfl (t.glo 23) (ga_cons (ge_var 9) ga_nil)) (ge_lst (ga_cons (ge_tup (ga_cons (ge_tup (ga_cons ge_int (ga_cons ge_bl (ga_cons ge_str ga_nil)))) (ga_cons ge_str ga_nil))) ga_nil)) rfl) (gw_or (gt_cmp (og_ne g0.toGo.m g0.toGo.hu) (ge_callF g0.toGo (ok_possible t) (by decide) rfl (t.glo 8) (ga_cons (ge_var 9) (ga_cons (ge_tup (ga_cons ge_int (ga_cons ge_bl (ga_cons ge_str ga_nil)))) (ga_cons ge_bl ga_nil)))) ge_str rfl) (gw_or1 (gt_cmp og_isNot (ge_callF g0.toGo (ok_first_flaw t) (by decide) rfl (t.glo 24) (ga_cons (ge_var 9) (ga_cons ge_int ga_nil))) ge_non rfl)))))))) (gss_one (gs_ret ge_bl)) gss_nil))))) gss_nil)))))))))))) (gss_one (gs_ret (ge_cmp (og_eq g0.toGo.m g0.toGo.hu) (ge_lc (own := [("mode", 3)]) g0.toGo.calm sc_law.nd (gi_val g0.toGo.m (ge_tup (ga_cons ge_str (ga_cons ge_str (ga_cons ge_str (ga_cons ge_str ga_nil)))))) (blk_ok (by kernel_rfl)) (by decide) (fun z1 => gg_name sc_law.nd rfl (by first | exact .inl rfl | exact .inr rfl)) (fun z1 => gts_nil) (fun z1 => ge_callF (Go.blk g0.toGo _ z1) (ok__law_plain t) (by decide) rfl (t.glo 25) (ga_cons (ge_var 3) ga_nil))) (ge_lst (ga_cons ge_str (ga_cons ge_str (ga_cons ge_str (ga_cons ge_str ga_nil))))) rfl)))
end K12

set_option Elab.async false
set_option linter.all false
set_option maxRecDepth 100000
set_option maxHeartbeats 1000000
namespace K12
open PySem G
theorem digit {S : Sto} {n : Nat} {s many : Int} (h : S[n]? = some (.lst [.int s])) (h0 : 0 < many) (h1 : many < 1073741824) : g__law_digit [.loc n, .int many] S = .ok (.int (s % many)) (S.set n (.lst [.int (s / many)])) := by
  have hn : n < S.length := (List.getElem?_eq_some_iff.mp h).1
  have e : f__law_digit (sl0 3 [.loc n, .int many]) S = .rt (.int (s % many)) (S.set n (.lst [.int (s / many)])) := by
    simp [f__law_digit, h, h0, h1]
  unfold g__law_digit gF
  rw [e, lvF_rt]
  exact fin_keep (clo_set (by simp [lfO, lfs, lf])) (by simp) (by simp [nl, lf])
/-! ### marks, rules -/
abbrev Mark := List (Int × Int)
def pA (p : Int × Int) : AV := .tup [.int p.1, .int p.2]
def mT (m : Mark) : AV := .tup (m.map pA)
def mL (m : Mark) : AV := .lst (m.map pA)
def okP (k : Int) (p : Int × Int) : Bool := decide (0 ≤ p.1 ∧ p.1 < k ∧ -3 ≤ p.2 ∧ p.2 ≤ 3)
def okM (k : Int) (m : Mark) : Bool := decide (m.length = 6) && m.all (okP k)
def okR (r : List Mark) : Bool := decide (1 ≤ r.length ∧ r.length ≤ 4) && r.all (okM r.length)
theorem len6 (m : Mark) : ((m.length : Int) == 6) = decide (m.length = 6) := by
  by_cases h : m.length = 6
  · rw [h]; decide
  · rw [decide_eq_false h]; simp; omega
theorem is_mark (m : Mark) (k : Int) (S : Sto) : g_is_mark [mT m, .int k] S = .ok (.bl (okM k m)) S := by
  have e : f_is_mark (sl0 4 [mT m, .int k]) S = .rt (.bl (okM k m)) S := by
    have hE : ("LGHRFD" : Str).length = 6 := by decide
    unfold f_is_mark
    by_cases hl : m.length = 6
    case neg => simp [mT, okM, hl, hE, len6]
    have loop := loop_all (all := m.map pA) (l := none) (g := gU [2, 3]) (b := f_is_mark_1) (enc := pA) (ok := okP k) (v := .bl false) (S := S) (P := fun Γ => ∃ a b, Γ = [some (mT m), some (.int k), a, b]) trivial m [some (mT m), some (.int k), none, none] (fun x _ Γ ⟨a, b, e⟩ => by
      subst e
      refine ⟨[some (mT m), some (.int k), some (.int x.1), some (.int x.2)], by simp [pA], ⟨_, _, rfl⟩, ?_⟩
      simp [f_is_mark_1, okP]
      repeat' split
      all_goals first | rfl | (exfalso; omega) | omega) ⟨_, _, rfl⟩
    simp [mT, okM, hl, hE]
    rw [for_eq (xs := m.map pA) (S1 := S) (by simp)]
    simp only [mT] at loop
    rcases loop with ⟨Γ', _, h2, h3⟩ | ⟨h2, h3⟩ <;> simp [h3, h2]
  unfold g_is_mark gF
  rw [e, lvF_rt]
  exact fin_self (by simp [nl, lf])
theorem ok_flip {b : Bool} {α : Type} (x y : α) : (if b = false then x else y) = if b = true then y else x := by cases b <;> rfl
theorem is_rule (r : List Mark) (n : Nat) (S : Sto) (h : S[n]? = some (.lst (r.map mT))) : g_is_rule [.loc n] S = .ok (.bl (okR r)) S := by
  have e : f_is_rule (sl0 2 [.loc n]) S = .rt (.bl (okR r)) S := by
    unfold f_is_rule
    have loop := loop_all (all := r.map mT) (l := some n) (g := gN 1) (b := f_is_rule_1) (enc := mT) (ok := okM r.length) (v := .bl false) (S := S) (P := fun Γ => ∃ a, Γ = [some (.loc n), a]) h r [some (.loc n), none] (fun x _ Γ ⟨a, e⟩ => by
      subst e
      refine ⟨[some (.loc n), some (mT x)], by simp, ⟨_, rfl⟩, ?_⟩
      simp [f_is_rule_1, h, is_mark, ok_flip]) ⟨_, rfl⟩
    simp [h]
    rw [for_eqL (xs := r.map mT) (l := some n) (S1 := S) (by simp [h])]
    by_cases h1 : 1 ≤ r.length ∧ r.length ≤ 4
    case neg =>
      have : okR r = false := by simp [okR]; omega
      rw [this]
      repeat' split
      all_goals first | rfl | (exfalso; omega)
    rw [if_pos (by omega), if_neg (by omega)]
    rcases loop with ⟨Γ', _, h2, h3⟩ | ⟨h2, h3⟩ <;> simp [h3, okR, h1, h2]
  unfold g_is_rule gF
  rw [e, lvF_rt]
  exact fin_self (by simp [nl, lf])
theorem bad_pairs (k : Int) (x : Mark) (hx : x.length ≤ 1000) (r : List Mark) (hk : (r.length : Int) = k) (b : Option AV) (S : Sto) : fLc (fiV (fV 1)) (gN 2) f__law_rule_fits_1 (fV 2) [2] [some (.lst (r.map mL)), some (.lst (x.map pA)), b] S = .ok (.lst ((x.filter fun p => !okP k p).map pA)) S :=
  fLc_pure (enc := pA) (xs := x) (by simp) (by simp; omega) fun y hy => by
    refine ⟨[some (.lst (r.map mL)), some (.lst (x.map pA)), some (pA y)], by simp, fun acc => ?_⟩
    simp [f__law_rule_fits_1, pA, okP, hk]
    refine ⟨?_, fun _ => by simp [nl, lf, lfs]⟩
    by_cases h1 : 0 ≤ y.1 <;> by_cases h2 : y.1 < k <;> by_cases h3 : -3 ≤ y.2 <;> by_cases h4 : y.2 ≤ 3 <;> simp [h1, h2, h3, h4] <;> omega
theorem rule_fits (r : List Mark) (hr : ∀ m ∈ r, m.length ≤ 1000) (S : Sto) : g__law_rule_fits [.lst (r.map mL)] S = .ok (.bl (okR r)) S := by
  have e : f__law_rule_fits (sl0 3 [.lst (r.map mL)]) S = .rt (.bl (okR r)) S := by
    unfold f__law_rule_fits
    have loop := loop_all (all := r.map mL) (l := none) (g := gN 1) (b := f__law_rule_fits_2) (enc := mL) (ok := okM r.length) (v := .bl false) (S := S) (P := fun Γ => ∃ a b, Γ = [some (.lst (r.map mL)), a, b]) trivial r [some (.lst (r.map mL)), none, none] (fun x hx Γ ⟨a, b, e⟩ => by
      subst e
      have hx := hr x hx
      refine ⟨[some (.lst (r.map mL)), some (mL x), b], by simp, ⟨_, _, rfl⟩, ?_⟩
      have e2 : (0 < (x.filter fun p => !okP r.length p).length) ↔ ¬ (x.all (okP r.length) = true) := by
        rw [List.length_pos_iff_exists_mem]
        simp
      simp only [f__law_rule_fits_2, mL]
      by_cases h6 : x.length = 6
      case neg => simp [h6, len6, okM]
      simp [bad_pairs r.length x hx r rfl, h6, okM, len6]
      by_cases ha : x.all (okP r.length) = true
      · have : ¬ 0 < (x.filter fun p => !okP r.length p).length := fun z => (e2.mp z) ha
        have e3 : decide (0 < (((x.filter fun p => !okP r.length p).length : Nat) : Int)) = false := decide_eq_false (by omega)
        simp only [ha, e3, h6]
        simp
      · have : 0 < (x.filter fun p => !okP r.length p).length := e2.mpr ha
        simp [ha, this]
        done) ⟨_, _, rfl⟩
    simp
    rw [for_eq (xs := r.map mL) (S1 := S) (by simp)]
    by_cases h1 : 1 ≤ r.length ∧ r.length ≤ 4
    case neg =>
      have : okR r = false := by simp [okR]; omega
      rw [this]
      repeat' split
      all_goals first | rfl | (exfalso; omega)
    rw [if_pos (by omega), if_neg (by omega)]
    rcases loop with ⟨Γ', _, h2, h3⟩ | ⟨h2, h3⟩ <;> simp [h3, okR, h1, h2]
  unfold g__law_rule_fits gF
  rw [e, lvF_rt]
  exact fin_self (by simp [nl, lf])

/-! ### what is wrong with a row -/
abbrev zero6 : Mark := [(0, 0), (0, 0), (0, 0), (0, 0), (0, 0), (0, 0)]
def wrong (mode sharing lease grip : Str) (r : List Mark) : Option Str :=
  if ¬ ("held" = mode ∨ "copied" = mode ∨ "refused" = mode) then some "mode"
  else if ¬ ("one" = sharing ∨ ("held" = mode ∧ "each" = sharing)) then some "sharing"
  else if ¬ ("always" = lease ∨ ("held" = mode ∧ "call" = lease)) then some "lease"
  else if ¬ ("slot" = grip ∨ ("held" = mode ∧ ("place" = grip ∨ "pin" = grip))) then some "grip"
  else if okR r = false ∨ (¬ "held" = mode ∧ ¬ r = [zero6]) then some "rule"
  else none
def oS : Option Str → AV
  | some s => .str s
  | none => .non
/-! == over rules -/
def okT {α : Type} : α → Prop := fun _ => True
theorem eqn_p : Eqn pA (fun _ => True ∧ True) 1 := eqn_2 eqn_int eqn_int
theorem eqn_mT : Eqn mT (fun m => ∀ x ∈ m, True ∧ True) 2 := eqn_tup eqn_p
theorem eqn_mL : Eqn mL (fun m => ∀ x ∈ m, True ∧ True) 2 := eqn_lst eqn_p
theorem eqn_rL : Eqn (fun r : List Mark => .lst (r.map mL)) (fun r => ∀ m ∈ r, ∀ x ∈ m, True ∧ True) 3 := eqn_lst eqn_mL
theorem eqn_rT : Eqn (fun r : List Mark => .lst (r.map mT)) (fun r => ∀ m ∈ r, ∀ x ∈ m, True ∧ True) 3 := eqn_lst eqn_mT
theorem hc_ : ¬ (("held" : Str) = "copied") := by decide +kernel
theorem hr_ : ¬ (("held" : Str) = "refused") := by decide +kernel
theorem law_wrong (mode sharing lease grip : Str) (r : List Mark) (hr : ∀ m ∈ r, m.length ≤ 1000) (S : Sto) : g__law_wrong [.str mode, .str sharing, .str lease, .str grip, .lst (r.map mL)] S = .ok (oS (wrong mode sharing lease grip r)) S := by
  have e : f__law_wrong (sl0 6 [.str mode, .str sharing, .str lease, .str grip, .lst (r.map mL)]) S = .rt (oS (wrong mode sharing lease grip r)) S := by
    have hz : ∀ S, gEqB (.lst (r.map mL)) (.lst [.lst [.tup [.int 0, .int 0], .tup [.int 0, .int 0], .tup [.int 0, .int 0], .tup [.int 0, .int 0], .tup [.int 0, .int 0], .tup [.int 0, .int 0]]]) S = .ok (decide (r = [zero6])) S := fun S =>
      eqn_rL.eqB (by decide) (x := r) (y := [zero6]) rfl rfl (by simp) (by simp)
    simp [f__law_wrong, rule_fits r hr, hz]
    unfold wrong
    by_cases h1 : ("held" : Str) = mode
    · subst h1
      simp [hc_, hr_, Ne.symm hc_, Ne.symm hr_]
      by_cases h2 : ("one" : Str) = sharing <;> by_cases h3 : ("each" : Str) = sharing <;> by_cases h4 : ("always" : Str) = lease <;> by_cases h5 : ("call" : Str) = lease <;> by_cases h6 : ("slot" : Str) = grip <;> by_cases h7 : ("place" : Str) = grip <;> by_cases h8 : ("pin" : Str) = grip <;> cases h9 : okR r <;> simp [h2, h3, h4, h5, h6, h7, h8, oS]
    · by_cases hp : ("copied" : Str) = mode ∨ ("refused" : Str) = mode
      · simp [h1, hp]
        by_cases h2 : ("one" : Str) = sharing <;> by_cases h4 : ("always" : Str) = lease <;> by_cases h6 : ("slot" : Str) = grip <;> cases h9 : okR r <;> by_cases h10 : r = [zero6] <;> simp [h2, h4, h6, h10, oS] <;> (try simp_all) <;> (intro a; first | exact hp.resolve_left a | (intro b; exact absurd hp (by simp [a, b])))
      · simp [h1, hp]
        simp at hp
        simp [hp, oS]
  unfold g__law_wrong gF
  rw [e, lvF_rt]
  refine fin_self ?_
  cases wrong mode sharing lease grip r <;> simp [oS, nl, lf]

/-! ### a row made -/
def rowF (mode sharing lease grip : Str) (r : List Mark) : Flds := [("mode", .str mode), ("sharing", .str sharing), ("lease", .str lease), ("grip", .str grip), ("rule", .tup (r.map mT))]
def rowA (mode sharing lease grip : Str) (r : List Mark) : AV := .obj 2 (rowF mode sharing lease grip r)
theorem mk_mark {em : Mark → AV} (hem : ∀ m S, fivK (em m) S = .ok (m.map pA, none) S) (m : Mark) (hm : m.length ≤ 1000) (S : Sto) (a0 a1 a2 a3 a4 a5 a6 a7 a8 : Option AV) (h8 : a8 = some (em m)) : fLc (fiV (fV 8)) (gN 9) fTrue (fB gTuple (faC (fV 9) faN)) [9] [a0, a1, a2, a3, a4, a5, a6, a7, a8, none] S = .ok (mL m) S := by
  subst h8
  refine fLc_map (enc := pA) (f := pA) (xs := m) (by simp [hem]) (by simp; omega) fun p hp => ⟨[a0, a1, a2, a3, a4, a5, a6, a7, some (em m), some (pA p)], by simp, fun acc => ?_⟩
  simp [pA, nl, lf, lfs]
theorem hem_L (m : Mark) (S : Sto) : fivK (mL m) S = .ok (m.map pA, none) S := rfl
theorem hem_T (m : Mark) (S : Sto) : fivK (mT m) S = .ok (m.map pA, none) S := rfl
def SOk (s : Str) : Prop := PyData.strOk s = true
theorem row_init {em : Mark → AV} (hem : ∀ m S, fivK (em m) S = .ok (m.map pA, none) S) (mode sharing lease grip : Str) (r : List Mark) (h1 : SOk mode) (h2 : SOk sharing) (h3 : SOk lease) (h4 : SOk grip) (hr : r.length ≤ 1000 ∧ ∀ m ∈ r, m.length ≤ 1000) (S : Sto) : g_Row_init [.loc S.length, .str mode, .str sharing, .str lease, .str grip, .lst (r.map em)] (S ++ [.ins 2 []]) = (match wrong mode sharing lease grip r with
    | none => .ok .non (S ++ [.ins 2 (rowF mode sharing lease grip r)])
    | some w => .ex 1 [("what", .str w)] (S ++ [.ins 2 []])) := by
  have loop : ∀ b a, ∃ Γ', (∃ a, Γ' = [some (.loc S.length), some (.str mode), some (.str sharing), some (.str lease), some (.str grip), some (.lst (r.map em)), some (.bl b), some (.loc (S.length + 1)), a, none]) ∧
      loopF (r.map em) none (gN 8) f_Row_init_1 (r.map em) [some (.loc S.length), some (.str mode), some (.str sharing), some (.str lease), some (.str grip), some (.lst (r.map em)), some (.bl b), some (.loc (S.length + 1)), a, none] (S ++ [.ins 2 [], .lst []]) = .nx Γ' (S ++ [.ins 2 [], .lst (r.map mT)]) := fun b a => by
    have := loop_push (all := r.map em) (g := gN 8) (b := f_Row_init_1) (enc := em) (f := mT) (S0 := S ++ [.ins 2 []]) (T := []) (P := fun Γ => ∃ a, Γ = [some (.loc S.length), some (.str mode), some (.str sharing), some (.str lease), some (.str grip), some (.lst (r.map em)), some (.bl b), some (.loc (S.length + 1)), a, none])
      r [some (.loc S.length), some (.str mode), some (.str sharing), some (.str lease), some (.str grip), some (.lst (r.map em)), some (.bl b), some (.loc (S.length + 1)), a, none] [] (by simp; omega) (fun m hm Γ acc hacc ⟨a, e⟩ => by
        subst e
        refine ⟨_, [some (.loc S.length), some (.str mode), some (.str sharing), some (.str lease), some (.str grip), some (.lst (r.map em)), some (.bl b), some (.loc (S.length + 1)), some (em m), none], rfl, ⟨_, rfl⟩, ?_⟩
        simp [f_Row_init_1, mk_mark hem m (hr.2 m hm) _ _ _ _ _ _ _ _ _ _ rfl]
        simp [mL, mT, hacc]) ⟨_, rfl⟩
    simpa using this
  have hz : ∀ S : Sto, ∀ n, S[n]? = some (.lst (r.map mT)) → gEqB (.loc n) (.lst [c_STILL]) S = .ok (decide (r = [zero6])) S := fun S n h =>
    eqn_rT.eqB (by decide) (x := r) (y := [zero6]) (by simp [h]) rfl (by simp) (by simp)
  have hH : PyData.strOk ("held" : Str) = true := by decide +kernel
  have hO : PyData.strOk ("one" : Str) = true := by decide +kernel
  have hA : PyData.strOk ("always" : Str) = true := by decide +kernel
  have hS : PyData.strOk ("slot" : Str) = true := by decide +kernel
  have l1 : ("mode" : Str).length = 4 := by decide +kernel
  have l2 : ("sharing" : Str).length = 7 := by decide +kernel
  have l3 : ("lease" : Str).length = 5 := by decide +kernel
  have l4 : ("grip" : Str).length = 4 := by decide +kernel
  have l5 : ("rule" : Str).length = 4 := by decide +kernel
  have bc : ∀ a b : Str, (a == b) = (b == a) := fun a b => BEq.comm
  have q1 : ∀ S, gEqB (.str mode) (.str "held") S = .ok ("held" == mode) S := fun S => by rw [gEqB_str h1 hH, bc]
  have q2 : ∀ S, gEqB (.str sharing) (.str "one") S = .ok ("one" == sharing) S := fun S => by rw [gEqB_str h2 hO, bc]
  have q3 : ∀ S, gEqB (.str lease) (.str "always") S = .ok ("always" == lease) S := fun S => by rw [gEqB_str h3 hA, bc]
  have q4 : ∀ S, gEqB (.str grip) (.str "slot") S = .ok ("slot" == grip) S := fun S => by rw [gEqB_str h4 hS, bc]
  have nls : ∀ s : Str, lff 0 [("what", .str s)] = true := fun s => by simp [lff, lf]
  have lp : ∀ b, ∃ a, fFor (fiV (fV 5)) (gN 8) f_Row_init_1 [some (.loc S.length), some (.str mode), some (.str sharing), some (.str lease), some (.str grip), some (.lst (r.map em)), some (.bl b), some (.loc (S.length + 1)), none, none] (S ++ [.ins 2 [], .lst []]) =
      .nx [some (.loc S.length), some (.str mode), some (.str sharing), some (.str lease), some (.str grip), some (.lst (r.map em)), some (.bl b), some (.loc (S.length + 1)), a, none] (S ++ [.ins 2 [], .lst (r.map mT)]) := fun b => by
    obtain ⟨_, ⟨a, rfl⟩, e⟩ := loop b none
    exact ⟨a, by rw [for_eq (xs := r.map em) (S1 := S ++ [.ins 2 [], .lst []]) (by simp)]; exact e⟩
  have ir : g_is_rule [.loc (S.length + 1)] (S ++ [.ins 2 [], .lst (r.map mT)]) = .ok (.bl (okR r)) (S ++ [.ins 2 [], .lst (r.map mT)]) := is_rule r _ _ (by simp)
  have hz' : gEqB (.loc (S.length + 1)) (.lst [c_STILL]) (S ++ [.ins 2 [], .lst (r.map mT)]) = .ok (decide (r = [zero6])) (S ++ [.ins 2 [], .lst (r.map mT)]) := hz _ _ (by simp)
  have fin2 : fin (S ++ [.ins 2 []]) .non (S ++ [.ins 2 (rowF mode sharing lease grip r), .lst (r.map mT)]) = .ok .non (S ++ [.ins 2 (rowF mode sharing lease grip r)]) := by
    have := fin_drop (S := S ++ [.ins 2 []]) (S' := S ++ [.ins 2 (rowF mode sharing lease grip r)]) (T := [.lst (r.map mT)]) (v := .non) (u := .non) ?_ (by simp) (fz_nl (by simp [nl, lf]))
    · simpa using this
    · have := clo_set_app (S := S ++ [.ins 2 []]) (T := [.lst (r.map mT)]) (n := S.length) (o := .ins 2 (rowF mode sharing lease grip r)) ?_
      · simpa using this
      · refine lff_mono (Nat.zero_le _) ?_
        have : lfs 0 (r.map mT) = true := lfs_all fun x hx => by
          obtain ⟨m, _, rfl⟩ := List.mem_map.mp hx
          simp only [mT, lf]
          exact lfs_all fun y hy => by
            obtain ⟨p, _, rfl⟩ := List.mem_map.mp hy
            simp [pA, lf, lfs]
        simp [rowF, lff, lf, this]
  have exT : ∀ Γ s, lvF (S ++ [.ins 2 []]) (.ex 1 [("what", .str s)] Γ (S ++ [.ins 2 [], .lst (r.map mT)])) = .ex 1 [("what", .str s)] (S ++ [.ins 2 []]) := fun Γ s => by
    have := lvF_exT (S := S ++ [.ins 2 []]) (c := 1) (fs := [("what", .str s)]) (Γ := Γ) (T := [.lst (r.map mT)]) (nls s)
    simpa using this
  have n_sharing_mode : ¬ (("sharing" : Str) = "mode") := by decide +kernel
  have n_lease_mode : ¬ (("lease" : Str) = "mode") := by decide +kernel
  have n_lease_sharing : ¬ (("lease" : Str) = "sharing") := by decide +kernel
  have n_grip_mode : ¬ (("grip" : Str) = "mode") := by decide +kernel
  have n_grip_sharing : ¬ (("grip" : Str) = "sharing") := by decide +kernel
  have n_grip_lease : ¬ (("grip" : Str) = "lease") := by decide +kernel
  have n_rule_mode : ¬ (("rule" : Str) = "mode") := by decide +kernel
  have n_rule_sharing : ¬ (("rule" : Str) = "sharing") := by decide +kernel
  have n_rule_lease : ¬ (("rule" : Str) = "lease") := by decide +kernel
  have n_rule_grip : ¬ (("rule" : Str) = "grip") := by decide +kernel
  unfold g_Row_init gF f_Row_init
  unfold wrong
  by_cases hm : ("held" : Str) = mode
  · have hb : (("held" : Str) == mode) = true := by simp [hm]
    have ht : (("held" : Str) = mode) = True := eq_true hm
    obtain ⟨a, lp⟩ := lp true
    simp [q1, q2, q3, q4, l1, l2, l3, l4, l5, lp, ir, hz', ht, hb]
    by_cases g2 : ("one" : Str) = sharing ∨ ("each" : Str) = sharing
    case neg =>
      simp at g2
      simp [g2, lvF_ex0 (nls _)]
    have g2' : ¬ (¬ ("one" : Str) = sharing ∧ ¬ ("each" : Str) = sharing) := fun z => g2.elim z.1 z.2
    by_cases g3 : ("always" : Str) = lease ∨ ("call" : Str) = lease
    case neg =>
      simp at g3
      simp [g2, g2', g3, lvF_ex0 (nls _)]
    have g3' : ¬ (¬ ("always" : Str) = lease ∧ ¬ ("call" : Str) = lease) := fun z => g3.elim z.1 z.2
    by_cases g4 : ("slot" : Str) = grip ∨ ("place" : Str) = grip ∨ ("pin" : Str) = grip
    case neg =>
      simp at g4
      simp [g2, g3, g2', g3', g4, lvF_ex0 (nls _)]
    have g4' : ¬ (¬ ("slot" : Str) = grip ∧ ¬ ("place" : Str) = grip ∧ ¬ ("pin" : Str) = grip) := fun z => g4.elim z.1 fun h => h.elim z.2.1 z.2.2
    cases g5 : okR r with
    | false => simp [g2, g3, g4, g2', g3', g4', g5, exT]
    | true =>
      simp only [rowF] at fin2 ⊢
      simp [g2, g3, g4, g2', g3', g4', g5, exT, n_sharing_mode, n_lease_mode, n_lease_sharing, n_grip_mode, n_grip_sharing, n_grip_lease, n_rule_mode, n_rule_sharing, n_rule_lease, n_rule_grip, lvF_nx, fin2]
  · have hb : (("held" : Str) == mode) = false := by simp [hm]
    by_cases g1 : ("copied" : Str) = mode ∨ ("refused" : Str) = mode
    case neg =>
      simp at g1
      simp [hm, g1, l1, lvF_ex0 (nls _)]
    have g1' : ¬ (¬ ("copied" : Str) = mode ∧ ¬ ("refused" : Str) = mode) := fun z => g1.elim z.1 z.2
    obtain ⟨a, lp⟩ := lp false
    simp [q1, q2, q3, q4, l1, l2, l3, l4, l5, lp, ir, hz', hm, hb, g1, g1']
    by_cases g2 : ("one" : Str) = sharing
    case neg =>
      simp [g2, lvF_ex0 (nls _)]
    by_cases g3 : ("always" : Str) = lease
    case neg =>
      simp [g2, g3, lvF_ex0 (nls _)]
    by_cases g4 : ("slot" : Str) = grip
    case neg =>
      simp [g2, g3, g4, lvF_ex0 (nls _)]
    cases g5 : okR r with
    | false => simp [g2, g3, g4, g5, exT]
    | true =>
      by_cases g6 : r = [zero6]
      · have g6' : (r = [zero6]) = True := eq_true g6
        simp only [rowF] at fin2 ⊢
        simp [g2, g3, g4, g5, exT, n_sharing_mode, n_lease_mode, n_lease_sharing, n_grip_mode, n_grip_sharing, n_grip_lease, n_rule_mode, n_rule_sharing, n_rule_lease, n_rule_grip, lvF_nx, g6', fin2]
      · simp [g2, g3, g4, g5, g6, exT]

/-- Row(..) -/
theorem row_new {em : Mark → AV} (hem : ∀ m S, fivK (em m) S = .ok (m.map pA, none) S) (mode sharing lease grip : Str) (r : List Mark) (h1 : SOk mode) (h2 : SOk sharing) (h3 : SOk lease) (h4 : SOk grip) (hr : r.length ≤ 1000 ∧ ∀ m ∈ r, m.length ≤ 1000) (S : Sto) : gNew 2 g_Row_init [.str mode, .str sharing, .str lease, .str grip, .lst (r.map em)] S = (match wrong mode sharing lease grip r with
    | none => .ok (rowA mode sharing lease grip r) S
    | some w => .ex 1 [("what", .str w)] S) := by
  have e := row_init hem mode sharing lease grip r h1 h2 h3 h4 hr S
  cases q : wrong mode sharing lease grip r with
  | none =>
    rw [q] at e
    refine new_ok e ?_
    have : lfs 0 (r.map mT) = true := lfs_all fun x hx => by
      obtain ⟨m, _, rfl⟩ := List.mem_map.mp hx
      simp only [mT, lf]
      exact lfs_all fun y hy => by
        obtain ⟨p, _, rfl⟩ := List.mem_map.mp hy
        simp [pA, lf, lfs]
    simp [rowF, lff, lf, this]
  | some w =>
    rw [q] at e
    exact new_ex e (by simp [lff, lf])
end K12

set_option Elab.async false
set_option linter.all false
set_option maxRecDepth 100000
set_option maxHeartbeats 1000000
namespace K12
open PySem G
/-! ### nodes -/
structure Row where
  mode : Str
  sharing : Str
  lease : Str
  grip : Str
  rule : List Mark
structure Node where
  m : Int
  a : Bool
  s : Str
deriving DecidableEq
def rA (r : Row) : AV := rowA r.mode r.sharing r.lease r.grip r.rule
def nA (n : Node) : AV := .tup [.int n.m, .bl n.a, .str n.s]
structure ROk (r : Row) : Prop where
  m : SOk r.mode
  s : SOk r.sharing
  l : SOk r.lease
  g : SOk r.grip
def st3 (s : Str) : Prop := s = "shut" ∨ s = "open" ∨ s = "free"
theorem st3_ok {s : Str} (h : st3 s) : SOk s := by
  rcases h with rfl | rfl | rfl <;> (show PyData.strOk _ = true; decide +kernel)
theorem kH : PyData.strOk ("held" : Str) = true := by decide +kernel
theorem kA : PyData.strOk ("always" : Str) = true := by decide +kernel
theorem kS : PyData.strOk ("shut" : Str) = true := by decide +kernel
theorem kO : PyData.strOk ("open" : Str) = true := by decide +kernel
theorem kE : PyData.strOk ("each" : Str) = true := by decide +kernel
theorem kP : PyData.strOk ("place" : Str) = true := by decide +kernel
theorem ls_mode : ¬ (("sharing" : Str) = "mode") ∧ ¬ (("lease" : Str) = "mode") ∧ ¬ (("lease" : Str) = "sharing") ∧ ¬ (("grip" : Str) = "mode") ∧ ¬ (("grip" : Str) = "sharing") ∧ ¬ (("grip" : Str) = "lease") ∧ ¬ (("rule" : Str) = "mode") ∧ ¬ (("rule" : Str) = "sharing") ∧ ¬ (("rule" : Str) = "lease") ∧ ¬ (("rule" : Str) = "grip") := by decide +kernel
@[simp] theorem fld_mode (r : Row) (S : Sto) : gFldC [2] "mode" (rA r) S = .ok (.str r.mode) S := by simp [rA, rowA, rowF]
@[simp] theorem fld_sharing (r : Row) (S : Sto) : gFldC [2] "sharing" (rA r) S = .ok (.str r.sharing) S := by simp [rA, rowA, rowF, ls_mode]
@[simp] theorem fld_lease (r : Row) (S : Sto) : gFldC [2] "lease" (rA r) S = .ok (.str r.lease) S := by simp [rA, rowA, rowF, ls_mode]
@[simp] theorem fld_grip (r : Row) (S : Sto) : gFldC [2] "grip" (rA r) S = .ok (.str r.grip) S := by simp [rA, rowA, rowF, ls_mode]
def rT (r : Row) : AV := .tup (r.rule.map mT)
@[simp] theorem fld_rule (r : Row) (S : Sto) : gFldC [2] "rule" (rA r) S = .ok (rT r) S := by simp [rA, rowA, rowF, ls_mode, rT]
def usable (r : Row) (n : Node) : Bool := n.a && (r.lease == "always" || n.s != "shut")
def finished (n : Node) : Bool := !n.a && n.s != "open"
theorem is_usable (r : Row) (n : Node) (h : ROk r) (hs : SOk n.s) (S : Sto) : g_is_usable [rA r, nA n] S = .ok (.bl (usable r n)) S := by
  have e : f_is_usable (sl0 2 [rA r, nA n]) S = .rt (.bl (usable r n)) S := by
    have q1 : ∀ S, gEqB (.str r.lease) (.str "always") S = .ok (r.lease == "always") S := fun S => gEqB_str h.l kA
    have q2 : ∀ S, gEqB (.str n.s) (.str "shut") S = .ok (n.s == "shut") S := fun S => gEqB_str hs kS
    cases ha : n.a <;> cases hl : r.lease == "always" <;> simp [f_is_usable, nA, q1, q2, usable, ha, hl] <;> simp [bne]
  unfold g_is_usable gF
  rw [e, lvF_rt]
  exact fin_self (by simp [nl, lf])
theorem is_finished (n : Node) (hs : SOk n.s) (S : Sto) : g_is_finished [nA n] S = .ok (.bl (finished n)) S := by
  have e : f_is_finished (sl0 1 [nA n]) S = .rt (.bl (finished n)) S := by
    have q2 : ∀ S, gEqB (.str n.s) (.str "open") S = .ok (n.s == "open") S := fun S => gEqB_str hs kO
    cases ha : n.a <;> simp [f_is_finished, nA, q2, finished, ha] <;> simp [bne]
  unfold g_is_finished gF
  rw [e, lvF_rt]
  exact fin_self (by simp [nl, lf])
/-! ### events -/
abbrev EV : List Str := ["L", "G", "H", "R", "F", "D"]
def can (r : Row) (n : Node) (first : Bool) (e : Str) : Bool :=
  if r.mode != "held" then false
  else if e == "L" || e == "G" then (if r.sharing == "each" && !first then false else e == "L" || n.s != "open")
  else if e == "H" then usable r n
  else if e == "D" then n.a
  else n.s == "open"
theorem can_happen (r : Row) (n : Node) (first : Bool) (e : Str) (h : ROk r) (hs : SOk n.s) (he : e ∈ EV) (S : Sto) : g_can_happen [rA r, nA n, .str e, .bl first] S = .ok (.bl (can r n first e)) S := by
  have q : f_can_happen (sl0 4 [rA r, nA n, .str e, .bl first]) S = .rt (.bl (can r n first e)) S := by
    have q1 : ∀ S, gEqB (.str r.mode) (.str "held") S = .ok (r.mode == "held") S := fun S => gEqB_str h.m kH
    have q2 : ∀ S, gEqB (.str n.s) (.str "open") S = .ok (n.s == "open") S := fun S => gEqB_str hs kO
    have q3 : ∀ S, gEqB (.str r.sharing) (.str "each") S = .ok (r.sharing == "each") S := fun S => gEqB_str h.s kE
    have hE : PyData.strOk e = true := by
      revert e
      decide +kernel
    have qe : ∀ S x, x ∈ EV → gEqB (.str e) (.str x) S = .ok (e == x) S := fun S x hx => gEqB_str hE (by revert x; decide +kernel)
    have qL := fun S => qe S "L" (by decide +kernel)
    have qG := fun S => qe S "G" (by decide +kernel)
    have qH := fun S => qe S "H" (by decide +kernel)
    have qD := fun S => qe S "D" (by decide +kernel)
    have hu := is_usable r n h hs S
    simp only [nA] at hu ⊢
    cases g0 : r.mode == "held"
    · have g0' : (r.mode != "held") = true := by simp [bne, g0]
      simp only [can, g0', if_true]
      simp [f_can_happen, q1, g0]
    have g0' : (r.mode != "held") = false := by simp [bne, g0]
    simp only [can, g0']
    cases g1 : e == "L" <;> cases g2 : e == "G" <;> cases g3 : e == "H" <;> cases g4 : e == "D" <;> cases g5 : r.sharing == "each" <;> cases first <;> cases g6 : n.s == "open" <;> simp only [f_can_happen, fSeq_ap, fIf_ap, fTB_ap, fOp_ap, fUn_ap, fV_ap, fC_ap, XR.bind_ok] <;> simp [q1, q2, q3, qL, qG, qH, qD, g0, g1, g2, g3, g4, g5, g6, hu, bne]
  unfold g_can_happen gF
  rw [q, lvF_rt]
  exact fin_self (by simp [nl, lf])

theorem ev_chars : (("LGHRFD" : Str).cps.toList.map fun c => AV.str ⟨#[c]⟩) = EV.map AV.str := by
  have h : (("LGHRFD" : Str).cps.toList.map fun c => (⟨#[c]⟩ : Str)) = EV := by decide +kernel
  rw [← h, List.map_map]
  rfl
theorem ev_join (p : Str → Bool) : ((Str.join "" (EV.filter p)).cps.toList.map fun c => AV.str ⟨#[c]⟩) = (EV.filter p).map AV.str := by
  have h : ((Str.join "" (EV.filter p)).cps.toList.map fun c => (⟨#[c]⟩ : Str)) = EV.filter p := by
    cases h1 : p "L" <;> cases h2 : p "G" <;> cases h3 : p "H" <;> cases h4 : p "R" <;> cases h5 : p "F" <;> cases h6 : p "D" <;> simp only [EV, List.filter, h1, h2, h3, h4, h5, h6] <;> decide +kernel
  rw [← congrArg (List.map AV.str) h, List.map_map]
  rfl
theorem strsA_map : ∀ xs : List Str, strsA (xs.map AV.str) = some xs
  | [] => rfl
  | x :: xs => by
    show (strsA (xs.map AV.str)).map (x :: ·) = _
    rw [strsA_map xs]
    rfl
def poss (r : Row) (n : Node) (first : Bool) : List Str := EV.filter (can r n first)
theorem possible (r : Row) (n : Node) (first : Bool) (h : ROk r) (hs : SOk n.s) (S : Sto) : g_possible [rA r, nA n, .bl first] S = .ok (.str (Str.join "" (poss r n first))) S := by
  have q : f_possible (sl0 4 [rA r, nA n, .bl first]) S = .rt (.str (Str.join "" (poss r n first))) S := by
    have lc : fLc (fiV (fC c_EVENTS)) (gN 3) f_possible_1 (fV 3) [3] [some (rA r), some (nA n), some (.bl first), none] S = .ok (.lst ((EV.filter (can r n first)).map AV.str)) S := fLc_pure (enc := AV.str) (xs := EV) (by simp; exact ev_chars) (by decide) fun e he => by
      refine ⟨[some (rA r), some (nA n), some (.bl first), some (.str e)], by simp, fun acc => ?_⟩
      simp only [f_possible_1]
      refine ⟨?_, fun _ => ⟨by simp, by simp [nl, lf]⟩⟩
      simp [can_happen r n first e h hs he]
    have hl : (EV.filter (can r n first)).length ≤ 6 := List.length_filter_le _ EV
    have hj : ((EV.filter (can r n first)).map (·.length)).sum + (EV.filter (can r n first)).length * ("" : Str).length ≤ 16777216 := by
      generalize can r n first = p
      cases h1 : p "L" <;> cases h2 : p "G" <;> cases h3 : p "H" <;> cases h4 : p "R" <;> cases h5 : p "F" <;> cases h6 : p "D" <;> simp only [EV, List.filter, h1, h2, h3, h4, h5, h6] <;> decide +kernel
    simp [f_possible, lc]
    unfold gJoin
    simp only [strsA_map, poss]
    rw [if_pos hj]
    rfl
  unfold g_possible gF
  rw [q, lvF_rt]
  exact fin_self (by simp [nl, lf])
/-! ### a step -/
def evI (e : Str) : Nat := if e == "L" then 0 else if e == "G" then 1 else if e == "H" then 2 else if e == "R" then 3 else if e == "F" then 4 else 5
theorem ev_index (e : Str) (he : e ∈ EV) (S : Sto) : gSIx (.str "LGHRFD") [.str e] S = .ok (.int (evI e)) S := by
  have : ∀ e ∈ EV, Builtin.Str.occurrences "LGHRFD" e 0 ("LGHRFD" : Str).length 1 = [evI e] := by decide +kernel
  unfold gSIx
  dsimp only
  rw [this e he]
def prOf (r : Row) (n : Node) (e : Str) : Int × Int := ((r.rule.getD n.m.toNat []).getD (evI e) (0, 0))
def nxt (r : Row) (n : Node) (e : Str) : Node :=
  ⟨(prOf r n e).1, if e == "L" || e == "G" then true else if e == "R" || e == "F" then n.a else if e == "D" then false else n.a,
    if e == "L" then (if n.s == "shut" then "open" else n.s) else if e == "G" then "free" else if e == "R" || e == "F" then "shut" else n.s⟩
/-- a row that may be walked -/
structure WOk (r : Row) : Prop extends ROk r where
  k : okR r.rule = true
theorem WOk.at (r : Row) (h : WOk r) (n : Node) (h0 : 0 ≤ n.m) (h1 : n.m < r.rule.length) : ∃ mk, r.rule[n.m.toNat]? = some mk ∧ mk.length = 6 ∧ ∀ p ∈ mk, okP r.rule.length p = true := by
  have hl : n.m.toNat < r.rule.length := by omega
  have hk := h.k
  unfold okR at hk
  simp only [Bool.and_eq_true, List.all_eq_true] at hk
  have := hk.2 (r.rule[n.m.toNat]) (List.getElem_mem hl)
  unfold okM at this
  simp only [Bool.and_eq_true, List.all_eq_true, decide_eq_true_eq] at this
  exact ⟨_, List.getElem?_eq_getElem hl, this.1, this.2⟩
theorem step_ok (r : Row) (n : Node) (e : Str) (h : WOk r) (h0 : 0 ≤ n.m) (h1 : n.m < r.rule.length) (hs : SOk n.s) (he : e ∈ EV) (S : Sto) : g_step [rA r, nA n, .str e] S = .ok (.tup [nA (nxt r n e), .int (prOf r n e).2]) S := by
  have q : f_step (sl0 8 [rA r, nA n, .str e]) S = .rt (.tup [nA (nxt r n e), .int (prOf r n e).2]) S := by
    obtain ⟨mk, a1, a2, a3⟩ := h.at r n h0 h1
    have hi : evI e < 6 := by
      revert e
      decide +kernel
    have hE : PyData.strOk e = true := by
      revert e
      decide +kernel
    have qe : ∀ S x, x ∈ EV → gEqB (.str e) (.str x) S = .ok (e == x) S := fun S x hx => gEqB_str hE (by revert x; decide +kernel)
    have qL := fun S => qe S "L" (by decide +kernel)
    have qG := fun S => qe S "G" (by decide +kernel)
    have qR := fun S => qe S "R" (by decide +kernel)
    have qF := fun S => qe S "F" (by decide +kernel)
    have qD := fun S => qe S "D" (by decide +kernel)
    have q2 : ∀ S, gEqB (.str n.s) (.str "shut") S = .ok (n.s == "shut") S := fun S => gEqB_str hs kS
    obtain ⟨hl, a1'⟩ := List.getElem?_eq_some_iff.mp a1
    have g1 : ∀ S, gIx (rT r) (.int n.m) S = .ok (mT mk) S := fun S => by
      simp [rT, h0, h1, a1']
    have hi' : (evI e : Int) < 6 := by omega
    have g2 : ∀ S, gIx (mT mk) (.int (evI e)) S = .ok (pA (prOf r n e)) S := fun S => by
      have : mk[evI e]? = some (prOf r n e) := by
        unfold prOf
        simp only [List.getD_eq_getElem?_getD]
        rw [a1]
        simp [List.getElem?_eq_getElem (show evI e < mk.length by omega)]
      simp [mT, a2, this, hi']
    have g3 := fun S => ev_index e he S
    cases b1 : e == "L" <;> cases b2 : e == "G" <;> cases b3 : e == "R" <;> cases b4 : e == "F" <;> cases b5 : e == "D" <;> cases b6 : n.s == "shut" <;> simp [f_step, nA, g1, g2, g3, pA, qL, qG, qR, qF, qD, q2, b1, b2, b3, b4, b5, b6, nxt]
    done
  unfold g_step gF
  rw [q, lvF_rt]
  exact fin_self (by simp [nl, lf, lfs, nA])

/-! ### faults -/
def flt (r : Row) (home : Int) (n : Node) (hold : Int) : Option Str :=
  if hold < 0 then some "overdrawn" else if finished n = true ∧ hold > 0 then some "stays"
  else if usable r n = true then (if hold = 0 then some "bare" else if r.grip = "place" ∧ home = 1 then some "moved" else none) else none
theorem fault_ok (r : Row) (home : Int) (n : Node) (hold : Int) (h : ROk r) (hs : SOk n.s) (S : Sto) : g_fault [rA r, .int home, nA n, .int hold] S = .ok (oS (flt r home n hold)) S := by
  have q : f_fault (sl0 4 [rA r, .int home, nA n, .int hold]) S = .rt (oS (flt r home n hold)) S := by
    have q1 : ∀ S, gEqB (.str r.grip) (.str "place") S = .ok (r.grip == "place") S := fun S => gEqB_str h.g kP
    have u1 := is_usable r n h hs
    have u2 := is_finished n hs
    by_cases b1 : hold < 0
    · simp [f_fault, b1, flt, oS]
    by_cases b2 : hold = 0
    · cases b3 : usable r n <;> simp [f_fault, b2, flt, u1, u2, b3, oS]
      all_goals (cases finished n <;> simp)
    have b2' : (hold == 0) = false := by simpa using b2
    have b4 : 0 < hold := by omega
    cases b3 : usable r n <;> cases b5 : finished n <;> cases b6 : r.grip == "place" <;> cases b7 : home == 1 <;> simp [f_fault, b1, b2, b4, flt, u1, u2, b3, b5, q1, b6, b7, oS] <;> simp_all
    done
  unfold g_fault gF
  rw [q, lvF_rt]
  refine fin_self ?_
  cases flt r home n hold <;> simp [oS, nl, lf]
end K12

set_option Elab.async false
set_option linter.all false
set_option maxRecDepth 100000
set_option maxHeartbeats 1000000
namespace K12
open PySem G
/-! ### charts -/
structure NOk (r : Row) (n : Node) : Prop where
  lo : 0 ≤ n.m
  hi : n.m < r.rule.length
  s : st3 n.s
theorem okN_n (n : Node) : okN (nA n) = true := by
  simp [okN, nA, toNK, toNKs, NestedKey.depth, NestedKey.depthAll]
theorem nA_inj (x y : Node) (h : toNK (nA x) = toNK (nA y)) : x = y := by
  obtain ⟨m, a, s⟩ := x
  obtain ⟨m', a', s'⟩ := y
  simp [nA, toNK, toNKs] at h
  obtain ⟨h1, h2, h3⟩ := h
  subst h1 h3
  cases a <;> cases a' <;> simp at h2 ⊢
theorem nxt_ok (r : Row) (h : WOk r) (n : Node) (hn : NOk r n) (e : Str) (he : e ∈ EV) : NOk r (nxt r n e) ∧ okP r.rule.length (prOf r n e) = true := by
  obtain ⟨mk, a1, a2, a3⟩ := h.at r n hn.lo hn.hi
  have hi : evI e < 6 := by
    revert e
    decide +kernel
  have : mk[evI e]? = some (prOf r n e) := by
    unfold prOf
    simp only [List.getD_eq_getElem?_getD]
    rw [a1]
    simp [List.getElem?_eq_getElem (show evI e < mk.length by omega)]
  have hp := a3 _ (List.mem_of_getElem? this)
  refine ⟨⟨?_, ?_, ?_⟩, hp⟩
  · unfold okP at hp
    have := of_decide_eq_true hp
    exact this.1
  · unfold okP at hp
    have := of_decide_eq_true hp
    exact this.2.1
  · unfold nxt st3
    dsimp only
    have := hn.s
    unfold st3 at this
    repeat' split
    all_goals simp_all
abbrev Ent := Node × Str
def eA (e : Ent) : AV := .tup [nA e.1, .str e.2]
def keyA (n : Node) : AV × AV := (nA n, .bl true)
def ks (ns : List Node) : List (AV × AV) := ns.map keyA
@[simp] theorem ks_len (ns : List Node) : (ks ns).length = ns.length := by simp [ks]
theorem ks_app (a b : List Node) : ks (a ++ b) = ks a ++ ks b := by simp [ks]
def cS (S : Sto) (es : List Ent) : Sto := S ++ [.lst (es.map eA), .dN (ks (es.map (·.1)))]
def add (r : Row) (n : Node) (life e : Str) (es : List Ent) : List Ent := if nxt r n e ∈ es.map (·.1) then es else es ++ [(nxt r n e, life ++ e)]
theorem ev_len (e : Str) (he : e ∈ EV) : e.length = 1 := by
  revert e
  decide +kernel
theorem ev_ok (e : Str) (he : e ∈ EV) : PyData.strOk e = true := by
  revert e
  decide +kernel
theorem strOk_app {a b : Str} (h1 : PyData.strOk a = true) (h2 : PyData.strOk b = true) : PyData.strOk (a ++ b) = true := by
  unfold PyData.strOk at h1 h2 ⊢
  have : (a ++ b).cps = a.cps ++ b.cps := rfl
  rw [this, Array.all_append, h1, h2]
  rfl
theorem str_app_len (a b : Str) : (a ++ b).length = a.length + b.length := by
  show (a.cps ++ b.cps).size = _
  rw [Array.size_append]
  rfl
theorem chart_step (r : Row) (h : WOk r) (n : Node) (hn : NOk r n) (e life : Str) (he : e ∈ EV) (hl : life.length ≤ 100) (es : List Ent) (hes : es.length ≤ 100) (at_ : Int) (x : Option AV) (S : Sto) :
    f_chart_1 [some (rA r), some (.loc S.length), some (.loc (S.length + 1)), some (.int at_), some (nA n), some (.str life), some (.str e), x] (cS S es) =
      .nx [some (rA r), some (.loc S.length), some (.loc (S.length + 1)), some (.int at_), some (nA n), some (.str life), some (.str e), some (nA (nxt r n e))] (cS S (add r n life e es)) := by
  have h1 := fun S => step_ok r n e h hn.lo hn.hi (st3_ok hn.s) he S
  have h2 := ev_len e he
  have h3 : lkN (nA (nxt r n e)) (ks (es.map (·.1))) = if nxt r n e ∈ es.map (·.1) then some (.bl true) else none := lkN_map (v := fun _ => .bl true) nA_inj _
  unfold add
  by_cases hm : nxt r n e ∈ es.map (·.1)
  · rw [if_pos hm] at h3
    rw [if_pos hm]
    simp only [f_chart_1, cS] at h3 ⊢
    simp [h1, okN_n, h3]
  · rw [if_neg hm] at h3
    rw [if_neg hm]
    have h4 : putN (nA (nxt r n e)) (.bl true) (ks (es.map (·.1))) = ks (es.map (·.1)) ++ [(nA (nxt r n e), .bl true)] := putN_new (v := fun _ => .bl true) nA_inj _ hm
    have h5 : es.length < 16777216 := by omega
    have h6 : life.length + 1 ≤ 16777216 := by omega
    simp only [f_chart_1, cS] at h3 ⊢
    simp [h1, okN_n, h3, h4, h5, h2, h6]
    simp [eA, keyA, ks_app, ks]

structure CI (r : Row) (es : List Ent) : Prop where
  nd : (es.map (·.1)).Nodup
  ok : ∀ e ∈ es, NOk r e.1 ∧ PyData.strOk e.2 = true ∧ e.2.length ≤ es.length
def allN (k : Nat) : List Node := (List.range k).flatMap fun (m : Nat) => [true, false].flatMap fun a => (["shut", "open", "free"] : List Str).map fun s => ⟨(m : Int), a, s⟩
theorem allN_mem (r : Row) (n : Node) (h : NOk r n) : n ∈ allN r.rule.length := by
  obtain ⟨m, a, s⟩ := n
  obtain ⟨h0, h1, h2⟩ := h
  dsimp only at h0 h1 h2
  unfold allN
  simp only [List.mem_flatMap, List.mem_range, List.mem_map]
  refine ⟨m.toNat, by omega, a, by cases a <;> simp, s, ?_, ?_⟩
  · rcases h2 with rfl | rfl | rfl <;> simp
  · rw [Int.toNat_of_nonneg h0]
theorem allN_len (k : Nat) : (allN k).length = 6 * k := by
  unfold allN
  rw [List.length_flatMap]
  simp
  induction k with
  | zero => rfl
  | succ k ih =>
    rw [List.range_succ, List.map_append, List.sum_append, ih]
    simp
    omega
theorem rule_len (r : Row) (h : WOk r) : r.rule.length ≤ 4 := by
  have := h.k
  unfold okR at this
  simp only [Bool.and_eq_true, decide_eq_true_eq] at this
  exact this.1.2
theorem CI.len {r : Row} {es : List Ent} (h : WOk r) (c : CI r es) : es.length ≤ 24 := by
  have h1 := nodup_le c.nd (l' := allN r.rule.length) fun x hx => by
    obtain ⟨e, he, rfl⟩ := List.mem_map.mp hx
    exact allN_mem r _ (c.ok e he).1
  rw [List.length_map, allN_len] at h1
  have := rule_len r h
  omega
theorem CI.add {r : Row} {es : List Ent} (h : WOk r) (c : CI r es) {n : Node} (hn : NOk r n) {life e : Str} (he : e ∈ EV) (hl : life.length ≤ es.length) (ho : PyData.strOk life = true) : CI r (add r n life e es) := by
  unfold K12.add
  by_cases hm : nxt r n e ∈ es.map (·.1)
  · rw [if_pos hm]
    exact c
  · rw [if_neg hm]
    refine ⟨?_, fun x hx => ?_⟩
    · rw [List.map_append, List.nodup_append]
      refine ⟨c.nd, by simp, fun a ha b hb z => hm ?_⟩
      simp at hb
      rw [← hb, ← z]
      exact ha
    · rw [List.length_append]
      rcases List.mem_append.mp hx with q | q
      · obtain ⟨a, b, d⟩ := c.ok x q
        exact ⟨a, b, by omega⟩
      · simp at q
        subst q
        refine ⟨(nxt_ok r h n hn e he).1, strOk_app ho (ev_ok e he), ?_⟩
        show (life ++ e).length ≤ _
        rw [str_app_len, ev_len e he]
        simp
        omega
theorem add_len (r : Row) (n : Node) (life e : Str) (es : List Ent) : es.length ≤ (add r n life e es).length := by
  unfold add
  split
  · exact Nat.le_refl _
  · simp
theorem poss_ev (r : Row) (n : Node) (f : Bool) : ∀ e ∈ poss r n f, e ∈ EV := fun e h => (List.mem_filter.mp h).1
theorem eA_at (es : List Ent) (i : Nat) (e : Ent) (h : es[i]? = some e) : atA (es.map eA) (i : Int) = some (eA e) := by
  unfold atA ixA
  obtain ⟨hl, he⟩ := List.getElem?_eq_some_iff.mp h
  simp [hl, he]
/-- one turn of the chart's loop -/
theorem chart_turn (r : Row) (h : WOk r) (es : List Ent) (c : CI r es) (i : Nat) (hi : i < es.length) (x4 x5 x6 x7 : Option AV) (S : Sto) :
    ∃ es' y4 y5 y6 y7, CI r es' ∧ es.length ≤ es'.length ∧ f_chart_2 [some (rA r), some (.loc S.length), some (.loc (S.length + 1)), some (.int i), x4, x5, x6, x7] (cS S es) = .nx [some (rA r), some (.loc S.length), some (.loc (S.length + 1)), some (.int (i + 1)), y4, y5, y6, y7] (cS S es') := by
  obtain ⟨e0, he0⟩ : ∃ e, es[i]? = some e := ⟨es[i], List.getElem?_eq_getElem hi⟩
  obtain ⟨n, life⟩ := e0
  obtain ⟨hn, ho, hl⟩ := c.ok _ (List.mem_of_getElem? he0)
  dsimp only at hn ho hl
  have hat := eA_at es i _ he0
  have hq : ∀ S, gEqB (.str life) (.str "") S = .ok (life == "") S := fun S => gEqB_str ho (by decide +kernel)
  have hp := fun S => possible r n (life == "") h.toROk (st3_ok hn.s) S
  have loop := loop_run (all := (poss r n (life == "")).map AV.str) (g := gN 6) (b := f_chart_1)
    (I := fun xs Γ S' => ∃ evs es' x6 x7, xs = evs.map AV.str ∧ (∀ e ∈ evs, e ∈ EV) ∧ CI r es' ∧ es.length ≤ es'.length ∧ S' = cS S es' ∧ Γ = [some (rA r), some (.loc S.length), some (.loc (S.length + 1)), some (.int i), some (nA n), some (.str life), x6, x7])
    (R := fun q => ∃ es' x6 x7, CI r es' ∧ es.length ≤ es'.length ∧ q = .nx [some (rA r), some (.loc S.length), some (.loc (S.length + 1)), some (.int i), some (nA n), some (.str life), x6, x7] (cS S es'))
    (fun Γ S' ⟨evs, es', x6, x7, a1, a2, a3, a4, a5, a6⟩ => ⟨es', x6, x7, a3, a4, by rw [a5, a6]⟩)
    (fun x xs Γ S' ⟨evs, es', x6, x7, a1, a2, a3, a4, a5, a6⟩ => by
      subst a5 a6
      cases evs with
      | nil => cases a1
      | cons ev evs =>
        rw [List.map_cons] at a1
        injection a1 with b1 b2
        subst b1 b2
        have hev := a2 ev (List.mem_cons_self ..)
        have l24 := a3.len h
        refine ⟨_, rfl, .inl ⟨_, _, .inl (chart_step r h n hn ev life hev (by omega) es' (by omega) i x7 S), evs, add r n life ev es', _, _, rfl, fun e he => a2 e (List.mem_cons_of_mem _ he), a3.add h hn hev (by omega) ho, Nat.le_trans a4 (add_len ..), rfl, rfl⟩⟩)
    ((poss r n (life == "")).map AV.str) [some (rA r), some (.loc S.length), some (.loc (S.length + 1)), some (.int i), some (nA n), some (.str life), x6, x7] (cS S es) ⟨poss r n (life == ""), es, x6, x7, rfl, poss_ev r n _, c, Nat.le_refl _, rfl, rfl⟩
  obtain ⟨es', y6, y7, d1, d2, d3⟩ := loop
  refine ⟨es', some (nA n), some (.str life), y6, y7, d1, d2, ?_⟩
  have hfor : ∀ Γ, Γ = [some (rA r), some (.loc S.length), some (.loc (S.length + 1)), some (.int i), some (nA n), some (.str life), x6, x7] → fFor (fiV (fCall 3 g_possible (faC (fV 0) (faC (fV 4) (faC (fOp gEq (fV 5) (fC (AV.str (Str.ofString "")))) faN))))) (gN 6) f_chart_1 Γ (cS S es) = .nx [some (rA r), some (.loc S.length), some (.loc (S.length + 1)), some (.int i), some (nA n), some (.str life), y6, y7] (cS S es') := fun Γ eΓ => by
    subst eΓ
    rw [for_eq (xs := (poss r n (life == "")).map AV.str) (S1 := cS S es) (by simp [hq, hp]; exact ev_join _)]
    exact d3
  have hU : fUnp [4, 5] (fOp gIx (fV 1) (fV 3)) [some (rA r), some (.loc S.length), some (.loc (S.length + 1)), some (.int i), x4, x5, x6, x7] (cS S es) = .nx [some (rA r), some (.loc S.length), some (.loc (S.length + 1)), some (.int i), some (nA n), some (.str life), x6, x7] (cS S es) := by
    have e1 := (List.getElem?_eq_some_iff.mp he0).2
    simp [cS, hi, he0]
    simp [eA, e1]
  unfold f_chart_2
  rw [fSeq_ap, hU, SR.sq_nx, fSeq_ap, hfor _ rfl, SR.sq_nx]
  simp

def n0 : Node := ⟨0, false, "shut"⟩
theorem n0_ok (r : Row) (h : WOk r) : NOk r n0 := ⟨Int.le_refl _, by
  have := h.k
  unfold okR at this
  simp only [Bool.and_eq_true, decide_eq_true_eq] at this
  show (0 : Int) < _
  omega, .inl rfl⟩
theorem nlA (es : List Ent) : lfs 0 (es.map eA) = true := lfs_all fun x hx => by
  obtain ⟨e, _, rfl⟩ := List.mem_map.mp hx
  simp [eA, nA, lf, lfs]
/-- the head of chart: what stands before the loop -/
theorem chart_head (r : Row) (S : Sto) : f_chart (sl0 8 [rA r]) S = ((whileF (fTB (fOp gLt (fV 3) (fB gLen (faC (fV 1) faN)))) f_chart_2 wN) [some (rA r), some (.loc S.length), some (.loc (S.length + 1)), some (.int 0), none, none, none, none] (cS S [(n0, "")])).sq (fRet (fV 1)) := by
  have h := okN_n n0
  simp only [nA, n0] at h
  simp [f_chart, cS, h, eA, nA, n0, ks, keyA]
theorem chart_ok (r : Row) (h : WOk r) (S : Sto) : ∃ es, CI r es ∧ g_chart [rA r] S = .ok (.lst (es.map eA)) S := by
  have loop := while_run (t := fTB (fOp gLt (fV 3) (fB gLen (faC (fV 1) faN)))) (b := f_chart_2)
    (I := fun m Γ S' => ∃ es i x4 x5 x6 x7, m = 24 - i ∧ i ≤ es.length ∧ CI r es ∧ S' = cS S es ∧ Γ = [some (rA r), some (.loc S.length), some (.loc (S.length + 1)), some (.int (i : Nat)), x4, x5, x6, x7])
    (R := fun q => ∃ es x3 x4 x5 x6 x7, CI r es ∧ q = .nx [some (rA r), some (.loc S.length), some (.loc (S.length + 1)), x3, x4, x5, x6, x7] (cS S es))
    (fun m Γ S' ⟨es, i, x4, x5, x6, x7, a1, a2, a3, a4, a5⟩ => by
      subst a1 a4 a5
      have l24 := a3.len h
      by_cases hi : i < es.length
      · right
        obtain ⟨es', y4, y5, y6, y7, b1, b2, b3⟩ := chart_turn r h es a3 i hi x4 x5 x6 x7 S
        refine ⟨cS S es, by simp [cS]; omega, .inl ⟨24 - (i + 1), _, _, .inl b3, by omega, es', i + 1, y4, y5, y6, y7, rfl, by omega, b1, rfl, rfl⟩⟩
      · left
        exact ⟨cS S es, by simp [cS]; omega, es, _, x4, x5, x6, x7, a3, rfl⟩)
    wN 24 (by decide) [some (rA r), some (.loc S.length), some (.loc (S.length + 1)), some (.int (0 : Nat)), none, none, none, none] (cS S [(n0, "")])
    ⟨[(n0, "")], 0, none, none, none, none, rfl, by simp, ⟨by simp, fun e he => by
      simp at he
      subst he
      exact ⟨n0_ok r h, by decide +kernel, by simp; decide +kernel⟩⟩, rfl, rfl⟩
  obtain ⟨es, x3, x4, x5, x6, x7, c, e⟩ := loop
  refine ⟨es, c, ?_⟩
  unfold g_chart gF
  rw [chart_head]
  have e' : whileF (fTB (fOp gLt (fV 3) (fB gLen (faC (fV 1) faN)))) f_chart_2 wN [some (rA r), some (.loc S.length), some (.loc (S.length + 1)), some (.int 0), none, none, none, none] (cS S [(n0, "")]) = _ := e
  rw [e', SR.sq_nx]
  show lvF S ((fRet (fV 1)) _ _) = _
  rw [show (fRet (fV 1)) [some (rA r), some (.loc S.length), some (.loc (S.length + 1)), x3, x4, x5, x6, x7] (cS S es) = .rt (.loc S.length) (cS S es) by simp, lvF_rt]
  refine fin_drop (clo_app _ _) rfl ?_
  unfold fz
  simp [lfs_mono (Nat.zero_le _) (nlA es)]
theorem eqn_n : Eqn nA (fun n => True ∧ True ∧ PyData.strOk n.s = true) 1 := (eqn_3 eqn_int eqn_bl eqn_str).comap (fun n : Node => (n.m, n.a, n.s)) fun x y e => by
  obtain ⟨m, a, s⟩ := x
  obtain ⟨m', a', s'⟩ := y
  simp at e
  simp [e]
theorem eqn_e : Eqn eA (fun e : Ent => (True ∧ True ∧ PyData.strOk e.1.s = true) ∧ PyData.strOk e.2 = true) 2 := eqn_2 eqn_n eqn_str
theorem chart_shp (r : Row) (es : List Ent) (c : CI r es) : Shp (.lst (es.map eA)) := (eqn_lst eqn_e).shp (by decide) fun e he => ⟨⟨trivial, trivial, st3_ok (c.ok e he).1.s⟩, (c.ok e he).2.1⟩
end K12

set_option Elab.async false
set_option linter.all false
set_option maxRecDepth 100000
set_option maxHeartbeats 1000000
namespace K12
open PySem G
/-! ### the first flaw: why the queue ends -/
structure QE where
  n : Node
  h : Int
  l : Str
  p : Nat
def q0 : QE := ⟨n0, 0, "", 0⟩
abbrev Key2 := Node × Int
def key (e : QE) : Key2 := (e.n, e.h)
def chOf (r : Row) (e : QE) (ev : Str) : Key2 := (nxt r e.n ev, e.h + (prOf r e.n ev).2)
structure FI (r : Row) (home : Int) (Q : List QE) (P : Nat) (evs : List Str) : Prop where
  hd : Q[0]? = some q0
  nd : ((Q.drop 1).map key).Nodup
  ok : ∀ e ∈ Q, NOk r e.n ∧ PyData.strOk e.l = true ∧ e.l.length ≤ Q.length ∧ 0 ≤ e.h ∧ e.h ≤ 15 ∧ (finished e.n = true → e.h ≤ 0)
  pr : ∀ j e, 1 ≤ j → Q[j]? = some e → e.p < j ∧ e.p ≤ P ∧ ∃ f, Q[e.p]? = some f ∧ e.h ≤ f.h + 3
  mono : ∀ j k e f, 1 ≤ j → j ≤ k → Q[j]? = some e → Q[k]? = some f → e.p ≤ f.p
  done : ∀ i e ev, (i < P ∧ ev ∈ poss r e.n (e.l == ("" : Str))) ∨ (i = P ∧ ev ∈ evs) → Q[i]? = some e → flt r home (chOf r e ev).1 (chOf r e ev).2 = none ∧ ∃ j f, 1 ≤ j ∧ Q[j]? = some f ∧ key f = chOf r e ev ∧ f.p ≤ i
theorem flt_none {r : Row} {home : Int} {n : Node} {h : Int} (e : flt r home n h = none) : 0 ≤ h ∧ (finished n = true → h ≤ 0) := by
  unfold flt at e
  by_cases h1 : h < 0
  · rw [if_pos h1] at e
    cases e
  · rw [if_neg h1] at e
    refine ⟨by omega, fun hf => ?_⟩
    by_cases h2 : h > 0
    · rw [if_pos ⟨hf, h2⟩] at e
      cases e
    · omega
theorem can_D (r : Row) (n : Node) (f : Bool) (hm : r.mode = "held") (ha : n.a = true) : ("D" : Str) ∈ poss r n f := by
  refine List.mem_filter.mpr ⟨by decide +kernel, ?_⟩
  unfold can
  rw [hm]
  have h1 : (("held" : Str) != "held") = false := by decide +kernel
  have h2 : ((("D" : Str) == "L") || (("D" : Str) == "G")) = false := by decide +kernel
  have h3 : (("D" : Str) == "H") = false := by decide +kernel
  simp [h1, h2, h3, ha]
theorem can_R (r : Row) (n : Node) (f : Bool) (hm : r.mode = "held") (hs : n.s = "open") : ("R" : Str) ∈ poss r n f := by
  refine List.mem_filter.mpr ⟨by decide +kernel, ?_⟩
  unfold can
  rw [hm, hs]
  have h1 : (("held" : Str) != "held") = false := by decide +kernel
  have h2 : ((("R" : Str) == "L") || (("R" : Str) == "G")) = false := by decide +kernel
  have h3 : (("R" : Str) == "H") = false := by decide +kernel
  have h4 : (("R" : Str) == "D") = false := by decide +kernel
  simp [h1, h2, h3, h4]
theorem nxt_D (r : Row) (n : Node) : (nxt r n "D").a = false ∧ (nxt r n "D").s = n.s := by
  have h1 : ((("D" : Str) == "L") || (("D" : Str) == "G")) = false := by decide +kernel
  have h2 : ((("D" : Str) == "R") || (("D" : Str) == "F")) = false := by decide +kernel
  have h3 : (("D" : Str) == "D") = true := by decide +kernel
  have h4 : (("D" : Str) == "L") = false := by decide +kernel
  have h5 : (("D" : Str) == "G") = false := by decide +kernel
  simp [nxt, h1, h2, h3, h4, h5]
theorem nxt_R (r : Row) (n : Node) : (nxt r n "R").a = n.a ∧ (nxt r n "R").s = "shut" := by
  have h1 : ((("R" : Str) == "L") || (("R" : Str) == "G")) = false := by decide +kernel
  have h2 : ((("R" : Str) == "R") || (("R" : Str) == "F")) = true := by decide +kernel
  have h4 : (("R" : Str) == "L") = false := by decide +kernel
  have h5 : (("R" : Str) == "G") = false := by decide +kernel
  simp [nxt, h1, h2, h4, h5]
theorem fin_of {n : Node} (ha : n.a = false) (hs : n.s ≠ "open") : finished n = true := by
  unfold finished
  rw [ha]
  simp [hs]
theorem chg (r : Row) (h : WOk r) (n : Node) (hn : NOk r n) (e : Str) (he : e ∈ EV) : -3 ≤ (prOf r n e).2 ∧ (prOf r n e).2 ≤ 3 := by
  have := (nxt_ok r h n hn e he).2
  unfold okP at this
  have := of_decide_eq_true this
  exact this.2.2
theorem evD : ("D" : Str) ∈ EV := by decide +kernel
theorem evR : ("R" : Str) ∈ EV := by decide +kernel
/-- where all that stands ahead is worked off, the next one holds at most 12 -/
theorem FI.bound {r : Row} {home : Int} {Q : List QE} {P : Nat} (h : WOk r) (hm : r.mode = "held") (F : FI r home Q P []) {y : QE} (hy : Q[P]? = some y) : y.h ≤ 12 := by
  have at0 : ∀ {e : QE}, Q[0]? = some e → e.h = 0 ∧ e.n = n0 := fun {e} he => by
    have := F.hd
    rw [he] at this
    cases this
    exact ⟨rfl, rfl⟩
  by_cases h0 : P = 0
  · subst h0
    rw [(at0 hy).1]
    omega
  obtain ⟨p1, p2, p, hp, p3⟩ := F.pr P y (by omega) hy
  by_cases h1 : y.p = 0
  · rw [h1] at hp
    rw [(at0 hp).1] at p3
    omega
  obtain ⟨q1, q2, q, hq, q3⟩ := F.pr y.p p (by omega) hp
  -- what stands before y's parent's parent's children
  have before : ∀ j f, 1 ≤ j → Q[j]? = some f → f.p ≤ p.p → j < P := fun j f hj hf hle => by
    by_cases hlt : j < P
    · exact hlt
    · have := F.mono P j y f (by omega) (by omega) hy hf
      omega
  obtain ⟨nq, _, _, _, _, fq⟩ := F.ok q (List.mem_of_getElem? hq)
  have hqP : p.p < P := by omega
  have bq : q.h ≤ 6 := by
    cases ha : q.n.a with
    | true =>
      obtain ⟨d1, j, f, j1, hj, kj, pj⟩ := F.done p.p q "D" (.inl ⟨hqP, can_D r q.n _ hm ha⟩) hq
      have jP := before j f j1 hj pj
      obtain ⟨nf, _, _, _, _, ff⟩ := F.ok f (List.mem_of_getElem? hj)
      have c1 := chg r h q.n nq "D" evD
      have kn : f.n = nxt r q.n "D" := congrArg Prod.fst kj
      have kh : f.h = q.h + (prOf r q.n "D").2 := congrArg Prod.snd kj
      have fa : f.n.a = false := by rw [kn]; exact (nxt_D r q.n).1
      by_cases hs : f.n.s = "open"
      · obtain ⟨e1, _⟩ := F.done j f "R" (.inl ⟨jP, can_R r f.n _ hm hs⟩) hj
        have c2 := chg r h f.n nf "R" evR
        have := (flt_none e1).2 (fin_of (by show (nxt r f.n "R").a = false; rw [(nxt_R r f.n).1]; exact fa) (by show (nxt r f.n "R").s ≠ _; rw [(nxt_R r f.n).2]; decide +kernel))
        have e2 : (chOf r f "R").2 = f.h + (prOf r f.n "R").2 := rfl
        rw [e2] at this
        omega
      · have := ff (fin_of fa hs)
        omega
    | false =>
      by_cases hs : q.n.s = "open"
      · obtain ⟨e1, _⟩ := F.done p.p q "R" (.inl ⟨hqP, can_R r q.n _ hm hs⟩) hq
        have c2 := chg r h q.n nq "R" evR
        have := (flt_none e1).2 (fin_of (by show (nxt r q.n "R").a = false; rw [(nxt_R r q.n).1]; exact ha) (by show (nxt r q.n "R").s ≠ _; rw [(nxt_R r q.n).2]; decide +kernel))
        have e2 : (chOf r q "R").2 = q.h + (prOf r q.n "R").2 := rfl
        rw [e2] at this
        omega
      · have := fq (fin_of ha hs)
        omega
  omega
/-- one more child seen -/
def addQ (r : Row) (P : Nat) (y : QE) (ev : Str) (Q : List QE) : List QE := if chOf r y ev ∈ (Q.drop 1).map key then Q else Q ++ [⟨(chOf r y ev).1, (chOf r y ev).2, y.l ++ ev, P⟩]
theorem FI.step {r : Row} {home : Int} {Q : List QE} {P : Nat} {evs : List Str} (h : WOk r) (F : FI r home Q P evs) {y : QE} (hy : Q[P]? = some y) (hb : y.h ≤ 12) {ev : Str} (he : ev ∈ EV) (hf : flt r home (chOf r y ev).1 (chOf r y ev).2 = none) : FI r home (addQ r P y ev Q) P (evs ++ [ev]) := by
  obtain ⟨ny, oy, ly, y0, y15, fy⟩ := F.ok y (List.mem_of_getElem? hy)
  have c1 := chg r h y.n ny ev he
  have hPl : P < Q.length := (List.getElem?_eq_some_iff.mp hy).1
  unfold addQ
  by_cases hm : chOf r y ev ∈ (Q.drop 1).map key
  · rw [if_pos hm]
    refine ⟨F.hd, F.nd, F.ok, F.pr, F.mono, fun i e v hv hi => ?_⟩
    by_cases hold : (i < P ∧ v ∈ poss r e.n (e.l == ("" : Str))) ∨ (i = P ∧ v ∈ evs)
    · exact F.done i e v hold hi
    · rcases hv with hv | ⟨hv1, hv2⟩
      · exact absurd (.inl hv) hold
      · rcases List.mem_append.mp hv2 with z | z
        · exact absurd (.inr ⟨hv1, z⟩) hold
        · simp at z
          subst z hv1
          rw [hy] at hi
          cases hi
          refine ⟨hf, ?_⟩
          obtain ⟨f, hf1, hf2⟩ := List.mem_map.mp hm
          obtain ⟨j, hj⟩ := List.mem_iff_getElem?.mp hf1
          rw [List.getElem?_drop] at hj
          exact ⟨1 + j, f, by omega, hj, hf2, (F.pr (1 + j) f (by omega) hj).2.1⟩
  · rw [if_neg hm]
    have app : ∀ {i e}, Q[i]? = some e → (Q ++ [⟨(chOf r y ev).1, (chOf r y ev).2, y.l ++ ev, P⟩])[i]? = some e := fun {i e} hi => by
      rw [List.getElem?_append_left (List.getElem?_eq_some_iff.mp hi).1]
      exact hi
    have back : ∀ {i e}, (Q ++ [⟨(chOf r y ev).1, (chOf r y ev).2, y.l ++ ev, P⟩])[i]? = some e → Q[i]? = some e ∨ (i = Q.length ∧ e = ⟨(chOf r y ev).1, (chOf r y ev).2, y.l ++ ev, P⟩) := fun {i e} hi => by
      by_cases hl : i < Q.length
      · rw [List.getElem?_append_left hl] at hi
        exact .inl hi
      · have hi2 := (List.getElem?_eq_some_iff.mp hi).1
        simp at hi2
        have : i = Q.length := by omega
        subst this
        simp at hi
        exact .inr ⟨rfl, hi.symm⟩
    obtain ⟨f1, f2⟩ := flt_none hf
    have eh : (chOf r y ev).2 = y.h + (prOf r y.n ev).2 := rfl
    refine ⟨app F.hd, ?_, fun e he' => ?_, fun j e hj hi => ?_, fun j k e f hj hjk h1 h2 => ?_, fun i e v hv hi => ?_⟩
    · rw [List.drop_append_of_le_length (by omega), List.map_append, List.nodup_append]
      refine ⟨F.nd, by simp, fun a ha b hb z => hm ?_⟩
      simp at hb
      have : b = chOf r y ev := hb
      rw [← this, ← z]
      exact ha
    · rw [List.length_append]
      rcases List.mem_append.mp he' with q | q
      · obtain ⟨a, b, c, d, e, f⟩ := F.ok e q
        exact ⟨a, b, by omega, d, e, f⟩
      · simp at q
        subst q
        refine ⟨(nxt_ok r h y.n ny ev he).1, strOk_app oy (ev_ok ev he), ?_, f1, by show (chOf r y ev).2 ≤ 15; omega, f2⟩
        show (y.l ++ ev).length ≤ _
        rw [str_app_len, ev_len ev he]
        simp
        omega
    · rcases back hi with q | ⟨q1, q2⟩
      · obtain ⟨a, b, f, c, d⟩ := F.pr j e hj q
        exact ⟨a, b, f, app c, d⟩
      · subst q1 q2
        exact ⟨hPl, Nat.le_refl _, y, app hy, by show (chOf r y ev).2 ≤ _; omega⟩
    · rcases back h1 with q | ⟨q1, q2⟩
      · rcases back h2 with z | ⟨z1, z2⟩
        · exact F.mono j k e f hj hjk q z
        · subst z1 z2
          exact (F.pr j e hj q).2.1
      · subst q1 q2
        rcases back h2 with z | ⟨z1, z2⟩
        · have := (List.getElem?_eq_some_iff.mp z).1
          omega
        · subst z1 z2
          exact Nat.le_refl _
    · by_cases hi' : Q[i]? = some e
      · by_cases hold : (i < P ∧ v ∈ poss r e.n (e.l == ("" : Str))) ∨ (i = P ∧ v ∈ evs)
        · obtain ⟨a, j, f, b, c, d, g⟩ := F.done i e v hold hi'
          exact ⟨a, j, f, b, app c, d, g⟩
        · rcases hv with hv | ⟨hv1, hv2⟩
          · exact absurd (.inl hv) hold
          · rcases List.mem_append.mp hv2 with z | z
            · exact absurd (.inr ⟨hv1, z⟩) hold
            · simp at z
              subst z hv1
              rw [hy] at hi'
              cases hi'
              exact ⟨hf, Q.length, ⟨(chOf r y v).1, (chOf r y v).2, y.l ++ v, i⟩, by omega, by simp, rfl, Nat.le_refl _⟩
      · rcases back hi with z | ⟨z1, z2⟩
        · exact absurd z hi'
        · subst z1
          rcases hv with hv | hv
          · omega
          · omega
theorem FI.next {r : Row} {home : Int} {Q : List QE} {P : Nat} {evs : List Str} (F : FI r home Q P evs) {y : QE} (hy : Q[P]? = some y) (he : ∀ e ∈ poss r y.n (y.l == ("" : Str)), e ∈ evs) : FI r home Q (P + 1) [] := by
  refine ⟨F.hd, F.nd, F.ok, fun j e hj hi => ?_, F.mono, fun i e v hv hi => ?_⟩
  · obtain ⟨a, b, c⟩ := F.pr j e hj hi
    exact ⟨a, by omega, c⟩
  · rcases hv with ⟨h1, h2⟩ | ⟨h1, h2⟩
    · by_cases h3 : i < P
      · exact F.done i e v (.inl ⟨h3, h2⟩) hi
      · have : i = P := by omega
        subst this
        rw [hy] at hi
        cases hi
        exact F.done i y v (.inr ⟨rfl, he v h2⟩) hy
    · cases h2
theorem FI.len {r : Row} {home : Int} {Q : List QE} {P : Nat} {evs : List Str} (h : WOk r) (F : FI r home Q P evs) : Q.length ≤ 385 := by
  have h1 := nodup_le F.nd (l' := (allN r.rule.length).flatMap fun n => (List.range 16).map fun (i : Nat) => (n, (i : Int))) fun x hx => by
    obtain ⟨e, he, rfl⟩ := List.mem_map.mp hx
    obtain ⟨a, _, _, b, c, _⟩ := F.ok e (List.mem_of_mem_drop he)
    rw [List.mem_flatMap]
    refine ⟨e.n, allN_mem r _ a, List.mem_map.mpr ⟨e.h.toNat, List.mem_range.mpr (by omega), ?_⟩⟩
    show (e.n, (e.h.toNat : Int)) = (e.n, e.h)
    rw [Int.toNat_of_nonneg b]
  rw [List.length_map, List.length_drop, List.length_flatMap] at h1
  have h2 := rule_len r h
  have h3 := allN_len r.rule.length
  have : ∀ l : List Node, (l.map fun n => ((List.range 16).map fun (i : Nat) => (n, (i : Int))).length).sum = 16 * l.length := fun l => by
    induction l with
    | nil => rfl
    | cons a b ih =>
      rw [List.map_cons, List.sum_cons, ih]
      simp
      omega
  rw [this, h3] at h1
  omega
theorem FI.start {r : Row} {home : Int} (h : WOk r) : FI r home [q0] 0 [] := by
  refine ⟨rfl, by simp, fun e he => ?_, fun j e hj hi => ?_, fun j k e f hj hjk h1 h2 => ?_, fun i e v hv hi => ?_⟩
  · simp at he
    subst he
    exact ⟨n0_ok r h, by decide +kernel, by decide +kernel, Int.le_refl _, by decide, fun _ => Int.le_refl _⟩
  · have := (List.getElem?_eq_some_iff.mp hi).1
    simp at this
    omega
  · have := (List.getElem?_eq_some_iff.mp h1).1
    simp at this
    omega
  · rcases hv with ⟨h1, _⟩ | ⟨_, h2⟩
    · omega
    · cases h2
end K12

set_option Elab.async false
set_option linter.all false
set_option maxRecDepth 100000
set_option maxHeartbeats 1000000
namespace K12
open PySem G
/-! ### the first flaw: the walk of its loops -/
def qA (e : QE) : AV := .tup [nA e.n, .int e.h, .str e.l]
def k2 (k : Key2) : AV := .tup [nA k.1, .int k.2]
def ks2 (l : List Key2) : List (AV × AV) := l.map fun k => (k2 k, .bl true)
@[simp] theorem ks2_len (l : List Key2) : (ks2 l).length = l.length := by simp [ks2]
theorem okN_2 (k : Key2) : okN (k2 k) = true := by
  simp [okN, k2, nA, toNK, toNKs, NestedKey.depth, NestedKey.depthAll]
theorem k2_inj (x y : Key2) (h : toNK (k2 x) = toNK (k2 y)) : x = y := by
  obtain ⟨⟨m, a, s⟩, i⟩ := x
  obtain ⟨⟨m', a', s'⟩, i'⟩ := y
  simp [k2, nA, toNK, toNKs] at h
  obtain ⟨⟨h1, h2, h3⟩, h4⟩ := h
  subst h1 h3 h4
  cases a <;> cases a' <;> simp at h2 ⊢
def kQ (Q : List QE) : List Key2 := (Q.drop 1).map key
@[simp] theorem kQ_len (Q : List QE) : (kQ Q).length = Q.length - 1 := by simp [kQ]
def fS (S : Sto) (Q : List QE) : Sto := S ++ [.lst (Q.map qA), .dN (ks2 (kQ Q))]
def sl5 (r : Row) (home : Int) (S : Sto) (P : Nat) (y : QE) (x8 x9 x10 x11 : Option AV) : Sl :=
  [some (rA r), some (.int home), some (.loc S.length), some (.loc (S.length + 1)), some (.int P), some (nA y.n), some (.int y.h), some (.str y.l), x8, x9, x10, x11]
theorem ff_step (r : Row) (h : WOk r) (home : Int) (P : Nat) (y : QE) (hn : NOk r y.n) (hl : y.l.length ≤ 1000) (Q : List QE) (hq : 1 ≤ Q.length ∧ Q.length ≤ 1000) (ev : Str) (he : ev ∈ EV) (x9 x10 x11 : Option AV) (S : Sto) :
    ∃ y9 y10 y11, f_first_flaw_1 (sl5 r home S P y (some (.str ev)) x9 x10 x11) (fS S Q) = (match flt r home (chOf r y ev).1 (chOf r y ev).2 with
      | some w => .rt (.tup [.str (y.l ++ ev), .str w]) (fS S Q)
      | none => .nx (sl5 r home S P y (some (.str ev)) y9 y10 y11) (fS S (addQ r P y ev Q))) := by
  have h1 := fun S => step_ok r y.n ev h hn.lo hn.hi (st3_ok hn.s) he S
  have h2 := ev_len ev he
  have nn := (nxt_ok r h y.n hn ev he).1
  have h3 := fun S => fault_ok r home (nxt r y.n ev) (y.h + (prOf r y.n ev).2) h.toROk (st3_ok nn.s) S
  have h6 : y.l.length + 1 ≤ 16777216 := by omega
  cases ef : flt r home (chOf r y ev).1 (chOf r y ev).2 with
  | some w =>
    have ef' : flt r home (nxt r y.n ev) (y.h + (prOf r y.n ev).2) = some w := ef
    rw [ef'] at h3
    refine ⟨none, none, none, ?_⟩
    simp only [f_first_flaw_1, sl5, oS] at h3 ⊢
    simp [h1, h3, gIsNot, gNotN, isNon, h2, h6]
  | none =>
    have ef' : flt r home (nxt r y.n ev) (y.h + (prOf r y.n ev).2) = none := ef
    rw [ef'] at h3
    have h5 := okN_2 (chOf r y ev)
    refine ⟨some (nA (nxt r y.n ev)), some (.int (prOf r y.n ev).2), some .non, ?_⟩
    unfold addQ
    by_cases hm : chOf r y ev ∈ (Q.drop 1).map key
    · have h4 : lkN (k2 (chOf r y ev)) (ks2 (kQ Q)) = some (.bl true) := by
        rw [ks2, kQ, lkN_map (v := fun _ => .bl true) k2_inj, if_pos hm]
      rw [if_pos hm]
      simp only [f_first_flaw_1, sl5, oS, fS] at h3 ⊢
      simp only [k2, chOf] at h4 h5
      simp [h1, h3, gIsNot, gNotN, isNon, h2, h6, h4, h5]
    · have h4 : lkN (k2 (chOf r y ev)) (ks2 (kQ Q)) = none := by
        rw [ks2, kQ, lkN_map (v := fun _ => .bl true) k2_inj, if_neg hm]
      rw [if_neg hm]
      have h7 : putN (k2 (chOf r y ev)) (.bl true) (ks2 (kQ Q)) = ks2 (kQ Q) ++ [(k2 (chOf r y ev), .bl true)] := putN_new (v := fun _ => .bl true) k2_inj _ hm
      have h8 : Q.length - 1 < 16777216 := by omega
      have h9 : Q.length < 16777216 := by omega
      have e1 : fS S (Q ++ [⟨(chOf r y ev).1, (chOf r y ev).2, y.l ++ ev, P⟩]) = S ++ [.lst (Q.map qA ++ [.tup [nA (nxt r y.n ev), .int (y.h + (prOf r y.n ev).2), .str (y.l ++ ev)]]), .dN (ks2 (kQ Q) ++ [(k2 (chOf r y ev), .bl true)])] := by
        unfold fS kQ
        rw [List.drop_append_of_le_length hq.1]
        simp [ks2, key, qA, chOf]
      rw [e1]
      simp only [f_first_flaw_1, sl5, oS, fS] at h3 ⊢
      simp only [k2, chOf] at h4 h5 h7 ⊢
      simp [h1, h3, gIsNot, gNotN, isNon, h2, h6, h4, h5, h7, h8, h9]

theorem qA_nl (Q : List QE) : lfs 0 (Q.map qA) = true := lfs_all fun x hx => by
  obtain ⟨e, _, rfl⟩ := List.mem_map.mp hx
  simp [qA, nA, lf, lfs]
theorem flt_ok {r : Row} {home : Int} {n : Node} {h : Int} {w : Str} (e : flt r home n h = some w) : PyData.strOk w = true := by
  unfold flt at e
  repeat' split at e
  all_goals first | (cases e; decide +kernel) | cases e
theorem addQ_at {r : Row} {P : Nat} {y : QE} {ev : Str} {Q : List QE} {i : Nat} {e : QE} (h : Q[i]? = some e) : (addQ r P y ev Q)[i]? = some e := by
  unfold addQ
  split
  · exact h
  · rw [List.getElem?_append_left (List.getElem?_eq_some_iff.mp h).1]
    exact h
/-- one turn of the loop: a flaw, or on -/
theorem ff_turn (r : Row) (h : WOk r) (hm : r.mode = "held") (home : Int) (Q : List QE) (P : Nat) (F : FI r home Q P []) (y : QE) (hy : Q[P]? = some y) (x5 x6 x7 x8 x9 x10 x11 : Option AV) (S : Sto) :
    (∃ Q' y5 y6 y7 y8 y9 y10 y11, FI r home Q' (P + 1) [] ∧ P + 1 ≤ Q'.length ∧ f_first_flaw_2 [some (rA r), some (.int home), some (.loc S.length), some (.loc (S.length + 1)), some (.int P), x5, x6, x7, x8, x9, x10, x11] (fS S Q) =
      .nx [some (rA r), some (.int home), some (.loc S.length), some (.loc (S.length + 1)), some (.int (P + 1)), y5, y6, y7, y8, y9, y10, y11] (fS S Q')) ∨
    ∃ Q' l w, PyData.strOk l = true ∧ PyData.strOk w = true ∧ f_first_flaw_2 [some (rA r), some (.int home), some (.loc S.length), some (.loc (S.length + 1)), some (.int P), x5, x6, x7, x8, x9, x10, x11] (fS S Q) = .rt (.tup [.str l, .str w]) (fS S Q') := by
  obtain ⟨hn, ho, hl, _⟩ := F.ok y (List.mem_of_getElem? hy)
  have hb := F.bound h hm hy
  have hPl := (List.getElem?_eq_some_iff.mp hy).1
  have hq : ∀ S, gEqB (.str y.l) (.str "") S = .ok (y.l == ("" : Str)) S := fun S => gEqB_str ho (by decide +kernel)
  have hp := fun S => possible r y.n (y.l == ("" : Str)) h.toROk (st3_ok hn.s) S
  have loop := loop_run (all := (poss r y.n (y.l == ("" : Str))).map AV.str) (g := gN 8) (b := f_first_flaw_1)
    (I := fun xs Γ S' => ∃ dn evs Q' x8 x9 x10 x11, poss r y.n (y.l == ("" : Str)) = dn ++ evs ∧ xs = evs.map AV.str ∧ FI r home Q' P dn ∧ Q'[P]? = some y ∧ S' = fS S Q' ∧ Γ = sl5 r home S P y x8 x9 x10 x11)
    (R := fun q => (∃ Q' x8 x9 x10 x11, FI r home Q' P (poss r y.n (y.l == ("" : Str))) ∧ Q'[P]? = some y ∧ q = .nx (sl5 r home S P y x8 x9 x10 x11) (fS S Q')) ∨ ∃ Q' l w, PyData.strOk l = true ∧ PyData.strOk w = true ∧ q = .rt (.tup [.str l, .str w]) (fS S Q'))
    (fun Γ S' ⟨dn, evs, Q', x8, x9, x10, x11, a1, a2, a3, a4, a5, a6⟩ => by
      cases evs with
      | nil =>
        rw [List.append_nil] at a1
        subst a5 a6
        exact .inl ⟨Q', x8, x9, x10, x11, by rw [a1]; exact a3, a4, rfl⟩
      | cons _ _ => cases a2)
    (fun x xs Γ S' ⟨dn, evs, Q', x8, x9, x10, x11, a1, a2, a3, a4, a5, a6⟩ => by
      subst a5 a6
      cases evs with
      | nil => cases a2
      | cons ev evs =>
        rw [List.map_cons] at a2
        injection a2 with b1 b2
        subst b1 b2
        have hev : ev ∈ EV := poss_ev r y.n _ ev (by rw [a1]; simp)
        have l385 := a3.len h
        have hP' := (List.getElem?_eq_some_iff.mp a4).1
        have hl' := (a3.ok y (List.mem_of_getElem? a4)).2.2.1
        refine ⟨sl5 r home S P y (some (.str ev)) x9 x10 x11, rfl, ?_⟩
        obtain ⟨y9, y10, y11, e⟩ := ff_step r h home P y hn (by omega) Q' ⟨by omega, by omega⟩ ev hev x9 x10 x11 S
        cases ef : flt r home (chOf r y ev).1 (chOf r y ev).2 with
        | some w =>
          rw [ef] at e
          exact .inr (.inl ⟨_, _, e, .inr ⟨Q', y.l ++ ev, w, strOk_app ho (ev_ok ev hev), flt_ok ef, rfl⟩⟩)
        | none =>
          rw [ef] at e
          exact .inl ⟨_, _, .inl e, dn ++ [ev], evs, addQ r P y ev Q', _, _, _, _, by rw [a1]; simp, rfl, a3.step h a4 hb hev ef, addQ_at a4, rfl, rfl⟩)
    ((poss r y.n (y.l == ("" : Str))).map AV.str) (sl5 r home S P y x8 x9 x10 x11) (fS S Q) ⟨[], poss r y.n (y.l == ("" : Str)), Q, x8, x9, x10, x11, rfl, rfl, F, hy, rfl, rfl⟩
  have hfor : fFor (fiV (fCall 3 g_possible (faC (fV 0) (faC (fV 5) (faC (fOp gEq (fV 7) (fC (AV.str (Str.ofString "")))) faN))))) (gN 8) f_first_flaw_1 (sl5 r home S P y x8 x9 x10 x11) (fS S Q) = loopF ((poss r y.n (y.l == ("" : Str))).map AV.str) none (gN 8) f_first_flaw_1 ((poss r y.n (y.l == ("" : Str))).map AV.str) (sl5 r home S P y x8 x9 x10 x11) (fS S Q) :=
    for_eq (xs := (poss r y.n (y.l == ("" : Str))).map AV.str) (S1 := fS S Q) (by simp [sl5, hq, hp]; exact ev_join _)
  have e1 := (List.getElem?_eq_some_iff.mp hy).2
  have hU : fUnp [5, 6, 7] (fOp gIx (fV 2) (fV 4)) [some (rA r), some (.int home), some (.loc S.length), some (.loc (S.length + 1)), some (.int P), x5, x6, x7, x8, x9, x10, x11] (fS S Q) = .nx (sl5 r home S P y x8 x9 x10 x11) (fS S Q) := by
    simp [fS, hPl, hy]
    simp [qA, e1, sl5]
  rcases loop with ⟨Q', y8, y9, y10, y11, d1, d2, d3⟩ | ⟨Q', l, w, d1, d2, d3⟩
  · left
    refine ⟨Q', some (nA y.n), some (.int y.h), some (.str y.l), y8, y9, y10, y11, d1.next d2 fun e he => he, (List.getElem?_eq_some_iff.mp d2).1, ?_⟩
    unfold f_first_flaw_2
    rw [fSeq_ap, hU, SR.sq_nx, fSeq_ap, hfor, d3, SR.sq_nx]
    simp [sl5]
  · right
    refine ⟨Q', l, w, d1, d2, ?_⟩
    unfold f_first_flaw_2
    rw [fSeq_ap, hU, SR.sq_nx, fSeq_ap, hfor, d3, SR.sq_rt]
theorem ff_head (r : Row) (home : Int) (S : Sto) : f_first_flaw (sl0 12 [rA r, .int home]) S = ((whileF (fTB (fOp gLt (fV 4) (fB gLen (faC (fV 2) faN)))) f_first_flaw_2 wN) [some (rA r), some (.int home), some (.loc S.length), some (.loc (S.length + 1)), some (.int 0), none, none, none, none, none, none, none] (fS S [q0])).sq (fRet (fC .non)) := by
  simp [f_first_flaw, fS, qA, nA, q0, n0, kQ, ks2]
/-- what first_flaw may give -/
def FV (v : AV) : Prop := v = .non ∨ ∃ l w, PyData.strOk l = true ∧ PyData.strOk w = true ∧ v = .tup [.str l, .str w]
theorem ff_ok (r : Row) (h : WOk r) (hm : r.mode = "held") (home : Int) (S : Sto) : ∃ v, FV v ∧ nl v = true ∧ g_first_flaw [rA r, .int home] S = .ok v S := by
  have loop := while_run (t := fTB (fOp gLt (fV 4) (fB gLen (faC (fV 2) faN)))) (b := f_first_flaw_2)
    (I := fun m Γ S' => ∃ Q P x5 x6 x7 x8 x9 x10 x11, m = 385 - P ∧ P ≤ Q.length ∧ FI r home Q P [] ∧ S' = fS S Q ∧ Γ = [some (rA r), some (.int home), some (.loc S.length), some (.loc (S.length + 1)), some (.int (P : Nat)), x5, x6, x7, x8, x9, x10, x11])
    (R := fun q => (∃ Q Γ, q = .nx Γ (fS S Q)) ∨ ∃ Q l w, PyData.strOk l = true ∧ PyData.strOk w = true ∧ q = .rt (.tup [.str l, .str w]) (fS S Q))
    (fun m Γ S' ⟨Q, P, x5, x6, x7, x8, x9, x10, x11, a1, a2, a3, a4, a5⟩ => by
      subst a1 a4 a5
      have l385 := a3.len h
      by_cases hi : P < Q.length
      · right
        refine ⟨fS S Q, by simp [fS]; omega, ?_⟩
        rcases ff_turn r h hm home Q P a3 Q[P] (List.getElem?_eq_getElem hi) x5 x6 x7 x8 x9 x10 x11 S with ⟨Q', y5, y6, y7, y8, y9, y10, y11, b1, b2, b3⟩ | ⟨Q', l, w, b1, b2, b3⟩
        · exact .inl ⟨385 - (P + 1), _, _, .inl b3, by omega, Q', P + 1, y5, y6, y7, y8, y9, y10, y11, rfl, b2, b1, rfl, rfl⟩
        · exact .inr (.inl ⟨_, _, b3, .inr ⟨Q', l, w, b1, b2, rfl⟩⟩)
      · left
        exact ⟨fS S Q, by simp [fS]; omega, .inl ⟨Q, _, rfl⟩⟩)
    wN 385 (by decide) [some (rA r), some (.int home), some (.loc S.length), some (.loc (S.length + 1)), some (.int (0 : Nat)), none, none, none, none, none, none, none] (fS S [q0])
    ⟨[q0], 0, none, none, none, none, none, none, none, rfl, by simp, FI.start h, rfl, rfl⟩
  unfold g_first_flaw gF
  rw [ff_head]
  rcases loop with ⟨Q, Γ, e⟩ | ⟨Q, l, w, h1, h2, e⟩
  · have e' : whileF (fTB (fOp gLt (fV 4) (fB gLen (faC (fV 2) faN)))) f_first_flaw_2 wN [some (rA r), some (.int home), some (.loc S.length), some (.loc (S.length + 1)), some (.int 0), none, none, none, none, none, none, none] (fS S [q0]) = _ := e
    refine ⟨.non, .inl rfl, by simp [nl, lf], ?_⟩
    rw [e', SR.sq_nx]
    show lvF S (.rt .non _) = _
    rw [lvF_rt]
    exact fin_drop (clo_app _ _) rfl (fz_nl (by simp [nl, lf]))
  · have e' : whileF (fTB (fOp gLt (fV 4) (fB gLen (faC (fV 2) faN)))) f_first_flaw_2 wN [some (rA r), some (.int home), some (.loc S.length), some (.loc (S.length + 1)), some (.int 0), none, none, none, none, none, none, none] (fS S [q0]) = _ := e
    refine ⟨.tup [.str l, .str w], .inr ⟨l, w, h1, h2, rfl⟩, by simp [nl, lf, lfs], ?_⟩
    rw [e', SR.sq_rt, lvF_rt]
    exact fin_drop (clo_app _ _) rfl (fz_nl (by simp [nl, lf, lfs]))
end K12

set_option Elab.async false
set_option linter.all false
set_option maxRecDepth 100000
set_option maxHeartbeats 1000000
namespace K12
open PySem G
/-! ### the digits -/
def stt (S : Sto) (n : Nat) (s : Int) : Sto := S.set n (.lst [.int s])
theorem stt_len (S : Sto) (n : Nat) (s : Int) : (stt S n s).length = S.length := by simp [stt]
theorem digit2 {S T : Sto} {n : Nat} {s many : Int} (hn : n < S.length) (h0 : 0 < many) (h1 : many < 1073741824) : g__law_digit [.loc n, .int many] (stt S n s ++ T) = .ok (.int (s % many)) (stt S n (s / many) ++ T) := by
  have h : (stt S n s ++ T)[n]? = some (.lst [.int s]) := by
    rw [List.getElem?_append_left (by rw [stt_len]; exact hn)]
    unfold stt
    exact List.getElem?_set_self hn
  rw [digit h h0 h1]
  congr 1
  rw [List.set_append_left _ _ (by rw [stt_len]; exact hn)]
  unfold stt
  rw [List.set_set]
theorem digit1 {S : Sto} {n : Nat} {s many : Int} (hn : n < S.length) (h0 : 0 < many) (h1 : many < 1073741824) : g__law_digit [.loc n, .int many] (stt S n s) = .ok (.int (s % many)) (stt S n (s / many)) := by
  have := digit2 (T := []) (s := s) hn h0 h1
  simpa using this
theorem end_at {S T : Sto} {n : Nat} {s : Int} {x : AO} : (stt S n s ++ x :: T)[S.length]? = some x := by
  rw [List.getElem?_append_right (by rw [stt_len]; exact Nat.le_refl _), stt_len, Nat.sub_self]
  rfl
theorem end_set {S T : Sto} {n : Nat} {s : Int} {x y : AO} : (stt S n s ++ x :: T).set S.length y = stt S n s ++ y :: T := by
  rw [List.set_append_right _ _ (by rw [stt_len]; exact Nat.le_refl _), stt_len, Nat.sub_self]
  rfl
theorem clo_stt {S : Sto} {n : Nat} {s s' : Int} : clo (stt S n s) (stt S n s') := by
  have := clo_set (S := stt S n s) (n := n) (o := .lst [.int s']) (by simp [lfO, lfs, lf])
  have e : (stt S n s).set n (.lst [.int s']) = stt S n s' := by unfold stt; rw [List.set_set]
  rw [e] at this
  exact this
theorem clo_stt_app {S T : Sto} {n : Nat} {s s' : Int} : clo (stt S n s) (stt S n s' ++ T) := fun i o hi e => by
  rw [List.getElem?_append_left (by rw [stt_len] at hi ⊢; exact hi)] at e
  exact clo_stt i o hi e
theorem mark_turn {S : Sto} {n : Nat} (hn : n < S.length) (many size : Int) (hm : 0 < many ∧ many < 5) (s : Int) (ps : List (Int × Int)) (hp : ps.length < 7) (k : AV) (a5 a6 : Option AV) : ∃ (s' : Int) (p : Int × Int) (b5 b6 : Option AV), f__law_mark_1 [some (.loc n), some (.int many), some (.int size), some (.loc S.length), some k, a5, a6] (stt S n s ++ [.lst (ps.map pA)]) =
    .nx [some (.loc n), some (.int many), some (.int size), some (.loc S.length), some k, b5, b6] (stt S n s' ++ [.lst ((ps ++ [p]).map pA)]) := by
  have d1 := fun s T => digit2 (S := S) (T := T) (n := n) (s := s) (many := many) hn hm.1 (by omega)
  have d2 := fun s T => digit2 (S := S) (T := T) (n := n) (s := s) (many := 7) hn (by decide) (by decide)
  have d3 := fun s T => digit2 (S := S) (T := T) (n := n) (s := s) (many := 60) hn (by decide) (by decide)
  have d4 := fun s T => digit2 (S := S) (T := T) (n := n) (s := s) (many := 4) hn (by decide) (by decide)
  have h7 : ps.length < 16777216 := by omega
  by_cases h60 : s / many / 7 % 60 = 0
  · have h4 : s / many / 7 / 60 % 4 = 0 ∨ s / many / 7 / 60 % 4 = 1 ∨ s / many / 7 / 60 % 4 = 2 ∨ s / many / 7 / 60 % 4 = 3 := by omega
    rcases h4 with h4 | h4 | h4 | h4
    · refine ⟨s / many / 7 / 60 / 4, (many, 0), some (.int many), some (.int 0), ?_⟩
      simp [f__law_mark_1, d1, d2, d3, d4, h60, h4, end_at, end_set, h7, pA]
    · refine ⟨s / many / 7 / 60 / 4, (-1, 0), some (.int (-1)), some (.int 0), ?_⟩
      simp [f__law_mark_1, d1, d2, d3, d4, h60, h4, end_at, end_set, h7, pA]
    · refine ⟨s / many / 7 / 60 / 4, (0, 4), some (.int 0), some (.int 4), ?_⟩
      simp [f__law_mark_1, d1, d2, d3, d4, h60, h4, end_at, end_set, h7, pA]
    · refine ⟨s / many / 7 / 60 / 4, (0, -4), some (.int 0), some (.int (-4)), ?_⟩
      simp [f__law_mark_1, d1, d2, d3, d4, h60, h4, end_at, end_set, h7, pA]
  · have h60' : (s / many / 7 % 60 == 0) = false := by simpa using h60
    refine ⟨s / many / 7 / 60, (s % many, s / many % 7 - 3), some (.int (s % many)), some (.int (s / many % 7 - 3)), ?_⟩
    simp [f__law_mark_1, d1, d2, d3, d4, h60, h60', end_at, end_set, h7, pA]
theorem mark_loop {S : Sto} {n : Nat} (hn : n < S.length) (many size : Int) (hm : 0 < many ∧ many < 5) (all : List AV) : ∀ (xs : List AV) (s : Int) (ps : List (Int × Int)) (a4 a5 a6 : Option AV), ps.length + xs.length ≤ 7 →
    ∃ (s' : Int) (ps' : List (Int × Int)) (b4 b5 b6 : Option AV), ps'.length ≤ 7 ∧ loopF all none (gN 4) f__law_mark_1 xs [some (.loc n), some (.int many), some (.int size), some (.loc S.length), a4, a5, a6] (stt S n s ++ [.lst (ps.map pA)]) =
      .nx [some (.loc n), some (.int many), some (.int size), some (.loc S.length), b4, b5, b6] (stt S n s' ++ [.lst (ps'.map pA)])
  | [], s, ps, a4, a5, a6, h => ⟨s, ps, a4, a5, a6, by simpa using h, loop_nil⟩
  | x :: xs, s, ps, a4, a5, a6, h => by
    rw [List.length_cons] at h
    obtain ⟨s1, p, b5, b6, e⟩ := mark_turn hn many size hm s ps (by omega) x a5 a6
    obtain ⟨s2, ps2, c4, c5, c6, l, e2⟩ := mark_loop hn many size hm all xs s1 (ps ++ [p]) (some x) b5 b6 (by simp; omega)
    refine ⟨s2, ps2, c4, c5, c6, l, ?_⟩
    rw [loop_cons rfl]
    show (match f__law_mark_1 [some (.loc n), some (.int many), some (.int size), some (.loc S.length), some x, a5, a6] (stt S n s ++ [.lst (ps.map pA)]) with
      | .nx Γ2 S2 => loopF all none (gN 4) f__law_mark_1 xs Γ2 S2
      | .ct Γ2 S2 => loopF all none (gN 4) f__law_mark_1 xs Γ2 S2
      | .bk Γ2 S2 => .nx Γ2 S2
      | r => r) = _
    rw [e]
    exact e2
theorem mL_nl (m : Mark) : nl (mL m) = true := by
  unfold nl mL lf
  exact lfs_all fun x hx => by
    obtain ⟨p, _, rfl⟩ := List.mem_map.mp hx
    simp [pA, lf, lfs]
theorem size_ok {S : Sto} {n : Nat} (hn : n < S.length) (many : Int) (s : Int) : ∃ (z : Nat) (s1 : Int), z ≤ 7 ∧ (fAsg 2 (fIfE (fTB (fOp gGt (fCall 2 g__law_digit (faC (fV 0) (faC (fC (.int 9)) faN))) (fC (.int 0)))) (fC (.int 6)) (fOp gAdd (fC (.int 5)) (fOp gMul (fC (.int 2)) (fCall 2 g__law_digit (faC (fV 0) (faC (fC (.int 2)) faN))))))) (sl0 7 [.loc n, .int many]) (stt S n s) =
      .nx [some (.loc n), some (.int many), some (.int z), none, none, none, none] (stt S n s1) := by
  have d1 := fun s => digit1 (S := S) (n := n) (s := s) (many := 9) hn (by decide) (by decide)
  have d2 := fun s => digit1 (S := S) (n := n) (s := s) (many := 2) hn (by decide) (by decide)
  by_cases h9 : 0 < s % 9
  · exact ⟨6, s / 9, by omega, by simp [d1, h9]⟩
  · have h2 : s / 9 % 2 = 0 ∨ s / 9 % 2 = 1 := by omega
    have hmul : ∀ b S, gMul (.int 2) (.int b) S = .ok (.int (2 * b)) S := fun b S => gMul_ok _ _ _ (IntMulOk.of_left (intBits_le_64 (by omega) (by omega)))
    rcases h2 with h2 | h2
    · exact ⟨5, s / 9 / 2, by omega, by simp [d1, d2, h9, h2, hmul]⟩
    · exact ⟨7, s / 9 / 2, by omega, by simp [d1, d2, h9, h2, hmul]⟩
theorem rng (z : Nat) (hz : z ≤ 1000) (a b c d e f : Option AV) (S : Sto) : fiR (fV 2) [a, b, some (.int z), c, d, e, f] S = .ok ((List.range z).map fun (i : Nat) => AV.int i, none) S := by
  have h1 : (z : Int) < 2 ^ 62 ∧ -(2 ^ 62) ≤ (z : Int) := by omega
  rw [fiR_ap]
  simp only [fV_ap]
  show XR.bind (.ok (.int z) S) firK = _
  rw [XR.bind_ok, firK_ap, if_pos h1]
  simp
theorem mark_ok {S : Sto} {n : Nat} (hn : n < S.length) (many : Int) (hm : 0 < many ∧ many < 5) (s : Int) : ∃ (m : Mark) (s' : Int), m.length ≤ 7 ∧ g__law_mark [.loc n, .int many] (stt S n s) = .ok (mL m) (stt S n s') := by
  obtain ⟨z, s1, hz, e1⟩ := size_ok hn many s
  obtain ⟨s2, ps, b4, b5, b6, l, e2⟩ := mark_loop hn many z hm ((List.range z).map fun (i : Nat) => AV.int i) ((List.range z).map fun (i : Nat) => AV.int i) s1 [] none none none (by rw [List.length_map, List.length_range]; simpa using hz)
  refine ⟨ps, s2, l, ?_⟩
  have e4 : ∀ Γ S, Γ = [some (.loc n), some (.int many), some (.int z), none, none, none, none] → fAsg 3 (fLstM faN) Γ S = .nx [some (.loc n), some (.int many), some (.int z), some (.loc S.length), none, none, none] (S ++ [.lst []]) := fun Γ S e => by subst e; simp
  have e : f__law_mark (sl0 7 [.loc n, .int many]) (stt S n s) = .rt (.loc S.length) (stt S n s2 ++ [.lst (ps.map pA)]) := by
    unfold f__law_mark
    rw [fSeq_ap, e1, SR.sq_nx, fSeq_ap, e4 _ _ rfl, SR.sq_nx, fSeq_ap, stt_len]
    rw [for_eq (rng z (by omega) _ _ _ _ _ _ _)]
    have e3 : loopF ((List.range z).map fun (i : Nat) => AV.int i) none (gN 4) f__law_mark_1 ((List.range z).map fun (i : Nat) => AV.int i) [some (.loc n), some (.int many), some (.int z), some (.loc S.length), none, none, none] (stt S n s1 ++ [.lst []]) = _ := e2
    rw [e3, SR.sq_nx]
    simp
  unfold g__law_mark gF
  rw [e, lvF_rt]
  refine fin_drop clo_stt_app (by rw [stt_len, stt_len]) ?_
  unfold fz
  dsimp only
  rw [if_neg (by rw [stt_len]; exact Nat.lt_irrefl _), end_at]
  dsimp only
  have := mL_nl ps
  unfold nl mL lf at this
  rw [if_pos (lfs_mono (Nat.zero_le _) this)]
  rfl
end K12

set_option Elab.async false
set_option linter.all false
set_option maxRecDepth 100000
set_option maxHeartbeats 1000000
namespace K12
open PySem G
/-! ### rules drawn -/
theorem stt_app {S T : Sto} {n : Nat} {s : Int} (hn : n < S.length) : stt S n s ++ T = stt (S ++ T) n s := by
  unfold stt
  rw [List.set_append_left _ _ hn]
theorem ex_map {α β : Type} {f : α → β} {P : α → Prop} : ∀ {us : List β}, (∀ u ∈ us, ∃ x, u = f x ∧ P x) → ∃ xs : List α, us = xs.map f ∧ ∀ x ∈ xs, P x
  | [], _ => ⟨[], rfl, fun x h => by cases h⟩
  | u :: us, h => by
    obtain ⟨x, e, p⟩ := h u (List.mem_cons_self ..)
    obtain ⟨xs, e2, p2⟩ := ex_map (us := us) fun v hv => h v (List.mem_cons_of_mem _ hv)
    refine ⟨x :: xs, by rw [e, e2]; rfl, fun y hy => ?_⟩
    rcases List.mem_cons.mp hy with q | q
    · rw [q]; exact p
    · exact p2 y q
theorem rng3 (z : Nat) (hz : z ≤ 1000) (a c : Option AV) (S : Sto) : fiR (fV 1) [a, some (.int z), c] S = .ok ((List.range z).map fun (i : Nat) => AV.int i, none) S := by
  have h1 : (z : Int) < 2 ^ 62 ∧ -(2 ^ 62) ≤ (z : Int) := by omega
  rw [fiR_ap]
  simp only [fV_ap]
  show XR.bind (.ok (.int z) S) firK = _
  rw [XR.bind_ok, firK_ap, if_pos h1]
  simp
theorem ru0 {S : Sto} {n : Nat} (hn : n < S.length) (s : Int) (h9 : s / 4 % 9 = 0) (h2 : s / 4 / 9 % 2 = 0) : f__law_rule (sl0 3 [.loc n]) (stt S n s) = .rt (.lst (([] : List Mark).map mL)) (stt S n (s / 4 / 9 / 2)) := by
  have d1 := fun s => digit1 (S := S) (n := n) (s := s) (many := 4) hn (by decide) (by decide)
  have d2 := fun s => digit1 (S := S) (n := n) (s := s) (many := 9) hn (by decide) (by decide)
  have d3 := fun s => digit1 (S := S) (n := n) (s := s) (many := 2) hn (by decide) (by decide)
  simp [f__law_rule, d1, d2, d3, h9, h2]
theorem ru1 {S : Sto} {n : Nat} (hn : n < S.length) (s : Int) (h9 : s / 4 % 9 = 0) (h2 : s / 4 / 9 % 2 = 1) : f__law_rule (sl0 3 [.loc n]) (stt S n s) = .rt (.lst ((List.replicate 5 (List.replicate 6 (0, 0)) : List Mark).map mL)) (stt S n (s / 4 / 9 / 2)) := by
  have d1 := fun s => digit1 (S := S) (n := n) (s := s) (many := 4) hn (by decide) (by decide)
  have d2 := fun s => digit1 (S := S) (n := n) (s := s) (many := 9) hn (by decide) (by decide)
  have d3 := fun s => digit1 (S := S) (n := n) (s := s) (many := 2) hn (by decide) (by decide)
  simp [f__law_rule, d1, d2, d3, h9, h2, mL, pA]
theorem ru2 {S : Sto} {n : Nat} (hn : n < S.length) (s : Int) (z : Nat) (hz : 1 + s % 4 = (z : Int)) (h9' : (s / 4 % 9 == 0) = false) (r : List Mark) (s2 : Int) (h4 : fLc (fiR (fV 1)) (gN 2) fTrue (fCall 2 g__law_mark (faC (fV 0) (faC (fV 1) faN))) [2] [some (.loc n), some (.int z), none] (stt S n (s / 4 / 9)) = .ok (.lst (r.map mL)) (stt S n s2)) : f__law_rule (sl0 3 [.loc n]) (stt S n s) = .rt (.lst (r.map mL)) (stt S n s2) := by
  have d1 := fun s => digit1 (S := S) (n := n) (s := s) (many := 4) hn (by decide) (by decide)
  have d2 := fun s => digit1 (S := S) (n := n) (s := s) (many := 9) hn (by decide) (by decide)
  have d3 := fun s => digit1 (S := S) (n := n) (s := s) (many := 2) hn (by decide) (by decide)
  have e1 : fAsg 1 (fOp gAdd (fC (.int 1)) (fCall 2 g__law_digit (faC (fV 0) (faC (fC (.int 4)) faN)))) (sl0 3 [.loc n]) (stt S n s) = .nx [some (.loc n), some (.int z), none] (stt S n (s / 4)) := by
    simp [d1, hz]
  have e2 : ∀ a, fIf (fTB (fOp gEq (fCall 2 g__law_digit (faC (fV 0) (faC (fC (.int 9)) faN))) (fC (.int 0)))) a fNx [some (.loc n), some (.int z), none] (stt S n (s / 4)) = .nx [some (.loc n), some (.int z), none] (stt S n (s / 4 / 9)) := fun a => by
    simp [d2, h9']
  unfold f__law_rule
  rw [fSeq_ap, e1, SR.sq_nx, fSeq_ap, e2, SR.sq_nx, fRet_ap, h4, XR.st_ok, retK_ap]
theorem rL_nl (r : List Mark) : nl (.lst (r.map mL)) = true := by
  unfold nl lf
  exact lfs_all fun x hx => by
    obtain ⟨m, _, rfl⟩ := List.mem_map.mp hx
    exact mL_nl m
theorem rule_ok {S : Sto} {n : Nat} (hn : n < S.length) (s : Int) : ∃ (r : List Mark) (s' : Int), r.length ≤ 1000 ∧ (∀ m ∈ r, m.length ≤ 1000) ∧ g__law_rule [.loc n] (stt S n s) = .ok (.lst (r.map mL)) (stt S n s') := by
  obtain ⟨z, hz⟩ : ∃ z : Nat, 1 + s % 4 = (z : Int) := ⟨(1 + s % 4).toNat, by omega⟩
  have leave : ∀ (r : List Mark) s', lvF (stt S n s) (.rt (.lst (r.map mL)) (stt S n s')) = .ok (.lst (r.map mL)) (stt S n s') := fun r s' => by
    rw [lvF_rt]
    exact fin_keep clo_stt (by rw [stt_len, stt_len]) (rL_nl r)
  unfold g__law_rule gF
  by_cases h9 : s / 4 % 9 = 0
  · have h2 : s / 4 / 9 % 2 = 0 ∨ s / 4 / 9 % 2 = 1 := by omega
    rcases h2 with h2 | h2
    · exact ⟨[], s / 4 / 9 / 2, by decide, by simp, by rw [ru0 hn s h9 h2]; exact leave [] _⟩
    · exact ⟨List.replicate 5 (List.replicate 6 (0, 0)), s / 4 / 9 / 2, by decide, fun m hm => by rw [(List.mem_replicate.mp hm).2]; decide, by rw [ru1 hn s h9 h2]; exact leave _ _⟩
  · have h9' : (s / 4 % 9 == 0) = false := by simpa using h9
    have lc := fLc_st (it := fiR (fV 1)) (g := gN 2) (te := fCall 2 g__law_mark (faC (fV 0) (faC (fV 1) faN))) (vs := [2]) (Γ := [some (.loc n), some (.int z), none]) (S := stt S n (s / 4 / 9)) (S1 := stt S n (s / 4 / 9)) (xs := (List.range z).map fun (i : Nat) => AV.int i)
      (J := fun S' => ∃ s, S' = stt S n s) (P := fun u => ∃ m : Mark, u = mL m ∧ m.length ≤ 7) (rng3 z (by omega) _ _ _) (by rw [List.length_map, List.length_range, sizeLine_is]; omega) ⟨_, rfl⟩ (fun S' ⟨s, e⟩ => by subst e; exact ⟨by rw [stt_len, stt_len], clo_stt⟩)
      (fun x hx S' acc ⟨s, e⟩ => by
        subst e
        obtain ⟨m, s', hl, e⟩ := mark_ok (S := S ++ [.lst acc]) (n := n) (by rw [List.length_append]; omega) z (by omega) s
        refine ⟨_, mL m, stt S n s', rfl, ?_, ⟨s', rfl⟩, ⟨m, rfl, hl⟩, mL_nl m⟩
        rw [stt_app hn, stt_app hn]
        simp [e])
    obtain ⟨us, S2, ⟨s2, rfl⟩, h2, h3, h4⟩ := lc
    obtain ⟨r, rfl, hr⟩ := ex_map fun u hu => (h2 u hu).1
    rw [List.length_map, List.length_map, List.length_range] at h3
    exact ⟨r, s2, by omega, fun m hm => by have := hr m hm; omega, by rw [ru2 hn s z hz h9' r s2 h4]; exact leave _ _⟩
/-! ### the digit stream -/
def PR : Int := 618970019642690137449562111
theorem intBits_le {k : Int} {n : Nat} (h : k.natAbs < 2 ^ n) : Builtin.Int.intBits k ≤ n := by
  unfold Builtin.Int.intBits
  split
  · exact Nat.zero_le _
  · rename_i h0
    have hp : k.natAbs ≠ 0 := by
      intro z
      apply h0
      simp [Int.natAbs_eq_zero.mp z]
    have := (Nat.log2_lt hp).mpr h
    omega
theorem mul_small {a b : Int} (ha : a.natAbs < 2 ^ 600) (hb : b.natAbs < 2 ^ 600) : IntMulOk a b := by
  have h1 := intBits_le ha
  have h2 := intBits_le hb
  unfold IntMulOk
  have : Builtin.Int.intTooBig ((Builtin.Int.intBits a : Nat) + (Builtin.Int.intBits b : Nat)) = false := by
    unfold Builtin.Int.intTooBig
    exact decide_eq_false (by unfold bitsLine; omega)
  simp [this]

/-- one turn of the stream -/
theorem start_turn (scr : AV) (k t : Nat) (hk : k < 100) (ht : t < 6) (cell mixed number : Int) (h1 : 0 ≤ mixed ∧ mixed < 2 ^ 89) (h2 : 0 ≤ number ∧ number < 2 ^ (89 * t)) (x6 : Option AV) (S : Sto) :
    ∃ m' n' : Int, (0 ≤ m' ∧ m' < 2 ^ 89) ∧ (0 ≤ n' ∧ n' < 2 ^ (89 * (t + 1))) ∧ f__law_start_1 [some scr, some (.int k), some (.int cell), some (.int 618970019642690137449562111), some (.int mixed), some (.int number), some (.int t)] S =
      .nx [some scr, some (.int k), some (.int cell), some (.int 618970019642690137449562111), some (.int m'), some (.int n'), some (.int t)] S := by
  have hp : (2 : Int) ^ 89 = 618970019642690137449562112 := by decide +kernel
  have hmx : mixed.natAbs < 2 ^ 600 := by
    have : mixed.natAbs < 2 ^ 89 := by omega
    exact Nat.lt_of_lt_of_le this (Nat.pow_le_pow_right (by decide) (by decide))
  have p1 : gMul (.int mixed) (.int mixed) S = .ok (.int (mixed * mixed)) S := gMul_ok _ _ _ (mul_small hmx hmx)
  have p2 : gMul (.int 7) (.int mixed) S = .ok (.int (7 * mixed)) S := gMul_ok _ _ _ (IntMulOk.of_left (intBits_le_64 (by omega) (by omega)))
  have p3 : gMul (.int 131) (.int k) S = .ok (.int (131 * k)) S := gMul_ok _ _ _ (IntMulOk.of_left (intBits_le_64 (by omega) (by omega)))
  have p4 : gMul (.int number) (.int 618970019642690137449562111) S = .ok (.int (number * 618970019642690137449562111)) S := by
    refine gMul_ok _ _ _ (mul_small ?_ ?_)
    · have h : number.natAbs < 2 ^ (89 * t) := by
        apply Int.ofNat_lt.mp
        rw [Int.natAbs_of_nonneg h2.1]
        have := h2.2
        simpa using this
      exact Nat.lt_of_lt_of_le h (Nat.pow_le_pow_right (by decide) (by omega))
    · have : (618970019642690137449562111 : Int).natAbs < 2 ^ 89 := by decide +kernel
      exact Nat.lt_of_lt_of_le this (Nat.pow_le_pow_right (by decide) (by decide))
  refine ⟨(mixed * mixed + 7 * mixed + 131 * k + t + 3) % 618970019642690137449562111, number * 618970019642690137449562111 + (mixed * mixed + 7 * mixed + 131 * k + t + 3) % 618970019642690137449562111, ?_, ?_, ?_⟩
  · constructor
    · exact Int.emod_nonneg _ (by decide)
    · have := Int.emod_lt_of_pos (mixed * mixed + 7 * mixed + 131 * k + t + 3) (b := 618970019642690137449562111) (by decide)
      rw [hp]
      omega
  · have a1 := Int.emod_nonneg (mixed * mixed + 7 * mixed + 131 * k + t + 3) (b := 618970019642690137449562111) (by decide)
    have a2 := Int.emod_lt_of_pos (mixed * mixed + 7 * mixed + 131 * k + t + 3) (b := 618970019642690137449562111) (by decide)
    generalize (mixed * mixed + 7 * mixed + 131 * k + t + 3) % 618970019642690137449562111 = q at a1 a2
    have e : (2 : Int) ^ (89 * (t + 1)) = 2 ^ (89 * t) * 618970019642690137449562112 := by
      rw [← hp, ← Int.pow_add]
      congr 1
    rw [e]
    generalize (2 : Int) ^ (89 * t) = w at h2
    omega
  · simp [f__law_start_1, p1, p2, p3, p4]

theorem start_loop (scr : AV) (k : Nat) (hk : k < 100) (cell : Int) (all : List AV) (S : Sto) : ∀ (j t : Nat) (mixed number : Int) (x6 : Option AV), t + j ≤ 6 → (0 ≤ mixed ∧ mixed < 2 ^ 89) → (0 ≤ number ∧ number < 2 ^ (89 * t)) →
    ∃ (m' n' : Int) (y6 : Option AV), loopF all none (gN 6) f__law_start_1 ((List.range' t j).map fun (i : Nat) => AV.int i) [some scr, some (.int k), some (.int cell), some (.int 618970019642690137449562111), some (.int mixed), some (.int number), x6] S =
      .nx [some scr, some (.int k), some (.int cell), some (.int 618970019642690137449562111), some (.int m'), some (.int n'), y6] S
  | 0, t, mixed, number, x6, _, _, _ => ⟨mixed, number, x6, loop_nil⟩
  | j + 1, t, mixed, number, x6, h, h1, h2 => by
    obtain ⟨m1, n1, a1, a2, e⟩ := start_turn scr k t hk (by omega) cell mixed number h1 h2 x6 S
    obtain ⟨m2, n2, y6, e2⟩ := start_loop scr k hk cell all S j (t + 1) m1 n1 (some (.int t)) (by omega) a1 a2
    refine ⟨m2, n2, y6, ?_⟩
    rw [List.range'_succ, List.map_cons, loop_cons rfl]
    show (match f__law_start_1 [some scr, some (.int k), some (.int cell), some (.int 618970019642690137449562111), some (.int mixed), some (.int number), some (.int t)] S with
      | .nx Γ2 S2 => loopF all none (gN 6) f__law_start_1 _ Γ2 S2
      | .ct Γ2 S2 => loopF all none (gN 6) f__law_start_1 _ Γ2 S2
      | .bk Γ2 S2 => .nx Γ2 S2
      | r => r) = _
    rw [e]
    exact e2
theorem start_head (ns : List Int) (k : Nat) (hk : k < 100) (hl : ns.length ≤ 63) (S : Sto) : ∃ cell : Int, (∀ rest, fSeq (fAsg 2 (fC (.int 0))) (fSeq (fIf (fTB (fOp gGt (fB gLen (faC (fV 0) faN)) (fC (.int 0)))) (fAsg 2 (fB gInt (faC (fOp gIx (fV 0) (fOp gMod (fB gInt (faC (fV 1) faN)) (fB gLen (faC (fV 0) faN)))) faN))) fNx) rest) (sl0 7 [.scr (ns.map AV.int), .int k]) S = rest [some (.scr (ns.map AV.int)), some (.int k), some (.int cell), none, none, none, none] S) := by
  by_cases h : ns = []
  · subst h
    exact ⟨0, fun rest => by simp⟩
  · have hp : 0 < ns.length := List.length_pos_iff.mpr h
    have hq : (0 : Int) < ns.length := by omega
    have q0 : 0 ≤ (k : Int) % (ns.length : Int) := Int.emod_nonneg _ (by omega)
    have q1 : (k : Int) % (ns.length : Int) < (ns.length : Int) := Int.emod_lt_of_pos _ hq
    have q2 : ((k : Int) % (ns.length : Int)).toNat < ns.length := by omega
    refine ⟨ns[((k : Int) % (ns.length : Int)).toNat], fun rest => ?_⟩
    simp only [fSeq_ap, fAsg_ap, fC_ap, XR.st_ok, asgK_ap, SR.sq_nx, sl0]
    simp [hq, hp, q0, q1, List.getElem?_eq_getElem q2]
theorem start_ok (ns : List Int) (k : Nat) (hk : k < 100) (hl : ns.length ≤ 63) (S : Sto) : ∃ s : Int, g__law_start [.scr (ns.map AV.int), .int k] S = .ok (.loc S.length) (S ++ [.lst [.int s]]) := by
  obtain ⟨cell, e0⟩ := start_head ns k hk hl S
  have leave : ∀ s : Int, lvL S (.rt (.loc S.length) (S ++ [.lst [.int s]])) = .ok (.loc S.length) (S ++ [.lst [.int s]]) := fun s => lvL_ok (by simp [lfO, lfs, lf])
  unfold g__law_start gF f__law_start
  rw [e0]
  have hmul1 : ∀ S, gMul (.int cell) (.int 2654435761) S = .ok (.int (cell * 2654435761)) S := fun S => gMul_ok _ _ _ (IntMulOk.of_right (intBits_le_64 (by omega) (by omega)))
  have hmul2 : ∀ b S, gMul (.int b) (.int 6700417) S = .ok (.int (b * 6700417)) S := fun b S => gMul_ok _ _ _ (IntMulOk.of_right (intBits_le_64 (by omega) (by omega)))
  have hmul3 : ∀ b S, gMul (.int b) (.int 6700417) S = .ok (.int (b * 6700417)) S := hmul2
  rw [fSeq_ap]
  by_cases hA : (k : Int) < ns.length ∧ (10 : Int) ^ 18 ≤ (if cell < 0 then -cell else cell)
  · have e1 : fIf (fAnd (fTB (fOp gLt (fV 1) (fB gLen (faC (fV 0) faN)))) (fTB (fOp gGe (fB gAbs (faC (fV 2) faN)) (fOp gPow (fC (.int 10)) (fC (.int 18)))))) (fRet (fLstM (faC (fB gAbs (faC (fV 2) faN)) faN))) fNx [some (.scr (ns.map AV.int)), some (.int k), some (.int cell), none, none, none, none] S = .rt (.loc S.length) (S ++ [.lst [.int (if cell < 0 then -cell else cell)]]) := by
      have h2 : decide ((10 : Int) ^ 18 ≤ (if cell < 0 then -cell else cell)) = true := decide_eq_true hA.2
      have h1 : (k : Int) < ns.length := hA.1
      simp at h1 h2
      simp [h1, h2]
    rw [e1, SR.sq_rt]
    exact ⟨_, leave _⟩
  · have e1 : fIf (fAnd (fTB (fOp gLt (fV 1) (fB gLen (faC (fV 0) faN)))) (fTB (fOp gGe (fB gAbs (faC (fV 2) faN)) (fOp gPow (fC (.int 10)) (fC (.int 18)))))) (fRet (fLstM (faC (fB gAbs (faC (fV 2) faN)) faN))) fNx [some (.scr (ns.map AV.int)), some (.int k), some (.int cell), none, none, none, none] S = .nx [some (.scr (ns.map AV.int)), some (.int k), some (.int cell), none, none, none, none] S := by
      by_cases h1 : (k : Int) < ns.length
      · have h2 : ¬ (10 : Int) ^ 18 ≤ (if cell < 0 then -cell else cell) := fun z => hA ⟨h1, z⟩
        simp at h1 h2
        simp [h1, h2]
      · simp at h1
        simp [h1]
        omega
    rw [e1, SR.sq_nx]
    have e2 : ∀ rest, fSeq (fAsg 3 (fC (.int 618970019642690137449562111))) (fSeq (fAsg 4 (fOp gMod (fB gInt (faC (fOp gAdd (fOp gAdd (fOp gMul (fV 2) (fC (.int 2654435761))) (fOp gMul (fOp gAdd (fV 1) (fC (.int 1))) (fC (.int 6700417)))) (fC (.int 11))) faN)) (fV 3))) (fSeq (fAsg 5 (fC (.int 0))) rest)) [some (.scr (ns.map AV.int)), some (.int k), some (.int cell), none, none, none, none] S =
        rest [some (.scr (ns.map AV.int)), some (.int k), some (.int cell), some (.int 618970019642690137449562111), some (.int ((cell * 2654435761 + (k + 1) * 6700417 + 11) % 618970019642690137449562111)), some (.int 0), none] S := fun rest => by
      simp [hmul1, hmul2]
    rw [e2, fSeq_ap]
    have hp : (2 : Int) ^ 89 = 618970019642690137449562112 := by decide +kernel
    have a1 := Int.emod_nonneg (cell * 2654435761 + (k + 1) * 6700417 + 11) (b := 618970019642690137449562111) (by decide)
    have a2 := Int.emod_lt_of_pos (cell * 2654435761 + (k + 1) * 6700417 + 11) (b := 618970019642690137449562111) (by decide)
    obtain ⟨m', n', y6, e3⟩ := start_loop (.scr (ns.map AV.int)) k hk cell ((List.range' 0 6).map fun (i : Nat) => AV.int i) S 6 0 ((cell * 2654435761 + (k + 1) * 6700417 + 11) % 618970019642690137449562111) 0 none (by omega) ⟨a1, by rw [hp]; omega⟩ ⟨Int.le_refl _, by decide⟩
    have e4 : fiR (fC (.int 6)) [some (.scr (ns.map AV.int)), some (.int k), some (.int cell), some (.int 618970019642690137449562111), some (.int ((cell * 2654435761 + (k + 1) * 6700417 + 11) % 618970019642690137449562111)), some (.int 0), none] S = .ok ((List.range' 0 6).map fun (i : Nat) => AV.int i, none) S := by
      rw [fiR_ap, fC_ap, XR.bind_ok, firK_ap, if_pos (by decide)]
      rw [List.range_eq_range']
      rfl
    rw [for_eq e4, e3, SR.sq_nx]
    refine ⟨n', ?_⟩
    rw [show (fRet (fLstM (faC (fV 5) faN))) [some (.scr (ns.map AV.int)), some (.int k), some (.int cell), some (.int 618970019642690137449562111), some (.int m'), some (.int n'), y6] S = .rt (.loc S.length) (S ++ [.lst [.int n']]) by simp]
    exact leave _
end K12

set_option Elab.async false
set_option linter.all false
set_option maxRecDepth 100000
set_option maxHeartbeats 1000000
namespace K12
open PySem G
/-! ### rows that are not held -/
theorem poss_nil (r : Row) (hm : ¬ r.mode = "held") (n : Node) (f : Bool) : poss r n f = [] := by
  unfold poss
  refine List.filter_eq_nil_iff.mpr fun e _ => ?_
  unfold can
  have : (r.mode != "held") = true := by simpa [bne] using hm
  rw [this]
  simp
theorem chart_turn0 (r : Row) (h : WOk r) (hm : ¬ r.mode = "held") (x4 x5 x6 x7 : Option AV) (S : Sto) :
    f_chart_2 [some (rA r), some (.loc S.length), some (.loc (S.length + 1)), some (.int (0 : Nat)), x4, x5, x6, x7] (cS S [(n0, "")]) = .nx [some (rA r), some (.loc S.length), some (.loc (S.length + 1)), some (.int (1 : Nat)), some (nA n0), some (.str ""), x6, x7] (cS S [(n0, "")]) := by
  have hq : ∀ S, gEqB (.str "") (.str "") S = .ok (("" : Str) == "") S := fun S => gEqB_str (by decide +kernel) (by decide +kernel)
  have hp := fun S => possible r n0 (("" : Str) == "") h.toROk (st3_ok (.inl rfl)) S
  have hpn := poss_nil r hm n0 (("" : Str) == "")
  rw [hpn] at hp
  have e1 : fUnp [4, 5] (fOp gIx (fV 1) (fV 3)) [some (rA r), some (.loc S.length), some (.loc (S.length + 1)), some (.int (0 : Nat)), x4, x5, x6, x7] (cS S [(n0, "")]) = .nx [some (rA r), some (.loc S.length), some (.loc (S.length + 1)), some (.int (0 : Nat)), some (nA n0), some (.str ""), x6, x7] (cS S [(n0, "")]) := by
    simp [cS, eA]
  have e2 : (fiV (fCall 3 g_possible (faC (fV 0) (faC (fV 4) (faC (fOp gEq (fV 5) (fC (AV.str (Str.ofString "")))) faN))))) [some (rA r), some (.loc S.length), some (.loc (S.length + 1)), some (.int (0 : Nat)), some (nA n0), some (.str ""), x6, x7] (cS S [(n0, "")]) = .ok ([], none) (cS S [(n0, "")]) := by
    have hj : (Str.join "" ([] : List Str)).cps.toList.map (fun c => AV.str ⟨#[c]⟩) = [] := by
      have : (Str.join "" ([] : List Str)).cps.toList = [] := by decide +kernel
      rw [this]
      rfl
    simp only [fiV_ap, fCall_ap, faC_ap, fV_ap, fOp_ap, fC_ap]
    simp [hq]
    have hp' := hp (cS S [(n0, "")])
    simp at hp'
    rw [hp', XR.bind_ok, fivK_str, hj]
  unfold f_chart_2
  rw [fSeq_ap, e1, SR.sq_nx, fSeq_ap, for_eq e2, loop_nil, SR.sq_nx]
  simp
theorem chart_plain (r : Row) (h : WOk r) (hm : ¬ r.mode = "held") (S : Sto) : g_chart [rA r] S = .ok (.lst [eA (n0, "")]) S := by
  have loop := while_run (t := fTB (fOp gLt (fV 3) (fB gLen (faC (fV 1) faN)))) (b := f_chart_2)
    (I := fun m Γ S' => ∃ i x4 x5 x6 x7, (i = 0 ∧ m = 1 ∨ i = 1 ∧ m = 0) ∧ S' = cS S [(n0, "")] ∧ Γ = [some (rA r), some (.loc S.length), some (.loc (S.length + 1)), some (.int (i : Nat)), x4, x5, x6, x7])
    (R := fun q => ∃ x3 x4 x5 x6 x7, q = .nx [some (rA r), some (.loc S.length), some (.loc (S.length + 1)), x3, x4, x5, x6, x7] (cS S [(n0, "")]))
    (fun m Γ S' ⟨i, x4, x5, x6, x7, a1, a4, a5⟩ => by
      subst a4 a5
      rcases a1 with ⟨rfl, rfl⟩ | ⟨rfl, rfl⟩
      · right
        exact ⟨cS S [(n0, "")], by simp [cS], .inl ⟨0, _, _, .inl (chart_turn0 r h hm x4 x5 x6 x7 S), by decide, 1, _, _, _, _, .inr ⟨rfl, rfl⟩, rfl, rfl⟩⟩
      · left
        exact ⟨cS S [(n0, "")], by simp [cS], _, x4, x5, x6, x7, rfl⟩)
    wN 1 (by decide) [some (rA r), some (.loc S.length), some (.loc (S.length + 1)), some (.int (0 : Nat)), none, none, none, none] (cS S [(n0, "")])
    ⟨0, none, none, none, none, .inl ⟨rfl, rfl⟩, rfl, rfl⟩
  obtain ⟨x3, x4, x5, x6, x7, e⟩ := loop
  unfold g_chart gF
  rw [chart_head]
  have e' : whileF (fTB (fOp gLt (fV 3) (fB gLen (faC (fV 1) faN)))) f_chart_2 wN [some (rA r), some (.loc S.length), some (.loc (S.length + 1)), some (.int 0), none, none, none, none] (cS S [(n0, "")]) = _ := e
  rw [e', SR.sq_nx]
  rw [show (fRet (fV 1)) [some (rA r), some (.loc S.length), some (.loc (S.length + 1)), x3, x4, x5, x6, x7] (cS S [(n0, "")]) = .rt (.loc S.length) (cS S [(n0, "")]) by simp, lvF_rt]
  refine fin_drop (clo_app _ _) rfl ?_
  have := nlA [(n0, "")]
  unfold fz
  simp at this
  simp [lfs_mono (Nat.zero_le _) this]
theorem ff_turn0 (r : Row) (h : WOk r) (hm : ¬ r.mode = "held") (home : Int) (x5 x6 x7 x8 x9 x10 x11 : Option AV) (S : Sto) :
    f_first_flaw_2 [some (rA r), some (.int home), some (.loc S.length), some (.loc (S.length + 1)), some (.int (0 : Nat)), x5, x6, x7, x8, x9, x10, x11] (fS S [q0]) = .nx [some (rA r), some (.int home), some (.loc S.length), some (.loc (S.length + 1)), some (.int (1 : Nat)), some (nA n0), some (.int 0), some (.str ""), x8, x9, x10, x11] (fS S [q0]) := by
  have hq : ∀ S, gEqB (.str "") (.str "") S = .ok (("" : Str) == "") S := fun S => gEqB_str (by decide +kernel) (by decide +kernel)
  have hp := fun S => possible r n0 (("" : Str) == "") h.toROk (st3_ok (.inl rfl)) S
  have hpn := poss_nil r hm n0 (("" : Str) == "")
  rw [hpn] at hp
  have e1 : fUnp [5, 6, 7] (fOp gIx (fV 2) (fV 4)) [some (rA r), some (.int home), some (.loc S.length), some (.loc (S.length + 1)), some (.int (0 : Nat)), x5, x6, x7, x8, x9, x10, x11] (fS S [q0]) = .nx [some (rA r), some (.int home), some (.loc S.length), some (.loc (S.length + 1)), some (.int (0 : Nat)), some (nA n0), some (.int 0), some (.str ""), x8, x9, x10, x11] (fS S [q0]) := by
    simp [fS, qA, q0]
  have e2 : (fiV (fCall 3 g_possible (faC (fV 0) (faC (fV 5) (faC (fOp gEq (fV 7) (fC (AV.str (Str.ofString "")))) faN))))) [some (rA r), some (.int home), some (.loc S.length), some (.loc (S.length + 1)), some (.int (0 : Nat)), some (nA n0), some (.int 0), some (.str ""), x8, x9, x10, x11] (fS S [q0]) = .ok ([], none) (fS S [q0]) := by
    have hj : (Str.join "" ([] : List Str)).cps.toList.map (fun c => AV.str ⟨#[c]⟩) = [] := by
      have : (Str.join "" ([] : List Str)).cps.toList = [] := by decide +kernel
      rw [this]
      rfl
    simp only [fiV_ap, fCall_ap, faC_ap, fV_ap, fOp_ap, fC_ap]
    simp [hq]
    have hp' := hp (fS S [q0])
    simp at hp'
    rw [hp', XR.bind_ok, fivK_str, hj]
  unfold f_first_flaw_2
  rw [fSeq_ap, e1, SR.sq_nx, fSeq_ap, for_eq e2, loop_nil, SR.sq_nx]
  simp
theorem ff_plain (r : Row) (h : WOk r) (hm : ¬ r.mode = "held") (home : Int) (S : Sto) : g_first_flaw [rA r, .int home] S = .ok .non S := by
  have loop := while_run (t := fTB (fOp gLt (fV 4) (fB gLen (faC (fV 2) faN)))) (b := f_first_flaw_2)
    (I := fun m Γ S' => ∃ i x5 x6 x7 x8 x9 x10 x11, (i = 0 ∧ m = 1 ∨ i = 1 ∧ m = 0) ∧ S' = fS S [q0] ∧ Γ = [some (rA r), some (.int home), some (.loc S.length), some (.loc (S.length + 1)), some (.int (i : Nat)), x5, x6, x7, x8, x9, x10, x11])
    (R := fun q => ∃ Γ, q = .nx Γ (fS S [q0]))
    (fun m Γ S' ⟨i, x5, x6, x7, x8, x9, x10, x11, a1, a4, a5⟩ => by
      subst a4 a5
      rcases a1 with ⟨rfl, rfl⟩ | ⟨rfl, rfl⟩
      · right
        exact ⟨fS S [q0], by simp [fS], .inl ⟨0, _, _, .inl (ff_turn0 r h hm home x5 x6 x7 x8 x9 x10 x11 S), by decide, 1, _, _, _, _, _, _, _, .inr ⟨rfl, rfl⟩, rfl, rfl⟩⟩
      · left
        exact ⟨fS S [q0], by simp [fS], _, rfl⟩)
    wN 1 (by decide) [some (rA r), some (.int home), some (.loc S.length), some (.loc (S.length + 1)), some (.int (0 : Nat)), none, none, none, none, none, none, none] (fS S [q0])
    ⟨0, none, none, none, none, none, none, none, .inl ⟨rfl, rfl⟩, rfl, rfl⟩
  obtain ⟨Γ, e⟩ := loop
  unfold g_first_flaw gF
  rw [ff_head]
  have e' : whileF (fTB (fOp gLt (fV 4) (fB gLen (faC (fV 2) faN)))) f_first_flaw_2 wN [some (rA r), some (.int home), some (.loc S.length), some (.loc (S.length + 1)), some (.int 0), none, none, none, none, none, none, none] (fS S [q0]) = _ := e
  rw [e', SR.sq_nx]
  show lvF S (.rt .non _) = _
  rw [lvF_rt]
  exact fin_drop (clo_app _ _) rfl (fz_nl (by simp [nl, lf]))
/-! ### plain rows -/
theorem still_is : c_STILL = mT zero6 := rfl
theorem wrong_still (m : Str) : wrong m "one" "always" "slot" [zero6] = if "held" = m ∨ "copied" = m ∨ "refused" = m then none else some "mode" := by
  unfold wrong
  have hk : okR [zero6] = true := by decide +kernel
  by_cases h : ("held" : Str) = m ∨ ("copied" : Str) = m ∨ ("refused" : Str) = m
  · simp [h, hk]
  · simp [h, hk]
theorem plain_row (m : Str) (hm : SOk m) (S : Sto) : g_plain_row [.str m] S = if "copied" = m ∨ "refused" = m then .ok (rowA m "one" "always" "slot" [zero6]) S else .ex 1 [("what", .str "mode")] S := by
  have q1 : ∀ S, gEqB (.str m) (.str "held") S = .ok (m == "held") S := fun S => gEqB_str hm kH
  have nls : lff 0 [(("what" : Str), AV.str ("mode" : Str))] = true := by simp [lff, lf]
  have l1 : ("mode" : Str).length = 4 := by decide +kernel
  have hn := fun S => row_new (em := mT) hem_T m "one" "always" "slot" [zero6] hm (by show PyData.strOk _ = true; decide +kernel) (by show PyData.strOk _ = true; decide +kernel) (by show PyData.strOk _ = true; decide +kernel) (by simp) S
  rw [wrong_still] at hn
  have hrow : nl (rowA m "one" "always" "slot" [zero6]) = true := by
    simp [nl, rowA, rowF, lf, lff, lfs, mT, pA]
  unfold g_plain_row gF f_plain_row
  by_cases hh : m = "held"
  · have hb : (m == "held") = true := by simp [hh]
    have : ¬ (("copied" : Str) = m ∨ ("refused" : Str) = m) := by rw [hh]; decide +kernel
    rw [if_neg this]
    simp [q1, hb, l1, lvF_ex0 nls]
  · have hb : (m == "held") = false := by simp [hh]
    have hh' : ¬ ("held" : Str) = m := fun z => hh z.symm
    by_cases hc : ("copied" : Str) = m ∨ ("refused" : Str) = m
    · rw [if_pos hc]
      have : ∀ S, gNew 2 g_Row_init [.str m, .str "one", .str "always", .str "slot", .lst [c_STILL]] S = .ok (rowA m "one" "always" "slot" [zero6]) S := fun S => by
        have := hn S
        rw [if_pos (.inr hc)] at this
        exact this
      simp [q1, hb, this]
      rw [lvF_rt]
      exact fin_self hrow
    · rw [if_neg hc]
      have : ∀ S, gNew 2 g_Row_init [.str m, .str "one", .str "always", .str "slot", .lst [c_STILL]] S = .ex 1 [("what", .str "mode")] S := fun S => by
        have := hn S
        rw [if_neg (fun z => z.elim hh' hc)] at this
        exact this
      simp [q1, hb, this, lvF_ex0 nls]
end K12

set_option Elab.async false
set_option linter.all false
set_option maxRecDepth 100000
set_option maxHeartbeats 1000000
namespace K12
open PySem G
theorem sk {s : Str} (h : PyData.strOk s = true) : SOk s := h
def lpl (m : Str) : Str := if "copied" = m ∨ "refused" = m then m else "wrong mode"
theorem law_plain (m : Str) (hm : SOk m) (S : Sto) : g__law_plain [.str m] S = .ok (.str (lpl m)) S := by
  have hp := fun S => plain_row m hm S
  have e : f__law_plain (sl0 2 [.str m]) S = .rt (.str (lpl m)) S := by
    unfold f__law_plain lpl
    by_cases hc : ("copied" : Str) = m ∨ ("refused" : Str) = m
    · rw [if_pos hc]
      refine try_rt ?_
      have hp' : ∀ S, g_plain_row [.str m] S = .ok (rA ⟨m, "one", "always", "slot", [zero6]⟩) S := fun S => by
        rw [hp S, if_pos hc]
        rfl
      simp [f__law_plain_1, hp']
    · rw [if_neg hc]
      have hp' : ∀ S, g_plain_row [.str m] S = .ex 1 [("what", .str "mode")] S := fun S => by rw [hp S, if_neg hc]
      refine try_ex (c := 1) (fs := [("what", .str "mode")]) (Γ1 := [some (.str m), none]) (S1 := S) ?_ (by simp) fun a d => ?_
      · simp [f__law_plain_1, hp']
      · have hl : ("wrong " : Str).length + ("mode" : Str).length ≤ 16777216 := by decide +kernel
        have hw : ("wrong " : Str) ++ ("mode" : Str) = "wrong mode" := by decide +kernel
        simp [dropI, hl, hw]
  unfold g__law_plain gF
  rw [e, lvF_rt]
  exact fin_self (by simp [nl, lf])
/-! ### what a turn draws -/
theorem pick5 {S : Sto} {n : Nat} (hn : n < S.length) (x0 x1 x2 x3 x4 : Str) (h0 : SOk x0) (h1 : SOk x1) (h2 : SOk x2) (h3 : SOk x3) (h4 : SOk x4) (i : Nat) (s : Int) (Γ : Sl) (hΓ : Γ[2]? = some (some (.loc n))) : ∃ (x : Str) (s' : Int), SOk x ∧
    fAsg i (fOp gIx (fLst (faC (fC (.str x0)) (faC (fC (.str x1)) (faC (fC (.str x2)) (faC (fC (.str x3)) (faC (fC (.str x4)) faN)))))) (fCall 2 g__law_digit (faC (fV 2) (faC (fC (.int 5)) faN)))) Γ (stt S n s) = .nx (Γ.set i (some (.str x))) (stt S n s') := by
  have d := fun s => digit1 (S := S) (n := n) (s := s) (many := 5) hn (by decide) (by decide)
  have h : s % 5 = 0 ∨ s % 5 = 1 ∨ s % 5 = 2 ∨ s % 5 = 3 ∨ s % 5 = 4 := by omega
  rcases h with h | h | h | h | h
  · exact ⟨x0, s / 5, h0, by simp [d, h, hΓ]⟩
  · exact ⟨x1, s / 5, h1, by simp [d, h, hΓ]⟩
  · exact ⟨x2, s / 5, h2, by simp [d, h, hΓ]⟩
  · exact ⟨x3, s / 5, h3, by simp [d, h, hΓ]⟩
  · exact ⟨x4, s / 5, h4, by simp [d, h, hΓ]⟩
theorem pick4 {S : Sto} {n : Nat} (hn : n < S.length) (x0 x1 x2 x3 : Str) (h0 : SOk x0) (h1 : SOk x1) (h2 : SOk x2) (h3 : SOk x3) (i : Nat) (s : Int) (Γ : Sl) (hΓ : Γ[2]? = some (some (.loc n))) : ∃ (x : Str) (s' : Int), SOk x ∧
    fAsg i (fOp gIx (fLst (faC (fC (.str x0)) (faC (fC (.str x1)) (faC (fC (.str x2)) (faC (fC (.str x3)) faN))))) (fCall 2 g__law_digit (faC (fV 2) (faC (fC (.int 4)) faN)))) Γ (stt S n s) = .nx (Γ.set i (some (.str x))) (stt S n s') := by
  have d := fun s => digit1 (S := S) (n := n) (s := s) (many := 4) hn (by decide) (by decide)
  have h : s % 4 = 0 ∨ s % 4 = 1 ∨ s % 4 = 2 ∨ s % 4 = 3 := by omega
  rcases h with h | h | h | h
  · exact ⟨x0, s / 4, h0, by simp [d, h, hΓ]⟩
  · exact ⟨x1, s / 4, h1, by simp [d, h, hΓ]⟩
  · exact ⟨x2, s / 4, h2, by simp [d, h, hΓ]⟩
  · exact ⟨x3, s / 4, h3, by simp [d, h, hΓ]⟩
theorem draw_rule {S : Sto} {n : Nat} (hn : n < S.length) (mode : Str) (hm : SOk mode) (s : Int) (a0 a1 a4 a5 a6 a7 a8 a9 a10 a11 a12 a13 : Option AV) : ∃ (r : List Mark) (s' : Int), r.length ≤ 1000 ∧ (∀ m ∈ r, m.length ≤ 1000) ∧
    fAsg 7 (fIfE (fOr (fTB (fOp gEq (fV 3) (fC (.str "held")))) (fTB (fOp gEq (fCall 2 g__law_digit (faC (fV 2) (faC (fC (.int 2)) faN))) (fC (.int 0))))) (fCall 1 g__law_rule (faC (fV 2) faN)) (fLst (faC (fOp gMul (fLst (faC (fTup (faC (fC (.int 0)) (faC (fC (.int 0)) faN))) faN)) (fC (.int 6))) faN)))
      [a0, a1, some (.loc n), some (.str mode), a4, a5, a6, a7, a8, a9, a10, a11, a12, a13] (stt S n s) = .nx [a0, a1, some (.loc n), some (.str mode), a4, a5, a6, some (.lst (r.map mL)), a8, a9, a10, a11, a12, a13] (stt S n s') := by
  have q1 : ∀ S, gEqB (.str mode) (.str "held") S = .ok (mode == "held") S := fun S => gEqB_str hm kH
  have d := fun s => digit1 (S := S) (n := n) (s := s) (many := 2) hn (by decide) (by decide)
  cases hb : mode == ("held" : Str) with
  | true =>
    obtain ⟨r, s', h1, h2, e⟩ := rule_ok hn s
    exact ⟨r, s', h1, h2, by simp [q1, hb, e]⟩
  | false =>
    by_cases h2 : s % 2 = 0
    · obtain ⟨r, s', g1, g2, e⟩ := rule_ok hn (s / 2)
      exact ⟨r, s', g1, g2, by simp [q1, hb, d, h2, e]⟩
    · have h2' : (s % 2 == 0) = false := by simpa using h2
      exact ⟨[zero6], s / 2, by simp, by simp, by simp [q1, hb, d, h2', mL, pA]⟩
/-- the first seven statements of a turn -/
theorem draw_all (scr : AV) (k : AV) (S : Sto) (n : Nat) (hn : n < S.length) (s : Int) (a3 a4 a5 a6 a7 a8 a9 a10 a11 a12 a13 : Option AV) (rest : FSt) :
    ∃ (mode sharing lease grip : Str) (r : List Mark) (s' : Int), SOk mode ∧ SOk sharing ∧ SOk lease ∧ SOk grip ∧ r.length ≤ 1000 ∧ (∀ m ∈ r, m.length ≤ 1000) ∧
    (fSeq (fAsg 3 (fOp gIx (fLst (faC (fC (.str "held")) (faC (fC (.str "held")) (faC (fC (.str "copied")) (faC (fC (.str "refused")) (faC (fC (.str "lent")) faN)))))) (fCall 2 g__law_digit (faC (fV 2) (faC (fC (.int 5)) faN))))) (fSeq (fAsg 4 (fOp gIx (fLst (faC (fC (.str "one")) (faC (fC (.str "each")) (faC (fC (.str "one")) (faC (fC (.str "always")) faN))))) (fCall 2 g__law_digit (faC (fV 2) (faC (fC (.int 4)) faN))))) (fSeq (fAsg 5 (fOp gIx (fLst (faC (fC (.str "always")) (faC (fC (.str "call")) (faC (fC (.str "always")) (faC (fC (.str "slot")) faN))))) (fCall 2 g__law_digit (faC (fV 2) (faC (fC (.int 4)) faN))))) (fSeq (fAsg 6 (fOp gIx (fLst (faC (fC (.str "slot")) (faC (fC (.str "place")) (faC (fC (.str "pin")) (faC (fC (.str "slot")) (faC (fC (.str "pen")) faN)))))) (fCall 2 g__law_digit (faC (fV 2) (faC (fC (.int 5)) faN))))) (fSeq (fAsg 7 (fIfE (fOr (fTB (fOp gEq (fV 3) (fC (.str "held")))) (fTB (fOp gEq (fCall 2 g__law_digit (faC (fV 2) (faC (fC (.int 2)) faN))) (fC (.int 0))))) (fCall 1 g__law_rule (faC (fV 2) faN)) (fLst (faC (fOp gMul (fLst (faC (fTup (faC (fC (.int 0)) (faC (fC (.int 0)) faN))) faN)) (fC (.int 6))) faN)))) (fSeq (fIf (fTB (fOp gEq (fCall 2 g__law_digit (faC (fV 2) (faC (fC (.int 2)) faN))) (fC (.int 0)))) (fUnp [4, 5, 6] (fTup (faC (fC (.str "one")) (faC (fC (.str "always")) (faC (fC (.str "slot")) faN))))) fNx) rest)))))) [some scr, some k, some (.loc n), a3, a4, a5, a6, a7, a8, a9, a10, a11, a12, a13] (stt S n s) =
      rest [some scr, some k, some (.loc n), some (.str mode), some (.str sharing), some (.str lease), some (.str grip), some (.lst (r.map mL)), a8, a9, a10, a11, a12, a13] (stt S n s') := by
  obtain ⟨mode, s1, hm, e1⟩ := pick5 hn "held" "held" "copied" "refused" "lent" (sk (by decide +kernel)) (sk (by decide +kernel)) (sk (by decide +kernel)) (sk (by decide +kernel)) (sk (by decide +kernel)) 3 s [some scr, some k, some (.loc n), a3, a4, a5, a6, a7, a8, a9, a10, a11, a12, a13] rfl
  obtain ⟨sharing, s2, hs, e2⟩ := pick4 hn "one" "each" "one" "always" (sk (by decide +kernel)) (sk (by decide +kernel)) (sk (by decide +kernel)) (sk (by decide +kernel)) 4 s1 [some scr, some k, some (.loc n), some (.str mode), a4, a5, a6, a7, a8, a9, a10, a11, a12, a13] rfl
  obtain ⟨lease, s3, hl, e3⟩ := pick4 hn "always" "call" "always" "slot" (sk (by decide +kernel)) (sk (by decide +kernel)) (sk (by decide +kernel)) (sk (by decide +kernel)) 5 s2 [some scr, some k, some (.loc n), some (.str mode), some (.str sharing), a5, a6, a7, a8, a9, a10, a11, a12, a13] rfl
  obtain ⟨grip, s4, hg, e4⟩ := pick5 hn "slot" "place" "pin" "slot" "pen" (sk (by decide +kernel)) (sk (by decide +kernel)) (sk (by decide +kernel)) (sk (by decide +kernel)) (sk (by decide +kernel)) 6 s3 [some scr, some k, some (.loc n), some (.str mode), some (.str sharing), some (.str lease), a6, a7, a8, a9, a10, a11, a12, a13] rfl
  obtain ⟨r, s5, hr1, hr2, e5⟩ := draw_rule hn mode hm s4 (some scr) (some k) (some (.str sharing)) (some (.str lease)) (some (.str grip)) a7 a8 a9 a10 a11 a12 a13
  have d := fun s => digit1 (S := S) (n := n) (s := s) (many := 2) hn (by decide) (by decide)
  rw [fSeq_ap, e1, SR.sq_nx]
  simp only [List.set_cons_succ, List.set_cons_zero]
  rw [fSeq_ap, e2, SR.sq_nx]
  simp only [List.set_cons_succ, List.set_cons_zero]
  rw [fSeq_ap, e3, SR.sq_nx]
  simp only [List.set_cons_succ, List.set_cons_zero]
  rw [fSeq_ap, e4, SR.sq_nx]
  simp only [List.set_cons_succ, List.set_cons_zero]
  rw [fSeq_ap, e5, SR.sq_nx, fSeq_ap]
  by_cases h2 : s5 % 2 = 0
  · refine ⟨mode, "one", "always", "slot", r, s5 / 2, hm, sk (by decide +kernel), sk (by decide +kernel), sk (by decide +kernel), hr1, hr2, ?_⟩
    rw [show (fIf (fTB (fOp gEq (fCall 2 g__law_digit (faC (fV 2) (faC (fC (.int 2)) faN))) (fC (.int 0)))) (fUnp [4, 5, 6] (fTup (faC (fC (.str "one")) (faC (fC (.str "always")) (faC (fC (.str "slot")) faN))))) fNx) [some scr, some k, some (.loc n), some (.str mode), some (.str sharing), some (.str lease), some (.str grip), some (.lst (r.map mL)), a8, a9, a10, a11, a12, a13] (stt S n s5) = .nx [some scr, some k, some (.loc n), some (.str mode), some (.str "one"), some (.str "always"), some (.str "slot"), some (.lst (r.map mL)), a8, a9, a10, a11, a12, a13] (stt S n (s5 / 2)) by simp [d, h2], SR.sq_nx]
  · have h2' : (s5 % 2 == 0) = false := by simpa using h2
    refine ⟨mode, sharing, lease, grip, r, s5 / 2, hm, hs, hl, hg, hr1, hr2, ?_⟩
    rw [show (fIf (fTB (fOp gEq (fCall 2 g__law_digit (faC (fV 2) (faC (fC (.int 2)) faN))) (fC (.int 0)))) (fUnp [4, 5, 6] (fTup (faC (fC (.str "one")) (faC (fC (.str "always")) (faC (fC (.str "slot")) faN))))) fNx) [some scr, some k, some (.loc n), some (.str mode), some (.str sharing), some (.str lease), some (.str grip), some (.lst (r.map mL)), a8, a9, a10, a11, a12, a13] (stt S n s5) = .nx [some scr, some k, some (.loc n), some (.str mode), some (.str sharing), some (.str lease), some (.str grip), some (.lst (r.map mL)), a8, a9, a10, a11, a12, a13] (stt S n (s5 / 2)) by simp [d, h2'], SR.sq_nx]
end K12

set_option Elab.async false
set_option linter.all false
set_option maxRecDepth 100000
set_option maxHeartbeats 1000000
namespace K12
open PySem G
theorem wrong_word {mode sharing lease grip : Str} {r : List Mark} {w : Str} (e : wrong mode sharing lease grip r = some w) : PyData.strOk w = true := by
  unfold wrong at e
  repeat' split at e
  all_goals first | (cases e; decide +kernel) | cases e
theorem wrong_none {mode sharing lease grip : Str} {r : List Mark} (e : wrong mode sharing lease grip r = none) : okR r = true := by
  unfold wrong at e
  repeat' split at e
  all_goals first | cases e | skip
  rename_i h
  cases q : okR r with
  | true => rfl
  | false => exact absurd (.inl q) h
/-! lists of what first_flaw gives -/
theorem FV_py {v : AV} (h : FV v) : ∃ d, toPy v = some d ∧ d.canLay0 = true ∧ d.depth ≤ 1 := by
  rcases h with rfl | ⟨l, w, h1, h2, rfl⟩
  · exact ⟨.none, by unfold toPy; rfl, by unfold PyData.canLay0; rfl, by unfold PyData.depth; omega⟩
  · obtain ⟨d, a, b⟩ := (eqn_2 eqn_str eqn_str).ex
    obtain ⟨a1, a2, a3⟩ := a (l, w) ⟨h1, h2⟩
    exact ⟨_, a1, a2, a3⟩
theorem FV_all : ∀ {us : List AV}, (∀ u ∈ us, FV u) → ∃ ds, toPys us = some ds ∧ PyData.canLayAll0 ds = true ∧ PyData.depthAll ds ≤ 1
  | [], _ => ⟨[], toPys0, lay0, dep0⟩
  | u :: us, h => by
    obtain ⟨d, a1, a2, a3⟩ := FV_py (h u (List.mem_cons_self ..))
    obtain ⟨ds, b1, b2, b3⟩ := FV_all (us := us) fun v hv => h v (List.mem_cons_of_mem _ hv)
    exact ⟨d :: ds, toPys1 a1 b1, lay1 a2 b2, dep1 a3 b3⟩
theorem FV_shp {us : List AV} (h : ∀ u ∈ us, FV u) : Shp (.lst us) := by
  obtain ⟨ds, b1, b2, b3⟩ := FV_all h
  refine ⟨.list ds, by unfold toPy; rw [b1]; rfl, ?_⟩
  unfold SeqAt.shaped PyData.canLay0 PyData.depth
  rw [b2]
  simp
  omega
theorem ff_any (r : Row) (h : WOk r) (home : Int) (S : Sto) : ∃ v, FV v ∧ nl v = true ∧ g_first_flaw [rA r, .int home] S = .ok v S := by
  by_cases hm : r.mode = "held"
  · exact ff_ok r h hm home S
  · exact ⟨.non, .inl rfl, by simp [nl, lf], ff_plain r h hm home S⟩
/-- the slots of law -/
abbrev G14 (scr k : AV) (n : Nat) (mode sharing lease grip : Str) (r : List Mark) (a8 a9 a10 a11 a12 a13 : Option AV) : Sl := [some scr, some k, some (.loc n), some (.str mode), some (.str sharing), some (.str lease), some (.str grip), some (.lst (r.map mL)), a8, a9, a10, a11, a12, a13]
theorem lists_of {em : Mark → AV} (hem : ∀ m S, gList [em m] S = .ok (mL m) S) (it : G.FI) (Γ : Sl) (r : List Mark) (hr : r.length ≤ 1000) (S : Sto) (hi : it Γ S = .ok (r.map em, none) S) (hl : Γ.length = 14) : fLc it (gN 12) fTrue (fB gList (faC (fV 12) faN)) [12] Γ S = .ok (.lst (r.map mL)) S := by
  refine fLc_map (enc := em) (f := mL) (xs := r) hi (by rw [sizeLine_is]; omega) fun m hm => ⟨_, rfl, fun acc => ?_⟩
  have : ((wipeA Γ [12]).set 12 (some (em m)))[12]? = some (some (em m)) := List.getElem?_set_self (by simp [wipeA, hl])
  refine ⟨?_, mL_nl m⟩
  rw [fB_ap, faC_ap, fV_ap, this]
  simp [hem]
theorem tups_of (it : G.FI) (Γ : Sl) (r : List Mark) (hr : r.length ≤ 1000) (S : Sto) (hi : it Γ S = .ok (r.map mL, none) S) (hl : Γ.length = 14) : fLc it (gN 12) fTrue (fB gTuple (faC (fV 12) faN)) [12] Γ S = .ok (.lst (r.map mT)) S := by
  refine fLc_map (enc := mL) (f := mT) (xs := r) hi (by rw [sizeLine_is]; omega) fun m hm => ⟨_, rfl, fun acc => ?_⟩
  have : ((wipeA Γ [12]).set 12 (some (mL m)))[12]? = some (some (mL m)) := List.getElem?_set_self (by simp [wipeA, hl])
  refine ⟨?_, by
    have := mL_nl m
    unfold nl mL lf at this
    unfold nl mT lf
    exact this⟩
  rw [fB_ap, faC_ap, fV_ap, this]
  simp only [XR.bind_ok, acK_ap, faN_ap, acK2_ap, mL, gTuple_lst, mT]
theorem rng2 (Γ : Sl) (S : Sto) : fiR (fC (.int 2)) Γ S = .ok ([AV.int 0, AV.int 1], none) S := by
  rw [fiR_ap, fC_ap, XR.bind_ok, firK_ap, if_pos (by decide)]
  rfl
theorem flaws_of (row : Row) (h : WOk row) (i : Nat) (Γ : Sl) (S : Sto) (hl : Γ.length = 14) (hi : Γ[i]? = some (some (rA row))) (hne : i ≠ 13) : ∃ us, (∀ u ∈ us, FV u) ∧ fLc (fiR (fC (.int 2))) (gN 13) fTrue (fCall 2 g_first_flaw (faC (fV i) (faC (fV 13) faN))) [13] Γ S = .ok (.lst us) S := by
  obtain ⟨us, S', rfl, h2, h3, h4⟩ := fLc_st (it := fiR (fC (.int 2))) (g := gN 13) (te := fCall 2 g_first_flaw (faC (fV i) (faC (fV 13) faN))) (vs := [13]) (Γ := Γ) (S := S) (S1 := S) (J := fun S' => S' = S) (P := FV) (rng2 Γ S) (by decide) rfl (fun S' e => by subst e; exact ⟨rfl, clo_refl _⟩) (fun x hx S' acc e => by
    subst e
    obtain ⟨z, rfl⟩ : ∃ z : Int, x = .int z := by
      simp at hx
      rcases hx with rfl | rfl
      · exact ⟨0, rfl⟩
      · exact ⟨1, rfl⟩
    obtain ⟨v, a1, a2, a3⟩ := ff_any row h z (S' ++ [.lst acc])
    have e1 : ((wipeA Γ [13]).set 13 (some (.int z)))[13]? = some (some (.int z)) := List.getElem?_set_self (by simp [wipeA, hl])
    have e2 : ((wipeA Γ [13]).set 13 (some (.int z)))[i]? = some (some (rA row)) := by
      rw [List.getElem?_set_ne (Ne.symm hne)]
      show (Γ.set 13 none)[i]? = _
      rw [List.getElem?_set_ne (Ne.symm hne)]
      exact hi
    refine ⟨_, v, S', rfl, ?_, rfl, a1, a2⟩
    rw [fCall_ap, faC_ap, fV_ap, e2]
    simp only [XR.bind_ok, acK_ap, faC_ap, fV_ap, e1, faN_ap, acK2_ap, callK_ap]
    simp only [List.length_cons, List.length_nil, if_true]
    exact a3)
  exact ⟨us, fun u hu => (h2 u hu).1, h4⟩
theorem flaws_same (row : Row) (Γ : Sl) (S : Sto) (hl : Γ.length = 14) (h9 : Γ[9]? = some (some (rA row))) (h11 : Γ[11]? = some (some (rA row))) : fLc (fiR (fC (.int 2))) (gN 13) fTrue (fCall 2 g_first_flaw (faC (fV 11) (faC (fV 13) faN))) [13] Γ S = fLc (fiR (fC (.int 2))) (gN 13) fTrue (fCall 2 g_first_flaw (faC (fV 9) (faC (fV 13) faN))) [13] Γ S := by
  refine fLc_cg fun x Γ1 e S => ?_
  cases e
  have e1 : ((wipeA Γ [13]).set 13 (some x))[9]? = some (some (rA row)) := by
    rw [List.getElem?_set_ne (by decide)]
    show (Γ.set 13 none)[9]? = _
    rw [List.getElem?_set_ne (by decide)]
    exact h9
  have e2 : ((wipeA Γ [13]).set 13 (some x))[11]? = some (some (rA row)) := by
    rw [List.getElem?_set_ne (by decide)]
    show (Γ.set 13 none)[11]? = _
    rw [List.getElem?_set_ne (by decide)]
    exact h11
  rw [fCall_ap, fCall_ap, faC_ap, faC_ap, fV_ap, fV_ap, e1, e2]

/-- a row found wrong: the clause takes the exception -/
theorem turn_bad (scr k : AV) (n : Nat) (mode sharing lease grip : Str) (r : List Mark) (h1 : SOk mode) (h2 : SOk sharing) (h3 : SOk lease) (h4 : SOk grip) (hr : r.length ≤ 1000 ∧ ∀ m ∈ r, m.length ≤ 1000) (w : Str) (hw : wrong mode sharing lease grip r = some w) (a9 a10 a11 a12 a13 : Option AV) (S : Sto) :
    fTry f_law_1 [1] [] 10 (fun a d j => fSeq (fIf (fTB (fOp gNe (fUn (gXf a d j "what") (fV 10)) (fV 8))) (fRet (fC (.bl false))) fNx) (fAsg 9 (fC .non))) (G14 scr k n mode sharing lease grip r (some (oS (wrong mode sharing lease grip r))) a9 a10 a11 a12 a13) S =
      .nx (G14 scr k n mode sharing lease grip r (some (.str w)) (some .non) none a11 a12 a13) S := by
  have hn := row_new (em := mL) hem_L mode sharing lease grip r h1 h2 h3 h4 hr S
  rw [hw] at hn ⊢
  have lc := lists_of (em := mL) (fun _ _ => rfl) (fiV (fV 7)) (G14 scr k n mode sharing lease grip r (some (.str w)) a9 a10 a11 a12 a13) r hr.1 S (by simp) rfl
  refine try_ex (c := 1) (fs := [("what", .str w)]) (Γ1 := G14 scr k n mode sharing lease grip r (some (.str w)) a9 a10 a11 a12 a13) (S1 := S) ?_ (by simp) fun a d => ?_
  · unfold f_law_1
    rw [fSeq_ap, fAsg_ap, fCall_ap]
    simp only [faC_ap, fV_ap, G14, List.getElem?_cons_succ, List.getElem?_cons_zero, XR.bind_ok, acK_ap] at lc ⊢
    rw [show oS (some w) = .str w from rfl] at *
    rw [lc]
    simp [hn]
  · have hs := wrong_word hw
    have q : ∀ S, gEqB (.str w) (.str w) S = .ok true S := fun S => by rw [gEqB_str hs hs]; simp
    simp [dropI, q, oS]
theorem turn_good (scr k : AV) (n : Nat) (mode sharing lease grip : Str) (r : List Mark) (h1 : SOk mode) (h2 : SOk sharing) (h3 : SOk lease) (h4 : SOk grip) (hr : r.length ≤ 1000 ∧ ∀ m ∈ r, m.length ≤ 1000) (hw : wrong mode sharing lease grip r = none) (a9 a10 a11 a12 a13 : Option AV) (S : Sto) (h : Nat → Nat → Nat → FSt) :
    fTry f_law_1 [1] [] 10 h (G14 scr k n mode sharing lease grip r (some (oS (wrong mode sharing lease grip r))) a9 a10 a11 a12 a13) S =
      .nx (G14 scr k n mode sharing lease grip r (some .non) (some (rA ⟨mode, sharing, lease, grip, r⟩)) a10 a11 a12 a13) S := by
  have hn := row_new (em := mL) hem_L mode sharing lease grip r h1 h2 h3 h4 hr S
  rw [hw] at hn ⊢
  have lc := lists_of (em := mL) (fun _ _ => rfl) (fiV (fV 7)) (G14 scr k n mode sharing lease grip r (some .non) a9 a10 a11 a12 a13) r hr.1 S (by simp) rfl
  refine try_nx ?_
  unfold f_law_1
  rw [fSeq_ap, fAsg_ap, fCall_ap]
  simp only [faC_ap, fV_ap, G14, List.getElem?_cons_succ, List.getElem?_cons_zero, XR.bind_ok, acK_ap] at lc ⊢
  rw [show oS none = .non from rfl] at *
  rw [lc]
  simp [hn, gIsNot, gNotN, isNon]
  rfl
end K12

set_option Elab.async false
set_option linter.all false
set_option maxRecDepth 100000
set_option maxHeartbeats 1000000
namespace K12
open PySem G
section
variable (scr k : AV) (n : Nat) (row : Row) (h : WOk row) (hr : row.rule.length ≤ 1000 ∧ ∀ m ∈ row.rule, m.length ≤ 1000) (hw : wrong row.mode row.sharing row.lease row.grip row.rule = none) (S : Sto) (a8 a10 a11 a12 a13 : Option AV)
abbrev Gr (a9 a11 : Option AV) : Sl := G14 scr k n row.mode row.sharing row.lease row.grip row.rule a8 a9 a10 a11 a12 a13
include h hr in
theorem chk1 : (fOr (fTB (fOp gNe (fTup (faC (fUn (gFldC [2] "mode") (fV 9)) (faC (fUn (gFldC [2] "sharing") (fV 9)) (faC (fUn (gFldC [2] "lease") (fV 9)) (faC (fUn (gFldC [2] "grip") (fV 9)) faN))))) (fTup (faC (fV 3) (faC (fV 4) (faC (fV 5) (faC (fV 6) faN))))))) (fTB (fOp gNe (fUn (gFldC [2] "rule") (fV 9)) (fB gTuple (faC (fLc (fiV (fV 7)) (gN 12) fTrue (fB gTuple (faC (fV 12) faN)) [12]) faN))))) (Gr scr k n row a8 a10 a12 a13 (some (rA row)) a11) S = .ok false S := by
  have q1 : gEqB (.tup [.str row.mode, .str row.sharing, .str row.lease, .str row.grip]) (.tup [.str row.mode, .str row.sharing, .str row.lease, .str row.grip]) S = .ok true S :=
    Shp.eqB ((eqn_tup eqn_str).shp (by decide) (x := [row.mode, row.sharing, row.lease, row.grip]) (by simp; exact ⟨h.m, h.s, h.l, h.g⟩)) rfl
  have q2 : gEqB (rT row) (.tup (row.rule.map mT)) S = .ok true S :=
    Shp.eqB (u := rT row) (v := .tup (row.rule.map mT)) ((eqn_tup eqn_mT).shp (by decide) (x := row.rule) (by simp)) rfl
  have tu := tups_of (fiV (fV 7)) (Gr scr k n row a8 a10 a12 a13 (some (rA row)) a11) row.rule hr.1 S (by simp) rfl
  have e1 : (fOp gNe (fTup (faC (fUn (gFldC [2] "mode") (fV 9)) (faC (fUn (gFldC [2] "sharing") (fV 9)) (faC (fUn (gFldC [2] "lease") (fV 9)) (faC (fUn (gFldC [2] "grip") (fV 9)) faN))))) (fTup (faC (fV 3) (faC (fV 4) (faC (fV 5) (faC (fV 6) faN)))))) (Gr scr k n row a8 a10 a12 a13 (some (rA row)) a11) S = .ok (.bl false) S := by
    simp [q1]
  have e2 : (fOp gNe (fUn (gFldC [2] "rule") (fV 9)) (fB gTuple (faC (fLc (fiV (fV 7)) (gN 12) fTrue (fB gTuple (faC (fV 12) faN)) [12]) faN))) (Gr scr k n row a8 a10 a12 a13 (some (rA row)) a11) S = .ok (.bl false) S := by
    rw [fOp_ap, fUn_ap]
    have : fV 9 (Gr scr k n row a8 a10 a12 a13 (some (rA row)) a11) S = .ok (rA row) S := rfl
    rw [this, XR.bind_ok, fld_rule, XR.bind_ok, opK_ap, fB_ap, faC_ap, tu]
    simp [q2]
  rw [fOr_ap, fTB_ap, e1, XR.bind_ok, tbK_ap, XR.bind_ok, orK_ap, if_neg Bool.false_ne_true, fTB_ap, e2, XR.bind_ok, tbK_ap]
include h hr hw in
theorem mkAgain : (fAsg 11 (fCall 5 (gNew 2 g_Row_init) (faC (fUn (gFldC [2] "mode") (fV 9)) (faC (fUn (gFldC [2] "sharing") (fV 9)) (faC (fUn (gFldC [2] "lease") (fV 9)) (faC (fUn (gFldC [2] "grip") (fV 9)) (faC (fLc (fiV (fUn (gFldC [2] "rule") (fV 9))) (gN 12) fTrue (fB gList (faC (fV 12) faN)) [12]) faN))))))) (Gr scr k n row a8 a10 a12 a13 (some (rA row)) a11) S = .nx (Gr scr k n row a8 a10 a12 a13 (some (rA row)) (some (rA row))) S := by
  have hn := row_new (em := mL) hem_L row.mode row.sharing row.lease row.grip row.rule h.m h.s h.l h.g hr S
  rw [hw] at hn
  have lc := lists_of (em := mT) (fun _ _ => rfl) (fiV (fUn (gFldC [2] "rule") (fV 9))) (Gr scr k n row a8 a10 a12 a13 (some (rA row)) a11) row.rule hr.1 S (by
    rw [fiV_ap, fUn_ap]
    have : fV 9 (Gr scr k n row a8 a10 a12 a13 (some (rA row)) a11) S = .ok (rA row) S := rfl
    rw [this, XR.bind_ok, fld_rule, XR.bind_ok]
    rfl) rfl
  have e9 : ∀ S, fV 9 (Gr scr k n row a8 a10 a12 a13 (some (rA row)) a11) S = .ok (rA row) S := fun _ => rfl
  rw [fAsg_ap, fCall_ap, faC_ap, fUn_ap, e9, XR.bind_ok, fld_mode, XR.bind_ok, acK_ap, faC_ap, fUn_ap, e9, XR.bind_ok, fld_sharing, XR.bind_ok, acK_ap, faC_ap, fUn_ap, e9, XR.bind_ok, fld_lease, XR.bind_ok, acK_ap, faC_ap, fUn_ap, e9, XR.bind_ok, fld_grip, XR.bind_ok, acK_ap, faC_ap, lc, XR.bind_ok, acK_ap, faN_ap]
  simp [hn]
  rfl
include h in
theorem chk2 : (fOr (fTB (fOp gNe (fCall 1 g_chart (faC (fV 11) faN)) (fCall 1 g_chart (faC (fV 9) faN)))) (fTB (fOp gNe (fLc (fiR (fC (.int 2))) (gN 13) fTrue (fCall 2 g_first_flaw (faC (fV 11) (faC (fV 13) faN))) [13]) (fLc (fiR (fC (.int 2))) (gN 13) fTrue (fCall 2 g_first_flaw (faC (fV 9) (faC (fV 13) faN))) [13])))) (Gr scr k n row a8 a10 a12 a13 (some (rA row)) (some (rA row))) S = .ok false S := by
  obtain ⟨es, c, ec⟩ := chart_ok row h S
  have q1 : gEqB (.lst (es.map eA)) (.lst (es.map eA)) S = .ok true S := Shp.eqB (chart_shp row es c) rfl
  obtain ⟨us, hu, e9⟩ := flaws_of row h 9 (Gr scr k n row a8 a10 a12 a13 (some (rA row)) (some (rA row))) S rfl rfl (by decide)
  have e11 := flaws_same row (Gr scr k n row a8 a10 a12 a13 (some (rA row)) (some (rA row))) S rfl rfl rfl
  rw [e9] at e11
  have q2 : gEqB (.lst us) (.lst us) S = .ok true S := Shp.eqB (FV_shp hu) rfl
  have f1 : (fOp gNe (fCall 1 g_chart (faC (fV 11) faN)) (fCall 1 g_chart (faC (fV 9) faN))) (Gr scr k n row a8 a10 a12 a13 (some (rA row)) (some (rA row))) S = .ok (.bl false) S := by
    simp [ec, q1]
  have f2 : (fOp gNe (fLc (fiR (fC (.int 2))) (gN 13) fTrue (fCall 2 g_first_flaw (faC (fV 11) (faC (fV 13) faN))) [13]) (fLc (fiR (fC (.int 2))) (gN 13) fTrue (fCall 2 g_first_flaw (faC (fV 9) (faC (fV 13) faN))) [13])) (Gr scr k n row a8 a10 a12 a13 (some (rA row)) (some (rA row))) S = .ok (.bl false) S := by
    rw [fOp_ap, e11, XR.bind_ok, opK_ap, e9, XR.bind_ok, gNe_ap, q2, XR.bind_ok, neK_ap]
    rfl
  rw [fOr_ap, fTB_ap, f1, XR.bind_ok, tbK_ap, XR.bind_ok, orK_ap, if_neg Bool.false_ne_true, fTB_ap, f2, XR.bind_ok, tbK_ap]
include h in
theorem chk3 : (fAnd (fTB (fOp gNe (fV 3) (fC (.str "held")))) (fOr (fTB (fOp gNe (fCall 1 g_chart (faC (fV 9) faN)) (fLst (faC (fTup (faC (fTup (faC (fC (.int 0)) (faC (fC (.bl false)) (faC (fC (.str "shut")) faN)))) (faC (fC (.str "")) faN))) faN)))) (fOr (fTB (fOp gNe (fCall 3 g_possible (faC (fV 9) (faC (fTup (faC (fC (.int 0)) (faC (fC (.bl false)) (faC (fC (.str "shut")) faN)))) (faC (fC (.bl true)) faN)))) (fC (.str "")))) (fTB (fOp gIsNot (fCall 2 g_first_flaw (faC (fV 9) (faC (fC (.int 1)) faN))) (fC .non)))))) (Gr scr k n row a8 a10 a12 a13 (some (rA row)) (some (rA row))) S = .ok false S := by
  have q0 : ∀ S, gEqB (.str row.mode) (.str "held") S = .ok (row.mode == "held") S := fun S => gEqB_str h.m kH
  by_cases hm : row.mode = "held"
  · have hb : (row.mode == ("held" : Str)) = true := by simp [hm]
    simp [q0, hb]
  · have hb : (row.mode == ("held" : Str)) = false := by simp [hm]
    have c1 := fun S => chart_plain row h hm S
    have c2 := fun S => ff_plain row h hm 1 S
    have c3 := fun S => possible row n0 true h.toROk (st3_ok (.inl rfl)) S
    rw [poss_nil row hm] at c3
    have hj : Str.join "" ([] : List Str) = "" := by decide +kernel
    have q1 : ∀ S, gEqB (.lst [eA (n0, "")]) (.lst [eA (n0, "")]) S = .ok true S := fun S => Shp.eqB ((eqn_lst eqn_e).shp (by decide) (x := [(n0, "")]) (fun e he => by
      simp at he
      subst he
      exact ⟨⟨trivial, trivial, by decide +kernel⟩, by decide +kernel⟩)) rfl
    have q2 : ∀ S, gEqB (.str "") (.str "") S = .ok (("" : Str) == "") S := fun S => gEqB_str (by decide +kernel) (by decide +kernel)
    simp only [eA, nA, n0] at c1 c3 q1
    rw [hj] at c3
    simp [q0, hb, c1, q1, c3, q2, c2, gIsNot, gNotN, isNon]
include h hr hw in
theorem last_ok : ∃ b11, (fIf (fTB (fOp gIsNot (fV 9) (fC .non))) (fSeq (fIf (fOr (fTB (fOp gNe (fTup (faC (fUn (gFldC [2] "mode") (fV 9)) (faC (fUn (gFldC [2] "sharing") (fV 9)) (faC (fUn (gFldC [2] "lease") (fV 9)) (faC (fUn (gFldC [2] "grip") (fV 9)) faN))))) (fTup (faC (fV 3) (faC (fV 4) (faC (fV 5) (faC (fV 6) faN))))))) (fTB (fOp gNe (fUn (gFldC [2] "rule") (fV 9)) (fB gTuple (faC (fLc (fiV (fV 7)) (gN 12) fTrue (fB gTuple (faC (fV 12) faN)) [12]) faN))))) (fRet (fC (.bl false))) fNx) (fSeq (fAsg 11 (fCall 5 (gNew 2 g_Row_init) (faC (fUn (gFldC [2] "mode") (fV 9)) (faC (fUn (gFldC [2] "sharing") (fV 9)) (faC (fUn (gFldC [2] "lease") (fV 9)) (faC (fUn (gFldC [2] "grip") (fV 9)) (faC (fLc (fiV (fUn (gFldC [2] "rule") (fV 9))) (gN 12) fTrue (fB gList (faC (fV 12) faN)) [12]) faN))))))) (fSeq (fIf (fOr (fTB (fOp gNe (fCall 1 g_chart (faC (fV 11) faN)) (fCall 1 g_chart (faC (fV 9) faN)))) (fTB (fOp gNe (fLc (fiR (fC (.int 2))) (gN 13) fTrue (fCall 2 g_first_flaw (faC (fV 11) (faC (fV 13) faN))) [13]) (fLc (fiR (fC (.int 2))) (gN 13) fTrue (fCall 2 g_first_flaw (faC (fV 9) (faC (fV 13) faN))) [13])))) (fRet (fC (.bl false))) fNx) (fIf (fAnd (fTB (fOp gNe (fV 3) (fC (.str "held")))) (fOr (fTB (fOp gNe (fCall 1 g_chart (faC (fV 9) faN)) (fLst (faC (fTup (faC (fTup (faC (fC (.int 0)) (faC (fC (.bl false)) (faC (fC (.str "shut")) faN)))) (faC (fC (.str "")) faN))) faN)))) (fOr (fTB (fOp gNe (fCall 3 g_possible (faC (fV 9) (faC (fTup (faC (fC (.int 0)) (faC (fC (.bl false)) (faC (fC (.str "shut")) faN)))) (faC (fC (.bl true)) faN)))) (fC (.str "")))) (fTB (fOp gIsNot (fCall 2 g_first_flaw (faC (fV 9) (faC (fC (.int 1)) faN))) (fC .non)))))) (fRet (fC (.bl false))) fNx)))) fNx) (Gr scr k n row a8 a10 a12 a13 (some (rA row)) a11) S = .nx (Gr scr k n row a8 a10 a12 a13 (some (rA row)) b11) S := by
  refine ⟨some (rA row), ?_⟩
  have e0 : (fTB (fOp gIsNot (fV 9) (fC .non))) (Gr scr k n row a8 a10 a12 a13 (some (rA row)) a11) S = .ok true S := by
    simp [gIsNot, gNotN, isNon, rA, rowA]
  rw [fIf_ap, e0, XR.stb_ok, ifSK_ap, if_pos rfl, fSeq_ap, fIf_ap, chk1 scr k n row h hr S a8 a10 a11 a12 a13, XR.stb_ok, ifSK_ap, if_neg Bool.false_ne_true, fNx_ap, SR.sq_nx, fSeq_ap, mkAgain scr k n row h hr hw S a8 a10 a11 a12 a13, SR.sq_nx, fSeq_ap, fIf_ap, chk2 scr k n row h S a8 a10 a12 a13, XR.stb_ok, ifSK_ap, if_neg Bool.false_ne_true, fNx_ap, SR.sq_nx, fIf_ap, chk3 scr k n row h S a8 a10 a12 a13, XR.stb_ok, ifSK_ap, if_neg Bool.false_ne_true, fNx_ap]
end
end K12

set_option Elab.async false
set_option linter.all false
set_option maxRecDepth 100000
set_option maxHeartbeats 1000000
namespace K12
open PySem G
theorem stt_end (S : Sto) (s s' : Int) : stt (S ++ [.lst [.int s']]) S.length s = S ++ [.lst [.int s]] := by
  unfold stt
  simp
/-- a turn of the law -/
theorem turn (ns : List Int) (hl : ns.length ≤ 63) (k : Nat) (hk : k < 100) (S : Sto) (a2 a3 a4 a5 a6 a7 a8 a9 a10 a11 a12 a13 : Option AV) : ∃ b2 b3 b4 b5 b6 b7 b8 b9 b10 b11 b12 b13 S',
    f_law_2 [some (.scr (ns.map AV.int)), some (.int k), a2, a3, a4, a5, a6, a7, a8, a9, a10, a11, a12, a13] S = .nx [some (.scr (ns.map AV.int)), some (.int k), b2, b3, b4, b5, b6, b7, b8, b9, b10, b11, b12, b13] S' := by
  obtain ⟨s, es⟩ := start_ok ns k hk hl S
  have e1 : fAsg 2 (fCall 2 g__law_start (faC (fV 0) (faC (fV 1) faN))) [some (.scr (ns.map AV.int)), some (.int k), a2, a3, a4, a5, a6, a7, a8, a9, a10, a11, a12, a13] S = .nx [some (.scr (ns.map AV.int)), some (.int k), some (.loc S.length), a3, a4, a5, a6, a7, a8, a9, a10, a11, a12, a13] (stt (S ++ [.lst [.int s]]) S.length s) := by
    rw [stt_end]
    simp [es]
  unfold f_law_2
  rw [fSeq_ap, e1, SR.sq_nx]
  obtain ⟨mode, sharing, lease, grip, r, s', h1, h2, h3, h4, hr1, hr2, e2⟩ := draw_all (.scr (ns.map AV.int)) (.int k) (S ++ [.lst [.int s]]) S.length (by simp) s a3 a4 a5 a6 a7 a8 a9 a10 a11 a12 a13 _
  rw [e2]
  have e3 : fAsg 8 (fCall 5 g__law_wrong (faC (fV 3) (faC (fV 4) (faC (fV 5) (faC (fV 6) (faC (fV 7) faN)))))) [some (.scr (ns.map AV.int)), some (.int k), some (.loc S.length), some (.str mode), some (.str sharing), some (.str lease), some (.str grip), some (.lst (r.map mL)), a8, a9, a10, a11, a12, a13] (stt (S ++ [.lst [.int s]]) S.length s') = .nx (G14 (.scr (ns.map AV.int)) (.int k) S.length mode sharing lease grip r (some (oS (wrong mode sharing lease grip r))) a9 a10 a11 a12 a13) (stt (S ++ [.lst [.int s]]) S.length s') := by
    have := fun S => law_wrong mode sharing lease grip r hr2 S
    simp [this]
  rw [fSeq_ap, e3, SR.sq_nx]
  cases hw : wrong mode sharing lease grip r with
  | some w =>
    have e4 := turn_bad (.scr (ns.map AV.int)) (.int k) S.length mode sharing lease grip r h1 h2 h3 h4 ⟨hr1, hr2⟩ w hw a9 a10 a11 a12 a13 (stt (S ++ [.lst [.int s]]) S.length s')
    rw [hw] at e4
    rw [fSeq_ap, e4, SR.sq_nx, fIf_ap]
    have e5 : (fTB (fOp gIsNot (fV 9) (fC .non))) (G14 (.scr (ns.map AV.int)) (.int k) S.length mode sharing lease grip r (some (.str w)) (some .non) none a11 a12 a13) (stt (S ++ [.lst [.int s]]) S.length s') = .ok false (stt (S ++ [.lst [.int s]]) S.length s') := by
      simp [gIsNot, gNotN, isNon]
    rw [e5, XR.stb_ok, ifSK_ap, if_neg Bool.false_ne_true, fNx_ap]
    exact ⟨_, _, _, _, _, _, _, _, _, _, _, _, _, rfl⟩
  | none =>
    have e4 := fun h => turn_good (.scr (ns.map AV.int)) (.int k) S.length mode sharing lease grip r h1 h2 h3 h4 ⟨hr1, hr2⟩ hw a9 a10 a11 a12 a13 (stt (S ++ [.lst [.int s]]) S.length s') h
    rw [hw] at e4
    rw [fSeq_ap, e4, SR.sq_nx]
    obtain ⟨b11, e5⟩ := last_ok (.scr (ns.map AV.int)) (.int k) S.length ⟨mode, sharing, lease, grip, r⟩ ⟨⟨h1, h2, h3, h4⟩, wrong_none hw⟩ ⟨hr1, hr2⟩ hw (stt (S ++ [.lst [.int s]]) S.length s') (some .non) a10 a11 a12 a13
    rw [e5]
    exact ⟨_, _, _, _, _, _, _, _, _, _, _, _, _, rfl⟩
theorem law_loop (ns : List Int) (hl : ns.length ≤ 63) (all : List AV) : ∀ (j t : Nat) (S : Sto) (a1 a2 a3 a4 a5 a6 a7 a8 a9 a10 a11 a12 a13 : Option AV), t + j ≤ 12 → ∃ b1 b2 b3 b4 b5 b6 b7 b8 b9 b10 b11 b12 b13 S',
    loopF all none (gN 1) f_law_2 ((List.range' t j).map fun (i : Nat) => AV.int i) [some (.scr (ns.map AV.int)), a1, a2, a3, a4, a5, a6, a7, a8, a9, a10, a11, a12, a13] S = .nx [some (.scr (ns.map AV.int)), b1, b2, b3, b4, b5, b6, b7, b8, b9, b10, b11, b12, b13] S'
  | 0, t, S, a1, a2, a3, a4, a5, a6, a7, a8, a9, a10, a11, a12, a13, _ => ⟨_, _, _, _, _, _, _, _, _, _, _, _, _, _, loop_nil⟩
  | j + 1, t, S, a1, a2, a3, a4, a5, a6, a7, a8, a9, a10, a11, a12, a13, h => by
    obtain ⟨b2, b3, b4, b5, b6, b7, b8, b9, b10, b11, b12, b13, S1, e⟩ := turn ns hl t (by omega) S a2 a3 a4 a5 a6 a7 a8 a9 a10 a11 a12 a13
    obtain ⟨c1, c2, c3, c4, c5, c6, c7, c8, c9, c10, c11, c12, c13, S2, e2⟩ := law_loop ns hl all j (t + 1) S1 (some (.int t)) b2 b3 b4 b5 b6 b7 b8 b9 b10 b11 b12 b13 (by omega)
    refine ⟨c1, c2, c3, c4, c5, c6, c7, c8, c9, c10, c11, c12, c13, S2, ?_⟩
    rw [List.range'_succ, List.map_cons, loop_cons rfl]
    show (match f_law_2 [some (.scr (ns.map AV.int)), some (.int t), a2, a3, a4, a5, a6, a7, a8, a9, a10, a11, a12, a13] S with
      | .nx Γ2 S2 => loopF all none (gN 1) f_law_2 _ Γ2 S2
      | .ct Γ2 S2 => loopF all none (gN 1) f_law_2 _ Γ2 S2
      | .bk Γ2 S2 => .nx Γ2 S2
      | r => r) = _
    rw [e]
    exact e2
theorem plain : ∀ ns : List Int, ns.length ≤ 63 → ∃ S, g_law [.scr (ns.map AV.int)] [] = .ok (.bl true) S := fun ns hl => by
  obtain ⟨b1, b2, b3, b4, b5, b6, b7, b8, b9, b10, b11, b12, b13, S', e⟩ := law_loop ns hl ((List.range' 0 12).map fun (i : Nat) => AV.int i) 12 0 [] none none none none none none none none none none none none none (by omega)
  have e4 : fiR (fC (.int 12)) (sl0 14 [.scr (ns.map AV.int)]) [] = .ok ((List.range' 0 12).map fun (i : Nat) => AV.int i, none) [] := by
    rw [fiR_ap, fC_ap, XR.bind_ok, firK_ap, if_pos (by decide)]
    rw [List.range_eq_range']
    rfl
  have e5 : fFor (fiR (fC (.int 12))) (gN 1) f_law_2 (sl0 14 [.scr (ns.map AV.int)]) [] = .nx [some (.scr (ns.map AV.int)), b1, b2, b3, b4, b5, b6, b7, b8, b9, b10, b11, b12, b13] S' := by
    rw [for_eq e4]
    exact e
  have hx : ∀ m ∈ (["copied", "refused", "held", "one"] : List Str), SOk m := by
    show ∀ m ∈ (["copied", "refused", "held", "one"] : List Str), PyData.strOk m = true
    decide +kernel
  have lc : fLc (fiV (fTup (faC (fC (.str "copied")) (faC (fC (.str "refused")) (faC (fC (.str "held")) (faC (fC (.str "one")) faN)))))) (gN 3) fTrue (fCall 1 g__law_plain (faC (fV 3) faN)) [3] [some (.scr (ns.map AV.int)), b1, b2, b3, b4, b5, b6, b7, b8, b9, b10, b11, b12, b13] S' = .ok (.lst ((["copied", "refused", "held", "one"] : List Str).map fun m => .str (lpl m))) S' :=
    fLc_map (enc := AV.str) (f := fun m => .str (lpl m)) (xs := ["copied", "refused", "held", "one"]) (by simp) (by decide) fun m hm => ⟨_, rfl, fun acc => ⟨by
      have := law_plain m (hx m hm)
      simp [wipeA, this], by simp [nl, lf]⟩⟩
  have hl2 : (["copied", "refused", "held", "one"] : List Str).map lpl = (["copied", "refused", "wrong mode", "wrong mode"] : List Str) := by decide +kernel
  have q : gEqB (.lst ((["copied", "refused", "held", "one"] : List Str).map fun m => .str (lpl m))) (.lst [.str "copied", .str "refused", .str "wrong mode", .str "wrong mode"]) S' = .ok true S' := by
    have e6 : ((["copied", "refused", "held", "one"] : List Str).map fun m => AV.str (lpl m)) = (["copied", "refused", "wrong mode", "wrong mode"] : List Str).map AV.str := by
      rw [← hl2]
      rfl
    rw [e6]
    exact Shp.eqB (u := .lst ((["copied", "refused", "wrong mode", "wrong mode"] : List Str).map AV.str)) (v := .lst [.str "copied", .str "refused", .str "wrong mode", .str "wrong mode"]) ((eqn_lst eqn_str).shp (by decide) (x := (["copied", "refused", "wrong mode", "wrong mode"] : List Str)) (by decide +kernel)) rfl
  have e7 : f_law (sl0 14 [.scr (ns.map AV.int)]) [] = .rt (.bl true) S' := by
    unfold f_law
    rw [fSeq_ap, e5, SR.sq_nx, fRet_ap, fOp_ap, lc, XR.bind_ok, opK_ap]
    have e8 : ∀ Γ S, fLst (faC (fC (.str "copied")) (faC (fC (.str "refused")) (faC (fC (.str "wrong mode")) (faC (fC (.str "wrong mode")) faN)))) Γ S = .ok (.lst [.str "copied", .str "refused", .str "wrong mode", .str "wrong mode"]) S := fun Γ S => by simp
    rw [e8, XR.bind_ok, gEq_ap, q, XR.bind_ok, eqK_ap, XR.st_ok, retK_ap]
  refine ⟨[], ?_⟩
  unfold g_law gF
  rw [e7, lvF_rt]
  have := fin_drop (S := []) (S' := []) (T := S') (v := .bl true) (u := .bl true) (fun i o hi e => by simp at hi) rfl (fz_nl (by simp [nl, lf]))
  simpa using this
end K12

set_option maxHeartbeats 0
set_option maxRecDepth 100000
--BEGIN END
open PySem PySem.W PySem.Calls PyProof.Rows
theorem PySem.Challenge.cw_surebridge_k12_whole_rows_that_are_none_holds : PySem.Challenge.rw_surebridge_k12_whole_rows_that_are_none.Holds := by
  w_on; o_law
  refine HandSHeadRun.head_any (r := OpenLaw.row PySem.Challenge.rw_surebridge_k12_whole_rows_that_are_none) (q := view (OpenLaw.row PySem.Challenge.rw_surebridge_k12_whole_rows_that_are_none).prog [35]) (H := K12.hk) (ob := K12.ob) (M := 6000) (loose := K12.names) (d := HandSHeadRun.topDef (OpenLaw.row PySem.Challenge.rw_surebridge_k12_whole_rows_that_are_none).prog 35) (kwd := []) K12.ob_eq
    (by kernel_rfl) (fun s => by kernel_rfl) K12.run (by kernel_rfl) (by kernel_rfl) (by kernel_rfl) (by rfl) (by first | assumption | decide +kernel) (by decide +kernel) ⟨rfl, rfl, rfl, rfl, rfl, by decide +kernel⟩ ?hw ?hc
  case hw => w_witness2
  case hc =>
    refine G.walk_G (l := PySem.Challenge.rw_surebridge_k12_whole_rows_that_are_none) (n := 63) (k := 7) (cx := K12.cx) (g := K12.g_law) rfl (by decide) (by kernel_rfl) ⟨rfl, by decide, by decide⟩ (fun w K mg fA h t hmg => ?F) K12.plain
    have e : (HandSHeadRun.topDef (OpenLaw.row PySem.Challenge.rw_surebridge_k12_whole_rows_that_are_none).prog 35).name = ("law" : PySem.Str) := by kernel_rfl
    rw [e] at hmg
    exact K12.facts w K mg fA h t hmg
--END END

