import PyProof.Rows.All
import Wide.All
import OpenK.AllK
import Wide.FinOn
import PySem.Challenge.RW_namewants_k20_whole_tables
import HandS.Conv
import HandS.Deep
import HandS.Defaults
import HandS.DictComp
import HandS.DictTup
import HandS.Exc
import HandS.ExcCtx
import HandS.ExcField
import HandS.ExcInit
import HandS.ExcIs
import HandS.ExcOwn
import HandS.ForDict
import HandS.ForMost
import HandS.Head0
import HandS.Head1
import HandS.Head2
import HandS.HeadEnd
import HandS.HeadHook1
import HandS.HeadHook2
import HandS.HeadHook3
import HandS.HeadHook4
import HandS.HeadWalk
import HandS.HotCalls
import HandS.IsInst
import HandS.Lambda
import HandS.MakeKwOnly
import HandS.More
import HandS.OwnEq
import HandS.SetFor
import HandS.Small
import HandS.SortOrd
import HandS.Style
import HandS.Text
import HandS.TupAny
import HandS.TupLe
import HandS.TupLen
import HandS.TupMul
import HandS.Wide
import KE.DataMinKey
import KE.KDictList
import KE.SortData
import KE.SortKeyed
import PyProof.DictMoreH
import PyProof.InstNe
import PyProof.P3Statements
import PyProof.Rows.SetFrom
import PyProof.StrLawsChain
import PyProof.StrLawsTight
import PySem.Str
set_option Elab.async false
set_option linter.all false
set_option autoImplicit false
set_option maxRecDepth 100000
set_option maxHeartbeats 0
namespace MP
open PySem (PyData)

/-- a value: immutable things by structure, lists, dicts, instances by a place in the store -/
inductive D where
  | non | bl (b : Bool) | int (i : Int) | str (x : List Nat) | tup (xs : List D) | ref (n : Nat) | exn (c : Nat) (p : List D)
mutual
def D.beq : D → D → Bool
  | .non, .non => true
  | .bl a, .bl b => a == b
  | .int a, .int b => a == b
  | .str a, .str b => a == b
  | .tup a, .tup b => D.beqs a b
  | .ref a, .ref b => a == b
  | .exn a p, .exn b q => a == b && D.beqs p q
  | _, _ => false
def D.beqs : List D → List D → Bool
  | [], [] => true
  | a :: as, b :: bs => D.beq a b && D.beqs as bs
  | _, _ => false
end
mutual
theorem D.beq_refl : ∀ a : D, D.beq a a = true
  | .non => rfl
  | .bl b => by simp [D.beq]
  | .int i => by simp [D.beq]
  | .str x => by simp [D.beq]
  | .tup xs => by simp only [D.beq]; exact D.beqs_refl xs
  | .ref n => by simp [D.beq]
  | .exn c p => by simp only [D.beq, beq_self_eq_true, Bool.true_and]; exact D.beqs_refl p
theorem D.beqs_refl : ∀ a : List D, D.beqs a a = true
  | [] => rfl
  | a :: as => by simp only [D.beqs, Bool.and_eq_true]; exact ⟨D.beq_refl a, D.beqs_refl as⟩
end
mutual
theorem D.eq_of_beq : ∀ a b : D, D.beq a b = true → a = b
  | .non, b, h => by cases b <;> first | rfl | (simp [D.beq] at h)
  | .bl x, b, h => by cases b <;> simp [D.beq] at h; rw [h]
  | .int x, b, h => by cases b <;> simp [D.beq] at h; rw [h]
  | .str x, b, h => by cases b <;> simp [D.beq] at h; rw [h]
  | .tup xs, b, h => by
    cases b <;> simp only [D.beq, Bool.false_eq_true] at h
    rw [D.eq_of_beqs _ _ h]
  | .ref x, b, h => by cases b <;> simp [D.beq] at h; rw [h]
  | .exn c p, b, h => by
    cases b <;> simp only [D.beq, Bool.false_eq_true, Bool.and_eq_true, beq_iff_eq] at h
    rw [D.eq_of_beqs _ _ h.2, h.1]
theorem D.eq_of_beqs : ∀ a b : List D, D.beqs a b = true → a = b
  | [], b, h => by cases b <;> first | rfl | (simp [D.beqs] at h)
  | x :: xs, b, h => by
    cases b <;> simp only [D.beqs, Bool.false_eq_true, Bool.and_eq_true] at h
    rw [D.eq_of_beq _ _ h.1, D.eq_of_beqs _ _ h.2]
end
instance : DecidableEq D := fun a b => if h : D.beq a b = true then .isTrue (D.eq_of_beq a b h) else .isFalse (fun e => h (e ▸ D.beq_refl a))

/-- what stands in the store -/
inductive Ob where
  /-- a list; one that is only read (the script); a dict (its keys are tuples, it is walked just now); an instance -/
  | lst (xs : List D) | frz (xs : List D) | dic (t lk : Bool) (kvs : List (D × D)) | ins (c : Nat) (fs : List (Nat × D))
  deriving DecidableEq
abbrev Sto := List Ob
abbrev Loc := List (Option D)
/-- what is raised: its class, what it holds -/
structure Exc where
  c : Nat
  p : List D
  deriving DecidableEq
/-- how an expression ends -/
inductive R (α : Type) where
  | ok (a : α) (S : Sto) | exc (x : Exc) (S : Sto) | err
/-- how a statement ends -/
inductive RS where
  | nx (L : Loc) (S : Sto) | rt (d : D) (S : Sto) | bk (L : Loc) (S : Sto) | ct (L : Loc) (S : Sto) | exc (x : Exc) (L : Loc) (S : Sto) | err
def R.bind {α β : Type} (r : R α) (f : α → Sto → R β) : R β := match r with
  | .ok a S => f a S
  | .exc x S => .exc x S
  | .err => .err
@[simp] theorem R.bind_ok {α β : Type} (a : α) (S : Sto) (f : α → Sto → R β) : (R.ok a S).bind f = f a S := rfl
@[simp] theorem R.bind_exc {α β : Type} (x : Exc) (S : Sto) (f : α → Sto → R β) : (R.exc x S : R α).bind f = .exc x S := rfl
@[simp] theorem R.bind_err {α β : Type} (f : α → Sto → R β) : (R.err : R α).bind f = .err := rfl
def R.st {α : Type} (L : Loc) (r : R α) (f : α → Sto → RS) : RS := match r with
  | .ok a S => f a S
  | .exc x S => .exc x L S
  | .err => .err
@[simp] theorem R.st_ok {α : Type} (L : Loc) (a : α) (S : Sto) (f : α → Sto → RS) : (R.ok a S).st L f = f a S := rfl
@[simp] theorem R.st_exc {α : Type} (L : Loc) (x : Exc) (S : Sto) (f : α → Sto → RS) : (R.exc x S : R α).st L f = .exc x L S := rfl
@[simp] theorem R.st_err {α : Type} (L : Loc) (f : α → Sto → RS) : (R.err : R α).st L f = .err := rfl
abbrev EM := Loc → Sto → R D
abbrev AM := Loc → Sto → R (List D)
abbrev BM := Loc → Sto → R Bool
abbrev SM := Loc → Sto → RS
abbrev TM := D → Loc → Sto → R Loc
abbrev Fn := List D → Sto → R D
/-- a two-place operation on values -/
abbrev Op2 := D → D → Sto → R D
abbrev Op1 := D → Sto → R D

/-! ### expressions -/
def eC (d : D) : EM := fun _ S => .ok d S
def eV (i : Nat) : EM := fun L S => match L[i]? with
  | some (some d) => .ok d S
  | _ => .err
def eUn (f : Op1) (a : EM) : EM := fun L S => (a L S).bind fun x S1 => f x S1
def eBin (f : Op2) (a b : EM) : EM := fun L S => (a L S).bind fun x S1 => (b L S1).bind fun y S2 => f x y S2
def eIf (t : BM) (a b : EM) : EM := fun L S => (t L S).bind fun c S1 => if c = true then a L S1 else b L S1
def eAnd (a b : EM) : EM := fun L S => (a L S).bind fun x S1 => match x with
  | .bl true => b L S1
  | .bl false => .ok (.bl false) S1
  | _ => .err
def eOr (a b : EM) : EM := fun L S => (a L S).bind fun x S1 => match x with
  | .bl true => .ok (.bl true) S1
  | .bl false => b L S1
  | _ => .err
def eNot (a : EM) : EM := fun L S => (a L S).bind fun x S1 => match x with
  | .bl k => .ok (.bl (!k)) S1
  | _ => .err
def aNil : AM := fun _ S => .ok [] S
def aCons (a : EM) (as : AM) : AM := fun L S => (a L S).bind fun x S1 => (as L S1).bind fun xs S2 => .ok (x :: xs) S2
def sz : Nat := 16777216
def eTup (as : AM) : EM := fun L S => (as L S).bind fun xs S1 => if xs.length ≤ sz then .ok (.tup xs) S1 else .err
def eLst (as : AM) : EM := fun L S => (as L S).bind fun xs S1 => if xs.length ≤ sz then .ok (.ref S1.length) (S1 ++ [.lst xs]) else .err
def eDic (t : Bool) : EM := fun _ S => .ok (.ref S.length) (S ++ [.dic t false []])
def eCall (F : Fn) (as : AM) : EM := fun L S => (as L S).bind fun xs S1 => F xs S1
/-- C(..): a new instance, its __init__ -/
def eMake (c : Nat) (F : Fn) (as : AM) : EM := fun L S => (as L S).bind fun xs S1 =>
  (F (.ref S1.length :: xs) (S1 ++ [.ins c []])).bind fun v S2 => if v = .non then .ok (.ref S1.length) S2 else .err
def fget (f : Nat) : List (Nat × D) → Option D
  | [] => none
  | (g, d) :: r => if f = g then some d else fget f r
def fput (f : Nat) (v : D) : List (Nat × D) → List (Nat × D)
  | [] => [(f, v)]
  | (g, d) :: r => if g = f then (g, v) :: r else (g, d) :: fput f v r
/-- o.f, o of the class c -/
def opFld (c f : Nat) : Op1 := fun x S => match x with
  | .ref n => (match S[n]? with
    | some (.ins c' fs) => if c' = c then (match fget f fs with
      | some d => .ok d S
      | none => .err) else .err
    | _ => .err)
  | _ => .err
/-- o.m(..), o of the class c; m: the number of the method's name -/
def eMeth (c m : Nat) (F : Fn) (o : EM) (as : AM) : EM := fun L S => (o L S).bind fun x S1 => match x with
  | .ref n => (match S1[n]? with
    | some (.ins c' fs) => if c' = c ∧ fget m fs = none then (as L S1).bind fun xs S2 => F (.ref n :: xs) S2 else .err
    | _ => .err)
  | _ => .err

/-- a < b < c, b asked once -/
def eChain (f f' : Op2) (a b c : EM) : EM := fun L S => (a L S).bind fun x S1 => (b L S1).bind fun y S2 => (f x y S2).bind fun z S3 => match z with
  | .bl true => (c L S3).bind fun w S4 => f' y w S4
  | .bl false => .ok (.bl false) S3
  | _ => .err
/-- xs[::-1] -/
def opRev : Op1 := fun x S => match x with
  | .ref n => (match S[n]? with
    | some (.lst xs) => .ok (.ref S.length) (S ++ [.lst xs.reverse])
    | _ => .err)
  | _ => .err
/-! ### tests -/
def tV (a : EM) : BM := fun L S => (a L S).bind fun x S1 => match x with
  | .bl k => .ok k S1
  | _ => .err
def tAnd (a b : BM) : BM := fun L S => (a L S).bind fun c S1 => if c = true then b L S1 else .ok false S1
def tOr (a b : BM) : BM := fun L S => (a L S).bind fun c S1 => if c = true then .ok true S1 else b L S1
def tNot (a : BM) : BM := fun L S => (a L S).bind fun c S1 => .ok (!c) S1
def tYes : BM := fun _ S => .ok true S

/-! ### statements -/
def sNx : SM := fun L S => .nx L S
def sSeq (a b : SM) : SM := fun L S => match a L S with
  | .nx L1 S1 => b L1 S1
  | r => r
def sExpr (a : EM) : SM := fun L S => (a L S).st L fun _ S1 => .nx L S1
def sRet (a : EM) : SM := fun L S => (a L S).st L fun d S1 => .rt d S1
def sRetN : SM := fun _ S => .rt .non S
def sIf (t : BM) (a b : SM) : SM := fun L S => (t L S).st L fun c S1 => if c = true then a L S1 else b L S1
def sAsg (a : EM) (t : TM) : SM := fun L S => (a L S).st L fun d S1 => match t d L S1 with
  | .ok L1 S2 => .nx L1 S2
  | _ => .err
def sBrk : SM := fun L S => .bk L S
def sCnt : SM := fun L S => .ct L S
/-- raise C('..'), raise C(..) -/
def sRaise (c : Nat) (as : AM) : SM := fun L S => (as L S).st L fun xs S1 => .exc ⟨c, xs⟩ L S1

/-! ### targets -/
def gV (i : Nat) : TM := fun d L S => .ok (L.set i (some d)) S
def gNil : List D → Loc → Sto → R Loc := fun ds L S => if ds = [] then .ok L S else .err
def gCons (t : TM) (u : List D → Loc → Sto → R Loc) : List D → Loc → Sto → R Loc := fun ds L S => match ds with
  | d :: r => (t d L S).bind fun L1 S1 => u r L1 S1
  | [] => .err
def gTup (n : Nat) (u : List D → Loc → Sto → R Loc) : TM := fun d L S => match d with
  | .tup ds => if ds.length = n then u ds L S else .err
  | _ => .err
/-- o.f = .. -/
def gFld (c f : Nat) (o : EM) : TM := fun d L S => (o L S).bind fun x S1 => match x with
  | .ref n => (match S1[n]? with
    | some (.ins c' fs) => if c' = c ∧ fs.length < 1000 then .ok L (S1.set n (.ins c' (fput f d fs))) else .err
    | _ => .err)
  | _ => .err
/-- o[i] = .., by values -/
abbrev Set2 := D → D → D → Sto → R Unit
def gSub (f : Set2) (o i : EM) : TM := fun d L S => (o L S).bind fun x S1 => (i L S1).bind fun y S2 => (f x y d S2).bind fun _ S3 => .ok L S3

/-! ### loops -/
/-- what is walked: the items, what must stay true meanwhile -/
structure Wk where
  items : List D
  chk : Sto → Bool
abbrev WM := Loc → Sto → R Wk
def forL (chk : Sto → Bool) (tg : TM) (body : SM) : List D → SM
  | [], L, S => if chk S = true then .nx L S else .err
  | x :: xs, L, S => if chk S = true then (match tg x L S with
    | .ok L1 S1 => (match body L1 S1 with
      | .nx L2 S2 => forL chk tg body xs L2 S2
      | .ct L2 S2 => forL chk tg body xs L2 S2
      | .bk L2 S2 => .nx L2 S2
      | r => r)
    | _ => .err) else .err
def sFor (w : WM) (tg : TM) (body : SM) : SM := fun L S => (w L S).st L fun k S1 => forL k.chk tg body k.items L S1
def whileN (t : BM) (body : SM) : Nat → SM
  | 0, _, _ => .err
  | n + 1, L, S => (t L S).st L fun c S1 => if c = true then (match body L S1 with
    | .nx L2 S2 => whileN t body n L2 S2
    | .ct L2 S2 => whileN t body n L2 S2
    | .bk L2 S2 => .nx L2 S2
    | r => r) else .nx L S1
open Classical in
noncomputable def sWhile (t : BM) (body : SM) : SM := fun L S => if h : ∃ n, whileN t body n L S ≠ .err then whileN t body h.choose L S else .err
/-- what is walked is on its way changed by nobody -/
def wLst (a : EM) : WM := fun L S => (a L S).bind fun x S1 => match x with
  | .ref n => (match S1[n]? with
    | some (.lst xs) => .ok ⟨xs, fun S => decide (S[n]? = some (.lst xs))⟩ S1
    | _ => .err)
  | _ => .err
def wTup (a : EM) : WM := fun L S => (a L S).bind fun x S1 => match x with
  | .tup xs => .ok ⟨xs, fun _ => true⟩ S1
  | _ => .err
def rngD (lo : Int) (n : Nat) : List D := (List.range n).map fun i => .int (lo + (i : Nat))
def wRng1 (a : EM) : WM := fun L S => (a L S).bind fun x S1 => match x with
  | .int j => if -(2 ^ 62) ≤ j ∧ j < 2 ^ 62 then .ok ⟨rngD 0 j.toNat, fun _ => true⟩ S1 else .err
  | _ => .err
def wRng2 (a b : EM) : WM := fun L S => (a L S).bind fun x S1 => (b L S1).bind fun y S2 => match x, y with
  | .int i, .int j => if -(2 ^ 62) ≤ i ∧ i < 2 ^ 62 ∧ -(2 ^ 62) ≤ j ∧ j < 2 ^ 62 then .ok ⟨rngD i (j - i).toNat, fun _ => true⟩ S2 else .err
  | _, _ => .err

/-! ### comprehensions -/
def wipe (L : Loc) : List Nat → Loc
  | [] => L
  | v :: vs => (wipe L vs).set v none
/-- the list at n grows -/
def lcL (chk : Sto → Bool) (tg : TM) (t : BM) (e : EM) (L : Loc) (n : Nat) : List D → Sto → R D
  | [], S => if chk S = true then .ok (.ref n) S else .err
  | x :: xs, S => if chk S = true then (match tg x L S with
    | .ok L1 S1 => (match t L1 S1 with
      | .ok true S2 => (match e L1 S2 with
        | .ok y S3 => (match S3[n]? with
          | some (.lst acc) => if acc.length < sz then lcL chk tg t e L n xs (S3.set n (.lst (acc ++ [y]))) else .err
          | _ => .err)
        | _ => .err)
      | .ok false S2 => lcL chk tg t e L n xs S2
      | _ => .err)
    | _ => .err) else .err
def eLc (w : WM) (tg : TM) (t : BM) (e : EM) (vs : List Nat) : EM := fun L S => (w L S).bind fun k S1 => lcL k.chk tg t e (wipe L vs) S1.length k.items (S1 ++ [.lst []])

/-! ### defs -/
def fn (np nl : Nat) (body : SM) : Fn := fun ds S => if ds.length = np then (match body (ds.map some ++ List.replicate (nl - np) none) S with
  | .nx _ S1 => .ok .non S1
  | .rt d S1 => .ok d S1
  | .exc x _ S1 => .exc x S1
  | _ => .err) else .err

/-! ### data as it is compared -/
def reify : Nat → Sto → D → Option PyData
  | _, _, .non => some .none
  | _, _, .bl b => some (.bool b)
  | _, _, .int i => some (.int i)
  | _, _, .str x => some (.str ⟨x.toArray⟩)
  | n + 1, S, .tup xs => (xs.mapM (reify n S)).map .tuple
  | n + 1, S, .ref r => (match S[r]? with
    | some (.lst xs) => (xs.mapM (reify n S)).map .list
    | some (.frz xs) => (xs.mapM (reify n S)).map .list
    | _ => none)
  | _, _, _ => none
def opEq : Op2 := fun x y S => match reify 60 S x, reify 60 S y with
  | some p, some q => .ok (.bl (PyData.eqv p q)) S
  | _, _ => .err
def opNe : Op2 := fun x y S => match reify 60 S x, reify 60 S y with
  | some p, some q => .ok (.bl (!PyData.eqv p q)) S
  | _, _ => .err

/-! ### operators -/
def mulOk (i j : Int) : Bool := (decide (-(2 ^ 64) < i) && decide (i < 2 ^ 64)) || (decide (-(2 ^ 64) < j) && decide (j < 2 ^ 64)) || (decide (i.natAbs < 2 ^ 200) && decide (j.natAbs < 2 ^ 200))
def opAdd : Op2 := fun x y S => match x, y with
  | .int i, .int j => .ok (.int (i + j)) S
  | .str a, .str b => if a.length + b.length ≤ sz then .ok (.str (a ++ b)) S else .err
  | .tup a, .tup b => if a.length + b.length ≤ sz then .ok (.tup (a ++ b)) S else .err
  | .ref n, .ref m => (match S[n]?, S[m]? with
    | some (.lst a), some (.lst b) => if a.length + b.length ≤ sz then .ok (.ref S.length) (S ++ [.lst (a ++ b)]) else .err
    | _, _ => .err)
  | _, _ => .err
def opSub : Op2 := fun x y S => match x, y with
  | .int i, .int j => .ok (.int (i - j)) S
  | _, _ => .err
def opMul : Op2 := fun x y S => match x, y with
  | .int i, .int j => if mulOk i j = true then .ok (.int (i * j)) S else .err
  | .ref n, .int k => (match S[n]? with
    | some (.lst a) => if -(2 ^ 63) ≤ k ∧ k < 2 ^ 63 ∧ a.length * k.toNat ≤ sz then .ok (.ref S.length) (S ++ [.lst (List.replicate k.toNat a).flatten]) else .err
    | _ => .err)
  | .tup a, .int k => if a ≠ [] ∧ 2 ≤ k ∧ k ≤ 1000 ∧ a.length ≤ 1000 then .ok (.tup (List.replicate k.toNat a).flatten) S else .err
  | _, _ => .err
def opMod : Op2 := fun x y S => match x, y with
  | .int i, .int j => if 0 < j then .ok (.int (i % j)) S else .err
  | _, _ => .err
def opDiv : Op2 := fun x y S => match x, y with
  | .int i, .int j => if 0 < j ∧ j < 2 ^ 200 then .ok (.int (i / j)) S else .err
  | _, _ => .err
def opPow : Op2 := fun x y S => match x, y with
  | .int i, .int j => if 0 ≤ j ∧ j ≤ 1000000 ∧ i.natAbs < 2 ^ 64 then .ok (.int (i ^ j.toNat)) S else .err
  | _, _ => .err
def opNeg : Op1 := fun x S => match x with
  | .int i => .ok (.int (-i)) S
  | _ => .err
def opCmp (f : Int → Int → Bool) : Op2 := fun x y S => match x, y with
  | .int i, .int j => .ok (.bl (f i j)) S
  | _, _ => .err
abbrev opLt : Op2 := opCmp fun i j => decide (i < j)
abbrev opLe : Op2 := opCmp fun i j => decide (i ≤ j)
abbrev opGt : Op2 := opCmp fun i j => decide (j < i)
abbrev opGe : Op2 := opCmp fun i j => decide (j ≤ i)
def opIsN : Op1 := fun x S => .ok (.bl (decide (x = .non))) S
def opNotN : Op1 := fun x S => .ok (.bl (!decide (x = .non))) S
/-- a place by an index of any sign -/
def ixN (n : Nat) (i : Int) : Option Nat := if 0 ≤ i then (if i < n then some i.toNat else none) else (if -(n : Int) ≤ i then some (i + n).toNat else none)
def atI {α : Type} (xs : List α) (i : Int) : Option α := (ixN xs.length i).bind fun j => xs[j]?
def opIx : Op2 := fun x y S => match x, y with
  | .tup xs, .int i => (match atI xs i with
    | some d => .ok d S
    | none => .err)
  | .ref n, .int i => (match S[n]? with
    | some (.lst xs) => (match atI xs i with
      | some d => .ok d S
      | none => .err)
    | some (.frz xs) => (match atI xs i with
      | some d => .ok d S
      | none => .err)
    | _ => .err)
  | .str z, .int i => if z.length ≤ sz then (match atI z i with
    | some c => .ok (.str [c]) S
    | none => .err) else .err
  | _, _ => .err
/-- x is k, a truth -/
def opIsB (k : Bool) : Op1 := fun x S => match x with
  | .bl b => .ok (.bl (decide (b = k))) S
  | _ => .err
def opNotB (k : Bool) : Op1 := fun x S => match x with
  | .bl b => .ok (.bl (!decide (b = k))) S
  | _ => .err
/-! ### slices -/
def sIx (n d : Nat) : Option Int → Nat
  | none => d
  | some v => if v < 0 then (v + (n : Int)).toNat else min v.toNat n
def cut {α : Type} (xs : List α) (lo hi : Option Int) : List α := (xs.drop (sIx xs.length 0 lo)).take (sIx xs.length xs.length hi - sIx xs.length 0 lo)
abbrev PM := Loc → Sto → R (Option Int)
def pNo : PM := fun _ S => .ok none S
def pSome (a : EM) : PM := fun L S => (a L S).bind fun x S1 => match x with
  | .int i => .ok (some i) S1
  | _ => .err
def opSl (x : D) (lo hi : Option Int) (S : Sto) : R D := match x with
  | .tup xs => .ok (.tup (cut xs lo hi)) S
  | .str z => if z.length ≤ sz then .ok (.str (cut z lo hi)) S else .err
  | .ref n => (match S[n]? with
    | some (.lst xs) => .ok (.ref S.length) (S ++ [.lst (cut xs lo hi)])
    | _ => .err)
  | _ => .err
def eSl (a : EM) (lo hi : PM) : EM := fun L S => (a L S).bind fun x S1 => (lo L S1).bind fun l S2 => (hi L S2).bind fun h S3 => opSl x l h S3
/-- told(lambda: m): what m tells; of an exception the text WT -/
def eTold (ks : List Nat) (WT : Nat → D) (WO : Nat → List Ob) (m : EM) : EM := fun L S => match m L S with
  | .ok d S1 => .ok d S1
  | .exc x S1 => if x.p = [] ∧ x.c ∈ ks then .ok (WT x.c) (S1 ++ WO x.c) else .err
  | .err => .err
/-! ### builtins, by lists of arguments -/
def fLen : Fn := fun ds S => match ds with
  | [.str z] => if z.length ≤ sz then .ok (.int z.length) S else .err
  | [.tup xs] => .ok (.int xs.length) S
  | [.ref n] => (match S[n]? with
    | some (.lst xs) => .ok (.int xs.length) S
    | some (.frz xs) => .ok (.int xs.length) S
    | _ => .err)
  | _ => .err
/-- len of a dict -/
def fLenD : Fn := fun ds S => match ds with
  | [.ref n] => (match S[n]? with
    | some (.dic _ false kvs) => .ok (.int kvs.length) S
    | _ => .err)
  | _ => .err
def tyNm (S : Sto) : D → Option String
  | .non => some "NoneType"
  | .bl _ => some "bool"
  | .int _ => some "int"
  | .str _ => some "str"
  | .tup _ => some "tuple"
  | .ref n => (match S[n]? with
    | some (.lst _) => some "list"
    | some (.dic _ false _) => some "dict"
    | _ => none)
  | .exn _ _ => none
/-- isinstance(x, T), T a built-in type -/
def opIsi (T : String) : Op1 := fun x S => match tyNm S x with
  | some t => .ok (.bl (decide (t = T) || (decide (t = "bool") && decide (T = "int")))) S
  | none => .err
def allB : List D → Option Bool
  | [] => some true
  | .bl b :: r => (allB r).map fun c => b && c
  | _ => none
def fAll : Fn := fun ds S => match ds with
  | [.ref n] => (match S[n]? with
    | some (.lst xs) => (match allB xs with
      | some b => .ok (.bl b) S
      | none => .err)
    | _ => .err)
  | _ => .err
def intsOf : List D → Option (List Int)
  | [] => some []
  | .int i :: r => (intsOf r).map fun c => i :: c
  | _ => none
def fSum : Fn := fun ds S => match ds with
  | [.ref n] => (match S[n]? with
    | some (.lst xs) => (match intsOf xs with
      | some is => .ok (.int is.sum) S
      | none => .err)
    | _ => .err)
  | _ => .err
def fMax2 : Fn := fun ds S => match ds with
  | [.int i, .int j] => .ok (.int (if j > i then j else i)) S
  | _ => .err
def fMin2 : Fn := fun ds S => match ds with
  | [.int i, .int j] => .ok (.int (if j < i then j else i)) S
  | _ => .err
/-- int(x) of an int, a truth -/
def fInt : Fn := fun ds S => match ds with
  | [.int i] => .ok (.int i) S
  | [.bl k] => .ok (.int (if k then 1 else 0)) S
  | _ => .err
/-- list(xs), tuple(xs) -/
def fList : Fn := fun ds S => match ds with
  | [.ref n] => (match S[n]? with
    | some (.lst xs) => .ok (.ref S.length) (S ++ [.lst xs])
    | _ => .err)
  | [.tup xs] => .ok (.ref S.length) (S ++ [.lst xs])
  | _ => .err
def fTuple : Fn := fun ds S => match ds with
  | [.ref n] => (match S[n]? with
    | some (.lst xs) => .ok (.tup xs) S
    | _ => .err)
  | [.tup xs] => .ok (.tup xs) S
  | _ => .err
/-! ### methods of lists -/
def eBM (t : String) (F : Fn) (o : EM) (as : AM) : EM := fun L S => (o L S).bind fun x S1 => if tyNm S1 x = some t then (as L S1).bind fun xs S2 => F (x :: xs) S2 else .err
def fAppend : Fn := fun ds S => match ds with
  | [.ref n, y] => (match S[n]? with
    | some (.lst xs) => if xs.length < sz then .ok .non (S.set n (.lst (xs ++ [y]))) else .err
    | _ => .err)
  | _ => .err
def fInsert : Fn := fun ds S => match ds with
  | [.ref n, .int i, y] => (match S[n]? with
    | some (.lst xs) => if xs.length < sz ∧ 0 ≤ i ∧ i < 2 ^ 63 then .ok .non (S.set n (.lst (xs.take i.toNat ++ [y] ++ xs.drop i.toNat))) else .err
    | _ => .err)
  | _ => .err
/-- xs.pop(0) -/
def fPopAt : Fn := fun ds S => match ds with
  | [.ref n, .int i] => (match S[n]? with
    | some (.lst xs) => (match xs with
      | y :: r => if i = 0 then .ok y (S.set n (.lst r)) else .err
      | [] => .err)
    | _ => .err)
  | _ => .err
/-- xs[i] = v -/
def setL : Set2 := fun x i v S => match x, i with
  | .ref n, .int i => (match S[n]? with
    | some (.lst xs) => (match ixN xs.length i with
      | some j => .ok () (S.set n (.lst (xs.set j v)))
      | none => .err)
    | _ => .err)
  | _, _ => .err

/-- isinstance of the exception at a -/
def opIsE (a : Nat) (b : Bool) : Op1 := fun x S => match x with
  | .exn a' _ => if a' = a then .ok (.bl b) S else .err
  | _ => .err
def blsOf : List D → Option (List Bool)
  | [] => some []
  | .bl b :: r => (blsOf r).map fun c => b :: c
  | _ => none
/-- [int(x) for x in xs], xs a list of truths -/
def opInts : Op1 := fun x S => match x with
  | .ref n => (match S[n]? with
    | some (.lst xs) => (match blsOf xs with
      | some bs => .ok (.ref S.length) (S ++ [.lst (bs.map fun b => .int (if b = true then 1 else 0))])
      | none => .err)
    | _ => .err)
  | _ => .err
/-! ### texts -/
def strsOfD : List D → Option (List (List Nat))
  | [] => some []
  | .str i :: r => (strsOfD r).map fun c => i :: c
  | _ => none
def joinS (a : List Nat) : List (List Nat) → List Nat
  | [] => []
  | [x] => x
  | x :: y :: r => x ++ a ++ joinS a (y :: r)
def splitC (c : Nat) : List Nat → List (List Nat)
  | [] => [[]]
  | x :: r => if x = c then [] :: splitC c r else (match splitC c r with
    | h :: t => (x :: h) :: t
    | [] => [[x]])
/-- a.join(ys), ys a tuple of texts -/
def fJoin : Fn := fun ds S => match ds with
  | [.str a, .tup ys] => (match strsOfD ys with
    | some zs => if (zs.map (·.length)).sum + zs.length * a.length ≤ sz then .ok (.str (joinS a zs)) S else .err
    | none => .err)
  | _ => .err
/-- x.split(c), c one sign -/
def fSplit : Fn := fun ds S => match ds with
  | [.str x, .str [c]] => if x.length + 2 ≤ sz then .ok (.ref S.length) (S ++ [.lst ((splitC c x).map .str)]) else .err
  | _ => .err
/-! ### in -/
def mapR (S : Sto) (xs : List D) : Option (List PyData) := xs.mapM (reify 59 S)
/-- xs.index(x) -/
def fIndex : Fn := fun ds S => match ds with
  | [.ref n, x] => (match S[n]? with
    | some (.lst xs) => (match reify 60 S x, mapR S xs with
      | some p, some ps => (match ps.findIdx? fun z => PyData.eqv z p with
        | some j => .ok (.int j) S
        | none => .err)
      | _, _ => .err)
    | _ => .err)
  | _ => .err
/-- x in a list of data -/
def inL (neg : Bool) : Op2 := fun x y S => match y with
  | .ref n => (match S[n]? with
    | some (.lst xs) => (match reify 60 S x, mapR S xs with
      | some p, some ps => .ok (.bl (if neg = true then !(ps.any fun z => PyData.eqv z p) else ps.any fun z => PyData.eqv z p)) S
      | _, _ => .err)
    | _ => .err)
  | _ => .err
/-- a sign in a text -/
def inS (neg : Bool) : Op2 := fun x y S => match x, y with
  | .str [c], .str z => .ok (.bl (if neg = true then !decide (c ∈ z) else decide (c ∈ z))) S
  | _, _ => .err
def strsOf : List D → Option (List (List Nat))
  | [] => some []
  | .str i :: r => (strsOf r).map fun c => i :: c
  | _ => none
/-- a text in a tuple of texts -/
def inT (neg : Bool) : Op2 := fun x y S => match x, y with
  | .str c, .tup ys => (match strsOf ys with
    | some zs => .ok (.bl (if neg = true then !decide (c ∈ zs) else decide (c ∈ zs))) S
    | none => .err)
  | _, _ => .err
/-! ### dicts -/
def isKey : D → Bool
  | .int _ => true
  | .str x => x.all fun c => decide (c < 0x110000)
  | _ => false
/-- may it be a key of a dict with tuple keys (t), with others -/
def keyOk (t : Bool) (k : D) : Bool := if t = true then (match k with
  | .tup ds => ds.all isKey
  | _ => false) else isKey k
def kget (k : D) : List (D × D) → Option D
  | [] => none
  | (g, d) :: r => if g = k then some d else kget k r
def kput (k v : D) (kvs : List (D × D)) : List (D × D) := if (kvs.any fun q => decide (q.1 = k)) = true then kvs.map fun q => if q.1 = k then (q.1, v) else q else kvs ++ [(k, v)]
def kdrop (k : D) (kvs : List (D × D)) : List (D × D) := kvs.filter fun q => decide (q.1 ≠ k)
/-- d[k] -/
def opGet : Op2 := fun x k S => match x with
  | .ref n => (match S[n]? with
    | some (.dic t _ kvs) => if keyOk t k = true then (match kget k kvs with
      | some d => .ok d S
      | none => .err) else .err
    | _ => .err)
  | _ => .err
/-- k in d -/
def inD (neg : Bool) : Op2 := fun k x S => match x with
  | .ref n => (match S[n]? with
    | some (.dic t _ kvs) => if keyOk t k = true then .ok (.bl (if neg = true then !(kget k kvs).isSome else (kget k kvs).isSome)) S else .err
    | _ => .err)
  | _ => .err
/-- d[k] = v -/
def setD : Set2 := fun x k v S => match x with
  | .ref n => (match S[n]? with
    | some (.dic t false kvs) => if keyOk t k = true ∧ kvs.length < sz then .ok () (S.set n (.dic t false (kput k v kvs))) else .err
    | _ => .err)
  | _ => .err
/-- d.pop(k, x) -/
def fPop2 : Fn := fun ds S => match ds with
  | [.ref n, k, z] => (match S[n]? with
    | some (.dic t false kvs) => if keyOk t k = true then (match kget k kvs with
      | some d => .ok d (S.set n (.dic t false (kdrop k kvs)))
      | none => .ok z S) else .err
    | _ => .err)
  | _ => .err
/-- d.get(k, x) -/
def fGet2 : Fn := fun ds S => match ds with
  | [.ref n, k, z] => (match S[n]? with
    | some (.dic t _ kvs) => if keyOk t k = true then .ok ((kget k kvs).getD z) S else .err
    | _ => .err)
  | _ => .err
/-- a call that leaves the last arguments to their defaults -/
def withD (F : Fn) (dd : List D) : Fn := fun ds S => F (ds ++ dd) S
/-! ### what is never reached; signs of a text; len of an instance -/
def eErr : EM := fun _ _ => .err
def sErr : SM := fun _ _ => .err
/-- the signs of a text -/
def wStr (a : EM) : WM := fun L S => (a L S).bind fun x S1 => match x with
  | .str z => .ok ⟨z.map fun c => .str [c], fun _ => true⟩ S1
  | _ => .err
/-- len of an instance with its own __len__ -/
def fLenOwn (c : Nat) (F : Fn) : Fn := fun ds S => match ds with
  | [.ref n] => (match S[n]? with
    | some (.ins c' _) => if c' = c then (F [.ref n] S).bind fun v S1 => match v with
      | .int i => if 0 ≤ i ∧ i < 2 ^ 63 then .ok (.int i) S1 else .err
      | _ => .err else .err
    | _ => .err)
  | _ => .err
end MP

namespace MP
open PySem (PyData)
def encF : D → PyData
  | .int i => .int i
  | .str x => .str ⟨x.toArray⟩
  | _ => .none
def encD : D → PyData
  | .tup ds => .tuple (ds.map encF)
  | d => encF d
def flI : D → Bool
  | .int _ => true
  | _ => false
def flS : D → Bool
  | .str _ => true
  | _ => false
def tTI : D → Bool
  | .tup r => r.all flI
  | _ => false
def tTS : D → Bool
  | .tup r => r.all flS
  | _ => false
/-- what can be sorted: ints, tuples of ints, tuples of texts -/
def srtOk (ds : List D) : Bool := ds.all flI || ds.all tTI || ds.all tTS
def srtD (ds : List D) : List D := ds.mergeSort (PySem.W.dataLe false encD)
/-- sorted(a list), sorted(a dict with tuple keys) -/
def fSorted : Fn := fun ds S => match ds with
  | [.ref n] => (match S[n]? with
    | some (.lst xs) => if srtOk xs = true ∧ xs.length ≤ sz then .ok (.ref S.length) (S ++ [.lst (srtD xs)]) else .err
    | some (.dic true _ kvs) => if srtOk (kvs.map (·.1)) = true ∧ kvs.length ≤ sz then .ok (.ref S.length) (S ++ [.lst (srtD (kvs.map (·.1)))]) else .err
    | _ => .err)
  | _ => .err
def nubI (ns : List Int) : List Int := ns.foldl (fun acc k => if k ∈ acc then acc else acc ++ [k]) []
/-- len(set(x)), x a list of ints -/
def opLenSet : Op1 := fun x S => match x with
  | .ref n => (match S[n]? with
    | some (.lst xs) => (match intsOf xs with
      | some ns => if ns.length ≤ 1000 then .ok (.int (nubI ns).length) S else .err
      | none => .err)
    | _ => .err)
  | _ => .err
/-- range(i, j, -1) -/
def rngDn (i : Int) (n : Nat) : List D := (List.range n).map fun k => .int (i - (k : Nat))
def wRngDn (a b : EM) : WM := fun L S => (a L S).bind fun x S1 => (b L S1).bind fun y S2 => match x, y with
  | .int i, .int j => if -(2 ^ 62) ≤ i ∧ i < 2 ^ 62 ∧ -(2 ^ 62) ≤ j ∧ j < 2 ^ 62 then .ok ⟨rngDn i (i - j).toNat, fun _ => true⟩ S2 else .err
  | _, _ => .err
/-- len of a dict with tuple keys -/
def fLenDT : Fn := fun ds S => match ds with
  | [.ref n] => (match S[n]? with
    | some (.dic true false kvs) => .ok (.int kvs.length) S
    | _ => .err)
  | _ => .err
/-- d.pop(k), a dict with tuple keys -/
def fPop1 : Fn := fun ds S => match ds with
  | [.ref n, k] => (match S[n]? with
    | some (.dic true false kvs) => if keyOk true k = true then (match kget k kvs with
      | some d => .ok d (S.set n (.dic true false (kdrop k kvs)))
      | none => .err) else .err
    | _ => .err)
  | _ => .err
end MP

namespace MP
/-- the keys of a dict that is locked -/
def wDic (a : EM) : WM := fun L S => (a L S).bind fun x S1 => match x with
  | .ref n => (match S1[n]? with
    | some (.dic true true kvs) => .ok ⟨kvs.map (·.1), fun S => decide (S[n]? = some (.dic true true kvs))⟩ S1
    | _ => .err)
  | _ => .err
def unlD (n : Nat) (kvs : List (D × D)) (S : Sto) : Option Sto := match S[n]? with
  | some (.dic true true _) => some (S.set n (.dic true false kvs))
  | _ => none
/-- a statement runs while the dict that a tells is locked -/
def sLock (a : EM) (st : SM) : SM := fun L S => match a L S with
  | .ok (.ref n) _ => (match S[n]? with
    | some (.dic true false kvs) => (match st L (S.set n (.dic true true kvs)) with
      | .nx L1 S1 => (match unlD n kvs S1 with
        | some S2 => .nx L1 S2
        | none => .err)
      | .rt d S1 => (match unlD n kvs S1 with
        | some S2 => .rt d S2
        | none => .err)
      | .bk L1 S1 => (match unlD n kvs S1 with
        | some S2 => .bk L1 S2
        | none => .err)
      | .ct L1 S1 => (match unlD n kvs S1 with
        | some S2 => .ct L1 S2
        | none => .err)
      | .exc x L1 S1 => .exc x L1 S1
      | .err => .err)
    | _ => .err)
  | _ => .err
/-- .. an expression -/
def eLock (a : EM) (m : EM) : EM := fun L S => match a L S with
  | .ok (.ref n) _ => (match S[n]? with
    | some (.dic true false kvs) => (match m L (S.set n (.dic true true kvs)) with
      | .ok d S1 => (match unlD n kvs S1 with
        | some S2 => .ok d S2
        | none => .err)
      | .exc x S1 => .exc x S1
      | .err => .err)
    | _ => .err)
  | _ => .err
/-- C(.., k = v, ..): n values, m keywords; gD: in the turn of the parameters, what lacks filled up -/
def eMakeK (c n m : Nat) (F : Fn) (gD : List D → List D → List D) (as ks : AM) : EM := fun L S => (as L S).bind fun xs S1 => (ks L S1).bind fun zs S2 => if xs.length = n ∧ zs.length = m then
  (F (.ref S2.length :: gD xs zs) (S2 ++ [.ins c []])).bind fun v S3 => if v = .non then .ok (.ref S2.length) S3 else .err else .err
end MP

namespace MP
/-- xs.remove(k), a list of ints that has k -/
def fRemove : Fn := fun ds S => match ds with
  | [.ref n, .int k] => (match S[n]? with
    | some (.lst xs) => (match intsOf xs with
      | some is => if k ∈ is then .ok .non (S.set n (.lst ((is.erase k).map .int))) else .err
      | none => .err)
    | _ => .err)
  | _ => .err
/-- xs.count(k), a list of ints -/
def fCount : Fn := fun ds S => match ds with
  | [.ref n, .int k] => (match S[n]? with
    | some (.lst xs) => (match intsOf xs with
      | some is => .ok (.int (is.count k : Nat)) S
      | none => .err)
    | _ => .err)
  | _ => .err
end MP

namespace MP
/-- the second for: each item is stored, then acted on -/
def n2in (chk : Sto → Bool) (tg : TM) (act : Loc → Sto → R Unit) (L : Loc) : List D → Sto → R Unit
  | [], S => if chk S = true then .ok () S else .err
  | x :: xs, S => if chk S = true then (match tg x L S with
    | .ok L1 S1 => (match act L1 S1 with
      | .ok _ S2 => n2in chk tg act L xs S2
      | _ => .err)
    | _ => .err) else .err
/-- the first for -/
def n2out (chk : Sto → Bool) (tg : TM) (w1 : WM) (tg1 : TM) (vs1 : List Nat) (act : Loc → Sto → R Unit) (L : Loc) : List D → Sto → R Unit
  | [], S => if chk S = true then .ok () S else .err
  | x :: xs, S => if chk S = true then (match tg x L S with
    | .ok L1 S1 => (match w1 L1 S1 with
      | .ok k S2 => (match n2in k.chk tg1 act (wipe L1 vs1) k.items S2 with
        | .ok _ S3 => n2out chk tg w1 tg1 vs1 act L xs S3
        | _ => .err)
      | _ => .err)
    | _ => .err) else .err
/-- the new item goes behind the list n -/
def actL (n : Nat) (e : EM) (L : Loc) (S : Sto) : R Unit := match e L S with
  | .ok y S1 => (match S1[n]? with
    | some (.lst acc) => if acc.length < sz then .ok () (S1.set n (.lst (acc ++ [y]))) else .err
    | _ => .err)
  | _ => .err
/-- .. into the dict n -/
def actD (n : Nat) (ek ev : EM) (L : Loc) (S : Sto) : R Unit := match ek L S with
  | .ok k S1 => (match ev L S1 with
    | .ok v S2 => (match S2[n]? with
      | some (.dic true false kvs) => if keyOk true k = true ∧ kvs.length < sz then .ok () (S2.set n (.dic true false (kput k v kvs))) else .err
      | _ => .err)
    | _ => .err)
  | _ => .err
/-- [e for .. in w for .. in w1] -/
def eLc2 (w : WM) (tg : TM) (w1 : WM) (tg1 : TM) (e : EM) (vs vs1 : List Nat) : EM := fun L S => (w L S).bind fun k S1 => (n2out k.chk tg w1 tg1 vs1 (actL S1.length e) (wipe L vs) k.items (S1 ++ [.lst []])).bind fun _ S2 => .ok (.ref S1.length) S2
/-- {ek: ev for .. in w for .. in w1} -/
def eDc2 (w : WM) (tg : TM) (w1 : WM) (tg1 : TM) (ek ev : EM) (vs vs1 : List Nat) : EM := fun L S => (w L S).bind fun k S1 => (n2out k.chk tg w1 tg1 vs1 (actD S1.length ek ev) (wipe L vs) k.items (S1 ++ [.dic true false []])).bind fun _ S2 => .ok (.ref S1.length) S2
end MP

namespace MP
open PySem (PyData)
/-- what may stand on the right -/
def okE (c : Nat) : Ob → Bool
  | .ins c2 _ => decide (c2 = c)
  | .dic _ lk _ => !lk
  | _ => false
/-- x == y by the own __eq__ of the class c; k: what is told of its answer -/
def eqO (c : Nat) (F : Fn) (k : Bool → Bool) : Op2 := fun x y S => match x, y with
  | .ref n, .ref m => (match S[n]?, S[m]? with
    | some (.ins c' _), some o => if c' = c ∧ okE c o = true then (match F [.ref n, .ref m] S with
      | .ok (.bl b) S1 => .ok (.bl (k b)) S1
      | _ => .err) else .err
    | _, _ => .err)
  | _, _ => .err
/-- isinstance(x, c), c an own class -/
def opIsO (c : Nat) : Op1 := fun x S => match x with
  | .ref n => (match S[n]? with
    | some (.ins c' _) => if c' = c then .ok (.bl true) S else .err
    | some (.dic _ false _) => .ok (.bl false) S
    | _ => .err)
  | _ => .err
/-- is each of a dict's entries in another one -/
def eqKv (S : Sto) (kb : List (D × D)) : List (D × D) → Option Bool
  | [] => some true
  | (k, v) :: r => (match kget k kb with
    | none => (eqKv S kb r).map fun _ => false
    | some y => (match reify 50 S v, reify 50 S y with
      | some p, some q => (eqKv S kb r).map fun b => PyData.eqv p q && b
      | _, _ => none))
/-- == of two dicts with tuple keys -/
def opEqT : Op2 := fun x y S => match x, y with
  | .ref n, .ref m => (match S[n]?, S[m]? with
    | some (.dic true false ka), some (.dic true false kb) => (match eqKv S kb ka with
      | some b => .ok (.bl (decide (ka.length = kb.length) && b)) S
      | none => .err)
    | _, _ => .err)
  | _, _ => .err
/-- the first place of the best one -/
def bestAt (bt : Nat → Nat → Bool) : Nat → Nat
  | 0 => 0
  | k + 1 => if bt (k + 1) (bestAt bt k) then k + 1 else bestAt bt k
/-- the first one of the longest tuples -/
def isTup : D → Bool
  | .tup _ => true
  | _ => false
def tlen : D → Nat
  | .tup xs => xs.length
  | _ => 0
def opMaxLen : Op1 := fun x S => match x with
  | .ref n => (match S[n]? with
    | some (.lst xs) => if xs.all isTup = true then (match xs[bestAt (fun i j => decide ((tlen (xs.getD i .non) : Int) > (tlen (xs.getD j .non) : Int))) (xs.length - 1)]? with
      | some d => .ok d S
      | none => .err) else .err
    | _ => .err)
  | _ => .err
end MP

namespace MP
/-- the exceptions but WantError; those without their own __init__ -/
def exAll : List Nat := [0, 1, 2, 3, 4, 5, 6, 7, 8]
def exKs : List Nat := [0, 1, 2, 3, 4, 6, 7, 8]
def exW : List (List Nat) := [[66, 97, 100, 76, 101, 116, 116, 101, 114], [66, 97, 100, 78, 97, 109, 101], [66, 97, 100, 78, 117, 109, 98, 101, 114], [66, 97, 100, 83, 105, 100, 101, 115], [66, 97, 100, 83, 116, 111, 114, 121], [71, 111, 110, 101], [78, 111, 72, 111, 117, 115, 101], [78, 111, 76, 101, 116, 116, 101, 114], [78, 111, 87, 97, 121], [87, 97, 110, 116, 69, 114, 114, 111, 114]]
def refd : List Nat := [114, 101, 102, 117, 115, 101, 100]
def wT (c : Nat) : D := .tup [.str refd, .str (exW.getD c [])]
def wO (c : Nat) : List Ob := [.lst [.bl (decide (c = 1)), .bl (decide (c = 3)), .bl (decide (c = 2)), .bl (decide (c = 0))], .lst [.bl (decide (c = 6)), .bl (decide (c = 8)), .bl (decide (c = 7)), .bl (decide (c = 5))], .lst [.bl (decide (c = 1)), .bl (decide (c = 3)), .bl (decide (c = 2)), .bl (decide (c = 0)), .bl (decide (c = 6)), .bl (decide (c = 8)), .bl (decide (c = 7)), .bl (decide (c = 5)), .bl (decide (c = 4))], .lst [.str [66, 97, 100, 78, 97, 109, 101], .str [66, 97, 100, 83, 105, 100, 101, 115], .str [66, 97, 100, 78, 117, 109, 98, 101, 114], .str [66, 97, 100, 76, 101, 116, 116, 101, 114], .str [78, 111, 72, 111, 117, 115, 101], .str [78, 111, 87, 97, 121], .str [78, 111, 76, 101, 116, 116, 101, 114], .str [71, 111, 110, 101], .str [66, 97, 100, 83, 116, 111, 114, 121]], .lst [.int (if decide (c = 1) = true then 1 else 0), .int (if decide (c = 3) = true then 1 else 0), .int (if decide (c = 2) = true then 1 else 0), .int (if decide (c = 0) = true then 1 else 0), .int (if decide (c = 6) = true then 1 else 0), .int (if decide (c = 8) = true then 1 else 0), .int (if decide (c = 7) = true then 1 else 0), .int (if decide (c = 5) = true then 1 else 0), .int (if decide (c = 4) = true then 1 else 0)]]
end MP

namespace MP
/-- is_number -/
def c_is_number : SM :=
  (sSeq (sIf (tOr (tNot (tV (eUn (opIsi "int") (eV 0)))) (tOr (tV (eUn (opIsi "bool") (eV 0))) (tV (eBin opLt (eV 0) (eV 1))))) (sRet (eC (.bl false))) sNx)
  (sRet (eOr (eUn opIsN (eV 2)) (eBin opLe (eV 0) (eV 2)))))
def f_is_number : Fn := fn 3 3 c_is_number
/-- Table.__len__ -/
def c_Table___len__ : SM :=
  (sRet (eCall fLenDT (aCons (eUn (opFld 3 38) (eV 0)) aNil)))
def f_Table___len__ : Fn := fn 1 1 c_Table___len__
/-- is_part -/
def c_is_part : SM :=
  (sRet (eAnd (eUn (opIsi "str") (eV 0)) (eAnd (eChain opLe opLe (eC (.int 1)) (eCall fLen (aCons (eV 0) aNil)) (eC (.int 4))) (eCall fAll (aCons (eLc (wStr (eV 0)) (gV 1) tYes (eBin (inS false) (eV 1) (eC (.str [97, 98, 99, 100, 101, 102, 103, 104, 105, 106, 107, 108, 109, 110, 111, 112, 113, 114, 115, 116, 117, 118, 119, 120, 121, 122, 48, 49, 50, 51, 52, 53, 54, 55, 56, 57]))) [1]) aNil)))))
def f_is_part : Fn := fn 1 2 c_is_part
/-- is_beginning -/
def c_is_beginning : SM :=
  (sRet (eAnd (eUn (opIsi "tuple") (eV 0)) (eAnd (eBin opLe (eCall fLen (aCons (eV 0) aNil)) (eC (.int 5))) (eCall fAll (aCons (eLc (wTup (eV 0)) (gV 1) tYes (eCall f_is_part (aCons (eV 1) aNil)) [1]) aNil)))))
def f_is_beginning : Fn := fn 1 2 c_is_beginning
/-- is_name -/
def c_is_name : SM :=
  (sRet (eAnd (eCall f_is_beginning (aCons (eV 0) aNil)) (eBin opNe (eV 0) (eTup aNil))))
def f_is_name : Fn := fn 1 1 c_is_name
/-- need_beginning -/
def c_need_beginning : SM :=
  (sIf (tNot (tV (eCall f_is_beginning (aCons (eV 0) aNil)))) (sRaise 1 aNil) sNx)
def f_need_beginning : Fn := fn 1 1 c_need_beginning
/-- need_name -/
def c_need_name : SM :=
  (sIf (tNot (tV (eCall f_is_name (aCons (eV 0) aNil)))) (sRaise 1 aNil) sNx)
def f_need_name : Fn := fn 1 1 c_need_name
/-- is_side -/
def c_is_side : SM :=
  (sRet (eCall f_is_number (aCons (eV 0) (aCons (eC (.int 0)) (aCons (eBin opSub (eC (.int 8)) (eC (.int 1))) aNil)))))
def f_is_side : Fn := fn 1 1 c_is_side
/-- need_sides -/
def c_need_sides : SM :=
  (sIf (tOr (tNot (tV (eUn (opIsi "list") (eV 0)))) (tOr (tNot (tV (eCall fAll (aCons (eLc (wLst (eV 0)) (gV 1) tYes (eCall f_is_side (aCons (eV 1) aNil)) [1]) aNil)))) (tV (eBin opLt (eUn opLenSet (eV 0)) (eCall fLen (aCons (eV 0) aNil)))))) (sRaise 3 aNil) sNx)
def f_need_sides : Fn := fn 1 2 c_need_sides
/-- Table.__init__ -/
def c_Table___init__ : SM :=
  (sAsg (eDic true) (gFld 3 38 (eV 0)))
def f_Table___init__ : Fn := fn 1 1 c_Table___init__
/-- Table.__eq__ -/
def c_Table___eq__ : SM :=
  (sRet (eAnd (eUn (opIsO 3) (eV 1)) (eBin opEqT (eUn (opFld 3 38) (eV 0)) (eUn (opFld 3 38) (eV 1)))))
def f_Table___eq__ : Fn := fn 2 2 c_Table___eq__
/-- Table.put -/
def c_Table_put : SM :=
  (sSeq (sExpr (eCall f_need_beginning (aCons (eV 1) aNil)))
  (sSeq (sExpr (eCall f_need_sides (aCons (eV 2) aNil)))
  (sAsg (eCall fList (aCons (eV 2) aNil)) (gSub setD (eUn (opFld 3 38) (eV 0)) (eV 1)))))
def f_Table_put : Fn := fn 3 3 c_Table_put
/-- Table.drop -/
def c_Table_drop : SM :=
  (sSeq (sExpr (eCall f_need_beginning (aCons (eV 1) aNil)))
  (sSeq (sIf (tV (eBin (inD true) (eV 1) (eUn (opFld 3 38) (eV 0)))) (sRaise 1 aNil) sNx)
  (sExpr (eBM "dict" fPop1 (eUn (opFld 3 38) (eV 0)) (aCons (eV 1) aNil)))))
def f_Table_drop : Fn := fn 2 2 c_Table_drop
/-- Table.longest -/
def c_Table_longest : SM :=
  (sSeq (sFor (wRngDn (eCall fLen (aCons (eV 1) aNil)) (eUn opNeg (eC (.int 1)))) (gV 2) (sIf (tV (eBin (inD false) (eSl (eV 1) pNo (pSome (eV 2))) (eUn (opFld 3 38) (eV 0)))) (sRet (eSl (eV 1) pNo (pSome (eV 2)))) sNx))
  (sRet (eC .non)))
def f_Table_longest : Fn := fn 2 3 c_Table_longest
/-- Table.found -/
def c_Table_found : SM :=
  (sSeq (sAsg (eMeth 3 39 f_Table_longest (eV 0) (aCons (eV 1) aNil)) (gV 2))
  (sRet (eIf (tV (eUn opIsN (eV 2))) (eLst aNil) (eCall fList (aCons (eBin opGet (eUn (opFld 3 38) (eV 0)) (eV 2)) aNil)))))
def f_Table_found : Fn := fn 2 3 c_Table_found
/-- Table.way -/
def c_Table_way : SM :=
  (sSeq (sExpr (eCall f_need_name (aCons (eV 1) aNil)))
  (sSeq (sAsg (eMeth 3 39 f_Table_longest (eV 0) (aCons (eV 1) aNil)) (gV 2))
  (sRet (eIf (tV (eUn opIsN (eV 2))) (eC .non) (eTup (aCons (eV 2) (aCons (eCall fList (aCons (eBin opGet (eUn (opFld 3 38) (eV 0)) (eV 2)) aNil)) aNil)))))))
def f_Table_way : Fn := fn 2 3 c_Table_way
/-- Table.sides -/
def c_Table_sides : SM :=
  (sSeq (sExpr (eCall f_need_name (aCons (eV 1) aNil)))
  (sRet (eMeth 3 23 f_Table_found (eV 0) (aCons (eV 1) aNil))))
def f_Table_sides : Fn := fn 2 2 c_Table_sides
/-- Table.rows -/
def c_Table_rows : SM :=
  (sRet (eLc (wLst (eCall fSorted (aCons (eUn (opFld 3 38) (eV 0)) aNil))) (gV 1) tYes (eTup (aCons (eV 1) (aCons (eCall fList (aCons (eBin opGet (eUn (opFld 3 38) (eV 0)) (eV 1)) aNil)) aNil))) [1]))
def f_Table_rows : Fn := fn 1 2 c_Table_rows
/-- _law_cell -/
def c__law_cell : SM :=
  (sSeq (sIf (tV (eBin opEq (eV 0) (eLst aNil))) (sRet (eBin opMul (eV 1) (eC (.int 7919)))) sNx)
  (sRet (eBin opAdd (eBin opIx (eV 0) (eBin opMod (eV 1) (eCall fLen (aCons (eV 0) aNil)))) (eBin opMul (eBin opDiv (eV 1) (eCall fLen (aCons (eV 0) aNil))) (eC (.int 104729))))))
def f__law_cell : Fn := fn 2 2 c__law_cell
/-- _law_drawn -/
def c__law_drawn : SM :=
  (sSeq (sAsg (eBin opMod (eBin opAdd (eBin opMul (eV 0) (eC (.int 6364136223846793005))) (eBin opMul (eBin opAdd (eV 1) (eC (.int 1))) (eC (.int 1442695040888963407)))) (eC (.int 340282366920938463463374607431768211507))) (gV 2))
  (sSeq (sAsg (eBin opMod (eBin opMul (eV 2) (eV 2)) (eC (.int 340282366920938463463374607431768211297))) (gV 2))
  (sSeq (sAsg (eBin opMul (eBin opMul (eBin opAdd (eBin opMod (eV 2) (eC (.int 18446744073709551557))) (eC (.int 1))) (eBin opAdd (eBin opDiv (eV 2) (eC (.int 18446744073709551557))) (eC (.int 1)))) (eV 2)) (gV 2))
  (sRet (eBin opMod (eV 2) (eC (.int 340282366920938463463374607431768211507)))))))
def f__law_drawn : Fn := fn 2 3 c__law_drawn
/-- _law_roll -/
def c__law_roll : SM :=
  (sSeq (sIf (tV (eBin opGe (eBin opIx (eV 0) (eC (.int 0))) (eBin opPow (eC (.int 10)) (eC (.int 18))))) (sSeq (sAsg (eBin opMod (eBin opIx (eV 0) (eC (.int 0))) (eV 1)) (gV 2))
  (sSeq (sAsg (eBin opDiv (eBin opIx (eV 0) (eC (.int 0))) (eV 1)) (gSub setL (eV 0) (eC (.int 0))))
  (sRet (eV 2)))) sNx)
  (sSeq (sAsg (eBin opAdd (eBin opIx (eV 0) (eC (.int 1))) (eC (.int 1))) (gSub setL (eV 0) (eC (.int 1))))
  (sRet (eBin opMod (eBin opDiv (eCall f__law_drawn (aCons (eBin opIx (eV 0) (eC (.int 0))) (aCons (eBin opIx (eV 0) (eC (.int 1))) aNil))) (eC (.int 8))) (eV 1)))))
def f__law_roll : Fn := fn 2 3 c__law_roll
/-- _law_rounds -/
def c__law_rounds : SM :=
  (sRet (eLc (wRng1 (eCall fMax2 (aCons (eC (.int 1)) (aCons (eCall fMin2 (aCons (eV 1) (aCons (eCall fLen (aCons (eV 0) aNil)) aNil))) aNil)))) (gV 2) tYes (eLst (aCons (eCall f__law_cell (aCons (eV 0) (aCons (eV 2) aNil))) (aCons (eC (.int 0)) aNil))) [2]))
def f__law_rounds : Fn := fn 2 3 c__law_rounds
/-- _law_word -/
def c__law_word (a x : Nat) : SM :=
  (sSeq (sAsg (eLst (aCons (eUn (opIsE a (decide (x = 1))) (eV 0)) (aCons (eUn (opIsE a (decide (x = 3))) (eV 0)) (aCons (eUn (opIsE a (decide (x = 2))) (eV 0)) (aCons (eUn (opIsE a (decide (x = 0))) (eV 0)) aNil))))) (gV 1))
  (sSeq (sAsg (eBin opAdd (eV 1) (eLst (aCons (eUn (opIsE a (decide (x = 6))) (eV 0)) (aCons (eUn (opIsE a (decide (x = 8))) (eV 0)) (aCons (eUn (opIsE a (decide (x = 7))) (eV 0)) (aCons (eUn (opIsE a (decide (x = 5))) (eV 0)) aNil)))))) (gV 1))
  (sSeq (sExpr (eBM "list" fAppend (eV 1) (aCons (eUn (opIsE a (decide (x = 4))) (eV 0)) aNil)))
  (sSeq (sAsg (eLst (aCons (eC (.str [66, 97, 100, 78, 97, 109, 101])) (aCons (eC (.str [66, 97, 100, 83, 105, 100, 101, 115])) (aCons (eC (.str [66, 97, 100, 78, 117, 109, 98, 101, 114])) (aCons (eC (.str [66, 97, 100, 76, 101, 116, 116, 101, 114])) (aCons (eC (.str [78, 111, 72, 111, 117, 115, 101])) (aCons (eC (.str [78, 111, 87, 97, 121])) (aCons (eC (.str [78, 111, 76, 101, 116, 116, 101, 114])) (aCons (eC (.str [71, 111, 110, 101])) (aCons (eC (.str [66, 97, 100, 83, 116, 111, 114, 121])) aNil)))))))))) (gV 2))
  (sSeq (sIf (tOr (tV (eBin opNe (eCall fSum (aCons (eUn opInts (eV 1)) aNil)) (eC (.int 1)))) (tNot (tV (eUn (opIsE a true) (eV 0))))) (sRet (eTup (aCons (eC (.str [114, 101, 102, 117, 115, 101, 100])) (aCons (eC (.str [111, 116, 104, 101, 114])) aNil)))) sNx)
  (sRet (eTup (aCons (eC (.str [114, 101, 102, 117, 115, 101, 100])) (aCons (eBin opIx (eV 2) (eBM "list" fIndex (eV 1) (aCons (eC (.bl true)) aNil))) aNil)))))))))
def f__law_word (a x : Nat) : Fn := fn 1 4 (c__law_word a x)
/-- _law_told, its handler -/
def c__law_told (a x : Nat) : SM :=
  (sRet (eBin opAdd (eCall (f__law_word a x) (aCons (eV 1) aNil)) (eIf (tV (eUn (opIsE a (decide (x = 5))) (eV 1))) (eTup (aCons eErr aNil)) (eTup aNil))))
/-- _law_head -/
def c__law_head : SM :=
  (sSeq (sAsg (eLst (aCons (eC (.str [97])) (aCons (eC (.str [98])) (aCons (eC (.str [99])) (aCons (eC (.str [120, 57])) (aCons (eC (.str [108, 111, 110, 103])) aNil)))))) (gV 1))
  (sRet (eCall fTuple (aCons (eLc (wRng1 (eCall f__law_roll (aCons (eV 0) (aCons (eC (.int 5)) aNil)))) (gV 2) tYes (eBin opIx (eV 1) (eBin opMul (eCall f__law_roll (aCons (eV 0) (aCons (eC (.int 5)) aNil))) (eCall f__law_roll (aCons (eV 0) (aCons (eC (.int 2)) aNil))))) [2]) aNil))))
def f__law_head : Fn := fn 1 3 c__law_head
/-- _law_any_name -/
def c__law_any_name : SM :=
  (sRet (eIf (tV (eBin opEq (eCall f__law_roll (aCons (eV 0) (aCons (eC (.int 3)) aNil))) (eC (.int 0)))) (eTup (aCons (eC (.str [97])) aNil)) (eBin opAdd (eCall f__law_head (aCons (eV 0) aNil)) (eTup (aCons (eBin opIx (eLst (aCons (eC (.str [97])) (aCons (eC (.str [98])) aNil))) (eCall f__law_roll (aCons (eV 0) (aCons (eC (.int 2)) aNil)))) aNil)))))
def f__law_any_name : Fn := fn 1 1 c__law_any_name
/-- _law_some_sides -/
def c__law_some_sides : SM :=
  (sSeq (sAsg (eLst aNil) (gV 2))
  (sSeq (sFor (wLst (eV 1)) (gV 3) (sIf (tV (eBin opEq (eCall f__law_roll (aCons (eV 0) (aCons (eC (.int 2)) aNil))) (eC (.int 0)))) (sExpr (eBM "list" fInsert (eV 2) (aCons (eCall f__law_roll (aCons (eV 0) (aCons (eBin opAdd (eCall fLen (aCons (eV 2) aNil)) (eC (.int 1))) aNil))) (aCons (eV 3) aNil)))) sNx))
  (sRet (eV 2))))
def f__law_some_sides : Fn := fn 2 4 c__law_some_sides
/-- _law_longest -/
def c__law_longest : SM :=
  (sSeq (sLock (eV 0) (sAsg (eLc (wDic (eV 0)) (gV 3) (tV (eBin opEq (eSl (eV 1) pNo (pSome (eCall fLen (aCons (eV 3) aNil)))) (eV 3))) (eV 3) [3]) (gV 2)))
  (sRet (eIf (tV (eBin opNe (eV 2) (eLst aNil))) (eUn opMaxLen (eV 2)) (eC .non))))
def f__law_longest : Fn := fn 2 4 c__law_longest
/-- _law_found -/
def c__law_found : SM :=
  (sSeq (sAsg (eCall f__law_longest (aCons (eV 0) (aCons (eV 1) aNil))) (gV 2))
  (sRet (eIf (tV (eUn opIsN (eV 2))) (eLst aNil) (eCall fList (aCons (eBin opGet (eV 0) (eV 2)) aNil)))))
def f__law_found : Fn := fn 2 3 c__law_found
/-- law -/
def c_law : SM :=
  (sSeq (sFor (wLst (eCall f__law_rounds (aCons (eV 0) (aCons (eC (.int 4)) aNil)))) (gV 1) (sSeq (sAsg (eTup (aCons (eMake 3 f_Table___init__ aNil) (aCons (eDic true) aNil))) (gTup 2 (gCons (gV 5) (gCons (gV 6) gNil))))
  (sSeq (sFor (wRng1 (eCall f__law_roll (aCons (eV 1) (aCons (eC (.int 13)) aNil)))) (gV 2) (sSeq (sAsg (eCall f__law_head (aCons (eV 1) aNil)) (gV 4))
  (sIf (tV (eBin opGt (eCall f__law_roll (aCons (eV 1) (aCons (eC (.int 4)) aNil))) (eC (.int 0)))) (sSeq (sAsg (eCall f__law_some_sides (aCons (eV 1) (aCons (eLst (aCons (eC (.int 0)) (aCons (eC (.int 1)) (aCons (eC (.int 2)) (aCons (eC (.int 7)) aNil))))) aNil))) (gV 8))
  (sSeq (sIf (tV (eUn opNotN (eMeth 3 61 f_Table_put (eV 5) (aCons (eV 4) (aCons (eV 8) aNil))))) (sRet (eC (.bl false))) sNx)
  (sSeq (sAsg (eCall fList (aCons (eV 8) aNil)) (gSub setD (eV 6) (eV 4)))
  (sExpr (eBM "list" fAppend (eV 8) (aCons (eC (.int 9)) aNil)))))) (sSeq (sAsg (eIf (tV (eBin (inD false) (eV 4) (eV 6))) (eC .non) (eTup (aCons (eC (.str [114, 101, 102, 117, 115, 101, 100])) (aCons (eC (.str [66, 97, 100, 78, 97, 109, 101])) aNil)))) (gV 9))
  (sSeq (sIf (tV (eBin opNe (eTold exKs wT wO (eMeth 3 18 f_Table_drop (eV 5) (aCons (eV 4) aNil))) (eV 9))) (sRet (eC (.bl false))) sNx)
  (sIf (tV (eBin (inD false) (eV 4) (eV 6))) (sExpr (eBM "dict" fPop1 (eV 6) (aCons (eV 4) aNil))) sNx))))))
  (sSeq (sIf (tOr (tV (eBin opNe (eMeth 3 65 f_Table_rows (eV 5) aNil) (eLc (wLst (eCall fSorted (aCons (eV 6) aNil))) (gV 4) tYes (eTup (aCons (eV 4) (aCons (eBin opGet (eV 6) (eV 4)) aNil))) [4]))) (tV (eBin opNe (eCall (fLenOwn 3 f_Table___len__) (aCons (eV 5) aNil)) (eCall fLenDT (aCons (eV 6) aNil))))) (sRet (eC (.bl false))) sNx)
  (sSeq (sFor (wRng1 (eC (.int 6))) (gV 2) (sSeq (sAsg (eCall f__law_any_name (aCons (eV 1) aNil)) (gV 7))
  (sSeq (sAsg (eCall f__law_longest (aCons (eV 6) (aCons (eV 7) aNil))) (gV 4))
  (sSeq (sIf (tV (eBin opNe (eMeth 3 83 f_Table_way (eV 5) (aCons (eV 7) aNil)) (eIf (tV (eUn opNotN (eV 4))) (eTup (aCons (eV 4) (aCons (eBin opGet (eV 6) (eV 4)) aNil))) (eC .non)))) (sRet (eC (.bl false))) sNx)
  (sIf (tV (eBin opNe (eMeth 3 69 f_Table_sides (eV 5) (aCons (eV 7) aNil)) (eCall f__law_found (aCons (eV 6) (aCons (eV 7) aNil))))) (sRet (eC (.bl false))) sNx)))))
  (sSeq (sAsg (eMake 3 f_Table___init__ aNil) (gV 3))
  (sSeq (sLock (eV 6) (sFor (wDic (eV 6)) (gV 4) (sExpr (eMeth 3 61 f_Table_put (eV 3) (aCons (eV 4) (aCons (eBin opGet (eV 6) (eV 4)) aNil))))))
  (sSeq (sIf (tOr (tNot (tV (eBin (eqO 3 f_Table___eq__ id) (eV 5) (eV 3)))) (tOr (tV (eBin (eqO 3 f_Table___eq__ Bool.not) (eV 5) (eV 3))) (tV (eBin (eqO 3 f_Table___eq__ id) (eV 5) (eV 6))))) (sRet (eC (.bl false))) sNx)
  (sSeq (sExpr (eMeth 3 61 f_Table_put (eV 3) (aCons (eTup (aCons (eC (.str [122, 122])) aNil)) (aCons (eLst (aCons (eC (.int 3)) aNil)) aNil))))
  (sIf (tOr (tV (eBin (eqO 3 f_Table___eq__ id) (eV 5) (eV 3))) (tV (eBin (eqO 3 f_Table___eq__ Bool.not) (eMake 3 f_Table___init__ aNil) (eMake 3 f_Table___init__ aNil)))) (sRet (eC (.bl false))) sNx))))))))))
  (sRet (eC (.bl true))))
def f_law : Fn := fn 1 10 c_law
end MP

namespace MP
open PySem (PyData)
/-! ### what is wanted behind a computation -/
def wR {α : Type} (r : R α) (Q : α → Sto → Prop) (E : Exc → Sto → Prop) : Prop := match r with
  | .ok a S => Q a S
  | .exc x S => E x S
  | .err => False
structure En where
  nx : Loc → Sto → Prop
  rt : D → Sto → Prop
  bk : Loc → Sto → Prop
  ct : Loc → Sto → Prop
  ex : Exc → Loc → Sto → Prop
def wS (r : RS) (K : En) : Prop := match r with
  | .nx L S => K.nx L S
  | .rt d S => K.rt d S
  | .bk L S => K.bk L S
  | .ct L S => K.ct L S
  | .exc x L S => K.ex x L S
  | .err => False
section
variable {α β : Type}
@[simp] theorem wR_ok (a : α) (S : Sto) (Q : α → Sto → Prop) (E : Exc → Sto → Prop) : wR (.ok a S) Q E = Q a S := rfl
@[simp] theorem wR_exc (x : Exc) (S : Sto) (Q : α → Sto → Prop) (E : Exc → Sto → Prop) : wR (.exc x S : R α) Q E = E x S := rfl
@[simp] theorem wR_err (Q : α → Sto → Prop) (E : Exc → Sto → Prop) : wR (.err : R α) Q E = False := rfl
@[simp] theorem wR_bind (r : R α) (f : α → Sto → R β) (Q : β → Sto → Prop) (E : Exc → Sto → Prop) : wR (r.bind f) Q E = wR r (fun a S => wR (f a S) Q E) E := by cases r <;> rfl
@[simp] theorem wS_nx (L : Loc) (S : Sto) (K : En) : wS (.nx L S) K = K.nx L S := rfl
@[simp] theorem wS_rt (d : D) (S : Sto) (K : En) : wS (.rt d S) K = K.rt d S := rfl
@[simp] theorem wS_bk (L : Loc) (S : Sto) (K : En) : wS (.bk L S) K = K.bk L S := rfl
@[simp] theorem wS_ct (L : Loc) (S : Sto) (K : En) : wS (.ct L S) K = K.ct L S := rfl
@[simp] theorem wS_exc (x : Exc) (L : Loc) (S : Sto) (K : En) : wS (.exc x L S) K = K.ex x L S := rfl
@[simp] theorem wS_err (K : En) : wS .err K = False := rfl
@[simp] theorem wS_st (L : Loc) (r : R α) (f : α → Sto → RS) (K : En) : wS (r.st L f) K = wR r (fun a S => wS (f a S) K) (fun x S => K.ex x L S) := by cases r <;> rfl
theorem wR_mono {r : R α} {Q Q' : α → Sto → Prop} {E E' : Exc → Sto → Prop} (h : wR r Q E) (hq : ∀ a S, Q a S → Q' a S) (he : ∀ x S, E x S → E' x S) : wR r Q' E' := by
  cases r with
  | ok a S => exact hq _ _ h
  | exc x S => exact he _ _ h
  | err => exact h
theorem wS_mono {r : RS} {K K' : En} (h : wS r K) (h1 : ∀ L S, K.nx L S → K'.nx L S) (h2 : ∀ L S, K.rt L S → K'.rt L S) (h3 : ∀ L S, K.bk L S → K'.bk L S) (h4 : ∀ L S, K.ct L S → K'.ct L S) (h5 : ∀ x L S, K.ex x L S → K'.ex x L S) : wS r K' := by
  cases r with
  | nx L S => exact h1 _ _ h
  | rt d S => exact h2 _ _ h
  | bk L S => exact h3 _ _ h
  | ct L S => exact h4 _ _ h
  | exc x L S => exact h5 _ _ _ h
  | err => exact h
end
@[simp] theorem wS_sNx (L : Loc) (S : Sto) (K : En) : wS (sNx L S) K = K.nx L S := rfl
@[simp] theorem wS_sSeq (a b : SM) (L : Loc) (S : Sto) (K : En) : wS (sSeq a b L S) K = wS (a L S) { K with nx := fun L1 S1 => wS (b L1 S1) K } := by
  unfold sSeq
  cases a L S <;> rfl
@[simp] theorem wS_sExpr (a : EM) (L : Loc) (S : Sto) (K : En) : wS (sExpr a L S) K = wR (a L S) (fun _ S1 => K.nx L S1) (fun x S => K.ex x L S) := by simp [sExpr]
@[simp] theorem wS_sRet (a : EM) (L : Loc) (S : Sto) (K : En) : wS (sRet a L S) K = wR (a L S) (fun d S1 => K.rt d S1) (fun x S => K.ex x L S) := by simp [sRet]
@[simp] theorem wS_sRetN (L : Loc) (S : Sto) (K : En) : wS (sRetN L S) K = K.rt .non S := rfl
@[simp] theorem wS_sBrk (L : Loc) (S : Sto) (K : En) : wS (sBrk L S) K = K.bk L S := rfl
@[simp] theorem wS_sCnt (L : Loc) (S : Sto) (K : En) : wS (sCnt L S) K = K.ct L S := rfl
@[simp] theorem wS_sIf (t : BM) (a b : SM) (L : Loc) (S : Sto) (K : En) : wS (sIf t a b L S) K = wR (t L S) (fun c S1 => if c = true then wS (a L S1) K else wS (b L S1) K) (fun x S => K.ex x L S) := by
  simp only [sIf, wS_st]
  congr 1
  funext c S1
  split <;> rfl
@[simp] theorem wS_sAsg (a : EM) (t : TM) (L : Loc) (S : Sto) (K : En) : wS (sAsg a t L S) K = wR (a L S) (fun d S1 => wR (t d L S1) (fun L1 S2 => K.nx L1 S2) (fun _ _ => False)) (fun x S => K.ex x L S) := by
  simp only [sAsg, wS_st]
  congr 1
  funext c S1
  cases t c L S1 <;> rfl
@[simp] theorem wS_sRaise (c : Nat) (as : AM) (L : Loc) (S : Sto) (K : En) : wS (sRaise c as L S) K = wR (as L S) (fun xs S1 => K.ex ⟨c, xs⟩ L S1) (fun x S => K.ex x L S) := by simp [sRaise]
/-- a call by its body -/
theorem wR_fn {np nl : Nat} {body : SM} {ds : List D} {S : Sto} {Q : D → Sto → Prop} {E : Exc → Sto → Prop} (h : ds.length = np) :
    wR (fn np nl body ds S) Q E = wS (body (ds.map some ++ List.replicate (nl - np) none) S) ⟨fun _ S1 => Q .non S1, Q, fun _ _ => False, fun _ _ => False, fun x _ S => E x S⟩ := by
  unfold fn
  rw [if_pos h]
  cases body (ds.map some ++ List.replicate (nl - np) none) S <;> rfl
theorem wR_call {np nl : Nat} {body : SM} {ds : List D} {S : Sto} {Q : D → Sto → Prop} {E : Exc → Sto → Prop} (h : ds.length = np)
    (q : wS (body (ds.map some ++ List.replicate (nl - np) none) S) ⟨fun _ S1 => Q .non S1, Q, fun _ _ => False, fun _ _ => False, fun x _ S => E x S⟩) : wR (fn np nl body ds S) Q E := by
  rw [wR_fn h]
  exact q

/-! ### simp's own steps -/
section
variable (L : Loc) (S : Sto)
@[simp] theorem eC_a (d : D) : eC d L S = .ok d S := rfl
@[simp] theorem eV_a (i : Nat) : eV i L S = (match L[i]? with
  | some (some d) => .ok d S
  | _ => .err) := rfl
@[simp] theorem eUn_a (f : Op1) (a : EM) : eUn f a L S = (a L S).bind fun x S1 => f x S1 := rfl
@[simp] theorem eBin_a (f : Op2) (a b : EM) : eBin f a b L S = (a L S).bind fun x S1 => (b L S1).bind fun y S2 => f x y S2 := rfl
@[simp] theorem wR_eIf (t : BM) (a b : EM) (Q : D → Sto → Prop) (E : Exc → Sto → Prop) : wR (eIf t a b L S) Q E = wR (t L S) (fun c S1 => if c = true then wR (a L S1) Q E else wR (b L S1) Q E) E := by
  simp only [eIf, wR_bind]
  congr 1
  funext c S1
  split <;> rfl
@[simp] theorem wR_eAnd (a b : EM) (Q : D → Sto → Prop) (E : Exc → Sto → Prop) : wR (eAnd a b L S) Q E = wR (a L S) (fun x S1 => match x with
  | .bl true => wR (b L S1) Q E
  | .bl false => Q (.bl false) S1
  | _ => False) E := by
  simp only [eAnd, wR_bind]
  congr 1
  funext x S1
  cases x with
  | bl k => cases k <;> rfl
  | _ => rfl
@[simp] theorem wR_eOr (a b : EM) (Q : D → Sto → Prop) (E : Exc → Sto → Prop) : wR (eOr a b L S) Q E = wR (a L S) (fun x S1 => match x with
  | .bl true => Q (.bl true) S1
  | .bl false => wR (b L S1) Q E
  | _ => False) E := by
  simp only [eOr, wR_bind]
  congr 1
  funext x S1
  cases x with
  | bl k => cases k <;> rfl
  | _ => rfl
@[simp] theorem wR_eNot (a : EM) (Q : D → Sto → Prop) (E : Exc → Sto → Prop) : wR (eNot a L S) Q E = wR (a L S) (fun x S1 => match x with
  | .bl k => Q (.bl (!k)) S1
  | _ => False) E := by
  simp only [eNot, wR_bind]
  congr 1
  funext x S1
  cases x <;> rfl
@[simp] theorem aNil_a : aNil L S = .ok [] S := rfl
@[simp] theorem aCons_a (a : EM) (as : AM) : aCons a as L S = (a L S).bind fun x S1 => (as L S1).bind fun xs S2 => .ok (x :: xs) S2 := rfl
@[simp] theorem eTup_a (as : AM) : eTup as L S = (as L S).bind fun xs S1 => if xs.length ≤ sz then .ok (.tup xs) S1 else .err := rfl
@[simp] theorem eLst_a (as : AM) : eLst as L S = (as L S).bind fun xs S1 => if xs.length ≤ sz then .ok (.ref S1.length) (S1 ++ [.lst xs]) else .err := rfl
@[simp] theorem eDic_a (t : Bool) : eDic t L S = .ok (.ref S.length) (S ++ [.dic t false []]) := rfl
@[simp] theorem eCall_a (F : Fn) (as : AM) : eCall F as L S = (as L S).bind fun xs S1 => F xs S1 := rfl
@[simp] theorem eMake_a (c : Nat) (F : Fn) (as : AM) : eMake c F as L S = (as L S).bind fun xs S1 => (F (.ref S1.length :: xs) (S1 ++ [.ins c []])).bind fun v S2 => if v = .non then .ok (.ref S1.length) S2 else .err := rfl
@[simp] theorem eSl_a (a : EM) (lo hi : PM) : eSl a lo hi L S = (a L S).bind fun x S1 => (lo L S1).bind fun l S2 => (hi L S2).bind fun h S3 => opSl x l h S3 := rfl
@[simp] theorem pNo_a : pNo L S = .ok none S := rfl
@[simp] theorem wR_pSome (a : EM) (Q : Option Int → Sto → Prop) (E : Exc → Sto → Prop) : wR (pSome a L S) Q E = wR (a L S) (fun x S1 => match x with
  | .int i => Q (some i) S1
  | _ => False) E := by
  simp only [pSome, wR_bind]
  congr 1
  funext x S1
  cases x <;> rfl
@[simp] theorem wR_eChain (f f' : Op2) (a b c : EM) (Q : D → Sto → Prop) (E : Exc → Sto → Prop) : wR (eChain f f' a b c L S) Q E = wR (a L S) (fun x S1 => wR (b L S1) (fun y S2 => wR (f x y S2) (fun z S3 => match z with
  | .bl true => wR (c L S3) (fun w S4 => wR (f' y w S4) Q E) E
  | .bl false => Q (.bl false) S3
  | _ => False) E) E) E := by
  simp only [eChain, wR_bind]
  congr 1
  funext x S1
  congr 1
  funext y S2
  congr 1
  funext z S3
  cases z with
  | bl k => cases k <;> simp
  | _ => rfl
@[simp] theorem wR_tV (a : EM) (Q : Bool → Sto → Prop) (E : Exc → Sto → Prop) : wR (tV a L S) Q E = wR (a L S) (fun x S1 => match x with
  | .bl k => Q k S1
  | _ => False) E := by
  simp only [tV, wR_bind]
  congr 1
  funext x S1
  cases x <;> rfl
@[simp] theorem wR_tAnd (a b : BM) (Q : Bool → Sto → Prop) (E : Exc → Sto → Prop) : wR (tAnd a b L S) Q E = wR (a L S) (fun c S1 => if c = true then wR (b L S1) Q E else Q false S1) E := by
  simp only [tAnd, wR_bind]
  congr 1
  funext c S1
  split <;> rfl
@[simp] theorem wR_tOr (a b : BM) (Q : Bool → Sto → Prop) (E : Exc → Sto → Prop) : wR (tOr a b L S) Q E = wR (a L S) (fun c S1 => if c = true then Q true S1 else wR (b L S1) Q E) E := by
  simp only [tOr, wR_bind]
  congr 1
  funext c S1
  split <;> rfl
@[simp] theorem wR_tNot (a : BM) (Q : Bool → Sto → Prop) (E : Exc → Sto → Prop) : wR (tNot a L S) Q E = wR (a L S) (fun c S1 => Q (!c) S1) E := by simp only [tNot, wR_bind, wR_ok]
@[simp] theorem tYes_a : tYes L S = .ok true S := rfl
@[simp] theorem gV_a (i : Nat) (d : D) : gV i d L S = .ok (L.set i (some d)) S := rfl
@[simp] theorem gNil_a : gNil [] L S = .ok L S := rfl
@[simp] theorem gCons_a (t : TM) (u : List D → Loc → Sto → R Loc) (d : D) (ds : List D) : gCons t u (d :: ds) L S = (t d L S).bind fun L1 S1 => u ds L1 S1 := rfl
@[simp] theorem gTup_a (n : Nat) (u : List D → Loc → Sto → R Loc) (ds : List D) : gTup n u (.tup ds) L S = if ds.length = n then u ds L S else .err := rfl
@[simp] theorem gSub_a (f : Set2) (o i : EM) (d : D) : gSub f o i d L S = (o L S).bind fun x S1 => (i L S1).bind fun y S2 => (f x y d S2).bind fun _ S3 => .ok L S3 := rfl
end
@[simp] theorem wR_ite {α : Type} (p : Prop) [Decidable p] (a b : R α) (Q : α → Sto → Prop) (E : Exc → Sto → Prop) : wR (if p then a else b) Q E = if p then wR a Q E else wR b Q E := by split <;> rfl
@[simp] theorem opCmp_a (f : Int → Int → Bool) (i j : Int) (S : Sto) : opCmp f (.int i) (.int j) S = .ok (.bl (f i j)) S := rfl
@[simp] theorem opAdd_i (i j : Int) (S : Sto) : opAdd (.int i) (.int j) S = .ok (.int (i + j)) S := rfl
@[simp] theorem opSub_i (i j : Int) (S : Sto) : opSub (.int i) (.int j) S = .ok (.int (i - j)) S := rfl
@[simp] theorem opMul_i (i j : Int) (S : Sto) : opMul (.int i) (.int j) S = if mulOk i j = true then .ok (.int (i * j)) S else .err := rfl
@[simp] theorem opMod_i (i j : Int) (S : Sto) : opMod (.int i) (.int j) S = if 0 < j then .ok (.int (i % j)) S else .err := rfl
@[simp] theorem opDiv_i (i j : Int) (S : Sto) : opDiv (.int i) (.int j) S = if 0 < j ∧ j < 2 ^ 200 then .ok (.int (i / j)) S else .err := rfl
@[simp] theorem opNeg_i (i : Int) (S : Sto) : opNeg (.int i) S = .ok (.int (-i)) S := rfl
@[simp] theorem opIsN_a (d : D) (S : Sto) : opIsN d S = .ok (.bl (decide (d = .non))) S := rfl
@[simp] theorem opNotN_a (d : D) (S : Sto) : opNotN d S = .ok (.bl (!decide (d = .non))) S := rfl
@[simp] theorem opAdd_t (a b : List D) (S : Sto) : opAdd (.tup a) (.tup b) S = if a.length + b.length ≤ sz then .ok (.tup (a ++ b)) S else .err := rfl
@[simp] theorem opSl_t (xs : List D) (lo hi : Option Int) (S : Sto) : opSl (.tup xs) lo hi S = .ok (.tup (cut xs lo hi)) S := rfl
@[simp] theorem fLen_t (xs : List D) (S : Sto) : fLen [.tup xs] S = .ok (.int xs.length) S := rfl
@[simp] theorem opIx_t (xs : List D) (i : Int) (S : Sto) : opIx (.tup xs) (.int i) S = (match atI xs i with
  | some d => .ok d S
  | none => .err) := rfl
section
variable {S : Sto} {n m : Nat} {xs ys : List D}
theorem opIx_r {i : Int} (h : S[n]? = some (.lst xs)) : opIx (.ref n) (.int i) S = (match atI xs i with
  | some d => .ok d S
  | none => .err) := by simp only [opIx, h] <;> rfl
theorem opIx_f {i : Int} (h : S[n]? = some (.frz xs)) : opIx (.ref n) (.int i) S = (match atI xs i with
  | some d => .ok d S
  | none => .err) := by simp only [opIx, h] <;> rfl
theorem fLen_r (h : S[n]? = some (.lst xs)) : fLen [.ref n] S = .ok (.int xs.length) S := by simp only [fLen, h]
theorem fLen_f (h : S[n]? = some (.frz xs)) : fLen [.ref n] S = .ok (.int xs.length) S := by simp only [fLen, h]
theorem fList_r (h : S[n]? = some (.lst xs)) : fList [.ref n] S = .ok (.ref S.length) (S ++ [.lst xs]) := by simp only [fList, h]
theorem fTuple_r (h : S[n]? = some (.lst xs)) : fTuple [.ref n] S = .ok (.tup xs) S := by simp only [fTuple, h]
theorem opAdd_r (h : S[n]? = some (.lst xs)) (h' : S[m]? = some (.lst ys)) : opAdd (.ref n) (.ref m) S = if xs.length + ys.length ≤ sz then .ok (.ref S.length) (S ++ [.lst (xs ++ ys)]) else .err := by simp only [opAdd, h, h']
theorem opSl_r {lo hi : Option Int} (h : S[n]? = some (.lst xs)) : opSl (.ref n) lo hi S = .ok (.ref S.length) (S ++ [.lst (cut xs lo hi)]) := by simp only [opSl, h]
theorem setL_r {i : Int} {v : D} {j : Nat} (h : S[n]? = some (.lst xs)) (hi : ixN xs.length i = some j) : setL (.ref n) (.int i) v S = .ok () (S.set n (.lst (xs.set j v))) := by simp only [setL, h, hi]
theorem opFld_r {c f : Nat} {fs : List (Nat × D)} {d : D} (h : S[n]? = some (.ins c fs)) (hf : fget f fs = some d) : opFld c f (.ref n) S = .ok d S := by simp only [opFld, h, hf, if_true]
theorem wR_gFld {c f : Nat} {o : EM} {d : D} {L : Loc} {Q : Loc → Sto → Prop} {E : Exc → Sto → Prop} (h : wR (o L S) (fun x S1 => ∃ n fs, x = .ref n ∧ S1[n]? = some (.ins c fs) ∧ fs.length < 1000 ∧ Q L (S1.set n (.ins c (fput f d fs)))) E) : wR (gFld c f o d L S) Q E := by
  simp only [gFld, wR_bind]
  refine wR_mono h (fun x S1 ⟨n, fs, e, e1, e2, q⟩ => ?_) fun _ _ z => z
  subst e
  simp only [e1, e2, and_self, if_true, wR_ok]
  exact q
theorem wR_eMeth {c mi : Nat} {F : Fn} {o : EM} {as : AM} {L : Loc} {Q : D → Sto → Prop} {E : Exc → Sto → Prop} (h : wR (o L S) (fun x S1 => ∃ n fs, x = .ref n ∧ S1[n]? = some (.ins c fs) ∧ fget mi fs = none ∧ wR (as L S1) (fun xs S2 => wR (F (.ref n :: xs) S2) Q E) E) E) : wR (eMeth c mi F o as L S) Q E := by
  simp only [eMeth, wR_bind]
  refine wR_mono h (fun x S1 ⟨n, fs, e, e1, e2, q⟩ => ?_) fun _ _ z => z
  subst e
  simp only [e1, e2, and_self, if_true, wR_bind]
  exact q
end

/-! ### stores that grow: all but the places in X as they were -/
structure Fm (X : List Nat) (S S' : Sto) : Prop where
  len : S.length ≤ S'.length
  same : ∀ n, n < S.length → n ∉ X → S'[n]? = S[n]?
theorem Fm.refl (X : List Nat) (S : Sto) : Fm X S S := ⟨Nat.le_refl _, fun _ _ _ => rfl⟩
theorem Fm.trans {X : List Nat} {S S1 S2 : Sto} (a : Fm X S S1) (b : Fm X S1 S2) : Fm X S S2 := ⟨Nat.le_trans a.len b.len, fun n h hx => by rw [b.same n (Nat.lt_of_lt_of_le h a.len) hx, a.same n h hx]⟩
theorem Fm.mono {X Y : List Nat} {S S' : Sto} (a : Fm X S S') (h : ∀ n, n < S.length → n ∈ X → n ∈ Y) : Fm Y S S' := ⟨a.len, fun n hn hx => a.same n hn fun z => hx (h n hn z)⟩
theorem Fm.push {X : List Nat} {S S' : Sto} (a : Fm X S S') (o : Ob) : Fm X S (S' ++ [o]) := ⟨by have := a.len; simp; omega, fun n h hx => by rw [List.getElem?_append_left (Nat.lt_of_lt_of_le h a.len)]; exact a.same n h hx⟩
theorem Fm.set {X : List Nat} {S S' : Sto} (a : Fm X S S') {k : Nat} (o : Ob) (hk : k ∈ X ∨ S.length ≤ k) : Fm X S (S'.set k o) := ⟨by have := a.len; simp; omega, fun n h hx => by
  rw [List.getElem?_set_ne (fun e => by subst e; rcases hk with z | z; exact hx z; omega)]
  exact a.same n h hx⟩
theorem Fm.l {a : Nat} (b : Nat) {S S' : Sto} (h : Fm [a] S S') : Fm [a, b] S S' := h.mono fun n _ z => by simp at z; simp [z]
theorem Fm.r {a : Nat} (b : Nat) {S S' : Sto} (h : Fm [a] S S') : Fm [b, a] S S' := h.mono fun n _ z => by simp at z; simp [z]
theorem Fm.nil {X : List Nat} {S S' : Sto} (h : Fm [] S S') : Fm X S S' := h.mono fun n _ z => by cases z
/-- a second place that was not there ahead -/
theorem Fm.two {a b : Nat} {S0 S S' : Sto} (h : Fm [a] S0 S) (h' : Fm [b] S S') (hb : S0.length ≤ b) : Fm [a] S0 S' := ((h.l b).trans (h'.r a)).mono fun n hn z => by
  simp at z
  rcases z with rfl | rfl
  · simp
  · omega
theorem lt_of_at {S : Sto} {n : Nat} {o : Ob} (h : S[n]? = some o) : n < S.length := (List.getElem?_eq_some_iff.mp h).1
theorem Fm.at {X : List Nat} {S S' : Sto} (a : Fm X S S') {n : Nat} {o : Ob} (h : S[n]? = some o) (hx : n ∉ X) : S'[n]? = some o := by rw [a.same n (lt_of_at h) hx]; exact h
theorem at_push {S : Sto} {n : Nat} {o u : Ob} (h : S[n]? = some o) : (S ++ [u])[n]? = some o := by rw [List.getElem?_append_left (lt_of_at h)]; exact h
@[simp] theorem at_new (S : Sto) (u : Ob) : (S ++ [u])[S.length]? = some u := by simp
theorem at_set {S : Sto} {n : Nat} {o u : Ob} (h : S[n]? = some o) : (S.set n u)[n]? = some u := by simp [lt_of_at h]
theorem at_set_ne {S : Sto} {n m : Nat} {o u : Ob} (h : S[n]? = some o) (e : m ≠ n) : (S.set m u)[n]? = some o := by rw [List.getElem?_set_ne e]; exact h

/-! ### plain data: no truths, no places -/
mutual
def pl : Nat → D → Bool
  | _, .non => true
  | _, .int _ => true
  | _, .str _ => true
  | n + 1, .tup xs => pls n xs
  | _, _ => false
def pls : Nat → List D → Bool
  | _, [] => true
  | n, x :: xs => pl n x && pls n xs
end
theorem pls_all {n : Nat} : ∀ {xs : List D}, pls n xs = true ↔ ∀ x ∈ xs, pl n x = true
  | [] => by simp [pls]
  | x :: xs => by simp [pls, pls_all (xs := xs)]
mutual
def toPy : D → PyData
  | .non => .none
  | .bl b => .bool b
  | .int i => .int i
  | .str x => .str ⟨x.toArray⟩
  | .tup xs => .tuple (toPys xs)
  | _ => .none
def toPys : List D → List PyData
  | [] => []
  | x :: xs => toPy x :: toPys xs
end
mutual
theorem reify_pl (S : Sto) : ∀ (n m : Nat) (d : D), pl n d = true → n ≤ m → reify m S d = some (toPy d)
  | n, m, .non, _, _ => by cases m <;> rfl
  | n, m, .int _, _, _ => by cases m <;> rfl
  | n, m, .str _, _, _ => by cases m <;> rfl
  | n + 1, m, .tup xs, h, hm => by
    obtain ⟨m, rfl⟩ : ∃ k, m = k + 1 := ⟨m - 1, by omega⟩
    simp only [reify, toPy]
    rw [reify_pls S n m xs (by simpa [pl] using h) (by omega)]
    rfl
  | 0, m, .tup xs, h, _ => by simp [pl] at h
  | n, m, .bl _, h, _ => by cases n <;> simp [pl] at h
  | n, m, .ref _, h, _ => by cases n <;> simp [pl] at h
  | n, m, .exn _ _, h, _ => by cases n <;> simp [pl] at h
theorem reify_pls (S : Sto) : ∀ (n m : Nat) (d : List D), pls n d = true → n ≤ m → d.mapM (reify m S) = some (toPys d)
  | n, m, [], _, _ => rfl
  | n, m, x :: xs, h, hm => by
    simp only [pls, Bool.and_eq_true] at h
    rw [List.mapM_cons, reify_pl S n m x h.1 hm, reify_pls S n m xs h.2 hm]
    rfl
end
theorem str_eq {x y : List Nat} : ((⟨x.toArray⟩ : PySem.Str) = ⟨y.toArray⟩) = (x = y) := by
  simp
mutual
theorem eqv_pl : ∀ (n m : Nat) (x y : D), pl n x = true → pl m y = true → PyData.eqv (toPy x) (toPy y) = decide (x = y)
  | n, m, .non, y, _, h => by
    cases y <;> first | (simp [toPy, PyData.eqv]; done) | (cases m <;> simp [pl] at h)
  | n, m, .int i, y, _, h => by
    cases y <;> first | (simp [toPy, PyData.eqv]; done) | (simp [toPy, PyData.eqv]; rw [Bool.eq_iff_iff]; simp; done) | (cases m <;> simp [pl] at h)
  | n, m, .str i, y, _, h => by
    cases y <;> first | (simp [toPy, PyData.eqv]; done) | (simp only [toPy, PyData.eqv]; rw [Bool.eq_iff_iff]; simp; done) | (cases m <;> simp [pl] at h)
  | n + 1, m, .tup xs, y, h', h => by
    cases y with
    | tup ys =>
      cases m with
      | zero => simp [pl] at h
      | succ m =>
        simp only [toPy, PyData.eqv]
        rw [eqv_pls n m xs ys (by simpa [pl] using h') (by simpa [pl] using h)]
        rw [Bool.eq_iff_iff]
        simp
    | _ => first | (simp [toPy, PyData.eqv]; done) | (cases m <;> simp [pl] at h)
  | 0, _, .tup _, _, h, _ => by simp [pl] at h
  | n, m, .bl _, _, h, _ => by cases n <;> simp [pl] at h
  | n, m, .ref _, _, h, _ => by cases n <;> simp [pl] at h
  | n, m, .exn _ _, _, h, _ => by cases n <;> simp [pl] at h
theorem eqv_pls : ∀ (n m : Nat) (x y : List D), pls n x = true → pls m y = true → PyData.eqvAll (toPys x) (toPys y) = decide (x = y)
  | n, m, [], [], _, _ => by simp [toPys, PyData.eqvAll]
  | n, m, [], y :: ys, _, _ => by simp [toPys, PyData.eqvAll]
  | n, m, x :: xs, [], _, _ => by simp [toPys, PyData.eqvAll]
  | n, m, x :: xs, y :: ys, h, h' => by
    simp only [pls, Bool.and_eq_true] at h h'
    simp only [toPys, PyData.eqvAll]
    rw [eqv_pl n m x y h.1 h'.1, eqv_pls n m xs ys h.2 h'.2, Bool.eq_iff_iff]
    simp
end
theorem opEq_pl {n m : Nat} {x y : D} {S : Sto} (h : pl n x = true) (h' : pl m y = true) (hn : n ≤ 60 := by decide) (hm : m ≤ 60 := by decide) : opEq x y S = .ok (.bl (decide (x = y))) S := by
  simp only [opEq, reify_pl S n 60 x h hn, reify_pl S m 60 y h' hm, eqv_pl n m x y h h']
theorem opNe_pl {n m : Nat} {x y : D} {S : Sto} (h : pl n x = true) (h' : pl m y = true) (hn : n ≤ 60 := by decide) (hm : m ≤ 60 := by decide) : opNe x y S = .ok (.bl (!decide (x = y))) S := by
  simp only [opNe, reify_pl S n 60 x h hn, reify_pl S m 60 y h' hm, eqv_pl n m x y h h']
@[simp] theorem opEq_i (i j : Int) (S : Sto) : opEq (.int i) (.int j) S = .ok (.bl (decide (i = j))) S := by
  rw [opEq_pl (n := 0) (m := 0) rfl rfl]
  simp
@[simp] theorem opNe_i (i j : Int) (S : Sto) : opNe (.int i) (.int j) S = .ok (.bl (!decide (i = j))) S := by
  rw [opNe_pl (n := 0) (m := 0) rfl rfl]
  simp
@[simp] theorem opNe_b (i j : Bool) (S : Sto) : opNe (.bl i) (.bl j) S = .ok (.bl (!(i == j))) S := rfl
@[simp] theorem opEq_b (i j : Bool) (S : Sto) : opEq (.bl i) (.bl j) S = .ok (.bl (i == j)) S := rfl
/-- a list of plain data in the store -/
def isL (S : Sto) (n : Nat) (xs : List D) : Prop := S[n]? = some (.lst xs) ∨ S[n]? = some (.frz xs)
theorem isL.push {S : Sto} {n : Nat} {xs : List D} {o : Ob} (h : isL S n xs) : isL (S ++ [o]) n xs := h.elim (fun h => .inl (at_push h)) fun h => .inr (at_push h)
theorem isL.fm {X : List Nat} {S S' : Sto} {n : Nat} {xs : List D} (h : isL S n xs) (f : Fm X S S') (hx : n ∉ X) : isL S' n xs := h.elim (fun h => .inl (f.at h hx)) fun h => .inr (f.at h hx)
theorem isL.lt {S : Sto} {n : Nat} {xs : List D} (h : isL S n xs) : n < S.length := h.elim lt_of_at lt_of_at
theorem opIx_l {S : Sto} {n : Nat} {xs : List D} {i : Int} (h : isL S n xs) : opIx (.ref n) (.int i) S = (match atI xs i with
  | some d => .ok d S
  | none => .err) := h.elim opIx_r opIx_f
theorem fLen_l {S : Sto} {n : Nat} {xs : List D} (h : isL S n xs) : fLen [.ref n] S = .ok (.int xs.length) S := h.elim fLen_r fLen_f
theorem reify_l {S : Sto} {n k m : Nat} {xs : List D} (h : isL S n xs) (hp : pls k xs = true) (hm : k < m) : reify m S (.ref n) = some (.list (toPys xs)) := by
  obtain ⟨m, rfl⟩ : ∃ k, m = k + 1 := ⟨m - 1, by omega⟩
  have := reify_pls S k m xs hp (by omega)
  rcases h with h | h <;> simp only [reify, h, this] <;> rfl
theorem opEq_l {S : Sto} {n m k l : Nat} {xs ys : List D} (h : isL S n xs) (h' : isL S m ys) (hp : pls k xs = true) (hp' : pls l ys = true) (hk : k < 60 := by decide) (hl : l < 60 := by decide) : opEq (.ref n) (.ref m) S = .ok (.bl (decide (xs = ys))) S := by
  simp only [opEq, reify_l h hp hk, reify_l h' hp' hl, PyData.eqv, eqv_pls k l xs ys hp hp']
theorem opNe_l {S : Sto} {n m k l : Nat} {xs ys : List D} (h : isL S n xs) (h' : isL S m ys) (hp : pls k xs = true) (hp' : pls l ys = true) (hk : k < 60 := by decide) (hl : l < 60 := by decide) : opNe (.ref n) (.ref m) S = .ok (.bl (!decide (xs = ys))) S := by
  simp only [opNe, reify_l h hp hk, reify_l h' hp' hl, PyData.eqv, eqv_pls k l xs ys hp hp']

/-! ### comprehensions -/
/-- the store stays, but for the list that grows -/
theorem lcL_pure {chk : Sto → Bool} {tg : TM} {t : BM} {e : EM} {L : Loc} {S1 : Sto} {p : D → Bool} {f : D → D} {L1 : D → Loc} :
    ∀ {items : List D} {acc : List D}, (∀ acc, chk (S1 ++ [.lst acc]) = true) → (∀ x ∈ items, ∀ acc, tg x L (S1 ++ [.lst acc]) = .ok (L1 x) (S1 ++ [.lst acc]) ∧ t (L1 x) (S1 ++ [.lst acc]) = .ok (p x) (S1 ++ [.lst acc]) ∧ (p x = true → e (L1 x) (S1 ++ [.lst acc]) = .ok (f x) (S1 ++ [.lst acc]))) →
      acc.length + items.length ≤ sz → lcL chk tg t e L S1.length items (S1 ++ [.lst acc]) = .ok (.ref S1.length) (S1 ++ [.lst (acc ++ (items.filter p).map f)])
  | [], acc, hc, _, _ => by simp [lcL, hc]
  | x :: xs, acc, hc, h, hz => by
    obtain ⟨h1, h2, h3⟩ := h x (List.mem_cons_self ..) acc
    have ih := fun acc' hz' => lcL_pure (items := xs) (acc := acc') hc (fun y hy => h y (List.mem_cons_of_mem _ hy)) hz'
    simp only [List.length_cons] at hz
    unfold lcL
    rw [if_pos (hc acc), h1]
    dsimp only
    rw [h2]
    cases q : p x with
    | true =>
      simp only
      rw [h3 q]
      simp only [at_new]
      rw [if_pos (by omega)]
      have e : (S1 ++ [Ob.lst acc]).set S1.length (.lst (acc ++ [f x])) = S1 ++ [.lst (acc ++ [f x])] := by
        rw [List.set_append_right _ _ (Nat.le_refl _)]
        simp
      rw [e, ih (acc ++ [f x]) (by simp; omega)]
      simp [List.filter_cons, q]
    | false =>
      simp only
      rw [ih acc (by omega)]
      simp [List.filter_cons, q]
theorem eLc_lst {a : EM} {tg : TM} {t : BM} {e : EM} {vs : List Nat} {L : Loc} {S S1 : Sto} {n : Nat} {items : List D} {p : D → Bool} {f : D → D} {L1 : D → Loc} (ha : a L S = .ok (.ref n) S1) (hn : S1[n]? = some (.lst items))
    (h : ∀ x ∈ items, ∀ acc, tg x (wipe L vs) (S1 ++ [.lst acc]) = .ok (L1 x) (S1 ++ [.lst acc]) ∧ t (L1 x) (S1 ++ [.lst acc]) = .ok (p x) (S1 ++ [.lst acc]) ∧ (p x = true → e (L1 x) (S1 ++ [.lst acc]) = .ok (f x) (S1 ++ [.lst acc]))) (hz : items.length ≤ sz) :
    eLc (wLst a) tg t e vs L S = .ok (.ref S1.length) (S1 ++ [.lst ((items.filter p).map f)]) := by
  simp only [eLc, wLst, ha, R.bind_ok, hn]
  rw [lcL_pure (fun acc => decide_eq_true (at_push hn)) h (by simpa using hz)]
  simp
theorem eLc_tup {a : EM} {tg : TM} {t : BM} {e : EM} {vs : List Nat} {L : Loc} {S S1 : Sto} {items : List D} {p : D → Bool} {f : D → D} {L1 : D → Loc} (ha : a L S = .ok (.tup items) S1)
    (h : ∀ x ∈ items, ∀ acc, tg x (wipe L vs) (S1 ++ [.lst acc]) = .ok (L1 x) (S1 ++ [.lst acc]) ∧ t (L1 x) (S1 ++ [.lst acc]) = .ok (p x) (S1 ++ [.lst acc]) ∧ (p x = true → e (L1 x) (S1 ++ [.lst acc]) = .ok (f x) (S1 ++ [.lst acc]))) (hz : items.length ≤ sz) :
    eLc (wTup a) tg t e vs L S = .ok (.ref S1.length) (S1 ++ [.lst ((items.filter p).map f)]) := by
  simp only [eLc, wTup, ha, R.bind_ok]
  rw [lcL_pure (fun acc => rfl) h (by simpa using hz)]
  simp
theorem eLc_str {a : EM} {tg : TM} {t : BM} {e : EM} {vs : List Nat} {L : Loc} {S S1 : Sto} {z : List Nat} {p : D → Bool} {f : D → D} {L1 : D → Loc} (ha : a L S = .ok (.str z) S1)
    (h : ∀ x ∈ z.map (fun c => D.str [c]), ∀ acc, tg x (wipe L vs) (S1 ++ [.lst acc]) = .ok (L1 x) (S1 ++ [.lst acc]) ∧ t (L1 x) (S1 ++ [.lst acc]) = .ok (p x) (S1 ++ [.lst acc]) ∧ (p x = true → e (L1 x) (S1 ++ [.lst acc]) = .ok (f x) (S1 ++ [.lst acc]))) (hz : z.length ≤ sz) :
    eLc (wStr a) tg t e vs L S = .ok (.ref S1.length) (S1 ++ [.lst (((z.map fun c => D.str [c]).filter p).map f)]) := by
  simp only [eLc, wStr, ha, R.bind_ok]
  rw [lcL_pure (fun acc => rfl) h (by simpa using hz)]
  simp
/-- by an invariant: what is told, in turn; the store may change -/
theorem lcL_inv {chk : Sto → Bool} {tg : TM} {t : BM} {e : EM} {L : Loc} {n : Nat} {Q : D → Sto → Prop} {E : Exc → Sto → Prop} (I : List D → List D → Sto → Prop) (hc : ∀ xs acc S, I xs acc S → chk S = true ∧ S[n]? = some (.lst acc)) (hQ : ∀ acc S, I [] acc S → Q (.ref n) S)
    (hs : ∀ x xs acc S, I (x :: xs) acc S → wR (tg x L S) (fun L1 S1 => wR (t L1 S1) (fun b S2 => if b = true then wR (e L1 S2) (fun y S3 => ∃ acc', S3[n]? = some (.lst acc') ∧ acc'.length < sz ∧ I xs (acc' ++ [y]) (S3.set n (.lst (acc' ++ [y])))) (fun _ _ => False) else I xs acc S2) (fun _ _ => False)) (fun _ _ => False)) :
    ∀ {xs acc : List D} {S : Sto}, I xs acc S → wR (lcL chk tg t e L n xs S) Q E
  | [], acc, S, h => by
    unfold lcL
    rw [if_pos (hc _ _ _ h).1]
    exact hQ _ _ h
  | x :: xs, acc, S, h => by
    have q := hs x xs acc S h
    unfold lcL
    rw [if_pos (hc _ _ _ h).1]
    cases h1 : tg x L S with
    | ok L1 S1 =>
      rw [h1] at q
      simp only [wR_ok] at q ⊢
      cases h2 : t L1 S1 with
      | ok b S2 =>
        rw [h2] at q
        simp only [wR_ok] at q
        cases b with
        | true =>
          simp only [if_true] at q ⊢
          cases h3 : e L1 S2 with
          | ok y S3 =>
            rw [h3] at q
            obtain ⟨acc', e1, e2, q⟩ := q
            simp only [e1]
            rw [if_pos e2]
            exact lcL_inv I hc hQ hs q
          | exc x S => rw [h3] at q; exact q.elim
          | err => rw [h3] at q; exact q.elim
        | false =>
          simp only [Bool.false_eq_true, if_false] at q ⊢
          exact lcL_inv I hc hQ hs q
      | exc x S => rw [h2] at q; exact q.elim
      | err => rw [h2] at q; exact q.elim
    | exc x S => rw [h1] at q; exact q.elim
    | err => rw [h1] at q; exact q.elim

/-! ### for -/
theorem forL_inv {chk : Sto → Bool} {tg : TM} {body : SM} {K : En} (I : List D → Loc → Sto → Prop) (hc : ∀ xs L S, I xs L S → chk S = true) (hQ : ∀ L S, I [] L S → K.nx L S)
    (hs : ∀ x xs L S, I (x :: xs) L S → wR (tg x L S) (fun L1 S1 => wS (body L1 S1) ⟨fun L2 S2 => I xs L2 S2, K.rt, K.nx, fun L2 S2 => I xs L2 S2, K.ex⟩) (fun _ _ => False)) :
    ∀ {xs : List D} {L : Loc} {S : Sto}, I xs L S → wS (forL chk tg body xs L S) K
  | [], L, S, h => by
    unfold forL
    rw [if_pos (hc _ _ _ h)]
    exact hQ _ _ h
  | x :: xs, L, S, h => by
    have q := hs x xs L S h
    unfold forL
    rw [if_pos (hc _ _ _ h)]
    cases h1 : tg x L S with
    | ok L1 S1 =>
      rw [h1] at q
      simp only [wR_ok] at q ⊢
      cases h2 : body L1 S1 with
      | nx L2 S2 => rw [h2] at q; exact forL_inv I hc hQ hs q
      | ct L2 S2 => rw [h2] at q; exact forL_inv I hc hQ hs q
      | bk L2 S2 => rw [h2] at q; exact q
      | rt d S2 => rw [h2] at q; exact q
      | exc x L2 S2 => rw [h2] at q; exact q
      | err => rw [h2] at q; exact q
    | exc x S => rw [h1] at q; exact q.elim
    | err => rw [h1] at q; exact q.elim
theorem wS_sFor {w : WM} {tg : TM} {body : SM} {L : Loc} {S : Sto} {K : En} : wS (sFor w tg body L S) K = wR (w L S) (fun k S1 => wS (forL k.chk tg body k.items L S1) K) (fun x S => K.ex x L S) := by
  simp only [sFor, wS_st]
theorem wR_wLst {a : EM} {L : Loc} {S : Sto} {Q : Wk → Sto → Prop} {E : Exc → Sto → Prop} (h : wR (a L S) (fun x S1 => ∃ n xs, x = .ref n ∧ S1[n]? = some (.lst xs) ∧ Q ⟨xs, fun S => decide (S[n]? = some (.lst xs))⟩ S1) E) : wR (wLst a L S) Q E := by
  simp only [wLst, wR_bind]
  refine wR_mono h (fun x S1 ⟨n, xs, e, e1, q⟩ => ?_) fun _ _ z => z
  subst e
  simp only [e1, wR_ok]
  exact q
theorem wR_wRng1 {a : EM} {L : Loc} {S : Sto} {Q : Wk → Sto → Prop} {E : Exc → Sto → Prop} (h : wR (a L S) (fun x S1 => ∃ j, x = .int j ∧ (-(2 ^ 62) ≤ j ∧ j < 2 ^ 62) ∧ Q ⟨rngD 0 j.toNat, fun _ => true⟩ S1) E) : wR (wRng1 a L S) Q E := by
  simp only [wRng1, wR_bind]
  refine wR_mono h (fun x S1 ⟨j, e, e1, q⟩ => ?_) fun _ _ z => z
  subst e
  simp only
  rw [if_pos e1]
  exact q
/-- a call's exact end -/
theorem wR_eq {α : Type} {r : R α} {a : α} {S : Sto} {Q : α → Sto → Prop} {E : Exc → Sto → Prop} (h : r = .ok a S) (q : Q a S) : wR r Q E := by rw [h]; exact q
/-! ### comprehensions whose parts make more of the store -/
inductive A2 {α β : Type} (P : α → β → Prop) : List α → List β → Prop
  | nil : A2 P [] []
  | cons {x : α} {y : β} {xs : List α} {ys : List β} : P x y → A2 P xs ys → A2 P (x :: xs) (y :: ys)
theorem A2.snoc {α β : Type} {P : α → β → Prop} : ∀ {xs : List α} {ys : List β} {x : α} {y : β}, A2 P xs ys → P x y → A2 P (xs ++ [x]) (ys ++ [y])
  | _, _, _, _, .nil, h => .cons h .nil
  | _, _, _, _, .cons a b, h => .cons a (b.snoc h)
theorem A2.eq_map {α β : Type} {f : α → β} : ∀ {xs : List α} {ys : List β}, A2 (fun x y => y = f x) xs ys → ys = xs.map f
  | _, _, .nil => rfl
  | _, _, .cons a b => by rw [List.map_cons, a, b.eq_map]
theorem A2.len {α β : Type} {P : α → β → Prop} : ∀ {xs : List α} {ys : List β}, A2 P xs ys → ys.length = xs.length
  | _, _, .nil => rfl
  | _, _, .cons a b => by simp [b.len]
theorem A2.all {α β : Type} {P : α → β → Prop} {R : β → Prop} (h : ∀ x y, P x y → R y) : ∀ {xs : List α} {ys : List β}, A2 P xs ys → ∀ y ∈ ys, R y
  | _, _, .nil, y, hy => by cases hy
  | _, _, .cons a b, y, hy => by
    cases hy with
    | head => exact h _ _ a
    | tail _ hy => exact b.all h y hy
abbrev Fl : Exc → Sto → Prop := fun _ _ => False
theorem lcL_fm {chk : Sto → Bool} {tg : TM} {t : BM} {e : EM} {L : Loc} {X : List Nat} {S1 : Sto} {items : List D} {p : D → Bool} {P : D → D → Prop} {Q : D → Sto → Prop} {E : Exc → Sto → Prop} (J : Sto → Prop) (hJ : J S1) (hJp : ∀ o, J (S1 ++ [o])) (hJs : ∀ S' o, J S' → J (S'.set S1.length o))
    (hX : ∀ n ∈ X, n < S1.length) (hchk : ∀ S', Fm X S1 S' → J S' → chk S' = true)
    (h : ∀ x ∈ items, ∀ S', Fm X S1 S' → J S' → wR (tg x L S') (fun L1 S2 => S2 = S' ∧ wR (t L1 S') (fun b S3 => Fm X S' S3 ∧ J S3 ∧ b = p x ∧ (b = true → wR (e L1 S3) (fun y S4 => Fm X S3 S4 ∧ J S4 ∧ P x y) Fl)) Fl) Fl) (hz : items.length ≤ sz)
    (q : ∀ S' ys, Fm X S1 S' → J S' → A2 P (items.filter p) ys → S'[S1.length]? = some (.lst ys) → S1.length < S'.length → Q (.ref S1.length) S') : wR (lcL chk tg t e L S1.length items (S1 ++ [.lst []])) Q E := by
  refine lcL_inv (I := fun xs acc S' => Fm X S1 S' ∧ J S' ∧ S'[S1.length]? = some (.lst acc) ∧ ∃ ds, ds ++ xs = items ∧ A2 P (ds.filter p) acc) ?_ ?_ ?_ ⟨(Fm.refl X S1).push _, hJp _, at_new _ _, [], rfl, .nil⟩
  · exact fun xs acc S' ⟨a, b, c, _⟩ => ⟨hchk _ a b, c⟩
  · intro acc S' ⟨a, b, c, ds, e1, e2⟩
    rw [List.append_nil] at e1
    subst e1
    exact q S' acc a b e2 c (lt_of_at c)
  · rintro x xs acc S' ⟨a, b, c, ds, e1, e2⟩
    have nX : S1.length ∉ X := fun z => Nat.lt_irrefl _ (hX _ z)
    refine wR_mono (h x (by rw [← e1]; simp) S' a b) (fun L1 S2 ⟨es, w⟩ => ?_) fun _ _ z => z
    subst es
    refine wR_mono w (fun bb S3 ⟨a3, b3, e3, w⟩ => ?_) fun _ _ z => z
    have c3 := a3.at c nX
    cases hb : bb with
    | true =>
      rw [if_pos rfl]
      refine wR_mono (w hb) (fun y S4 ⟨a4, b4, e4⟩ => ?_) fun _ _ z => z
      have c4 := a4.at c3 nX
      have al : acc.length = (ds.filter p).length := e2.len
      have dl : (ds.filter p).length ≤ ds.length := List.length_filter_le _ _
      have il : ds.length + xs.length + 1 = items.length := by rw [← e1]; simp; omega
      refine ⟨acc, c4, by omega, ((a.trans a3).trans a4).set _ (.inr (Nat.le_refl _)), hJs _ _ b4, at_set c4, ds ++ [x], by rw [← e1]; simp, ?_⟩
      rw [List.filter_append]
      have : [x].filter p = [x] := by simp [List.filter_cons, ← e3, hb]
      rw [this]
      exact e2.snoc e4
    | false =>
      rw [if_neg (by simp)]
      refine ⟨a.trans a3, b3, c3, ds ++ [x], by rw [← e1]; simp, ?_⟩
      rw [List.filter_append]
      have : [x].filter p = [] := by simp [List.filter_cons, ← e3, hb]
      rw [this, List.append_nil]
      exact e2
/-- a list comprehension -/
theorem wR_eLc {w : WM} {tg : TM} {t : BM} {e : EM} {vs : List Nat} {L : Loc} {S : Sto} {Q : D → Sto → Prop} {E : Exc → Sto → Prop} : wR (eLc w tg t e vs L S) Q E = wR (w L S) (fun k S1 => wR (lcL k.chk tg t e (wipe L vs) S1.length k.items (S1 ++ [.lst []])) Q E) E := by simp only [eLc, wR_bind]
theorem eq_of_wR {α : Type} {r : R α} {a : α} {S : Sto} (h : wR r (fun d S' => d = a ∧ S' = S) Fl) : r = .ok a S := by
  cases r with
  | ok d S' => obtain ⟨rfl, rfl⟩ := h; rfl
  | exc x S => exact h.elim
  | err => exact h.elim
theorem eq_of_exc {α : Type} {r : R α} {x : Exc} {S : Sto} (h : wR r (fun _ _ => False) (fun y S' => y = x ∧ S' = S)) : r = .exc x S := by
  cases r with
  | ok d S' => exact h.elim
  | exc y S' => obtain ⟨rfl, rfl⟩ := h; rfl
  | err => exact h.elim
@[simp] theorem opIsi_int (T : String) (i : Int) (S : Sto) : opIsi T (.int i) S = .ok (.bl (decide ("int" = T))) S := by simp [opIsi, tyNm]
@[simp] theorem opIsi_bl (T : String) (i : Bool) (S : Sto) : opIsi T (.bl i) S = .ok (.bl (decide ("bool" = T) || decide (T = "int"))) S := by simp [opIsi, tyNm]
@[simp] theorem opIsi_str (T : String) (i : List Nat) (S : Sto) : opIsi T (.str i) S = .ok (.bl (decide ("str" = T))) S := by simp [opIsi, tyNm]
@[simp] theorem opIsi_tup (T : String) (i : List D) (S : Sto) : opIsi T (.tup i) S = .ok (.bl (decide ("tuple" = T))) S := by simp [opIsi, tyNm]
@[simp] theorem opIsi_non (T : String) (S : Sto) : opIsi T .non S = .ok (.bl (decide ("NoneType" = T))) S := by simp [opIsi, tyNm]
theorem opIsi_l {T : String} {S : Sto} {n : Nat} {xs : List D} (h : S[n]? = some (.lst xs)) : opIsi T (.ref n) S = .ok (.bl (decide ("list" = T))) S := by simp [opIsi, tyNm, h]
theorem allB_map : ∀ {xs : List D} {f : D → Bool}, allB (xs.map fun x => .bl (f x)) = some (xs.all f)
  | [], f => rfl
  | x :: xs, f => by simp [allB, allB_map (xs := xs)]
theorem fAll_r {S : Sto} {n : Nat} {xs : List D} {b : Bool} (h : S[n]? = some (.lst xs)) (e : allB xs = some b) : fAll [.ref n] S = .ok (.bl b) S := by simp only [fAll, h, e]
theorem wR_wTup {a : EM} {L : Loc} {S : Sto} {Q : Wk → Sto → Prop} {E : Exc → Sto → Prop} (h : wR (a L S) (fun x S1 => ∃ xs, x = .tup xs ∧ Q ⟨xs, fun _ => true⟩ S1) E) : wR (wTup a L S) Q E := by
  simp only [wTup, wR_bind]
  refine wR_mono h (fun x S1 ⟨xs, e, q⟩ => ?_) fun _ _ z => z
  subst e
  exact q
theorem wR_wStr {a : EM} {L : Loc} {S : Sto} {Q : Wk → Sto → Prop} {E : Exc → Sto → Prop} (h : wR (a L S) (fun x S1 => ∃ z, x = .str z ∧ Q ⟨z.map fun c => .str [c], fun _ => true⟩ S1) E) : wR (wStr a L S) Q E := by
  simp only [wStr, wR_bind]
  refine wR_mono h (fun x S1 ⟨xs, e, q⟩ => ?_) fun _ _ z => z
  subst e
  exact q
/-- the store stays, but for the list that grows; what is walked is of the kind β -/
theorem lcL_map {β : Type} {chk : Sto → Bool} {tg : TM} {t : BM} {e : EM} {L : Loc} {S1 : Sto} {g : β → D} {p : β → Bool} {f : β → D} {L1 : β → Loc} :
    ∀ {items : List β} {acc : List D}, (∀ acc, chk (S1 ++ [.lst acc]) = true) → (∀ x ∈ items, ∀ acc, tg (g x) L (S1 ++ [.lst acc]) = .ok (L1 x) (S1 ++ [.lst acc]) ∧ t (L1 x) (S1 ++ [.lst acc]) = .ok (p x) (S1 ++ [.lst acc]) ∧ (p x = true → e (L1 x) (S1 ++ [.lst acc]) = .ok (f x) (S1 ++ [.lst acc]))) →
      acc.length + items.length ≤ sz → lcL chk tg t e L S1.length (items.map g) (S1 ++ [.lst acc]) = .ok (.ref S1.length) (S1 ++ [.lst (acc ++ (items.filter p).map f)])
  | [], acc, hc, _, _ => by simp [lcL, hc]
  | x :: xs, acc, hc, h, hz => by
    obtain ⟨h1, h2, h3⟩ := h x (List.mem_cons_self ..) acc
    have ih := fun acc' hz' => lcL_map (items := xs) (acc := acc') hc (fun y hy => h y (List.mem_cons_of_mem _ hy)) hz'
    simp only [List.length_cons] at hz
    rw [List.map_cons]
    unfold lcL
    rw [if_pos (hc acc), h1]
    dsimp only
    rw [h2]
    cases q : p x with
    | true =>
      simp only
      rw [h3 q]
      simp only [at_new]
      rw [if_pos (by omega)]
      have e : (S1 ++ [Ob.lst acc]).set S1.length (.lst (acc ++ [f x])) = S1 ++ [.lst (acc ++ [f x])] := by
        rw [List.set_append_right _ _ (Nat.le_refl _)]
        simp
      rw [e, ih (acc ++ [f x]) (by simp; omega)]
      simp [List.filter_cons, q]
    | false =>
      simp only
      rw [ih acc (by omega)]
      simp [List.filter_cons, q]
theorem eLc_map {β : Type} {a : EM} {tg : TM} {t : BM} {e : EM} {vs : List Nat} {L : Loc} {S S1 : Sto} {n : Nat} {items : List β} {g : β → D} {p : β → Bool} {f : β → D} {L1 : β → Loc} (ha : a L S = .ok (.ref n) S1) (hn : S1[n]? = some (.lst (items.map g)))
    (h : ∀ x ∈ items, ∀ acc, tg (g x) (wipe L vs) (S1 ++ [.lst acc]) = .ok (L1 x) (S1 ++ [.lst acc]) ∧ t (L1 x) (S1 ++ [.lst acc]) = .ok (p x) (S1 ++ [.lst acc]) ∧ (p x = true → e (L1 x) (S1 ++ [.lst acc]) = .ok (f x) (S1 ++ [.lst acc]))) (hz : items.length ≤ sz) :
    eLc (wLst a) tg t e vs L S = .ok (.ref S1.length) (S1 ++ [.lst ((items.filter p).map f)]) := by
  simp only [eLc, wLst, ha, R.bind_ok, hn]
  rw [lcL_map (fun acc => decide_eq_true (at_push hn)) h (by simpa using hz)]
  simp
theorem tV_ok {a : EM} {L : Loc} {S S1 : Sto} {b : Bool} (h : a L S = .ok (.bl b) S1) : tV a L S = .ok b S1 := by simp only [tV, h, R.bind_ok]
theorem tAnd_ok {a b : BM} {L : Loc} {S : Sto} {x y : Bool} (h : a L S = .ok x S) (h' : b L S = .ok y S) : tAnd a b L S = .ok (x && y) S := by
  simp only [tAnd, h, R.bind_ok]
  cases x
  · rfl
  · simp [h']
theorem atI_0 {α : Type} (x : α) (xs : List α) : atI (x :: xs) 0 = some x := by
  unfold atI ixN
  rw [if_pos (by decide), if_pos (by simp only [List.length_cons]; omega)]
  rfl
theorem fLenOwn_r {c : Nat} {F : Fn} {S S1 : Sto} {n : Nat} {fs : List (Nat × D)} {i : Int} (h : S[n]? = some (.ins c fs)) (e : F [.ref n] S = .ok (.int i) S1) (h0 : 0 ≤ i) (h1 : i < 2 ^ 63) : fLenOwn c F [.ref n] S = .ok (.int i) S1 := by
  simp only [fLenOwn, h, if_pos]
  rw [e]
  simp only [R.bind_ok]
  rw [if_pos ⟨h0, h1⟩]
/-! splitting at a sign: the only list of parts without it that joins to the text -/
theorem splitC_ne (c : Nat) : ∀ x : List Nat, splitC c x ≠ []
  | [] => by simp [splitC]
  | x :: r => by
    unfold splitC
    split
    · simp
    · split <;> simp
theorem splitC_free (c : Nat) : ∀ x : List Nat, ∀ p ∈ splitC c x, c ∉ p
  | [], p, h => by simp [splitC] at h; subst h; simp
  | x :: r, p, h => by
    have ih := splitC_free c r
    unfold splitC at h
    split at h
    · rcases List.mem_cons.mp h with rfl | h
      · simp
      · exact ih p h
    · rename_i ne
      split at h
      · rename_i hd tl e
        rcases List.mem_cons.mp h with rfl | h
        · have := ih hd (by rw [e]; exact List.mem_cons_self ..)
          simp only [List.mem_cons, not_or]
          exact ⟨fun z => ne z.symm, this⟩
        · exact ih p (by rw [e]; exact List.mem_cons_of_mem _ h)
      · simp only [List.mem_cons, List.not_mem_nil, or_false] at h
        subst h
        simpa using fun z => ne z.symm
theorem joinS_cons (c : Nat) (x : List Nat) {ys : List (List Nat)} (h : ys ≠ []) : joinS [c] (x :: ys) = x ++ c :: joinS [c] ys := by
  cases ys with
  | nil => exact absurd rfl h
  | cons y r =>
    show x ++ [c] ++ joinS [c] (y :: r) = _
    simp
theorem splitC_join (c : Nat) : ∀ x : List Nat, joinS [c] (splitC c x) = x
  | [] => rfl
  | x :: r => by
    have ih := splitC_join c r
    unfold splitC
    split
    · rename_i e
      rw [joinS_cons c [] (splitC_ne c r), ih, e]
      rfl
    · split
      · rename_i hd tl e
        rw [e] at ih
        cases tl with
        | nil => simpa [joinS] using ih
        | cons y t =>
          rw [joinS_cons c hd (by simp)] at ih
          rw [joinS_cons c (x :: hd) (by simp), List.cons_append, ih]
      · rename_i e
        exact absurd e (splitC_ne c r)
theorem cut_free {c : Nat} : ∀ {x y u v : List Nat}, c ∉ x → c ∉ y → x ++ c :: u = y ++ c :: v → x = y ∧ u = v
  | [], [], u, v, _, _, h => ⟨rfl, by simpa using h⟩
  | [], y :: ys, u, v, _, hy, h => by simp at h; exact absurd (by simp [h.1]) hy
  | x :: xs, [], u, v, hx, _, h => by simp at h; exact absurd (by simp [h.1]) hx
  | x :: xs, y :: ys, u, v, hx, hy, h => by
    simp only [List.cons_append, List.cons.injEq] at h
    obtain ⟨e1, e2⟩ := cut_free (fun z => hx (List.mem_cons_of_mem _ z)) (fun z => hy (List.mem_cons_of_mem _ z)) h.2
    exact ⟨by rw [h.1, e1], e2⟩
theorem join_inj {c : Nat} : ∀ {xs ys : List (List Nat)}, xs ≠ [] → ys ≠ [] → (∀ p ∈ xs, c ∉ p) → (∀ p ∈ ys, c ∉ p) → joinS [c] xs = joinS [c] ys → xs = ys
  | [], _, h, _, _, _, _ => absurd rfl h
  | _, [], _, h, _, _, _ => absurd rfl h
  | [x], [y], _, _, _, _, e => by simpa [joinS] using e
  | [x], y :: y2 :: r, _, _, hx, hy, e => by
    rw [joinS_cons c y (by simp)] at e
    have : c ∈ joinS [c] [x] := by rw [e]; simp
    exact absurd this (hx x (List.mem_cons_self ..))
  | x :: x2 :: r, [y], _, _, hx, hy, e => by
    rw [joinS_cons c x (by simp)] at e
    have : c ∈ joinS [c] [y] := by rw [← e]; simp
    exact absurd this (hy y (List.mem_cons_self ..))
  | x :: x2 :: r, y :: y2 :: q, _, _, hx, hy, e => by
    rw [joinS_cons c x (by simp), joinS_cons c y (by simp)] at e
    obtain ⟨e1, e2⟩ := cut_free (hx x (List.mem_cons_self ..)) (hy y (List.mem_cons_self ..)) e
    rw [e1, join_inj (by simp) (by simp) (fun p hp => hx p (List.mem_cons_of_mem _ hp)) (fun p hp => hy p (List.mem_cons_of_mem _ hp)) e2]
theorem cut_none {α : Type} (xs : List α) (n : Nat) : cut xs none (some (n : Int)) = xs.take n := by
  have e : sIx xs.length xs.length (some (n : Int)) = min n xs.length := by
    simp only [sIx]
    rw [if_neg (by omega)]
    simp
  have e2 : sIx xs.length 0 none = 0 := rfl
  unfold cut
  rw [e, e2, List.drop_zero, Nat.sub_zero]
  rw [Nat.min_comm, ← List.take_take]
  exact List.take_of_length_le (by simp; omega)
theorem cut_from {α : Type} (xs : List α) (n : Nat) (h : n ≤ xs.length) : cut xs (some (n : Int)) none = xs.drop n := by
  have e : sIx xs.length 0 (some (n : Int)) = n := by
    simp only [sIx]
    rw [if_neg (by omega)]
    simp
    omega
  have e2 : sIx xs.length xs.length none = xs.length := rfl
  unfold cut
  rw [e, e2, List.take_of_length_le (by simp)]
theorem wR_eBM {t : String} {F : Fn} {o : EM} {as : AM} {L : Loc} {S : Sto} {Q : D → Sto → Prop} {E : Exc → Sto → Prop} (h : wR (o L S) (fun x S1 => tyNm S1 x = some t ∧ wR (as L S1) (fun xs S2 => wR (F (x :: xs) S2) Q E) E) E) : wR (eBM t F o as L S) Q E := by
  simp only [eBM, wR_bind]
  refine wR_mono h (fun x S1 ⟨e, q⟩ => ?_) fun _ _ z => z
  rw [if_pos e, wR_bind]
  exact q
end MP

namespace MP
open PySem (PyData)
/-! ### the dice -/
def isDie (S : Sto) (n : Nat) : Prop := ∃ a b : Int, S[n]? = some (.lst [.int a, .int b])
theorem isDie.fm {X : List Nat} {S S' : Sto} {n : Nat} (h : isDie S n) (f : Fm X S S') (hx : n ∉ X) : isDie S' n := by
  obtain ⟨a, b, h⟩ := h
  exact ⟨a, b, f.at h hx⟩
theorem isDie.push {S : Sto} {n : Nat} {o : Ob} (h : isDie S n) : isDie (S ++ [o]) n := by
  obtain ⟨a, b, h⟩ := h
  exact ⟨a, b, at_push h⟩
theorem isDie.set {S : Sto} {n k : Nat} {o : Ob} (h : isDie S n) (e : k ≠ n) : isDie (S.set k o) n := by
  obtain ⟨a, b, h⟩ := h
  exact ⟨a, b, at_set_ne h e⟩
theorem isDie.lt {S : Sto} {n : Nat} (h : isDie S n) : n < S.length := by
  obtain ⟨a, b, h⟩ := h
  exact lt_of_at h
theorem mul_small {i j : Int} (h : -(2 ^ 64) < j ∧ j < 2 ^ 64) : mulOk i j = true := by
  unfold mulOk
  simp only [Bool.or_eq_true, Bool.and_eq_true, decide_eq_true_eq]
  exact .inl (.inr h)
theorem mul_mid {i j : Int} (h : i.natAbs < 2 ^ 200) (h' : j.natAbs < 2 ^ 200) : mulOk i j = true := by
  unfold mulOk
  simp only [Bool.or_eq_true, Bool.and_eq_true, decide_eq_true_eq]
  exact .inr ⟨h, h'⟩
theorem drawn_ok (a b : Int) (S : Sto) : ∃ r : Int, f__law_drawn [.int a, .int b] S = .ok (.int r) S := by
  have key : wR (f__law_drawn [.int a, .int b] S) (fun d S' => S' = S ∧ ∃ r : Int, d = .int r) (fun _ _ => False) := by
    refine wR_call rfl ?_
    unfold c__law_drawn
    simp only [wS_sSeq, wS_sAsg, eBin_a, eV_a, eC_a, List.map, List.replicate, List.cons_append, List.nil_append, List.getElem?_cons_zero, List.getElem?_cons_succ, R.bind_ok, opMul_i, Nat.sub_self, Nat.reduceSub]
    rw [if_pos (mul_small (by decide))]
    simp only [R.bind_ok, opAdd_i, opMul_i]
    rw [if_pos (mul_small (by decide))]
    simp only [R.bind_ok, opAdd_i, opMod_i]
    rw [if_pos (by decide)]
    simp only [wR_ok, gV_a, List.set_cons_succ, List.set_cons_zero, List.getElem?_cons_succ, List.getElem?_cons_zero, R.bind_ok, opMul_i]
    generalize hx : (a * 6364136223846793005 + (b + 1) * 1442695040888963407) % 340282366920938463463374607431768211507 = x
    have x0 : 0 ≤ x := by omega
    have x1 : x < 340282366920938463463374607431768211507 := by omega
    clear hx
    rw [if_pos (mul_mid (by omega) (by omega))]
    simp only [R.bind_ok, opMod_i]
    rw [if_pos (by decide)]
    simp only [wR_ok, gV_a, List.set_cons_succ, List.set_cons_zero, List.getElem?_cons_succ, List.getElem?_cons_zero, R.bind_ok, opMul_i]
    generalize hy : x * x % 340282366920938463463374607431768211297 = y
    have y0 : 0 ≤ y := by omega
    have y1 : y < 340282366920938463463374607431768211297 := by omega
    clear hy
    have d1 : ∀ S, opDiv (.int y) (.int 18446744073709551557) S = .ok (.int (y / 18446744073709551557)) S := fun S => by rw [opDiv_i, if_pos (by decide)]
    have d2 : ∀ S, opMod (.int y) (.int 18446744073709551557) S = .ok (.int (y % 18446744073709551557)) S := fun S => by rw [opMod_i, if_pos (by decide)]
    simp only [d1, d2, wR_ok, R.bind_ok, opAdd_i, opMul_i]
    have u0 : 0 ≤ y % 18446744073709551557 + 1 := by omega
    have u1 : y % 18446744073709551557 + 1 < 18446744073709551616 := by omega
    have v0 : 0 ≤ y / 18446744073709551557 + 1 := by omega
    have v1 : y / 18446744073709551557 + 1 < 36893488147419103232 := by omega
    generalize y % 18446744073709551557 + 1 = u at u0 u1
    generalize y / 18446744073709551557 + 1 = v at v0 v1
    rw [if_pos (mul_mid (by omega) (by omega))]
    simp only [wR_ok, R.bind_ok, opMul_i]
    have w0 : 0 ≤ u * v := Int.mul_nonneg u0 v0
    have w1 : u * v ≤ 18446744073709551616 * 36893488147419103232 := Int.mul_le_mul (by omega) (by omega) v0 (by omega)
    rw [if_pos (mul_mid (by omega) (by omega))]
    simp only [wR_ok, R.bind_ok, gV_a, wS_sRet, eBin_a, eV_a, eC_a, List.set_cons_succ, List.set_cons_zero, List.getElem?_cons_succ, List.getElem?_cons_zero, opMod_i]
    rw [if_pos (by decide)]
    simp only [wR_ok]
    exact ⟨trivial, _, rfl⟩
  cases h : f__law_drawn [.int a, .int b] S with
  | ok d S' =>
    rw [h] at key
    obtain ⟨rfl, r, rfl⟩ := key
    exact ⟨r, rfl⟩
  | exc x S' => rw [h] at key; exact key.elim
  | err => rw [h] at key; exact key.elim
/-- one throw -/
theorem roll_ok {S : Sto} {n : Nat} {m : Int} {Q : D → Sto → Prop} {E : Exc → Sto → Prop} (h : isDie S n) (hm : 0 < m) (hm2 : m < 2 ^ 64)
    (q : ∀ (r : Int) (S' : Sto), 0 ≤ r → r < m → Fm [n] S S' → isDie S' n → S'.length = S.length → Q (.int r) S') : wR (f__law_roll [.ref n, .int m] S) Q E := by
  obtain ⟨a, b, h⟩ := h
  have q' : ∀ (r a' b' : Int), 0 ≤ r → r < m → Q (.int r) (S.set n (.lst [.int a', .int b'])) := fun r a' b' h0 h1 => q r _ h0 h1 ((Fm.refl [n] S).set _ (.inl (by simp))) ⟨a', b', at_set h⟩ (by simp)
  refine wR_call rfl ?_
  unfold c__law_roll
  have ix0 : ∀ {x y : Int} {S : Sto}, S[n]? = some (.lst [.int x, .int y]) → opIx (.ref n) (.int 0) S = .ok (.int x) S := fun {x y S} h => by rw [opIx_r h]; rfl
  have ix1 : ∀ {x y : Int} {S : Sto}, S[n]? = some (.lst [.int x, .int y]) → opIx (.ref n) (.int 1) S = .ok (.int y) S := fun {x y S} h => by rw [opIx_r h]; rfl
  have st0 : ∀ {x y v : Int} {S : Sto}, S[n]? = some (.lst [.int x, .int y]) → setL (.ref n) (.int 0) (.int v) S = .ok () (S.set n (.lst [.int v, .int y])) := fun {x y v S} h => by rw [setL_r (j := 0) h rfl]; rfl
  have st1 : ∀ {x y v : Int} {S : Sto}, S[n]? = some (.lst [.int x, .int y]) → setL (.ref n) (.int 1) (.int v) S = .ok () (S.set n (.lst [.int x, .int v])) := fun {x y v S} h => by rw [setL_r (j := 1) h rfl]; rfl
  have pw : ∀ S, opPow (.int 10) (.int 18) S = .ok (.int (10 ^ 18)) S := fun S => rfl
  have l1 : ∀ x, [some (D.ref n), some (D.int m), x][0]? = some (some (.ref n)) := fun x => rfl
  simp only [wS_sSeq, wS_sIf, wR_tV, wS_sAsg, wS_sRet, wS_sNx, eBin_a, eV_a, eC_a, List.map, List.replicate, List.cons_append, List.nil_append, List.getElem?_cons_zero, List.getElem?_cons_succ, R.bind_ok, Nat.sub_self, Nat.reduceSub, ix0 h, pw, opCmp_a, wR_ok, opMod_i, if_pos hm, gV_a, List.set_cons_succ, List.set_cons_zero, opDiv_i, ix1 h, opAdd_i, wR_ite, gSub_a, wR_bind]
  have hd : 0 < m ∧ m < 2 ^ 200 := ⟨hm, by have : (2:Int) ^ 64 < 2 ^ 200 := by decide
                                           omega⟩
  split
  · simp only [wR_ok, st0 h, R.bind_ok]
    exact q' _ _ _ (Int.emod_nonneg _ (by omega)) (Int.emod_lt_of_pos _ hm)
  · simp only [st1 h, wR_ok, eCall_a, aCons_a, aNil_a, eBin_a, eV_a, eC_a, List.getElem?_cons_zero, List.getElem?_cons_succ, R.bind_ok, wR_bind, ix0 (at_set h), ix1 (at_set h)]
    obtain ⟨r, hr⟩ := drawn_ok a (b + 1) (S.set n (.lst [.int a, .int (b + 1)]))
    rw [hr]
    simp only [wR_ok, opDiv_i]
    rw [if_pos (by decide)]
    simp only [wR_ok, opMod_i, if_pos hm]
    exact q' _ _ _ (Int.emod_nonneg _ (by omega)) (Int.emod_lt_of_pos _ hm)
/-! ### numbers -/
theorem num_i (x lo hi : Int) (S : Sto) : f_is_number [.int x, .int lo, .int hi] S = .ok (.bl (decide (lo ≤ x ∧ x ≤ hi))) S := by
  refine eq_of_wR (wR_call rfl ?_)
  simp only [c_is_number, wS_sSeq, wS_sIf, wR_tOr, wR_tNot, wR_tV, eUn_a, eV_a, List.map, List.replicate, List.cons_append, List.nil_append, List.getElem?_cons_zero, List.getElem?_cons_succ, R.bind_ok, opIsi_int, wR_ok, Nat.sub_self, decide_true, Bool.not_true, Bool.false_eq_true, if_false, eBin_a, opCmp_a, wS_sRet, wR_eOr, opIsN_a, wS_sNx, eC_a]
  by_cases h : x < lo
  · simp [h]
    omega
  · simp [h]
    omega
theorem num_n (x lo : Int) (S : Sto) : f_is_number [.int x, .int lo, .non] S = .ok (.bl (decide (lo ≤ x))) S := by
  refine eq_of_wR (wR_call rfl ?_)
  simp only [c_is_number, wS_sSeq, wS_sIf, wR_tOr, wR_tNot, wR_tV, eUn_a, eV_a, List.map, List.replicate, List.cons_append, List.nil_append, List.getElem?_cons_zero, List.getElem?_cons_succ, R.bind_ok, opIsi_int, wR_ok, Nat.sub_self, decide_true, Bool.not_true, Bool.false_eq_true, if_false, eBin_a, opCmp_a, wS_sRet, wR_eOr, opIsN_a, wS_sNx, eC_a]
  by_cases h : x < lo
  · simp [h]
  · simp [h]
    omega
/-! ### names -/
def signs : List Nat := [97, 98, 99, 100, 101, 102, 103, 104, 105, 106, 107, 108, 109, 110, 111, 112, 113, 114, 115, 116, 117, 118, 119, 120, 121, 122, 48, 49, 50, 51, 52, 53, 54, 55, 56, 57]
def okPart (x : List Nat) : Bool := decide (1 ≤ x.length) && (decide (x.length ≤ 4) && x.all fun c => decide (c ∈ signs))
theorem part_ok {x : List Nat} {S : Sto} {Q : D → Sto → Prop} {E : Exc → Sto → Prop} (q : ∀ S', Fm [] S S' → Q (.bl (okPart x)) S') (hx : x.length ≤ sz) : wR (f_is_part [.str x] S) Q E := by
  refine wR_call rfl ?_
  simp only [c_is_part, wS_sRet, wR_eAnd, eUn_a, eV_a, List.map, List.replicate, List.cons_append, List.nil_append, List.getElem?_cons_zero, List.getElem?_cons_succ, R.bind_ok, opIsi_str, wR_ok, decide_true, wR_eChain, eC_a, eCall_a, aCons_a, aNil_a, fLen, if_pos hx, opCmp_a, wR_bind, Nat.reduceSub]
  unfold okPart at q
  by_cases h1 : 1 ≤ x.length
  · simp only [h1, decide_true, Bool.true_and] at q
    simp only [show (1 : Int) ≤ (x.length : Int) by omega, decide_true]
    by_cases h2 : x.length ≤ 4
    · simp only [h2, decide_true, Bool.true_and] at q
      simp only [show (x.length : Int) ≤ 4 by omega, decide_true]
      refine wR_eq (eLc_str (S1 := S) (p := fun _ => true) (f := fun d => match d with
        | .str [c] => .bl (decide (c ∈ signs))
        | _ => .bl false) (L1 := fun d => [some (.str x), some d]) rfl (fun d hd acc => ?_) (by omega)) ?_
      · obtain ⟨c, _, rfl⟩ := List.mem_map.mp hd
        exact ⟨rfl, rfl, fun _ => rfl⟩
      · refine wR_eq (fAll_r (b := x.all fun c => decide (c ∈ signs)) (at_new _ _) ?_) (q _ ((Fm.refl _ _).push _))
        rw [List.filter_eq_self.mpr (fun _ _ => rfl), List.map_map]
        clear q hx h1 h2
        induction x with
        | nil => rfl
        | cons c x ih => simp only [List.map_cons, Function.comp, allB, ih, List.all_cons, Option.map_some]
    · simp only [h2, decide_false, Bool.false_and] at q
      simp only [show ¬ (x.length : Int) ≤ 4 by omega, decide_false]
      exact q _ (Fm.refl _ _)
  · simp only [h1, decide_false, Bool.false_and] at q
    simp only [show ¬ (1 : Int) ≤ (x.length : Int) by omega, decide_false]
    exact q _ (Fm.refl _ _)
/-- a beginning of these parts -/
abbrev nmD (xs : List (List Nat)) : D := .tup (xs.map .str)
def okBeg (xs : List (List Nat)) : Bool := decide (xs.length ≤ 5) && xs.all okPart
theorem beg_ok {xs : List (List Nat)} {S : Sto} {Q : D → Sto → Prop} {E : Exc → Sto → Prop} (q : ∀ S', Fm [] S S' → Q (.bl (okBeg xs)) S') (hx : ∀ x ∈ xs, x.length ≤ sz) : wR (f_is_beginning [nmD xs] S) Q E := by
  refine wR_call rfl ?_
  simp only [c_is_beginning, wS_sRet, wR_eAnd, eUn_a, eV_a, List.map, List.replicate, List.cons_append, List.nil_append, List.getElem?_cons_zero, List.getElem?_cons_succ, R.bind_ok, opIsi_tup, wR_ok, decide_true, eBin_a, eC_a, eCall_a, aCons_a, aNil_a, fLen_t, opCmp_a, wR_bind, Nat.reduceSub, List.length_map]
  unfold okBeg at q
  by_cases h1 : xs.length ≤ 5
  · simp only [h1, decide_true, Bool.true_and] at q
    simp only [show (xs.length : Int) ≤ 5 by omega, decide_true]
    rw [wR_eLc]
    refine wR_wTup (show wR (R.ok (nmD xs) S) _ _ from ⟨_, rfl, ?_⟩)
    refine lcL_fm (X := []) (p := fun _ => true) (P := fun d y => ∃ x, d = .str x ∧ y = .bl (okPart x)) (fun _ => True) trivial (fun _ => trivial) (fun _ _ _ => trivial) (by simp) (fun _ _ _ => rfl) (fun d hd S' a _ => ?_) (by simp [sz]; omega) fun S' ys a _ hys e _ => ?_
    · obtain ⟨x, hx', rfl⟩ := List.mem_map.mp hd
      refine ⟨rfl, Fm.refl _ _, trivial, rfl, fun _ => ?_⟩
      show wR (f_is_part [.str x] S') _ _
      exact part_ok (fun S2 f => ⟨f, trivial, x, rfl, rfl⟩) (hx x hx')
    · simp only [wR_ok, fAll]
      have : allB ys = some (xs.all okPart) := by
        rw [List.filter_eq_self.mpr (fun _ _ => rfl)] at hys
        clear q hx h1 e a
        induction xs generalizing ys with
        | nil => cases hys; rfl
        | cons x xs ih =>
          rw [List.map_cons] at hys
          cases hys with
          | cons h t =>
            obtain ⟨x', h, rfl⟩ := h
            cases h
            simp only [allB, ih _ t, List.all_cons, Option.map_some]
      refine wR_eq (fAll_r e this) (q _ a)
  · simp only [h1, decide_false, Bool.false_and] at q
    simp only [show ¬ (xs.length : Int) ≤ 5 by omega, decide_false]
    exact q _ (Fm.refl _ _)
def okNm (xs : List (List Nat)) : Bool := okBeg xs && decide (xs ≠ [])
theorem pl_nm (xs : List (List Nat)) : pl 1 (nmD xs) = true := by
  simp only [pl, pls_all]
  intro x hx
  obtain ⟨y, _, rfl⟩ := List.mem_map.mp hx
  rfl
theorem nmD_inj {xs ys : List (List Nat)} (h : nmD xs = nmD ys) : xs = ys := by
  have h := D.tup.inj h
  exact List.map_inj_right (fun _ _ e => D.str.inj e) |>.mp h
theorem name_ok {xs : List (List Nat)} {S : Sto} {Q : D → Sto → Prop} {E : Exc → Sto → Prop} (q : ∀ S', Fm [] S S' → Q (.bl (okNm xs)) S') (hx : ∀ x ∈ xs, x.length ≤ sz) : wR (f_is_name [nmD xs] S) Q E := by
  refine wR_call rfl ?_
  simp only [c_is_name, wS_sRet, wR_eAnd, eV_a, List.map, List.replicate, List.cons_append, List.nil_append, List.getElem?_cons_zero, R.bind_ok, eCall_a, aCons_a, aNil_a, wR_bind, wR_ok, eBin_a, eTup_a, Nat.sub_self]
  refine beg_ok (fun S' f => ?_) hx
  unfold okNm at q
  cases h : okBeg xs with
  | false =>
    rw [h] at q
    exact q _ f
  | true =>
    rw [h] at q
    simp only [List.length_nil, Nat.zero_le, if_true, R.bind_ok, wR_ok]
    rw [opNe_pl (pl_nm xs) (show pl 1 (.tup []) = true from rfl)]
    have : (!decide (nmD xs = .tup [])) = decide (xs ≠ []) := by
      rw [Bool.eq_iff_iff]
      simp
    rw [this]
    exact q _ f
theorem neednm_ok {xs : List (List Nat)} {S : Sto} {Q : D → Sto → Prop} {E : Exc → Sto → Prop} (h : okNm xs = true) (q : ∀ S', Fm [] S S' → Q .non S') (hx : ∀ x ∈ xs, x.length ≤ sz) : wR (f_need_name [nmD xs] S) Q E := by
  refine wR_call rfl ?_
  simp only [c_need_name, wS_sIf, wR_tNot, wR_tV, eV_a, List.map, List.replicate, List.cons_append, List.nil_append, List.getElem?_cons_zero, R.bind_ok, eCall_a, aCons_a, aNil_a, wR_bind, wR_ok, Nat.sub_self]
  refine name_ok (fun S' f => ?_) hx
  rw [h]
  simpa using q _ f
theorem okPart_len {x : List Nat} (h : okPart x = true) : x.length ≤ sz := by
  unfold okPart at h
  simp only [Bool.and_eq_true, decide_eq_true_eq] at h
  unfold sz
  omega
/-! ### the script's cells -/
theorem atI_nn {α : Type} {xs : List α} {i : Int} (h0 : 0 ≤ i) (h1 : i < xs.length) : ∃ x, atI xs i = some x ∧ x ∈ xs := by
  obtain ⟨k, rfl⟩ := Int.eq_ofNat_of_zero_le h0
  have hk : k < xs.length := by omega
  refine ⟨xs[k], ?_, List.getElem_mem _⟩
  unfold atI ixN
  rw [if_pos h0, if_pos h1]
  simp [hk]
theorem cell_ok {S : Sto} {n : Nat} {ns : List Int} {k : Int} {Q : D → Sto → Prop} {E : Exc → Sto → Prop} (h : isL S n (ns.map .int)) (hk : 0 ≤ k) (hz : ns.length ≤ 63)
    (q : ∀ (r : Int) (S' : Sto), Fm [] S S' → Q (.int r) S') : wR (f__law_cell [.ref n, .int k] S) Q E := by
  refine wR_call rfl ?_
  have pli : pls 0 (ns.map .int) = true := pls_all.mpr fun x hx => by
    obtain ⟨y, _, rfl⟩ := List.mem_map.mp hx
    rfl
  simp only [c__law_cell, wS_sSeq, wS_sIf, wR_tV, wS_sRet, wS_sNx, eBin_a, eV_a, eC_a, List.map, List.replicate, List.cons_append, List.nil_append, List.getElem?_cons_zero, List.getElem?_cons_succ, R.bind_ok, Nat.sub_self, eLst_a, aNil_a, List.length_nil, Nat.zero_le, if_true]
  have hp := h.push (o := .lst [])
  rw [opEq_l (k := 0) (l := 0) hp (.inl (at_new _ _)) pli rfl]
  simp only [wR_ok, wR_bind, opMul_i, eCall_a, aCons_a, eV_a, List.getElem?_cons_zero, R.bind_ok, aNil_a, fLen_l hp, List.length_map]
  have fm : Fm [] S (S ++ [.lst []]) := (Fm.refl _ _).push _
  cases ns with
  | nil =>
    simp only [List.map_nil, decide_true, if_true]
    rw [if_pos (mul_small (by decide))]
    exact q _ _ fm
  | cons a ns =>
    simp only [List.map_cons, reduceCtorEq, decide_false, Bool.false_eq_true, if_false, List.length_cons, opMod_i, opDiv_i]
    generalize hl : (((ns.length + 1 : Nat) : Int)) = l
    have l0 : 0 < l := by omega
    rw [if_pos l0]
    simp only [wR_ok, opIx_l hp]
    obtain ⟨x, e, hx⟩ := atI_nn (xs := (a :: ns).map D.int) (i := k % l) (Int.emod_nonneg _ (by omega)) (by have := Int.emod_lt_of_pos k l0; simp; omega)
    rw [e]
    obtain ⟨y, _, rfl⟩ := List.mem_map.mp hx
    simp only [wR_ok, fLen_l hp, List.length_map, List.length_cons, hl]
    rw [opDiv_i, if_pos ⟨l0, by simp at hz; have : (63:Int) < 2 ^ 200 := by decide
                                omega⟩]
    simp only [wR_ok, opMul_i]
    rw [if_pos (mul_small (by decide))]
    simp only [wR_ok, opAdd_i]
    exact q _ _ fm
theorem rngD_mem {lo : Int} {n : Nat} {d : D} (h : d ∈ rngD lo n) : ∃ k : Int, d = .int k ∧ lo ≤ k ∧ k < lo + n := by
  unfold rngD at h
  obtain ⟨i, hi, rfl⟩ := List.mem_map.mp h
  have := List.mem_range.mp hi
  exact ⟨_, rfl, by omega, by omega⟩
/-- the rounds: dice, each of its own place -/
theorem rounds_ok {S : Sto} {n : Nat} {ns : List Int} {m : Int} {Q : D → Sto → Prop} {E : Exc → Sto → Prop} (h : isL S n (ns.map .int)) (hz : ns.length ≤ 63) (hm : 0 ≤ m) (hm2 : m < 1000)
    (q : ∀ (k : Nat) (ds : List D) (S' : Sto), S'[k]? = some (.lst ds) → Fm [] S S' → ds.length ≤ 1000 → (∀ d ∈ ds, ∃ j, d = .ref j ∧ isDie S' j ∧ S.length ≤ j ∧ j ≠ k) → ds.Nodup → Q (.ref k) S') : wR (f__law_rounds [.ref n, .int m] S) Q E := by
  refine wR_call rfl ?_
  simp only [c__law_rounds, wS_sRet, wR_eLc]
  refine wR_wRng1 ?_
  simp only [eBin_a, eV_a, eC_a, List.map, List.replicate, List.cons_append, List.nil_append, List.getElem?_cons_zero, List.getElem?_cons_succ, R.bind_ok, Nat.sub_self, eCall_a, aCons_a, aNil_a, fLen_l h, List.length_map, fMin2, fMax2, wR_ok, Nat.reduceSub]
  generalize hj : (if (if (ns.length : Int) < m then (ns.length : Int) else m) > 1 then (if (ns.length : Int) < m then (ns.length : Int) else m) else 1) = j
  have j0 : 0 ≤ j ∧ j ≤ 1000 := by
    subst hj
    split <;> split <;> omega
  clear hj
  refine ⟨j, rfl, ⟨by omega, by omega⟩, ?_⟩
  have hn := h.lt
  refine lcL_inv (I := fun xs acc S' => S'[S.length]? = some (.lst acc) ∧ Fm [] S S' ∧ (∃ as, as ++ xs = rngD 0 j.toNat ∧ as.length = acc.length) ∧ acc.Nodup ∧ ∀ d ∈ acc, ∃ i, d = .ref i ∧ isDie S' i ∧ S.length ≤ i ∧ i ≠ S.length) ?_ ?_ ?_ ⟨at_new _ _, (Fm.refl _ _).push _, ⟨[], rfl, rfl⟩, .nil, fun d hd => by cases hd⟩
  · exact fun xs acc S' a => ⟨rfl, a.1⟩
  · rintro acc S' ⟨a, b, ⟨as, c, c'⟩, d, e⟩
    refine q _ _ _ a b ?_ e d
    have := congrArg List.length c
    simp [rngD] at this
    omega
  · rintro x xs acc S' ⟨a, b, ⟨as, c, c'⟩, d, e⟩
    obtain ⟨k, rfl, k0, _⟩ := rngD_mem (d := x) (by rw [← c]; simp)
    simp only [gV_a, wR_ok, wipe, List.set_cons_succ, List.set_cons_zero, tYes_a, if_true, eLst_a, aCons_a, eCall_a, eV_a, List.getElem?_cons_zero, List.getElem?_cons_succ, R.bind_ok, aNil_a, wR_bind, eC_a]
    refine cell_ok (h.fm b (by simp)) k0 hz fun r S2 f2 => ?_
    have a2 := f2.at a (by simp)
    have hl : acc.length < sz := by
      have := congrArg List.length c
      simp [rngD] at this
      simp [sz]
      omega
    simp only [wR_ok, List.length_cons, List.length_nil]
    rw [if_pos (by decide)]
    simp only [wR_ok]
    refine ⟨acc, at_push a2, hl, ?_⟩
    have s2 : S.length < S2.length := lt_of_at a2
    have ne : S.length ≠ S2.length := by omega
    refine ⟨by rw [List.getElem?_set_self (by simp; omega)], ((b.trans f2).push _).set _ (.inr (Nat.le_refl _)), ⟨as ++ [.int k], by rw [← c]; simp, by simp [c']⟩, ?_, ?_⟩
    · rw [List.nodup_append]
      refine ⟨d, by simp, fun u hu v hv => ?_⟩
      simp at hv
      subst hv
      intro z
      obtain ⟨i, rfl, hi, _⟩ := e u hu
      have := (hi.fm f2 (by simp)).lt
      cases z
      omega
    · intro u hu
      rcases List.mem_append.mp hu with hu | hu
      · obtain ⟨i, rfl, hi, g1, g2⟩ := e u hu
        exact ⟨i, rfl, ((hi.fm f2 (by simp)).push).set g2.symm, g1, g2⟩
      · simp at hu
        subst hu
        exact ⟨_, rfl, ⟨r, 0, by rw [List.getElem?_set_ne ne]; simp⟩, by omega, ne.symm⟩
/-! ### drawn beginnings and names -/
def words : List (List Nat) := [[97], [98], [99], [120, 57], [108, 111, 110, 103]]
theorem atI_some {α : Type} {xs : List α} {i : Int} (h0 : 0 ≤ i) (h1 : i < xs.length) : ∃ x, atI xs i = some x ∧ x ∈ xs := by
  obtain ⟨k, rfl⟩ := Int.eq_ofNat_of_zero_le h0
  have hk : k < xs.length := by omega
  refine ⟨xs[k], ?_, List.getElem_mem _⟩
  unfold atI ixN
  rw [if_pos h0, if_pos h1]
  simp [hk]
theorem words_ok : ∀ x ∈ words, okPart x = true := by decide
theorem strs_words : ∀ {ys : List D}, (∀ y ∈ ys, ∃ x ∈ words, y = .str x) → ∃ xs : List (List Nat), ys = xs.map .str ∧ ∀ x ∈ xs, x ∈ words
  | [], _ => ⟨[], rfl, fun _ h => by cases h⟩
  | y :: ys, h => by
    obtain ⟨x, hx, rfl⟩ := h y (List.mem_cons_self ..)
    obtain ⟨xs, rfl, h2⟩ := strs_words fun y hy => h y (List.mem_cons_of_mem _ hy)
    exact ⟨x :: xs, rfl, by simpa [hx] using h2⟩
theorem head_ok {S : Sto} {n : Nat} {Q : D → Sto → Prop} {E : Exc → Sto → Prop} (h : isDie S n)
    (q : ∀ (xs : List (List Nat)) (S' : Sto), xs.length ≤ 4 → (∀ x ∈ xs, x ∈ words) → Fm [n] S S' → isDie S' n → Q (nmD xs) S') : wR (f__law_head [.ref n] S) Q E := by
  refine wR_call rfl ?_
  simp only [c__law_head, wS_sSeq, wS_sAsg, eLst_a, aCons_a, aNil_a, eC_a, R.bind_ok, List.length_cons, List.length_nil]
  rw [if_pos (by decide)]
  simp only [wR_ok, gV_a, List.map, List.replicate, List.cons_append, List.nil_append, List.set_cons_succ, List.set_cons_zero, wS_sRet, eCall_a, wR_bind, wR_eLc, Nat.reduceSub, aCons_a, aNil_a]
  have hn := h.lt
  have ws : (words.map D.str) = [.str [97], .str [98], .str [99], .str [120, 57], .str [108, 111, 110, 103]] := rfl
  rw [← ws]
  have h1 : isDie (S ++ [.lst (words.map D.str)]) n := h.push
  have at1 : (S ++ [Ob.lst (words.map D.str)])[S.length]? = some (.lst (words.map D.str)) := at_new _ _
  have f1 : Fm [n] S (S ++ [Ob.lst (words.map D.str)]) := (Fm.refl _ _).push _
  have l1 : S.length < (S ++ [Ob.lst (words.map D.str)]).length := by simp
  generalize S ++ [Ob.lst (words.map D.str)] = S1 at h1 at1 f1 l1
  refine wR_wRng1 ?_
  simp only [eCall_a, aCons_a, aNil_a, eC_a, eV_a, List.getElem?_cons_zero, R.bind_ok]
  refine roll_ok h1 (by decide) (by decide) fun r S2 r0 r1 f2 h2 e2 => ?_
  refine ⟨r, rfl, ⟨by omega, by omega⟩, ?_⟩
  have at2 := f2.at at1 (by simp; omega)
  have l2 : S.length < S2.length := lt_of_at at2
  refine lcL_fm (X := [n]) (p := fun _ => true) (P := fun _ y => ∃ x ∈ words, y = .str x) (fun S' => isDie S' n ∧ S'[S.length]? = some (.lst (words.map D.str)))
    ⟨h2, at2⟩ (fun o => ⟨h2.push, at_push at2⟩) (fun S' o j => ⟨j.1.set (by omega), at_set_ne j.2 (by omega)⟩) (by simp; omega) (fun _ _ _ => rfl) (fun d hd S' a j => ?_) ?_ fun S' ys a j hys e _ => ?_
  · refine ⟨rfl, Fm.refl _ _, j, rfl, fun _ => ?_⟩
    simp only [wipe, List.set_cons_succ, List.set_cons_zero, eBin_a, eV_a, List.getElem?_cons_succ, List.getElem?_cons_zero, eCall_a, aCons_a, aNil_a, eC_a, R.bind_ok, wR_bind]
    refine roll_ok j.1 (by decide) (by decide) fun u S3 u0 u1 f3 h3 e3 => ?_
    refine roll_ok h3 (by decide) (by decide) fun v S4 v0 v1 f4 h4 e4 => ?_
    rw [opMul_i, if_pos (mul_small (by omega))]
    have at4 := f4.at (f3.at j.2 (by simp; omega)) (by simp; omega)
    simp only [wR_ok]
    rw [opIx_r at4]
    have uv : 0 ≤ u * v ∧ u * v < 5 := by
      rcases (by omega : v = 0 ∨ v = 1) with rfl | rfl <;> omega
    obtain ⟨y, hy, hm⟩ := atI_some (xs := words.map D.str) uv.1 (by simpa [words] using uv.2)
    obtain ⟨x, hx, rfl⟩ := List.mem_map.mp hm
    rw [hy]
    exact ⟨f3.trans f4, ⟨h4, at4⟩, x, hx, rfl⟩
  · simp [rngD, sz]
    omega
  · rw [fTuple_r e]
    have hl : ys.length ≤ r.toNat := by
      rw [hys.len]
      refine Nat.le_trans (List.length_filter_le _ _) ?_
      simp [rngD]
    obtain ⟨xs, rfl, hw⟩ := strs_words (A2.all (R := fun y : D => ∃ x ∈ words, y = D.str x) (fun _ _ z => z) hys)
    rw [List.length_map] at hl
    exact q xs _ (by omega) hw ((f1.trans f2).trans a) j.1
theorem okBeg_words {xs : List (List Nat)} (h : xs.length ≤ 5) (hw : ∀ x ∈ xs, x ∈ words) : okBeg xs = true := by
  unfold okBeg
  simp only [Bool.and_eq_true, decide_eq_true_eq, List.all_eq_true]
  exact ⟨h, fun x hx => words_ok x (hw x hx)⟩
theorem anyname_ok {S : Sto} {n : Nat} {Q : D → Sto → Prop} {E : Exc → Sto → Prop} (h : isDie S n)
    (q : ∀ (xs : List (List Nat)) (S' : Sto), xs.length ≤ 5 → (∀ x ∈ xs, x ∈ words) → xs ≠ [] → Fm [n] S S' → isDie S' n → Q (nmD xs) S') : wR (f__law_any_name [.ref n] S) Q E := by
  refine wR_call rfl ?_
  simp only [c__law_any_name, wS_sRet, wR_eIf, wR_tV, eBin_a, eCall_a, aCons_a, aNil_a, eC_a, eV_a, List.map, List.replicate, List.cons_append, List.nil_append, List.getElem?_cons_zero, R.bind_ok, wR_bind, Nat.sub_self]
  refine roll_ok h (by decide) (by decide) fun r S2 r0 r1 f2 h2 e2 => ?_
  simp only [opEq_i, wR_ok]
  split
  · simp only [eTup_a, aCons_a, aNil_a, eC_a, R.bind_ok, List.length_cons, List.length_nil]
    rw [if_pos (by decide)]
    exact q [[97]] S2 (by decide) (by decide) (by simp) f2 h2
  · refine head_ok h2 fun xs S3 xl xw f3 h3 => ?_
    simp only [eTup_a, aCons_a, aNil_a, eBin_a, eLst_a, eC_a, R.bind_ok, List.length_cons, List.length_nil, wR_bind]
    rw [if_pos (by decide)]
    simp only [wR_ok, eCall_a, aCons_a, aNil_a, eC_a, eV_a, List.getElem?_cons_zero, R.bind_ok, wR_bind]
    refine roll_ok h3.push (by decide) (by decide) fun u S4 u0 u1 f4 h4 e4 => ?_
    have at4 := f4.at (at_new S3 _) (by have := h3.lt; simp; omega)
    rw [opIx_r at4]
    have f5 : Fm [n] S S4 := ((f2.trans f3).push _).trans f4
    rcases (by omega : u = 0 ∨ u = 1) with rfl | rfl
    · have e : atI [D.str [97], D.str [98]] 0 = some (.str [97]) := rfl
      simp only [e, wR_ok, List.length_cons, List.length_nil]
      rw [if_pos (by decide)]
      simp only [wR_ok, opAdd_t, List.length_map, List.length_cons, List.length_nil]
      rw [if_pos (by unfold sz; omega)]
      have e2 : nmD (xs ++ [[97]]) = .tup (xs.map D.str ++ [.str [97]]) := by simp [nmD]
      rw [wR_ok, ← e2]
      exact q _ _ (by simp; omega) (by intro x hx; rcases List.mem_append.mp hx with hx | hx; exact xw x hx; simp at hx; subst hx; decide) (by simp) f5 h4
    · have e : atI [D.str [97], D.str [98]] 1 = some (.str [98]) := rfl
      simp only [e, wR_ok, List.length_cons, List.length_nil]
      rw [if_pos (by decide)]
      simp only [wR_ok, opAdd_t, List.length_map, List.length_cons, List.length_nil]
      rw [if_pos (by unfold sz; omega)]
      have e2 : nmD (xs ++ [[98]]) = .tup (xs.map D.str ++ [.str [98]]) := by simp [nmD]
      rw [wR_ok, ← e2]
      exact q _ _ (by simp; omega) (by intro x hx; rcases List.mem_append.mp hx with hx | hx; exact xw x hx; simp at hx; subst hx; decide) (by simp) f5 h4
theorem words_len {xs : List (List Nat)} (hw : ∀ x ∈ xs, x ∈ words) : ∀ x ∈ xs, x.length ≤ sz := fun x hx => okPart_len (words_ok x (hw x hx))
theorem okNm_words {xs : List (List Nat)} (h : xs.length ≤ 5) (hw : ∀ x ∈ xs, x ∈ words) (hn : xs ≠ []) : okNm xs = true := by
  unfold okNm
  rw [okBeg_words h hw]
  simp [hn]
theorem app_ok {S : Sto} {k : Nat} {xs : List D} {d : D} (h : S[k]? = some (.lst xs)) (hz : xs.length < sz) : fAppend [.ref k, d] S = .ok .non (S.set k (.lst (xs ++ [d]))) := by
  simp only [fAppend, h]
  rw [if_pos hz]
/-- found.append(told(..)) -/
theorem wS_app {i : Nat} {m : EM} {L : Loc} {S : Sto} {K : En} {k : Nat} {xs : List D} {d : D} (hL : L[i]? = some (some (.ref k))) (hk : S[k]? = some (.lst xs)) (hz : xs.length < sz) (h : wR (m L S) (fun y S1 => y = d ∧ S1[k]? = some (.lst xs) ∧ K.nx L (S1.set k (.lst (xs ++ [d])))) (fun x S => K.ex x L S)) :
    wS (sExpr (eBM "list" fAppend (eV i) (aCons m aNil)) L S) K := by
  simp only [wS_sExpr, eBM, eV_a, hL, R.bind_ok, tyNm, hk, if_true, aCons_a, aNil_a, wR_bind]
  refine wR_mono h (fun y S1 ⟨e, h1, h2⟩ => ?_) fun _ _ z => z
  subst e
  simp only [wR_ok]
  rw [app_ok h1 hz]
  exact h2
/-- .. != [x] * n -/
theorem ne_mul {S : Sto} {k j : Nat} {xs ys : List D} {c : Int} {Q : D → Sto → Prop} {E : Exc → Sto → Prop} (hk : S[k]? = some (.lst xs)) (hj : S[j]? = some (.lst ys)) (hc : 0 ≤ c ∧ c ≤ 1000) (hl : ys.length ≤ 1000) (e : (List.replicate c.toNat ys).flatten = xs) (hp : pls 1 xs = true)
    (q : ∀ S', Fm [] S S' → Q (.bl false) S') : wR (opMul (.ref j) (.int c) S) (fun y S2 => wR (opNe (.ref k) y S2) Q E) E := by
  simp only [opMul, hj]
  have : ys.length * c.toNat ≤ sz := by
    refine Nat.le_trans (Nat.mul_le_mul hl (show c.toNat ≤ 1000 by omega)) ?_
    decide
  rw [if_pos ⟨by omega, by omega, this⟩]
  simp only [wR_ok]
  rw [e, opNe_l (.inl (at_push hk)) (.inl (at_new _ _)) hp hp]
  simp only [wR_ok, decide_true, Bool.not_true]
  exact q _ ((Fm.refl _ _).push _)
@[simp] theorem opNotB_a (k b : Bool) (S : Sto) : opNotB k (.bl b) S = .ok (.bl (!decide (b = k))) S := rfl
theorem wR_app {i : Nat} {m : EM} {L : Loc} {S : Sto} {Q : D → Sto → Prop} {E : Exc → Sto → Prop} {k : Nat} {xs : List D} {d : D} (hL : L[i]? = some (some (.ref k))) (hk : S[k]? = some (.lst xs)) (hz : xs.length < sz) (h : wR (m L S) (fun y S1 => y = d ∧ S1[k]? = some (.lst xs) ∧ Q .non (S1.set k (.lst (xs ++ [d])))) E) :
    wR (eBM "list" fAppend (eV i) (aCons m aNil) L S) Q E := by
  simp only [eBM, eV_a, hL, R.bind_ok, tyNm, hk, if_true, aCons_a, aNil_a, wR_bind]
  refine wR_mono h (fun y S1 ⟨e, h1, h2⟩ => ?_) fun _ _ z => z
  subst e
  simp only [wR_ok]
  rw [app_ok h1 hz]
  exact h2
/-! ### what is told of an exception -/
theorem app_at (S l : List Ob) (i : Nat) : (S ++ l)[S.length + i]? = l[i]? := by
  rw [List.getElem?_append_right (by omega)]
  congr 1
  omega
theorem app_at0 (S l : List Ob) : (S ++ l)[S.length]? = l[0]? := app_at S l 0
theorem app_set (S l : List Ob) (i : Nat) (o : Ob) : (S ++ l).set (S.length + i) o = S ++ l.set i o := by
  rw [List.set_append_right _ _ (by omega)]
  congr 2
  omega
theorem index_bls {S : Sto} {n j : Nat} {bs : List Bool} (h : S[n]? = some (.lst (bs.map .bl))) (hj : bs.findIdx? (fun b => b) = some j) : fIndex [.ref n, .bl true] S = .ok (.int j) S := by
  have m : ∀ bs : List Bool, (bs.map D.bl).mapM (reify 59 S) = some (bs.map PyData.bool) := by
    intro bs
    induction bs with
    | nil => rfl
    | cons b bs ih => rw [List.map_cons, List.mapM_cons, ih]; rfl
  have q : ∀ bs : List Bool, (bs.map PyData.bool).findIdx? (fun z => PyData.eqv z (.bool true)) = bs.findIdx? (fun b => b) := by
    intro bs
    rw [List.findIdx?_map]
    congr 1
    funext b
    cases b <;> rfl
  have r : reify 60 S (.bl true) = some (.bool true) := rfl
  simp only [fIndex, h, r, mapR, m, q, hj]
theorem word_ok {c : Nat} (hc : c ∈ exKs) (a : Nat) (S : Sto) : f__law_word a c [.exn a []] S = .ok (wT c) (S ++ wO c) := by
  refine eq_of_wR (wR_call rfl ?_)
  have isE : ∀ (b : Bool) (l : List (Option D)) (S : Sto), eUn (opIsE a b) (eV 0) (some (.exn a []) :: l) S = .ok (.bl b) S := fun b l S => by simp [opIsE]
  simp only [c__law_word, wS_sSeq, wS_sAsg, eLst_a, aCons_a, aNil_a, isE, List.map, List.replicate, List.cons_append, List.nil_append, R.bind_ok, List.length_cons, List.length_nil, Nat.reduceSub, Nat.reduceAdd]
  rw [if_pos (by decide)]
  simp only [wR_ok, gV_a, List.set_cons_succ, List.set_cons_zero, eBin_a, eV_a, List.getElem?_cons_succ, List.getElem?_cons_zero, R.bind_ok, eLst_a, aCons_a, aNil_a, isE, List.length_cons, List.length_nil, Nat.reduceAdd, wR_bind]
  rw [if_pos (by decide)]
  simp only [wR_ok, List.append_assoc, List.cons_append, List.nil_append, List.length_append, List.length_cons, List.length_nil, Nat.reduceAdd]
  rw [opAdd_r (xs := [.bl (decide (c = 1)), .bl (decide (c = 3)), .bl (decide (c = 2)), .bl (decide (c = 0))]) (ys := [.bl (decide (c = 6)), .bl (decide (c = 8)), .bl (decide (c = 7)), .bl (decide (c = 5))]) (app_at0 _ _) (app_at _ _ 1)]
  simp only [List.length_cons, List.length_nil, Nat.reduceAdd]
  rw [if_pos (by decide)]
  simp only [wR_ok, gV_a, List.set_cons_succ, List.set_cons_zero, List.append_assoc, List.cons_append, List.nil_append, List.length_append, List.length_cons, List.length_nil, Nat.reduceAdd, wS_sExpr, eBM, eV_a, List.getElem?_cons_succ, List.getElem?_cons_zero, R.bind_ok, tyNm, app_at, aCons_a, aNil_a, isE, if_true, fAppend]
  rw [if_pos (by decide)]
  simp only [wR_ok, app_set, List.set_cons_succ, List.set_cons_zero, wS_sAsg, eLst_a, aCons_a, aNil_a, eC_a, R.bind_ok, List.length_cons, List.length_nil, Nat.reduceAdd]
  rw [if_pos (by decide)]
  simp only [wR_ok, gV_a, List.set_cons_succ, List.set_cons_zero, List.append_assoc, List.cons_append, List.nil_append, List.length_append, List.length_cons, List.length_nil, Nat.reduceAdd, wS_sIf, wR_tOr, wR_tV, eBin_a, eCall_a, aCons_a, aNil_a, eUn_a, eV_a, List.getElem?_cons_succ, List.getElem?_cons_zero, R.bind_ok, opInts, app_at, blsOf, Option.map_some, List.map, fSum, intsOf, eC_a, opNe_i, wR_tNot]
  have sum1 : decide (([if decide (c = 1) = true then (1 : Int) else 0, if decide (c = 3) = true then 1 else 0, if decide (c = 2) = true then 1 else 0, if decide (c = 0) = true then 1 else 0, if decide (c = 6) = true then 1 else 0, if decide (c = 8) = true then 1 else 0,
      if decide (c = 7) = true then 1 else 0, if decide (c = 5) = true then 1 else 0, if decide (c = 4) = true then 1 else 0] : List Int).sum = 1) = true := by
    simp only [exKs, List.mem_cons, List.not_mem_nil, or_false] at hc
    rcases hc with rfl | rfl | rfl | rfl | rfl | rfl | rfl | rfl <;> decide
  simp only [sum1, Bool.not_true, Bool.false_eq_true, if_false, wR_ok, wS_sNx, wS_sRet, eTup_a, aCons_a, aNil_a, eC_a, R.bind_ok, eBin_a, eV_a, List.getElem?_cons_succ, List.getElem?_cons_zero, eBM, tyNm, app_at, if_true, eUn_a, opIsE]
  obtain ⟨j, z, h1, h2, h3⟩ : ∃ (j : Nat) (z : List Nat), [decide (c = 1), decide (c = 3), decide (c = 2), decide (c = 0), decide (c = 6), decide (c = 8), decide (c = 7), decide (c = 5), decide (c = 4)].findIdx? (fun b => b) = some j ∧
      atI [D.str [66, 97, 100, 78, 97, 109, 101], D.str [66, 97, 100, 83, 105, 100, 101, 115], D.str [66, 97, 100, 78, 117, 109, 98, 101, 114], D.str [66, 97, 100, 76, 101, 116, 116, 101, 114], D.str [78, 111, 72, 111, 117, 115, 101], D.str [78, 111, 87, 97, 121], D.str [78, 111, 76, 101, 116, 116, 101, 114], D.str [71, 111, 110, 101], D.str [66, 97, 100, 83, 116, 111, 114, 121]] (j : Int) = some (.str z) ∧ exW.getD c [] = z := by
    simp only [exKs, List.mem_cons, List.not_mem_nil, or_false] at hc
    rcases hc with rfl | rfl | rfl | rfl | rfl | rfl | rfl | rfl
    · exact ⟨3, _, by decide, rfl, rfl⟩
    · exact ⟨0, _, by decide, rfl, rfl⟩
    · exact ⟨2, _, by decide, rfl, rfl⟩
    · exact ⟨1, _, by decide, rfl, rfl⟩
    · exact ⟨8, _, by decide, rfl, rfl⟩
    · exact ⟨4, _, by decide, rfl, rfl⟩
    · exact ⟨6, _, by decide, rfl, rfl⟩
    · exact ⟨5, _, by decide, rfl, rfl⟩
  rw [index_bls (bs := [decide (c = 1), decide (c = 3), decide (c = 2), decide (c = 0), decide (c = 6), decide (c = 8), decide (c = 7), decide (c = 5), decide (c = 4)]) (app_at _ _ 2) h1]
  simp only [R.bind_ok]
  rw [opIx_r (app_at _ _ 3), h2]
  simp only [R.bind_ok, List.length_cons, List.length_nil, Nat.reduceAdd]
  rw [if_pos (by decide), wR_ok]
  unfold wT wO refd
  rw [h3]
  exact ⟨rfl, rfl⟩
theorem toldW (f' a' c : Nat) (S' : Sto) (hc : c ∈ exKs) : c__law_told a' c [some (.exn f' []), some (.exn a' [])] S' = .rt (wT c) (S' ++ wO c) := by
  have ng : decide (c = 5) = false := by
    simp only [exKs, List.mem_cons, List.not_mem_nil, or_false] at hc
    rcases hc with rfl | rfl | rfl | rfl | rfl | rfl | rfl | rfl <;> decide
  have e1 : ∀ S, tV (eUn (opIsE a' false) (eV 1)) [some (.exn f' []), some (.exn a' [])] S = .ok false S := fun S => by simp [tV, opIsE]
  simp only [c__law_told, sRet, eBin_a, eCall_a, aCons_a, aNil_a, eV_a, List.getElem?_cons_succ, List.getElem?_cons_zero, R.bind_ok, word_ok hc, ng, eIf, e1, Bool.false_eq_true, if_false, eTup_a, List.length_nil, Nat.zero_le, if_true]
  unfold wT
  rw [opAdd_t, if_pos (by simp [sz])]
  simp [R.st]
/-! ### told -/
theorem wR_told {ks : List Nat} {WT : Nat → D} {WO : Nat → List Ob} {m : EM} {L : Loc} {S : Sto} {Q : D → Sto → Prop} {E : Exc → Sto → Prop} (h : wR (m L S) Q (fun x S1 => x.p = [] ∧ x.c ∈ ks ∧ Q (WT x.c) (S1 ++ WO x.c))) : wR (eTold ks WT WO m L S) Q E := by
  unfold eTold
  cases z : m L S with
  | ok d S1 => rw [z] at h; exact h
  | exc x S1 =>
    rw [z] at h
    obtain ⟨h1, h2, h3⟩ := h
    simp only
    rw [if_pos ⟨h1, h2⟩]
    exact h3
  | err => rw [z] at h; exact h.elim
theorem Fm.app {X : List Nat} {S S' : Sto} (a : Fm X S S') (os : List Ob) : Fm X S (S' ++ os) := ⟨by have := a.len; simp; omega, fun n h hx => by rw [List.getElem?_append_left (Nat.lt_of_lt_of_le h a.len)]; exact a.same n h hx⟩
theorem at_app {S : Sto} {n : Nat} {o : Ob} (h : S[n]? = some o) (os : List Ob) : (S ++ os)[n]? = some o := by rw [List.getElem?_append_left (lt_of_at h)]; exact h
theorem pl_wT (c : Nat) : pl 1 (wT c) = true := rfl
theorem neednm_exc {xs : List (List Nat)} {S : Sto} {Q : D → Sto → Prop} {E : Exc → Sto → Prop} (h : okNm xs = false) (q : ∀ S', Fm [] S S' → E ⟨1, []⟩ S') (hx : ∀ x ∈ xs, x.length ≤ sz) : wR (f_need_name [nmD xs] S) Q E := by
  refine wR_call rfl ?_
  simp only [c_need_name, wS_sIf, wR_tNot, wR_tV, eV_a, List.map, List.replicate, List.cons_append, List.nil_append, List.getElem?_cons_zero, R.bind_ok, eCall_a, aCons_a, aNil_a, wR_bind, wR_ok, Nat.sub_self]
  refine name_ok (fun S' f => ?_) hx
  rw [h]
  simpa using q _ f
theorem beg_str (x : List Nat) (S : Sto) : f_is_beginning [.str x] S = .ok (.bl false) S := by
  refine eq_of_wR (wR_call rfl ?_)
  simp [c_is_beginning]
theorem neednm_str (x : List Nat) (S : Sto) : f_need_name [.str x] S = .exc ⟨1, []⟩ S := by
  refine eq_of_exc (wR_call rfl ?_)
  have : f_is_name [.str x] S = .ok (.bl false) S := by
    refine eq_of_wR (wR_call rfl ?_)
    simp [c_is_name, beg_str]
  simp [c_need_name, this]
/-! ### beginnings, of any thing -/
def partB : D → Bool
  | .str x => okPart x
  | _ => false
def smallD : D → Prop
  | .str x => x.length ≤ sz
  | .ref _ => False
  | .exn _ _ => False
  | _ => True
theorem part_any {d : D} {S : Sto} {Q : D → Sto → Prop} {E : Exc → Sto → Prop} (h : smallD d) (q : ∀ S', Fm [] S S' → Q (.bl (partB d)) S') : wR (f_is_part [d] S) Q E := by
  cases d with
  | str x => exact part_ok q h
  | ref n => exact h.elim
  | exn _ _ => exact h.elim
  | _ =>
    refine wR_call rfl ?_
    simp only [c_is_part, wS_sRet, wR_eAnd, eUn_a, eV_a, List.map, List.replicate, List.cons_append, List.nil_append, List.getElem?_cons_zero, R.bind_ok, opIsi_int, opIsi_bl, opIsi_tup, opIsi_non, wR_ok]
    exact q _ (Fm.refl _ _)
def begB (xs : List D) : Bool := decide (xs.length ≤ 5) && xs.all partB
theorem beg_any {xs : List D} {S : Sto} {Q : D → Sto → Prop} {E : Exc → Sto → Prop} (q : ∀ S', Fm [] S S' → Q (.bl (begB xs)) S') (hx : ∀ x ∈ xs, smallD x) : wR (f_is_beginning [.tup xs] S) Q E := by
  refine wR_call rfl ?_
  simp only [c_is_beginning, wS_sRet, wR_eAnd, eUn_a, eV_a, List.map, List.replicate, List.cons_append, List.nil_append, List.getElem?_cons_zero, List.getElem?_cons_succ, R.bind_ok, opIsi_tup, wR_ok, decide_true, eBin_a, eC_a, eCall_a, aCons_a, aNil_a, fLen_t, opCmp_a, wR_bind, Nat.reduceSub]
  unfold begB at q
  by_cases h1 : xs.length ≤ 5
  · simp only [h1, decide_true, Bool.true_and] at q
    simp only [show (xs.length : Int) ≤ 5 by omega, decide_true]
    rw [wR_eLc]
    refine wR_wTup (show wR (R.ok (D.tup xs) S) _ _ from ⟨xs, rfl, ?_⟩)
    refine lcL_fm (X := []) (p := fun _ => true) (P := fun d y => y = .bl (partB d)) (fun _ => True) trivial (fun _ => trivial) (fun _ _ _ => trivial) (by simp) (fun _ _ _ => rfl) (fun d hd S' a _ => ?_) (by simp [sz]; omega) fun S' ys a _ hys e _ => ?_
    · refine ⟨rfl, Fm.refl _ _, trivial, rfl, fun _ => ?_⟩
      show wR (f_is_part [d] S') _ _
      exact part_any (hx d hd) fun S2 f => ⟨f, trivial, rfl⟩
    · have e2 := hys.eq_map
      rw [List.filter_eq_self.mpr (fun _ _ => rfl)] at e2
      subst e2
      refine wR_eq (fAll_r e allB_map) (q _ a)
  · simp only [h1, decide_false, Bool.false_and] at q
    simp only [show ¬ (xs.length : Int) ≤ 5 by omega, decide_false]
    exact q _ (Fm.refl _ _)
/-- what is no beginning -/
def badB (S : Sto) (d : D) : Prop := (∃ t, tyNm S d = some t ∧ t ≠ "tuple") ∨ ∃ xs, d = .tup xs ∧ (∀ x ∈ xs, smallD x) ∧ begB xs = false
theorem beg_bad {d : D} {S : Sto} {Q : D → Sto → Prop} {E : Exc → Sto → Prop} (h : badB S d) (q : ∀ S', Fm [] S S' → Q (.bl false) S') : wR (f_is_beginning [d] S) Q E := by
  rcases h with ⟨t, h1, h2⟩ | ⟨xs, rfl, h1, h2⟩
  · refine wR_call rfl ?_
    have e : opIsi "tuple" d S = .ok (.bl false) S := by
      simp only [opIsi, h1]
      simp [h2]
    simp only [c_is_beginning, wS_sRet, wR_eAnd, eUn_a, eV_a, List.map, List.replicate, List.cons_append, List.nil_append, List.getElem?_cons_zero, R.bind_ok, e, wR_ok]
    exact q _ (Fm.refl _ _)
  · exact beg_any (fun S' f => by rw [h2]; exact q _ f) h1
theorem name_bad {d : D} {S : Sto} {Q : D → Sto → Prop} {E : Exc → Sto → Prop} (h : badB S d) (q : ∀ S', Fm [] S S' → Q (.bl false) S') : wR (f_is_name [d] S) Q E := by
  refine wR_call rfl ?_
  simp only [c_is_name, wS_sRet, wR_eAnd, eV_a, List.map, List.replicate, List.cons_append, List.nil_append, List.getElem?_cons_zero, R.bind_ok, eCall_a, aCons_a, aNil_a, wR_bind, wR_ok, Nat.sub_self]
  exact beg_bad h fun S' f => q _ f
theorem neednm_bad {d : D} {S : Sto} {Q : D → Sto → Prop} {E : Exc → Sto → Prop} (h : badB S d) (q : ∀ S', Fm [] S S' → E ⟨1, []⟩ S') : wR (f_need_name [d] S) Q E := by
  refine wR_call rfl ?_
  simp only [c_need_name, wS_sIf, wR_tNot, wR_tV, eV_a, List.map, List.replicate, List.cons_append, List.nil_append, List.getElem?_cons_zero, R.bind_ok, eCall_a, aCons_a, aNil_a, wR_bind, wR_ok, Nat.sub_self]
  refine name_bad h fun S' f => ?_
  simpa using q _ f
theorem needbeg_bad {d : D} {S : Sto} {Q : D → Sto → Prop} {E : Exc → Sto → Prop} (h : badB S d) (q : ∀ S', Fm [] S S' → E ⟨1, []⟩ S') : wR (f_need_beginning [d] S) Q E := by
  refine wR_call rfl ?_
  simp only [c_need_beginning, wS_sIf, wR_tNot, wR_tV, eV_a, List.map, List.replicate, List.cons_append, List.nil_append, List.getElem?_cons_zero, R.bind_ok, eCall_a, aCons_a, aNil_a, wR_bind, wR_ok, Nat.sub_self]
  refine beg_bad h fun S' f => ?_
  simpa using q _ f
theorem needbeg_ok {xs : List (List Nat)} {S : Sto} {Q : D → Sto → Prop} {E : Exc → Sto → Prop} (h : okBeg xs = true) (q : ∀ S', Fm [] S S' → Q .non S') (hx : ∀ x ∈ xs, x.length ≤ sz) : wR (f_need_beginning [nmD xs] S) Q E := by
  refine wR_call rfl ?_
  simp only [c_need_beginning, wS_sIf, wR_tNot, wR_tV, eV_a, List.map, List.replicate, List.cons_append, List.nil_append, List.getElem?_cons_zero, R.bind_ok, eCall_a, aCons_a, aNil_a, wR_bind, wR_ok, Nat.sub_self]
  refine beg_ok (fun S' f => ?_) hx
  rw [h]
  simpa using q _ f
theorem needbeg_exc {xs : List (List Nat)} {S : Sto} {Q : D → Sto → Prop} {E : Exc → Sto → Prop} (h : okBeg xs = false) (q : ∀ S', Fm [] S S' → E ⟨1, []⟩ S') (hx : ∀ x ∈ xs, x.length ≤ sz) : wR (f_need_beginning [nmD xs] S) Q E := by
  refine wR_call rfl ?_
  simp only [c_need_beginning, wS_sIf, wR_tNot, wR_tV, eV_a, List.map, List.replicate, List.cons_append, List.nil_append, List.getElem?_cons_zero, R.bind_ok, eCall_a, aCons_a, aNil_a, wR_bind, wR_ok, Nat.sub_self]
  refine beg_ok (fun S' f => ?_) hx
  rw [h]
  simpa using q _ f
theorem opEq_nm (a b : List (List Nat)) (S : Sto) : opEq (nmD a) (nmD b) S = .ok (.bl (decide (a = b))) S := by
  rw [opEq_pl (pl_nm a) (pl_nm b)]
  have : decide (nmD a = nmD b) = decide (a = b) := by
    rw [Bool.eq_iff_iff]
    simp only [decide_eq_true_eq]
    exact ⟨nmD_inj, fun h => by rw [h]⟩
  rw [this]
theorem opNe_nm (a b : List (List Nat)) (S : Sto) : opNe (nmD a) (nmD b) S = .ok (.bl (!decide (a = b))) S := by
  rw [opNe_pl (pl_nm a) (pl_nm b)]
  have : decide (nmD a = nmD b) = decide (a = b) := by
    rw [Bool.eq_iff_iff]
    simp only [decide_eq_true_eq]
    exact ⟨nmD_inj, fun h => by rw [h]⟩
  rw [this]
/-! ### what is no number, no name -/
def numOk (d : D) (lo : Int) (hi : Option Int) : Bool := match d with
  | .int x => decide (lo ≤ x) && (match hi with
    | some h => decide (x ≤ h)
    | none => true)
  | _ => false
def hiD : Option Int → D
  | some h => .int h
  | none => .non
def isP : D → Bool
  | .ref _ => false
  | .exn _ _ => false
  | _ => true
theorem num_any {d : D} (hd : isP d = true) (lo : Int) (hi : Option Int) (S : Sto) : f_is_number [d, .int lo, hiD hi] S = .ok (.bl (numOk d lo hi)) S := by
  cases d with
  | int x =>
    cases hi with
    | none => rw [show hiD none = D.non from rfl, num_n]; simp [numOk]
    | some h => rw [show hiD (some h) = D.int h from rfl, num_i]; simp [numOk]
  | ref n => cases hd
  | exn _ _ => cases hd
  | _ =>
    refine eq_of_wR (wR_call rfl ?_)
    simp [c_is_number, numOk]
/-! ### tables -/
abbrev Nm := List (List Nat)
abbrev TRow := Nm × List Int
theorem A2.imp {α β : Type} {P R : α → β → Prop} (h : ∀ x y, P x y → R x y) : ∀ {xs : List α} {ys : List β}, A2 P xs ys → A2 R xs ys
  | _, _, .nil => .nil
  | _, _, .cons a b => .cons (h _ _ a) (b.imp h)
theorem A2.app {α β : Type} {P : α → β → Prop} : ∀ {xs xs' : List α} {ys ys' : List β}, A2 P xs ys → A2 P xs' ys' → A2 P (xs ++ xs') (ys ++ ys')
  | _, _, _, _, .nil, h => h
  | _, _, _, _, .cons a b, h => .cons a (b.app h)
/-- the row r stands at q -/
def relR (S : Sto) (lo : Nat) (r : TRow) (q : D × D) : Prop := q.1 = nmD r.1 ∧ ∃ j, lo ≤ j ∧ q.2 = .ref j ∧ S[j]? = some (.lst (r.2.map .int))
/-- a dict of rows at l, all at lo or behind -/
def isR (S : Sto) (lo l : Nat) (rows : List TRow) : Prop := lo ≤ l ∧ ∃ kvs, S[l]? = some (.dic true false kvs) ∧ A2 (relR S lo) rows kvs
def isT (S : Sto) (lo k l : Nat) (rows : List TRow) : Prop := lo ≤ k ∧ S[k]? = some (.ins 3 [(38, .ref l)]) ∧ isR S lo l rows
def noI (S : Sto) (n : Nat) : Prop := ∀ xs : List Int, S[n]? ≠ some (.lst (xs.map .int))
theorem isR.fm {X : List Nat} {S S' : Sto} {lo l : Nat} {rows : List TRow} (h : isR S lo l rows) (f : Fm X S S') (hx : ∀ n ∈ X, n < lo ∨ (n ≠ l ∧ noI S n)) : isR S' lo l rows := by
  obtain ⟨h0, kvs, h1, h2⟩ := h
  refine ⟨h0, kvs, f.at h1 fun z => ?_, h2.imp fun r q ⟨e, j, h3, h4, h5⟩ => ⟨e, j, h3, h4, f.at h5 fun z => ?_⟩⟩
  · rcases hx _ z with q | q
    · omega
    · exact q.1 rfl
  · rcases hx _ z with q | q
    · omega
    · exact q.2 _ h5
theorem isT.fm {X : List Nat} {S S' : Sto} {lo k l : Nat} {rows : List TRow} (h : isT S lo k l rows) (f : Fm X S S') (hx : ∀ n ∈ X, n < lo ∨ (n ≠ k ∧ n ≠ l ∧ noI S n)) : isT S' lo k l rows := by
  obtain ⟨h0, h1, h2⟩ := h
  refine ⟨h0, f.at h1 fun z => ?_, h2.fm f fun n hn => (hx n hn).imp id fun q => q.2⟩
  rcases hx _ z with q | q
  · omega
  · exact q.1 rfl
theorem isR.fm0 {S S' : Sto} {lo l : Nat} {rows : List TRow} (h : isR S lo l rows) (f : Fm [] S S') : isR S' lo l rows := h.fm f (by simp)
theorem isT.fm0 {S S' : Sto} {lo k l : Nat} {rows : List TRow} (h : isT S lo k l rows) (f : Fm [] S S') : isT S' lo k l rows := h.fm f (by simp)
theorem isT.fml {S S' : Sto} {lo k l n : Nat} {rows : List TRow} (h : isT S lo k l rows) (f : Fm [n] S S') (hn : n < lo) : isT S' lo k l rows := h.fm f (by simp; exact .inl hn)
theorem isR.fml {S S' : Sto} {lo l n : Nat} {rows : List TRow} (h : isR S lo l rows) (f : Fm [n] S S') (hn : n < lo) : isR S' lo l rows := h.fm f (by simp; exact .inl hn)
theorem noI_dic {S : Sto} {n : Nat} {t lk : Bool} {kvs : List (D × D)} (h : S[n]? = some (.dic t lk kvs)) : noI S n := fun xs z => by rw [h] at z; cases z
theorem noI_ins {S : Sto} {n c : Nat} {fs : List (Nat × D)} (h : S[n]? = some (.ins c fs)) : noI S n := fun xs z => by rw [h] at z; cases z
/-! rows -/
def rget (nm : Nm) : List TRow → Option (List Int)
  | [] => none
  | r :: rs => if r.1 = nm then some r.2 else rget nm rs
def rput (nm : Nm) (sd : List Int) (rows : List TRow) : List TRow := if (rows.any fun r => decide (r.1 = nm)) = true then rows.map fun r => if r.1 = nm then (r.1, sd) else r else rows ++ [(nm, sd)]
def rdrop (nm : Nm) (rows : List TRow) : List TRow := rows.filter fun r => decide (r.1 ≠ nm)
theorem rput_len (nm : Nm) (sd : List Int) (rows : List TRow) : (rput nm sd rows).length ≤ rows.length + 1 := by
  unfold rput
  split
  · simp
  · simp
theorem nmD_iff {xs ys : Nm} : nmD xs = nmD ys ↔ xs = ys := ⟨nmD_inj, fun h => by rw [h]⟩
theorem rget_rel {S : Sto} {lo : Nat} {nm : Nm} : ∀ {rows : List TRow} {kvs : List (D × D)}, A2 (relR S lo) rows kvs →
    (rget nm rows = none → kget (nmD nm) kvs = none) ∧ ∀ sd, rget nm rows = some sd → ∃ j, lo ≤ j ∧ kget (nmD nm) kvs = some (.ref j) ∧ S[j]? = some (.lst (sd.map .int))
  | _, _, .nil => ⟨fun _ => rfl, fun sd h => by cases h⟩
  | r :: rows, q :: kvs, .cons ⟨e, j, h1, h2, h3⟩ t => by
    obtain ⟨i1, i2⟩ := rget_rel (nm := nm) t
    obtain ⟨q1, q2⟩ := q
    simp only at e h2
    subst e h2
    unfold rget kget
    by_cases c : r.1 = nm
    · rw [if_pos c, if_pos (nmD_iff.mpr c)]
      exact ⟨(fun z => by cases z), (fun sd z => by cases z; exact ⟨j, h1, rfl, h3⟩)⟩
    · rw [if_neg c, if_neg (fun z => c (nmD_iff.mp z))]
      exact ⟨i1, i2⟩
theorem A2.len_eq {α β : Type} {P : α → β → Prop} {xs : List α} {ys : List β} (h : A2 P xs ys) : xs.length = ys.length := h.len.symm
theorem rput_rel {S : Sto} {lo j : Nat} {nm : Nm} {sd : List Int} (hj : lo ≤ j) (hs : S[j]? = some (.lst (sd.map .int))) {rows : List TRow} {kvs : List (D × D)} (h : A2 (relR S lo) rows kvs) : A2 (relR S lo) (rput nm sd rows) (kput (nmD nm) (.ref j) kvs) := by
  have any : ∀ {rows : List TRow} {kvs : List (D × D)}, A2 (relR S lo) rows kvs → (rows.any fun r => decide (r.1 = nm)) = kvs.any fun q => decide (q.1 = nmD nm) := by
    intro rows kvs h
    induction h with
    | nil => rfl
    | cons a _ ih =>
      rw [List.any_cons, List.any_cons, ih]
      congr 1
      rw [Bool.eq_iff_iff]
      simp only [decide_eq_true_eq, a.1, nmD_iff]
  have map : ∀ {rows : List TRow} {kvs : List (D × D)}, A2 (relR S lo) rows kvs → A2 (relR S lo) (rows.map fun r => if r.1 = nm then (r.1, sd) else r) (kvs.map fun q => if q.1 = nmD nm then (q.1, .ref j) else q) := by
    intro rows kvs h
    induction h with
    | nil => exact .nil
    | @cons r q _ _ a _ ih =>
      refine .cons ?_ ih
      dsimp only
      by_cases c : r.1 = nm
      · rw [if_pos c, if_pos (by rw [a.1]; exact nmD_iff.mpr c)]
        exact ⟨a.1, j, hj, rfl, hs⟩
      · rw [if_neg c, if_neg (by rw [a.1]; exact fun z => c (nmD_iff.mp z))]
        exact a
  unfold rput kput
  rw [any h]
  split
  · exact map h
  · exact h.app (.cons ⟨rfl, j, hj, rfl, hs⟩ .nil)
theorem rdrop_rel {S : Sto} {lo : Nat} {nm : Nm} {rows : List TRow} {kvs : List (D × D)} (h : A2 (relR S lo) rows kvs) : A2 (relR S lo) (rdrop nm rows) (kdrop (nmD nm) kvs) := by
  unfold rdrop kdrop
  induction h with
  | nil => exact .nil
  | @cons r q _ _ a _ ih =>
    rw [List.filter_cons, List.filter_cons]
    by_cases c : r.1 = nm
    · rw [if_neg (by simp [c]), if_neg (by simp [a.1, c])]
      exact ih
    · rw [if_pos (by simp [c]), if_pos (by simp only [a.1, ne_eq, decide_eq_true_eq]; exact fun z => c (nmD_iff.mp z))]
      exact .cons a ih
theorem keys_rel {S : Sto} {lo : Nat} {rows : List TRow} {kvs : List (D × D)} (h : A2 (relR S lo) rows kvs) : kvs.map (·.1) = (rows.map (·.1)).map nmD := by
  induction h with
  | nil => rfl
  | cons a _ ih => simp [a.1, ih]
/-! keys -/
def okKey (nm : Nm) : Prop := ∀ x ∈ nm, ∀ c ∈ x, c < 0x110000
theorem signs_lt : ∀ c ∈ signs, c < 0x110000 := by decide
theorem okPart_key {x : List Nat} (h : okPart x = true) : ∀ c ∈ x, c < 0x110000 := fun c hc => by
  unfold okPart at h
  simp only [Bool.and_eq_true, List.all_eq_true, decide_eq_true_eq] at h
  exact signs_lt c (h.2.2 c hc)
theorem okBeg_parts {nm : Nm} (h : okBeg nm = true) : ∀ x ∈ nm, okPart x = true := fun x hx => by
  unfold okBeg at h
  simp only [Bool.and_eq_true, List.all_eq_true] at h
  exact h.2 x hx
theorem okBeg_key {nm : Nm} (h : okBeg nm = true) : okKey nm := fun x hx => okPart_key (okBeg_parts h x hx)
theorem okBeg_sz {nm : Nm} (h : okBeg nm = true) : ∀ x ∈ nm, x.length ≤ sz := fun x hx => okPart_len (okBeg_parts h x hx)
theorem key_nm {nm : Nm} (h : okKey nm) : keyOk true (nmD nm) = true := by
  simp only [keyOk, if_true, nmD, List.all_map, List.all_eq_true, Function.comp, isKey, decide_eq_true_eq]
  exact h
/-! reading a dict of rows -/
theorem get_some {S : Sto} {lo l : Nat} {rows : List TRow} {nm : Nm} {sd : List Int} (h : isR S lo l rows) (hk : okKey nm) (e : rget nm rows = some sd) : ∃ j, lo ≤ j ∧ opGet (.ref l) (nmD nm) S = .ok (.ref j) S ∧ S[j]? = some (.lst (sd.map .int)) := by
  obtain ⟨h0, kvs, h1, h2⟩ := h
  obtain ⟨j, a, b, c⟩ := (rget_rel h2).2 _ e
  refine ⟨j, a, ?_, c⟩
  simp only [opGet, h1, key_nm hk, if_true, b]
theorem in_d {S : Sto} {lo l : Nat} {rows : List TRow} {nm : Nm} (h : isR S lo l rows) (hk : okKey nm) (neg : Bool) : inD neg (nmD nm) (.ref l) S = .ok (.bl (if neg = true then !(rget nm rows).isSome else (rget nm rows).isSome)) S := by
  obtain ⟨h0, kvs, h1, h2⟩ := h
  have e : (kget (nmD nm) kvs).isSome = (rget nm rows).isSome := by
    cases q : rget nm rows with
    | none => rw [(rget_rel h2).1 q]; rfl
    | some sd =>
      obtain ⟨j, _, b, _⟩ := (rget_rel h2).2 _ q
      rw [b]
      rfl
  simp only [inD, h1, key_nm hk, if_true, e]
theorem len_d {S : Sto} {lo l : Nat} {rows : List TRow} (h : isR S lo l rows) : fLenDT [.ref l] S = .ok (.int rows.length) S := by
  obtain ⟨h0, kvs, h1, h2⟩ := h
  simp only [fLenDT, h1, h2.len]
theorem set_d {S : Sto} {lo l j : Nat} {rows : List TRow} {nm : Nm} {sd : List Int} (h : isR S lo l rows) (hk : okKey nm) (hz : rows.length < sz) (hj : lo ≤ j) (hs : S[j]? = some (.lst (sd.map .int))) :
    ∃ S', setD (.ref l) (nmD nm) (.ref j) S = .ok () S' ∧ Fm [l] S S' ∧ isR S' lo l (rput nm sd rows) := by
  obtain ⟨h0, kvs, h1, h2⟩ := h
  refine ⟨S.set l (.dic true false (kput (nmD nm) (.ref j) kvs)), ?_, (Fm.refl _ _).set _ (.inl (by simp)), h0, _, at_set h1, ?_⟩
  · simp only [setD, h1]
    rw [if_pos ⟨key_nm hk, by rw [h2.len]; exact hz⟩]
  · refine (rput_rel hj hs h2).imp fun r q ⟨e, i, h3, h4, h5⟩ => ⟨e, i, h3, h4, at_set_ne h5 fun z => ?_⟩
    subst z
    rw [h1] at h5
    cases h5
theorem pop_d {S : Sto} {lo l : Nat} {rows : List TRow} {nm : Nm} {sd : List Int} (h : isR S lo l rows) (hk : okKey nm) (e : rget nm rows = some sd) :
    ∃ d S', fPop1 [.ref l, nmD nm] S = .ok d S' ∧ Fm [l] S S' ∧ isR S' lo l (rdrop nm rows) := by
  obtain ⟨h0, kvs, h1, h2⟩ := h
  obtain ⟨j, a, b, c⟩ := (rget_rel h2).2 _ e
  refine ⟨.ref j, S.set l (.dic true false (kdrop (nmD nm) kvs)), ?_, (Fm.refl _ _).set _ (.inl (by simp)), h0, _, at_set h1, ?_⟩
  · simp only [fPop1, h1, key_nm hk, if_true, b]
  · refine (rdrop_rel h2).imp fun r q ⟨e, i, h3, h4, h5⟩ => ⟨e, i, h3, h4, at_set_ne h5 fun z => ?_⟩
    subst z
    rw [h1] at h5
    cases h5
/-! sorted -/
def srtN (ns : List Nm) : List Nm := ns.mergeSort fun a b => PySem.W.dataLe false encD (nmD a) (nmD b)
theorem srtN_perm (ns : List Nm) : (srtN ns).Perm ns := List.mergeSort_perm _ _
theorem srtD_nm (ns : List Nm) : srtD (ns.map nmD) = (srtN ns).map nmD := by
  unfold srtD srtN
  exact (List.map_mergeSort (f := nmD) (s := PySem.W.dataLe false encD) (fun a _ b _ => rfl)).symm
theorem srtOk_nm (ns : List Nm) : srtOk (ns.map nmD) = true := by
  unfold srtOk
  rw [Bool.or_eq_true]
  refine .inr ?_
  simp only [List.all_map, List.all_eq_true, Function.comp]
  intro x _
  simp only [nmD, tTS, List.all_map, List.all_eq_true, Function.comp]
  intro _ _
  rfl
theorem sorted_d {S : Sto} {lo l : Nat} {rows : List TRow} (h : isR S lo l rows) (hz : rows.length ≤ sz) : fSorted [.ref l] S = .ok (.ref S.length) (S ++ [.lst ((srtN (rows.map (·.1))).map nmD)]) := by
  obtain ⟨h0, kvs, h1, h2⟩ := h
  simp only [fSorted, h1]
  rw [keys_rel h2, if_pos ⟨srtOk_nm _, by rw [h2.len]; exact hz⟩, srtD_nm]
/-! ### a comprehension whose items lie in the store -/
theorem lcL_fs {chk : Sto → Bool} {tg : TM} {t : BM} {e : EM} {L : Loc} {S1 : Sto} {items : List D} {p : D → Bool} {P : Sto → D → D → Prop} {Q : D → Sto → Prop} {E : Exc → Sto → Prop}
    (hP : ∀ S' S'' x y, Fm [] S' S'' → P S' x y → P S'' x y) (hPs : ∀ S' o x y, P S' x y → P (S'.set S1.length o) x y) (hchk : ∀ S', Fm [] S1 S' → chk S' = true)
    (h : ∀ x ∈ items, ∀ S', Fm [] S1 S' → S1.length < S'.length → wR (tg x L S') (fun L1 S2 => S2 = S' ∧ wR (t L1 S') (fun b S3 => Fm [] S' S3 ∧ b = p x ∧ (b = true → wR (e L1 S3) (fun y S4 => Fm [] S3 S4 ∧ P S4 x y) Fl)) Fl) Fl) (hz : items.length ≤ sz)
    (q : ∀ S' ys, Fm [] S1 S' → A2 (P S') (items.filter p) ys → S'[S1.length]? = some (.lst ys) → S1.length < S'.length → Q (.ref S1.length) S') : wR (lcL chk tg t e L S1.length items (S1 ++ [.lst []])) Q E := by
  refine lcL_inv (I := fun xs acc S' => Fm [] S1 S' ∧ S'[S1.length]? = some (.lst acc) ∧ ∃ ds, ds ++ xs = items ∧ A2 (P S') (ds.filter p) acc) ?_ ?_ ?_ ⟨(Fm.refl _ S1).push _, at_new _ _, [], rfl, .nil⟩
  · exact fun xs acc S' ⟨a, c, _⟩ => ⟨hchk _ a, c⟩
  · intro acc S' ⟨a, c, ds, e1, e2⟩
    rw [List.append_nil] at e1
    subst e1
    exact q S' acc a e2 c (lt_of_at c)
  · rintro x xs acc S' ⟨a, c, ds, e1, e2⟩
    refine wR_mono (h x (by rw [← e1]; simp) S' a (lt_of_at c)) (fun L1 S2 ⟨es, w⟩ => ?_) fun _ _ z => z
    subst es
    refine wR_mono w (fun bb S3 ⟨a3, e3, w⟩ => ?_) fun _ _ z => z
    have c3 := a3.at c (by simp)
    cases hb : bb with
    | true =>
      rw [if_pos rfl]
      refine wR_mono (w hb) (fun y S4 ⟨a4, e4⟩ => ?_) fun _ _ z => z
      have c4 := a4.at c3 (by simp)
      have al : acc.length = (ds.filter p).length := e2.len
      have dl : (ds.filter p).length ≤ ds.length := List.length_filter_le _ _
      have il : ds.length + xs.length + 1 = items.length := by rw [← e1]; simp; omega
      refine ⟨acc, c4, by omega, ((a.trans a3).trans a4).set _ (.inr (Nat.le_refl _)), at_set c4, ds ++ [x], by rw [← e1]; simp, ?_⟩
      rw [List.filter_append]
      have : [x].filter p = [x] := by simp [List.filter_cons, ← e3, hb]
      rw [this]
      exact ((e2.imp fun x y z => hP _ _ _ _ (a3.trans a4) z).snoc e4).imp fun x y z => hPs _ _ _ _ z
    | false =>
      rw [if_neg (by simp)]
      refine ⟨a.trans a3, c3, ds ++ [x], by rw [← e1]; simp, ?_⟩
      rw [List.filter_append]
      have : [x].filter p = [] := by simp [List.filter_cons, ← e3, hb]
      rw [this, List.append_nil]
      exact e2.imp fun x y z => hP _ _ _ _ a3 z
/-! ### lists of rows, as they are told -/
def relI (S : Sto) (r : TRow) (d : D) : Prop := ∃ i, d = .tup [nmD r.1, .ref i] ∧ S[i]? = some (.lst (r.2.map .int))
def isRL (S : Sto) (n : Nat) (rs : List TRow) : Prop := ∃ items, S[n]? = some (.lst items) ∧ A2 (relI S) rs items
theorem isRL.fm {X : List Nat} {S S' : Sto} {n : Nat} {rs : List TRow} (h : isRL S n rs) (f : Fm X S S') (hn : n ∉ X) (hx : ∀ m ∈ X, noI S m) : isRL S' n rs := by
  obtain ⟨items, h1, h2⟩ := h
  exact ⟨items, f.at h1 hn, h2.imp fun r d ⟨i, e, h3⟩ => ⟨i, e, f.at h3 fun z => hx _ z _ h3⟩⟩
theorem isRL.fm0 {S S' : Sto} {n : Nat} {rs : List TRow} (h : isRL S n rs) (f : Fm [] S S') : isRL S' n rs := h.fm f (by simp) (by simp)
def rowP (r : TRow) : PyData := .tuple [.tuple (toPys (r.1.map .str)), .list (toPys (r.2.map .int))]
theorem pls_ints (ns : List Int) : pls 0 (ns.map .int) = true := pls_all.mpr fun x hx => by
  obtain ⟨i, _, rfl⟩ := List.mem_map.mp hx
  rfl
theorem pls_strs (ns : Nm) : pls 0 (ns.map .str) = true := pls_all.mpr fun x hx => by
  obtain ⟨i, _, rfl⟩ := List.mem_map.mp hx
  rfl
theorem reify_row {S : Sto} {r : TRow} {d : D} {m : Nat} (h : relI S r d) (hm : 3 ≤ m) : reify m S d = some (rowP r) := by
  obtain ⟨i, rfl, h⟩ := h
  obtain ⟨m, rfl⟩ : ∃ k, m = k + 1 := ⟨m - 1, by omega⟩
  have e1 := reify_pl S 1 m (nmD r.1) (pl_nm _) (by omega)
  have e2 := reify_l (m := m) (.inl h) (pls_ints _) (by omega)
  simp only [reify, List.mapM_cons, List.mapM_nil, e1, e2]
  rfl
theorem reify_rows {S : Sto} {m : Nat} (hm : 3 ≤ m) : ∀ {rs : List TRow} {items : List D}, A2 (relI S) rs items → items.mapM (reify m S) = some (rs.map rowP)
  | _, _, .nil => rfl
  | _, _, .cons a t => by
    rw [List.mapM_cons, reify_row a hm, reify_rows hm t]
    rfl
theorem reify_RL {S : Sto} {n m : Nat} {rs : List TRow} (h : isRL S n rs) (hm : 4 ≤ m) : reify m S (.ref n) = some (.list (rs.map rowP)) := by
  obtain ⟨items, h1, h2⟩ := h
  obtain ⟨m, rfl⟩ : ∃ k, m = k + 1 := ⟨m - 1, by omega⟩
  have := reify_rows (S := S) (m := m) (by omega) h2
  simp only [reify, h1, this]
  rfl
theorem eqv_row (r : TRow) : PyData.eqv (rowP r) (rowP r) = true := by
  simp only [rowP, PyData.eqv, PyData.eqvAll]
  rw [eqv_pls 0 0 _ _ (pls_strs _) (pls_strs _), eqv_pls 0 0 _ _ (pls_ints _) (pls_ints _)]
  simp
theorem eqv_rows : ∀ rs : List TRow, PyData.eqvAll (rs.map rowP) (rs.map rowP) = true
  | [] => rfl
  | r :: rs => by simp [PyData.eqvAll, eqv_row, eqv_rows rs]
theorem opNe_RL {S : Sto} {n m : Nat} {rs : List TRow} (h : isRL S n rs) (h' : isRL S m rs) : opNe (.ref n) (.ref m) S = .ok (.bl false) S := by
  simp only [opNe, reify_RL h (show 4 ≤ 60 by decide), reify_RL h' (show 4 ≤ 60 by decide), PyData.eqv, eqv_rows]
  rfl
/-! ### sides -/
def sideOk (d : D) : Bool := numOk d 0 (some 7)
theorem isside_ok {d : D} (hd : isP d = true) (S : Sto) : f_is_side [d] S = .ok (.bl (sideOk d)) S := by
  refine eq_of_wR (wR_call rfl ?_)
  simp only [c_is_side, wS_sRet, eCall_a, aCons_a, aNil_a, eV_a, eBin_a, eC_a, List.map, List.replicate, List.cons_append, List.nil_append, List.getElem?_cons_zero, R.bind_ok, opSub_i, Nat.sub_self]
  have := num_any hd 0 (some (8 - 1)) S
  rw [show hiD (some (8 - 1)) = D.int (8 - 1) from rfl] at this
  rw [this]
  exact ⟨rfl, rfl⟩
theorem isside_ref {S : Sto} {i : Nat} {ys : List D} (h : S[i]? = some (.lst ys)) : f_is_side [.ref i] S = .ok (.bl false) S := by
  refine eq_of_wR (wR_call rfl ?_)
  simp only [c_is_side, wS_sRet, eCall_a, aCons_a, aNil_a, eV_a, eBin_a, eC_a, List.map, List.replicate, List.cons_append, List.nil_append, List.getElem?_cons_zero, R.bind_ok, opSub_i, Nat.sub_self]
  refine wR_call rfl ?_
  simp only [c_is_number, wS_sSeq, wS_sIf, wR_tOr, wR_tNot, wR_tV, eUn_a, eV_a, List.map, List.replicate, List.cons_append, List.nil_append, List.getElem?_cons_zero, R.bind_ok, Nat.sub_self, opIsi_l h, wR_ok]
  simp
/-- an item of a list that is tried: plain, or a list -/
def itemP (S : Sto) (d : D) : Prop := isP d = true ∨ ∃ i ys, d = .ref i ∧ S[i]? = some (.lst ys)
theorem isside_any {S : Sto} {d : D} (h : itemP S d) : f_is_side [d] S = .ok (.bl (sideOk d)) S := by
  rcases h with h | ⟨i, ys, rfl, h⟩
  · exact isside_ok h S
  · exact isside_ref h
theorem sides_lc {S : Sto} {j : Nat} {xs : List D} {L : Loc} (h : S[j]? = some (.lst xs)) (hL : L[0]? = some (some (.ref j))) (hl : 1 < L.length) (hz : xs.length ≤ sz) (hi : ∀ x ∈ xs, itemP S x) :
    eLc (wLst (eV 0)) (gV 1) tYes (eCall f_is_side (aCons (eV 1) aNil)) [1] L S = .ok (.ref S.length) (S ++ [.lst (xs.map fun x => .bl (sideOk x))]) := by
  have := eLc_lst (S := S) (S1 := S) (n := j) (items := xs) (p := fun _ => true) (f := fun x => .bl (sideOk x)) (a := eV 0) (tg := gV 1) (t := tYes) (e := eCall f_is_side (aCons (eV 1) aNil)) (vs := [1]) (L := L) (L1 := fun x => (wipe L [1]).set 1 (some x)) (by simp only [eV_a, hL]) h (fun x hx acc => ⟨rfl, rfl, fun _ => ?_⟩) hz
  · rw [this, List.filter_eq_self.mpr (fun _ _ => rfl)]
  · have e : ((wipe L [1]).set 1 (some x))[1]? = some (some x) := by simp [wipe, hl]
    simp only [eCall_a, aCons_a, aNil_a, eV_a, e, R.bind_ok]
    refine isside_any ?_
    rcases hi x hx with q | ⟨i, ys, rfl, q⟩
    · exact .inl q
    · exact .inr ⟨i, ys, rfl, at_push q⟩
/-- not every item is a side -/
theorem needsides_no {S : Sto} {j : Nat} {xs : List D} {Q : D → Sto → Prop} {E : Exc → Sto → Prop} (h : S[j]? = some (.lst xs)) (hz : xs.length ≤ 1000) (hi : ∀ x ∈ xs, itemP S x) (hn : xs.all sideOk = false) (q : ∀ S', Fm [] S S' → E ⟨3, []⟩ S') : wR (f_need_sides [.ref j] S) Q E := by
  refine wR_call rfl ?_
  simp only [c_need_sides, wS_sIf, wR_tOr, wR_tNot, wR_tV, eUn_a, eV_a, List.map, List.replicate, List.cons_append, List.nil_append, List.getElem?_cons_zero, R.bind_ok, Nat.reduceSub, opIsi_l h, wR_ok, decide_true, Bool.not_true, Bool.false_eq_true, if_false, eCall_a, aCons_a, aNil_a]
  rw [sides_lc h rfl (by simp) (by unfold sz; omega) hi]
  simp only [R.bind_ok, fAll_r (at_new _ _) allB_map, hn, wR_ok, Bool.not_false, if_true, wS_sRaise, aNil_a]
  exact q _ ((Fm.refl _ _).push _)
/-- what is no list -/
theorem needsides_not {S : Sto} {d : D} {t : String} {Q : D → Sto → Prop} {E : Exc → Sto → Prop} (h : tyNm S d = some t) (ht : t ≠ "list") (q : E ⟨3, []⟩ S) : wR (f_need_sides [d] S) Q E := by
  have e : opIsi "list" d S = .ok (.bl false) S := by
    simp only [opIsi, h]
    simp [ht]
  refine wR_call rfl ?_
  simp only [c_need_sides, wS_sIf, wR_tOr, wR_tNot, wR_tV, eUn_a, eV_a, List.map, List.replicate, List.cons_append, List.nil_append, List.getElem?_cons_zero, R.bind_ok, Nat.reduceSub, e, wR_ok, Bool.not_false, if_true, wS_sRaise, aNil_a]
  exact q
theorem intsOf_map : ∀ ns : List Int, intsOf (ns.map .int) = some ns
  | [] => rfl
  | n :: ns => by simp [intsOf, intsOf_map ns]
theorem needsides_int {S : Sto} {j : Nat} {ns : List Int} {Q : D → Sto → Prop} {E : Exc → Sto → Prop} (h : S[j]? = some (.lst (ns.map .int))) (hz : ns.length ≤ 1000) (hn : ∀ x ∈ ns, 0 ≤ x ∧ x ≤ 7) (q : ∀ S', Fm [] S S' → if (nubI ns).length < ns.length then E ⟨3, []⟩ S' else Q .non S') : wR (f_need_sides [.ref j] S) Q E := by
  have hi : ∀ x ∈ ns.map D.int, itemP S x := fun x hx => by
    obtain ⟨i, _, rfl⟩ := List.mem_map.mp hx
    exact .inl rfl
  have ha : (ns.map D.int).all sideOk = true := List.all_eq_true.mpr fun x hx => by
    obtain ⟨i, hm, rfl⟩ := List.mem_map.mp hx
    have := hn i hm
    simp [sideOk, numOk, this]
  refine wR_call rfl ?_
  simp only [c_need_sides, wS_sIf, wR_tOr, wR_tNot, wR_tV, eUn_a, eV_a, List.map, List.replicate, List.cons_append, List.nil_append, List.getElem?_cons_zero, R.bind_ok, Nat.reduceSub, opIsi_l h, wR_ok, decide_true, Bool.not_true, Bool.false_eq_true, if_false, eCall_a, aCons_a, aNil_a]
  rw [sides_lc h rfl (by simp) (by simp; unfold sz; omega) hi]
  have h1 : (S ++ [Ob.lst ((ns.map D.int).map fun x => .bl (sideOk x))])[j]? = some (.lst (ns.map .int)) := at_push h
  have e1 : opLenSet (.ref j) (S ++ [Ob.lst ((ns.map D.int).map fun x => .bl (sideOk x))]) = .ok (.int (nubI ns).length) (S ++ [Ob.lst ((ns.map D.int).map fun x => .bl (sideOk x))]) := by
    simp only [opLenSet, h1, intsOf_map]
    rw [if_pos hz]
  have q := q _ ((Fm.refl _ S).push (.lst ((ns.map D.int).map fun x => .bl (sideOk x))))
  simp only [R.bind_ok, fAll_r (at_new _ _) allB_map, ha, wR_ok, Bool.not_true, Bool.false_eq_true, if_false, eBin_a, eUn_a, eV_a, List.getElem?_cons_zero, eCall_a, aCons_a, aNil_a, e1, fLen_r h1, opCmp_a, List.length_map]
  by_cases c : (nubI ns).length < ns.length
  · rw [if_pos c] at q
    simp only [show ((nubI ns).length : Int) < (ns.length : Int) by omega, decide_true, if_true, wS_sRaise, aNil_a, wR_ok]
    exact q
  · rw [if_neg c] at q
    simp only [show ¬ ((nubI ns).length : Int) < (ns.length : Int) by omega, decide_false, Bool.false_eq_true, if_false, wS_sNx]
    exact q
theorem nub_app (ns : List Int) : ∀ (ms acc : List Int), (acc ++ ms).Nodup → ms.foldl (fun acc k => if k ∈ acc then acc else acc ++ [k]) acc = acc ++ ms
  | [], acc, _ => by simp
  | m :: ms, acc, h => by
    have hm : m ∉ acc := fun z => by
      rw [List.nodup_append] at h
      exact h.2.2 m z m (by simp) rfl
    rw [List.foldl_cons, if_neg hm, nub_app ns ms (acc ++ [m]) (by simpa using h)]
    simp
theorem nub_nodup {ns : List Int} (h : ns.Nodup) : nubI ns = ns := by
  unfold nubI
  rw [nub_app ns ns [] (by simpa using h)]
  rfl
def okSd (sd : List Int) : Prop := (∀ x ∈ sd, 0 ≤ x ∧ x ≤ 7) ∧ sd.Nodup ∧ sd.length ≤ 1000
theorem needsides_ok {S : Sto} {j : Nat} {ns : List Int} {Q : D → Sto → Prop} {E : Exc → Sto → Prop} (h : S[j]? = some (.lst (ns.map .int))) (hn : okSd ns) (q : ∀ S', Fm [] S S' → Q .non S') : wR (f_need_sides [.ref j] S) Q E :=
  needsides_int h hn.2.2 hn.1 fun S' f => by
    rw [nub_nodup hn.2.1, if_neg (Nat.lt_irrefl _)]
    exact q S' f
/-- what is no list of unlike sides -/
def badS (S : Sto) (d : D) : Prop := (∃ t, tyNm S d = some t ∧ t ≠ "list") ∨ ∃ j xs, d = .ref j ∧ S[j]? = some (.lst xs) ∧ xs.length ≤ 1000 ∧ (((∀ x ∈ xs, itemP S x) ∧ xs.all sideOk = false) ∨ ∃ ns, xs = ns.map .int ∧ (∀ x ∈ ns, 0 ≤ x ∧ x ≤ 7) ∧ (nubI ns).length < ns.length)
theorem badS.fm0 {S S' : Sto} {d : D} (h : badS S d) (f : Fm [] S S') : badS S' d := by
  rcases h with ⟨t, h1, h2⟩ | ⟨j, xs, rfl, h1, h2, h3⟩
  · refine .inl ⟨t, ?_, h2⟩
    cases d with
    | ref n =>
      simp only [tyNm] at h1 ⊢
      have : n < S.length := by
        rcases Nat.lt_or_ge n S.length with z | z
        · exact z
        · rw [List.getElem?_eq_none z] at h1
          cases h1
      rw [f.same n this (by simp)]
      exact h1
    | _ => exact h1
  · refine .inr ⟨j, xs, rfl, f.at h1 (by simp), h2, h3.imp (fun ⟨a, b⟩ => ⟨fun x hx => ?_, b⟩) id⟩
    rcases a x hx with z | ⟨i, ys, rfl, z⟩
    · exact .inl z
    · exact .inr ⟨i, ys, rfl, f.at z (by simp)⟩
theorem needsides_bad {S : Sto} {d : D} {Q : D → Sto → Prop} {E : Exc → Sto → Prop} (h : badS S d) (q : ∀ S', Fm [] S S' → E ⟨3, []⟩ S') : wR (f_need_sides [d] S) Q E := by
  rcases h with ⟨t, h1, h2⟩ | ⟨j, xs, rfl, h1, h2, ⟨h3, h4⟩ | ⟨ns, rfl, h3, h4⟩⟩
  · exact needsides_not h1 h2 (q _ (Fm.refl _ _))
  · exact needsides_no h1 h2 h3 h4 q
  · exact needsides_int h1 (by simpa using h2) h3 fun S' f => by
      rw [if_pos h4]
      exact q S' f
/-! ### the methods of tables -/
theorem tinit_ok {S : Sto} {k : Nat} {Q : D → Sto → Prop} {E : Exc → Sto → Prop} (h : S[k]? = some (.ins 3 [])) (q : ∀ S' l, Fm [k] S S' → (∀ lo, lo ≤ k → isT S' lo k l []) → S.length ≤ l → Q .non S') : wR (f_Table___init__ [.ref k] S) Q E := by
  refine wR_call rfl ?_
  simp only [c_Table___init__, wS_sAsg, eDic_a, wR_ok]
  refine wR_gFld ?_
  simp only [eV_a, List.map, List.replicate, List.cons_append, List.nil_append, List.getElem?_cons_zero, wR_ok]
  have hk := lt_of_at h
  refine ⟨k, [], rfl, at_push h, by decide, ?_⟩
  refine q _ S.length (((Fm.refl _ _).push _).set _ (.inl (by simp))) (fun lo hlo => ⟨hlo, at_set (at_push h), by omega, [], at_set_ne (at_new _ _) (by omega), .nil⟩) (Nat.le_refl _)
/-- self.lines -/
theorem rd_tl {S : Sto} {lo k l i : Nat} {rows : List TRow} {L : Loc} (h : isT S lo k l rows) (hL : L[i]? = some (some (.ref k))) : eUn (opFld 3 38) (eV i) L S = .ok (.ref l) S := by
  simp only [eUn_a, eV_a, hL, R.bind_ok]
  exact opFld_r h.2.1 rfl
theorem tput_ok {S : Sto} {lo k l j : Nat} {rows : List TRow} {nm : Nm} {sd : List Int} {Q : D → Sto → Prop} {E : Exc → Sto → Prop} (h : isT S lo k l rows) (hb : okBeg nm = true) (hz : rows.length ≤ 1000) (hj : S[j]? = some (.lst (sd.map .int))) (hs : okSd sd)
    (q : ∀ S', Fm [l] S S' → isT S' lo k l (rput nm sd rows) → Q .non S') : wR (f_Table_put [.ref k, nmD nm, .ref j] S) Q E := by
  refine wR_call rfl ?_
  simp only [c_Table_put, wS_sSeq, wS_sExpr, eCall_a, aCons_a, aNil_a, eV_a, List.map, List.replicate, List.cons_append, List.nil_append, List.getElem?_cons_zero, List.getElem?_cons_succ, R.bind_ok, Nat.sub_self]
  refine needbeg_ok hb (fun S1 f1 => ?_) (okBeg_sz hb)
  have hj1 := f1.at hj (by simp)
  refine needsides_ok hj1 hs fun S2 f2 => ?_
  have hj2 := f2.at hj1 (by simp)
  have h2 := (h.fm0 f1).fm0 f2
  simp only [wS_sAsg, eCall_a, aCons_a, aNil_a, eV_a, List.getElem?_cons_zero, List.getElem?_cons_succ, R.bind_ok, fList_r hj2, wR_ok]
  have h3 : isT (S2 ++ [Ob.lst (sd.map .int)]) lo k l rows := h2.fm0 ((Fm.refl _ _).push _)
  simp only [gSub_a, rd_tl h3 (L := [some (.ref k), some (nmD nm), some (.ref j)]) (i := 0) rfl, R.bind_ok, eV_a, List.getElem?_cons_zero, List.getElem?_cons_succ]
  obtain ⟨S4, e4, f4, h4⟩ := set_d (j := S2.length) (sd := sd) h3.2.2 (okBeg_key hb) (by unfold sz; omega) (by
    have := lt_of_at h2.2.1
    have := h2.1
    omega) (at_new _ _)
  rw [e4]
  simp only [R.bind_ok, wR_ok]
  have f : Fm [l] S S4 := (((f1.trans f2).push (.lst (sd.map .int))).nil).trans f4
  refine q S4 f ⟨h.1, f4.at h3.2.1 ?_, h4⟩
  obtain ⟨_, kvs, z, _⟩ := h3.2.2
  intro e
  simp at e
  subst e
  have z1 := h3.2.1
  rw [z] at z1
  cases z1
theorem tput_bad {S : Sto} {k : Nat} {d e : D} {Q : D → Sto → Prop} {E : Exc → Sto → Prop} (h : badB S d) (q : ∀ S', Fm [] S S' → E ⟨1, []⟩ S') : wR (f_Table_put [.ref k, d, e] S) Q E := by
  refine wR_call rfl ?_
  simp only [c_Table_put, wS_sSeq, wS_sExpr, eCall_a, aCons_a, aNil_a, eV_a, List.map, List.replicate, List.cons_append, List.nil_append, List.getElem?_cons_zero, List.getElem?_cons_succ, R.bind_ok, Nat.sub_self]
  exact needbeg_bad h q
theorem tput_bads {S : Sto} {k : Nat} {nm : Nm} {e : D} {Q : D → Sto → Prop} {E : Exc → Sto → Prop} (hb : okBeg nm = true) (h : badS S e) (q : ∀ S', Fm [] S S' → E ⟨3, []⟩ S') : wR (f_Table_put [.ref k, nmD nm, e] S) Q E := by
  refine wR_call rfl ?_
  simp only [c_Table_put, wS_sSeq, wS_sExpr, eCall_a, aCons_a, aNil_a, eV_a, List.map, List.replicate, List.cons_append, List.nil_append, List.getElem?_cons_zero, List.getElem?_cons_succ, R.bind_ok, Nat.sub_self]
  refine needbeg_ok hb (fun S1 f1 => ?_) (okBeg_sz hb)
  exact needsides_bad (h.fm0 f1) fun S2 f2 => q S2 (f1.trans f2)
theorem tdrop_ok {S : Sto} {lo k l : Nat} {rows : List TRow} {nm : Nm} {sd : List Int} {Q : D → Sto → Prop} {E : Exc → Sto → Prop} (h : isT S lo k l rows) (hb : okBeg nm = true) (e : rget nm rows = some sd)
    (q : ∀ S', Fm [l] S S' → isT S' lo k l (rdrop nm rows) → Q .non S') : wR (f_Table_drop [.ref k, nmD nm] S) Q E := by
  refine wR_call rfl ?_
  simp only [c_Table_drop, wS_sSeq, wS_sExpr, eCall_a, aCons_a, aNil_a, eV_a, List.map, List.replicate, List.cons_append, List.nil_append, List.getElem?_cons_zero, List.getElem?_cons_succ, R.bind_ok, Nat.sub_self]
  refine needbeg_ok hb (fun S1 f1 => ?_) (okBeg_sz hb)
  have h1 := h.fm0 f1
  simp only [wS_sIf, wR_tV, eBin_a, eV_a, List.getElem?_cons_succ, List.getElem?_cons_zero, R.bind_ok, rd_tl h1 (L := [some (.ref k), some (nmD nm)]) (i := 0) rfl, in_d h1.2.2 (okBeg_key hb), e, if_true, Option.isSome_some, Bool.not_true, wR_ok, Bool.false_eq_true, if_false, wS_sNx]
  refine wR_eBM ?_
  rw [rd_tl h1 (L := [some (.ref k), some (nmD nm)]) (i := 0) rfl]
  obtain ⟨_, kvs, z, _⟩ := id h1.2.2
  simp only [wR_ok, aCons_a, aNil_a, eV_a, List.getElem?_cons_succ, List.getElem?_cons_zero, R.bind_ok]
  refine ⟨by simp only [tyNm, z], ?_⟩
  obtain ⟨d, S4, e4, f4, h4⟩ := pop_d h1.2.2 (okBeg_key hb) e
  rw [e4]
  simp only [wR_ok]
  refine q S4 (f1.nil.trans f4) ⟨h.1, f4.at h1.2.1 ?_, h4⟩
  intro e
  simp at e
  subst e
  have z1 := h1.2.1
  rw [z] at z1
  cases z1
theorem tdrop_none {S : Sto} {lo k l : Nat} {rows : List TRow} {nm : Nm} {Q : D → Sto → Prop} {E : Exc → Sto → Prop} (h : isT S lo k l rows) (hb : okBeg nm = true) (e : rget nm rows = none)
    (q : ∀ S', Fm [] S S' → E ⟨1, []⟩ S') : wR (f_Table_drop [.ref k, nmD nm] S) Q E := by
  refine wR_call rfl ?_
  simp only [c_Table_drop, wS_sSeq, wS_sExpr, eCall_a, aCons_a, aNil_a, eV_a, List.map, List.replicate, List.cons_append, List.nil_append, List.getElem?_cons_zero, List.getElem?_cons_succ, R.bind_ok, Nat.sub_self]
  refine needbeg_ok hb (fun S1 f1 => ?_) (okBeg_sz hb)
  have h1 := h.fm0 f1
  simp only [wS_sIf, wR_tV, eBin_a, eV_a, List.getElem?_cons_succ, List.getElem?_cons_zero, R.bind_ok, rd_tl h1 (L := [some (.ref k), some (nmD nm)]) (i := 0) rfl, in_d h1.2.2 (okBeg_key hb), e, if_true, Option.isSome_none, Bool.not_false, wR_ok, wS_sRaise, aNil_a]
  exact q _ f1
theorem tdrop_bad {S : Sto} {k : Nat} {d : D} {Q : D → Sto → Prop} {E : Exc → Sto → Prop} (h : badB S d) (q : ∀ S', Fm [] S S' → E ⟨1, []⟩ S') : wR (f_Table_drop [.ref k, d] S) Q E := by
  refine wR_call rfl ?_
  simp only [c_Table_drop, wS_sSeq, wS_sExpr, eCall_a, aCons_a, aNil_a, eV_a, List.map, List.replicate, List.cons_append, List.nil_append, List.getElem?_cons_zero, List.getElem?_cons_succ, R.bind_ok, Nat.sub_self]
  exact needbeg_bad h q
theorem tway_exc {S : Sto} {k : Nat} {d : D} {Q : D → Sto → Prop} {E : Exc → Sto → Prop} (h : wR (f_need_name [d] S) (fun _ _ => False) E) : wR (f_Table_way [.ref k, d] S) Q E := by
  refine wR_call rfl ?_
  simp only [c_Table_way, wS_sSeq, wS_sExpr, eCall_a, aCons_a, aNil_a, eV_a, List.map, List.replicate, List.cons_append, List.nil_append, List.getElem?_cons_zero, List.getElem?_cons_succ, R.bind_ok, Nat.reduceSub]
  exact wR_mono h (fun _ _ z => z.elim) fun _ _ z => z
theorem tsides_exc {S : Sto} {k : Nat} {d : D} {Q : D → Sto → Prop} {E : Exc → Sto → Prop} (h : wR (f_need_name [d] S) (fun _ _ => False) E) : wR (f_Table_sides [.ref k, d] S) Q E := by
  refine wR_call rfl ?_
  simp only [c_Table_sides, wS_sSeq, wS_sExpr, eCall_a, aCons_a, aNil_a, eV_a, List.map, List.replicate, List.cons_append, List.nil_append, List.getElem?_cons_zero, List.getElem?_cons_succ, R.bind_ok, Nat.reduceSub]
  exact wR_mono h (fun _ _ z => z.elim) fun _ _ z => z
/-! rows() -/
def srtR (rows : List TRow) : List TRow := (srtN (rows.map (·.1))).map fun b => (b, (rget b rows).getD [])
theorem rget_mem {nm : Nm} : ∀ {rows : List TRow}, nm ∈ rows.map (·.1) → ∃ sd, rget nm rows = some sd
  | r :: rows, h => by
    unfold rget
    by_cases c : r.1 = nm
    · exact ⟨r.2, if_pos c⟩
    · rw [if_neg c]
      simp only [List.map_cons, List.mem_cons] at h
      rcases h with h | h
      · exact absurd h.symm c
      · exact rget_mem h
theorem A2.map_l {α β γ : Type} {P : β → γ → Prop} {f : α → β} : ∀ {xs : List α} {ys : List γ}, A2 (fun x y => P (f x) y) xs ys → A2 P (xs.map f) ys
  | _, _, .nil => .nil
  | _, _, .cons a b => .cons a b.map_l
theorem A2.map_l' {α β γ : Type} {P : β → γ → Prop} {f : α → β} : ∀ {xs : List α} {ys : List γ}, A2 P (xs.map f) ys → A2 (fun x y => P (f x) y) xs ys
  | [], _, h => by cases h; exact .nil
  | x :: xs, _, h => by
    cases h with
    | cons a b => exact .cons a b.map_l'
theorem A2.mem {α β : Type} {P R : α → β → Prop} : ∀ {xs : List α} {ys : List β}, A2 P xs ys → (∀ x ∈ xs, ∀ y, P x y → R x y) → A2 R xs ys
  | _, _, .nil, _ => .nil
  | _, _, .cons a b, h => .cons (h _ (List.mem_cons_self ..) _ a) (b.mem fun x hx => h x (List.mem_cons_of_mem _ hx))
theorem trows_ok {S : Sto} {lo k l : Nat} {rows : List TRow} {Q : D → Sto → Prop} {E : Exc → Sto → Prop} (h : isT S lo k l rows) (hk : ∀ r ∈ rows, okKey r.1) (hz : rows.length ≤ 1000)
    (q : ∀ j S', Fm [] S S' → isRL S' j (srtR rows) → S.length ≤ j → Q (.ref j) S') : wR (f_Table_rows [.ref k] S) Q E := by
  refine wR_call rfl ?_
  simp only [c_Table_rows, wS_sRet, wR_eLc, List.map, List.replicate, List.cons_append, List.nil_append, Nat.reduceSub]
  refine wR_wLst ?_
  simp only [eCall_a, aCons_a, aNil_a, rd_tl h (L := [some (.ref k), none]) (i := 0) rfl, R.bind_ok, sorted_d h.2.2 (show rows.length ≤ sz by unfold sz; omega), wR_ok]
  refine ⟨_, _, rfl, at_new _ _, ?_⟩
  have h1 : isT (S ++ [Ob.lst ((srtN (rows.map (·.1))).map nmD)]) lo k l rows := h.fm0 ((Fm.refl _ _).push _)
  have at1 : (S ++ [Ob.lst ((srtN (rows.map (·.1))).map nmD)])[S.length]? = some (.lst ((srtN (rows.map (·.1))).map nmD)) := at_new _ _
  have f1 : Fm [] S (S ++ [Ob.lst ((srtN (rows.map (·.1))).map nmD)]) := (Fm.refl _ _).push _
  have le1 : S.length ≤ (S ++ [Ob.lst ((srtN (rows.map (·.1))).map nmD)]).length := f1.len
  generalize hS1 : S ++ [Ob.lst ((srtN (rows.map (·.1))).map nmD)] = S1 at h1 at1 f1 le1
  have mem : ∀ b ∈ srtN (rows.map (·.1)), ∃ sd, rget b rows = some sd ∧ okKey b := fun b hb => by
    have hb := (srtN_perm _).mem_iff.mp hb
    obtain ⟨sd, e⟩ := rget_mem hb
    obtain ⟨r, hr, rfl⟩ := List.mem_map.mp hb
    exact ⟨sd, e, hk r hr⟩
  refine lcL_fs (p := fun _ => true) (P := fun S' x y => ∃ b, x = nmD b ∧ ∃ i, S1.length < i ∧ y = .tup [nmD b, .ref i] ∧ S'[i]? = some (.lst (((rget b rows).getD []).map .int)))
    (fun S' S'' x y f ⟨b, e, i, h1, h2, h3⟩ => ⟨b, e, i, h1, h2, f.at h3 (by simp)⟩) (fun S' o x y ⟨b, e, i, h1, h2, h3⟩ => ⟨b, e, i, h1, h2, at_set_ne h3 (by omega)⟩) (fun S' f => decide_eq_true (f.at at1 (by simp))) (fun x hx S' f hlt => ?_) ?_ fun S' ys f hys e _ => ?_
  · obtain ⟨b, hb, rfl⟩ := List.mem_map.mp hx
    obtain ⟨sd, e1, kb⟩ := mem b hb
    have h' := h1.fm0 f
    obtain ⟨j, _, e2, e3⟩ := get_some h'.2.2 kb e1
    refine ⟨rfl, Fm.refl _ _, rfl, fun _ => ?_⟩
    simp only [wipe, List.set_cons_succ, List.set_cons_zero, eTup_a, aCons_a, aNil_a, eV_a, List.getElem?_cons_succ, List.getElem?_cons_zero, R.bind_ok, eCall_a, eBin_a, rd_tl h' (L := [some (.ref k), some (nmD b)]) (i := 0) rfl, e2, fList_r e3, List.length_cons, List.length_nil]
    rw [if_pos (by decide)]
    simp only [wR_ok]
    exact ⟨(Fm.refl _ _).push _, b, rfl, S'.length, hlt, rfl, by rw [e1]; exact at_new _ _⟩
  · rw [List.length_map, (srtN_perm _).length_eq, List.length_map]
    unfold sz
    omega
  · rw [List.filter_eq_self.mpr (fun _ _ => rfl)] at hys
    refine q _ S' (f1.trans f) ⟨ys, e, ?_⟩ le1
    refine A2.map_l ((A2.map_l' hys).imp fun b y ⟨b', e, i, _, h2, h3⟩ => ?_)
    cases nmD_inj e
    exact ⟨i, h2, h3⟩
end MP

namespace MP
open PySem L2
/-- what is the same all through a law -/
structure G where
  P : Program
  w : World
  K : PySem.W.Frag
  mg : Str → Option Value
  base : Heap
  cls : Nat → Addr
  fname : Nat → Str
  finj : ∀ i j, fname i = fname j → i = j
  ecls : Nat → Addr
  T : List (Addr × Str)

/-! ### values -/
mutual
def RelD (ro : List Addr) (H : Hp) : D → V → Prop
  | .non, v => v = .non
  | .bl b, v => v = .bl b
  | .int i, v => v = .int i
  | .str x, v => v = .str ⟨x.toArray⟩ ∧ ∀ c ∈ x, c < 0x110000
  | .tup ds, v => ∃ a vs, v = .ref a ∧ H a = some (.tup vs) ∧ RelDs ro H ds vs
  | .ref n, v => ∃ a, ro[n]? = some a ∧ v = .ref a
  | .exn a _, v => v = .ref a
def RelDs (ro : List Addr) (H : Hp) : List D → List V → Prop
  | [], vs => vs = []
  | d :: ds, vs => ∃ v r, vs = v :: r ∧ RelD ro H d v ∧ RelDs ro H ds r
end
/-- tuples stay -/
def TExt (H H' : Hp) : Prop := ∀ a vs, H a = some (.tup vs) → H' a = some (.tup vs)
theorem TExt.refl (H : Hp) : TExt H H := fun _ _ h => h
theorem TExt.trans {H H1 H2 : Hp} (a : TExt H H1) (b : TExt H1 H2) : TExt H H2 := fun c vs h => b c vs (a c vs h)
theorem TExt.new {H : Hp} {p : Addr} {o : HO} (h : H p = none) : TExt H (upd H p o) := fun a vs e => by
  rw [upd_ne (ne_of_none e h)]
  exact e
theorem TExt.put {H : Hp} {p : Addr} {o o' : HO} (h : H p = some o') (n : ∀ vs, o' ≠ .tup vs) : TExt H (upd H p o) := fun a vs e => by
  rw [upd_ne (fun z => n vs (by rw [z, h] at e; exact Option.some.inj e))]
  exact e
/-- tuples stay, and what is only known -/
structure Ext (H H' : Hp) : Prop where
  tup : TExt H H'
  frz : ∀ a o u, H a = some (.frz o u) → H' a = some (.frz o u)
theorem Ext.refl (H : Hp) : Ext H H := ⟨.refl H, fun _ _ _ h => h⟩
theorem Ext.trans {H H1 H2 : Hp} (a : Ext H H1) (b : Ext H1 H2) : Ext H H2 := ⟨a.tup.trans b.tup, fun c o u h => b.frz c o u (a.frz c o u h)⟩
theorem Ext.new {H : Hp} {p : Addr} {o : HO} (h : H p = none) : Ext H (upd H p o) := ⟨.new h, fun a q u e => by
  rw [upd_ne (ne_of_none e h)]
  exact e⟩
theorem Ext.put {H : Hp} {p : Addr} {o o' : HO} (h : H p = some o') (n : ∀ vs, o' ≠ .tup vs) (m : ∀ q u, o' ≠ .frz q u) : Ext H (upd H p o) := ⟨.put h n, fun a q u e => by
  rw [upd_ne (fun z => m q u (by rw [z, h] at e; exact Option.some.inj e))]
  exact e⟩
instance {H H' : Hp} : Coe (Ext H H') (TExt H H') := ⟨Ext.tup⟩
/-- the places grow -/
def Gr (ro ro' : List Addr) : Prop := ∀ (n : Nat) (a : Addr), ro[n]? = some a → ro'[n]? = some a
theorem Gr.refl (ro : List Addr) : Gr ro ro := fun _ _ h => h
theorem Gr.trans {a b c : List Addr} (x : Gr a b) (y : Gr b c) : Gr a c := fun n d h => y n d (x n d h)
theorem Gr.snoc (ro : List Addr) (p : Addr) : Gr ro (ro ++ [p]) := fun n a h => by
  rw [List.getElem?_append_left (List.getElem?_eq_some_iff.mp h).1]
  exact h
mutual
theorem RelD.mono {ro ro' : List Addr} {H H' : Hp} (g : Gr ro ro') (e : TExt H H') : ∀ (d : D) (v : V), RelD ro H d v → RelD ro' H' d v
  | .non, v, h => by simpa only [RelD] using h
  | .bl b, v, h => by simpa only [RelD] using h
  | .int i, v, h => by simpa only [RelD] using h
  | .str x, v, h => by simpa only [RelD] using h
  | .tup ds, v, h => by
    simp only [RelD] at h ⊢
    obtain ⟨a, vs, h1, h2, h3⟩ := h
    exact ⟨a, vs, h1, e _ _ h2, RelDs.mono g e ds vs h3⟩
  | .ref n, v, h => by
    simp only [RelD] at h ⊢
    obtain ⟨a, h1, h2⟩ := h
    exact ⟨a, g _ _ h1, h2⟩
  | .exn _ _, v, h => by simpa only [RelD] using h
theorem RelDs.mono {ro ro' : List Addr} {H H' : Hp} (g : Gr ro ro') (e : TExt H H') : ∀ (d : List D) (v : List V), RelDs ro H d v → RelDs ro' H' d v
  | [], v, h => by simpa only [RelDs] using h
  | d :: ds, v, h => by
    simp only [RelDs] at h ⊢
    obtain ⟨x, r, h1, h2, h3⟩ := h
    exact ⟨x, r, h1, RelD.mono g e d x h2, RelDs.mono g e ds r h3⟩
end
section
variable {ro : List Addr} {H : Hp}
theorem RelDs.nil : RelDs ro H [] [] := by simp only [RelDs]
theorem RelDs.cons {d : D} {v : V} {ds : List D} {vs : List V} (a : RelD ro H d v) (b : RelDs ro H ds vs) : RelDs ro H (d :: ds) (v :: vs) := by
  simp only [RelDs]
  exact ⟨v, vs, rfl, a, b⟩
theorem RelDs.inv {d : D} {ds : List D} {vs : List V} (h : RelDs ro H (d :: ds) vs) : ∃ v r, vs = v :: r ∧ RelD ro H d v ∧ RelDs ro H ds r := by simpa only [RelDs] using h
theorem RelDs.inv0 {vs : List V} (h : RelDs ro H [] vs) : vs = [] := by simpa only [RelDs] using h
theorem RelDs.length : ∀ {ds : List D} {vs : List V}, RelDs ro H ds vs → ds.length = vs.length
  | [], vs, h => by rw [h.inv0] <;> rfl
  | d :: ds, vs, h => by
    obtain ⟨v, r, rfl, _, h3⟩ := h.inv
    simp only [List.length_cons, RelDs.length h3]
theorem RelDs.append : ∀ {ds es : List D} {vs us : List V}, RelDs ro H ds vs → RelDs ro H es us → RelDs ro H (ds ++ es) (vs ++ us)
  | [], es, vs, us, h, h' => by rw [h.inv0]; exact h'
  | d :: ds, es, vs, us, h, h' => by
    obtain ⟨v, r, rfl, h2, h3⟩ := h.inv
    exact .cons h2 (RelDs.append h3 h')
theorem RelDs.get : ∀ {ds : List D} {vs : List V} {i : Nat} {d : D}, RelDs ro H ds vs → ds[i]? = some d → ∃ v, vs[i]? = some v ∧ RelD ro H d v
  | [], _, i, d, _, e => by simp at e
  | d :: ds, vs, 0, d', h, e => by
    obtain ⟨v, r, rfl, h2, h3⟩ := h.inv
    simp at e
    subst e
    exact ⟨v, rfl, h2⟩
  | d :: ds, vs, i + 1, d', h, e => by
    obtain ⟨v, r, rfl, h2, h3⟩ := h.inv
    obtain ⟨u, h4, h5⟩ := RelDs.get (i := i) (d := d') h3 (by simpa using e)
    exact ⟨u, by simpa using h4, h5⟩
theorem RelDs.drop : ∀ {ds : List D} {vs : List V} (n : Nat), RelDs ro H ds vs → RelDs ro H (ds.drop n) (vs.drop n)
  | _, _, 0, h => h
  | [], vs, n + 1, h => by rw [h.inv0]; simp only [List.drop_nil]; exact .nil
  | d :: ds, vs, n + 1, h => by
    obtain ⟨v, r, rfl, h2, h3⟩ := h.inv
    exact RelDs.drop n h3
theorem RelDs.take : ∀ {ds : List D} {vs : List V} (n : Nat), RelDs ro H ds vs → RelDs ro H (ds.take n) (vs.take n)
  | _, _, 0, h => by simp only [List.take_zero]; exact .nil
  | [], vs, n + 1, h => by rw [h.inv0]; simp only [List.take_nil]; exact .nil
  | d :: ds, vs, n + 1, h => by
    obtain ⟨v, r, rfl, h2, h3⟩ := h.inv
    exact .cons h2 (RelDs.take n h3)
theorem RelDs.eraseIdx : ∀ {ds : List D} {vs : List V} (n : Nat), RelDs ro H ds vs → RelDs ro H (ds.eraseIdx n) (vs.eraseIdx n)
  | [], vs, n, h => by rw [h.inv0]; simp only [List.eraseIdx_nil]; exact .nil
  | d :: ds, vs, 0, h => by
    obtain ⟨v, r, rfl, h2, h3⟩ := h.inv
    exact h3
  | d :: ds, vs, n + 1, h => by
    obtain ⟨v, r, rfl, h2, h3⟩ := h.inv
    exact .cons h2 (RelDs.eraseIdx n h3)
theorem RelDs.set {x : D} {y : V} (q : RelD ro H x y) : ∀ {ds : List D} {vs : List V} (n : Nat), RelDs ro H ds vs → RelDs ro H (ds.set n x) (vs.set n y)
  | [], vs, n, h => by rw [h.inv0]; simp only [List.set_nil]; exact .nil
  | d :: ds, vs, 0, h => by
    obtain ⟨v, r, rfl, h2, h3⟩ := h.inv
    exact .cons q h3
  | d :: ds, vs, n + 1, h => by
    obtain ⟨v, r, rfl, h2, h3⟩ := h.inv
    exact .cons h2 (RelDs.set q n h3)
theorem RelD.str_mk {x : List Nat} (h : ∀ c ∈ x, c < 0x110000) : RelD ro H (.str x) (.str ⟨x.toArray⟩) := by
  simp only [RelD]
  exact ⟨trivial, h⟩
theorem RelD.int_mk {i : Int} : RelD ro H (.int i) (.int i) := by simp only [RelD]
theorem RelD.bl_mk {i : Bool} : RelD ro H (.bl i) (.bl i) := by simp only [RelD]
theorem RelD.non_mk : RelD ro H .non .non := by simp only [RelD]
theorem RelD.tup_mk {ds : List D} {vs : List V} {a : Addr} (h : H a = some (.tup vs)) (r : RelDs ro H ds vs) : RelD ro H (.tup ds) (.ref a) := by
  simp only [RelD]
  exact ⟨a, vs, rfl, h, r⟩
theorem RelD.ref_mk {n : Nat} {a : Addr} (h : ro[n]? = some a) : RelD ro H (.ref n) (.ref a) := by
  simp only [RelD]
  exact ⟨a, h, rfl⟩
theorem RelD.int_inv {i : Int} {v : V} (h : RelD ro H (.int i) v) : v = .int i := by simpa only [RelD] using h
theorem RelD.bl_inv {i : Bool} {v : V} (h : RelD ro H (.bl i) v) : v = .bl i := by simpa only [RelD] using h
theorem RelD.non_inv {v : V} (h : RelD ro H .non v) : v = .non := by simpa only [RelD] using h
theorem RelD.str_inv {x : List Nat} {v : V} (h : RelD ro H (.str x) v) : v = .str ⟨x.toArray⟩ ∧ ∀ c ∈ x, c < 0x110000 := by simpa only [RelD] using h
theorem RelD.tup_inv {ds : List D} {v : V} (h : RelD ro H (.tup ds) v) : ∃ a vs, v = .ref a ∧ H a = some (.tup vs) ∧ RelDs ro H ds vs := by simpa only [RelD] using h
theorem RelD.ref_inv {n : Nat} {v : V} (h : RelD ro H (.ref n) v) : ∃ a, ro[n]? = some a ∧ v = .ref a := by simpa only [RelD] using h
theorem RelD.exn_mk {c : Nat} {p : List D} : RelD ro H (.exn c p) (.ref c) := by simp only [RelD]
theorem RelD.exn_inv {c : Nat} {p : List D} {v : V} (h : RelD ro H (.exn c p) v) : v = .ref c := by simpa only [RelD] using h
end

/-! ### locals -/
def RelO1 (ro : List Addr) (H : Hp) : Option D → Option V → Prop
  | some d, some v => RelD ro H d v
  | none, none => True
  | _, _ => False
abbrev RelL (ro : List Addr) (H : Hp) : Loc → St → Prop := Paired (RelO1 ro H)
theorem Paired.imp {α β : Type} {F F' : α → β → Prop} (h : ∀ a b, F a b → F' a b) : ∀ {l : List α} {m : List β}, Paired F l m → Paired F' l m
  | _, _, .nil => .nil
  | _, _, .cons a b => .cons (h _ _ a) (Paired.imp h b)
theorem Paired.get {α β : Type} {F : α → β → Prop} : ∀ {l : List α} {m : List β} {i : Nat} {a : α}, Paired F l m → l[i]? = some a → ∃ b, m[i]? = some b ∧ F a b
  | _, _, _, _, .nil, e => by simp at e
  | _, _, 0, _, .cons a b, e => by
    simp at e
    subst e
    exact ⟨_, rfl, a⟩
  | _, _, i + 1, _, .cons a b, e => by
    obtain ⟨u, h1, h2⟩ := Paired.get (i := i) b (by simpa using e)
    exact ⟨u, by simpa using h1, h2⟩
theorem Paired.set {α β : Type} {F : α → β → Prop} {x : α} {y : β} (q : F x y) : ∀ {l : List α} {m : List β} (n : Nat), Paired F l m → Paired F (l.set n x) (m.set n y)
  | _, _, _, .nil => .nil
  | _, _, 0, .cons _ t => .cons q t
  | _, _, n + 1, .cons a t => .cons a (Paired.set q n t)
theorem Paired.replicate {α β : Type} {F : α → β → Prop} {x : α} {y : β} (q : F x y) : ∀ n : Nat, Paired F (List.replicate n x) (List.replicate n y)
  | 0 => .nil
  | n + 1 => .cons q (Paired.replicate q n)
theorem Paired.app {α β : Type} {F : α → β → Prop} : ∀ {l l' : List α} {m m' : List β}, Paired F l m → Paired F l' m' → Paired F (l ++ l') (m ++ m')
  | _, _, _, _, .nil, h => h
  | _, _, _, _, .cons a b, h => .cons a (Paired.app b h)
theorem RelL.mono {ro ro' : List Addr} {H H' : Hp} {L : Loc} {s : St} (g : Gr ro ro') (e : TExt H H') (r : RelL ro H L s) : RelL ro' H' L s := Paired.imp (fun a b h => by
  cases a <;> cases b
  · trivial
  · exact h
  · exact h
  · exact RelD.mono g e _ _ h) r
theorem RelL.get {ro : List Addr} {H : Hp} {L : Loc} {s : St} {i : Nat} {d : D} (r : RelL ro H L s) (h : L[i]? = some (some d)) : ∃ v, s[i]? = some (some v) ∧ RelD ro H d v := by
  obtain ⟨b, h1, h2⟩ := Paired.get r h
  cases b with
  | none => exact h2.elim
  | some v => exact ⟨v, h1, h2⟩
theorem RelL.set {ro : List Addr} {H : Hp} {L : Loc} {s : St} (i : Nat) {d : D} {v : V} (r : RelL ro H L s) (q : RelD ro H d v) : RelL ro H (L.set i (some d)) (s.set i (some v)) := Paired.set (F := RelO1 ro H) (x := some d) (y := some v) q i r
theorem RelL.wipe {ro : List Addr} {H : Hp} {L : Loc} {s : St} (r : RelL ro H L s) : ∀ vs : List Nat, RelL ro H (wipe L vs) (L2.wipe s vs)
  | [] => r
  | v :: vs => Paired.set (F := RelO1 ro H) (x := none) (y := none) trivial v (RelL.wipe r vs)
theorem RelL.start {ro : List Addr} {H : Hp} (N : List Str) : ∀ {ds : List D} {vs : List V}, RelDs ro H ds vs → RelL ro H (ds.map some ++ List.replicate (N.length - ds.length) none) (L2.start N vs) := fun {ds vs} h => by
  unfold L2.start
  rw [h.length]
  refine Paired.app ?_ (Paired.replicate (F := RelO1 ro H) (x := none) (y := none) trivial _)
  have go : ∀ {ds : List D} {vs : List V}, RelDs ro H ds vs → RelL ro H (ds.map some) (vs.map some) := by
    intro ds
    induction ds with
    | nil => intro vs h; rw [h.inv0]; exact .nil
    | cons d ds ih =>
      intro vs h
      obtain ⟨v, r, rfl, h2, h3⟩ := h.inv
      exact .cons h2 (ih h3)
  exact go h

/-! ### the store -/
def okS (x : List Nat) : Bool := x.all fun c => decide (c < 0x110000)
/-- a key of a dict: an int, a text -/
def dkey : D → Option L2.Key
  | .int i => some (.inl i)
  | .str x => if okS x = true then some (.inr ⟨x.toArray⟩) else none
  | _ => none
/-- a tuple of such -/
def tkey : D → Option (List L2.Key)
  | .tup ds => ds.mapM dkey
  | _ => none
def RelKV (ro : List Addr) (H : Hp) : List (D × D) → List (L2.Key × V) → Prop := Paired fun p q => dkey p.1 = some q.1 ∧ RelD ro H p.2 q.2
def RelTV (ro : List Addr) (H : Hp) : List (D × D) → List (List L2.Key × V) → Prop := Paired fun p q => tkey p.1 = some q.1 ∧ RelD ro H p.2 q.2
def RelF (g : G) (ro : List Addr) (H : Hp) : List (Nat × D) → List (Str × V) → Prop := Paired fun p q => q.1 = g.fname p.1 ∧ RelD ro H p.2 q.2
/-- as it stands, or known while it is walked -/
def AtL (H : Hp) (a : Addr) (lk : Bool) (u : HO) : Prop := if lk = true then ∃ o, H a = some (.frz o u) else H a = some u
/-- a list that is only read: known to the object, or written by the top -/
def FrzAt (K : PySem.W.Frag) (H : Hp) (a : Addr) (xs : List V) : Prop := (∃ o, H a = some (.frz o (.lst xs))) ∨
  ∃ (o : Obj) (its : Array Value) (n : Nat), K.lookup a = some o ∧ o.cls = .type "list" ∧ o.dict = none ∧ o.data = .seq its n ∧ its.size ≤ sizeLine ∧ Vals xs its.toList
theorem FrzAt.sq {K : PySem.W.Frag} {H : Hp} {a : Addr} {xs : List V} (h : FrzAt K H a xs) : SqL K H a xs := by
  rcases h with ⟨o, q⟩ | q
  · exact .inl (.inr ⟨o, q⟩)
  · exact .inr q
theorem FrzAt.keep {K : PySem.W.Frag} {H H' : Hp} {a : Addr} {xs : List V} (h : FrzAt K H a xs) (k : ∀ o u, H a = some (.frz o u) → H' a = some (.frz o u)) : FrzAt K H' a xs := by
  rcases h with ⟨o, q⟩ | q
  · exact .inl ⟨o, k _ _ q⟩
  · exact .inr q
def RelOb (g : G) (ro : List Addr) (H : Hp) (a : Addr) : Ob → Prop
  | .lst xs => ∃ vs, RelDs ro H xs vs ∧ H a = some (.lst vs)
  | .frz xs => ∃ vs, RelDs ro H xs vs ∧ FrzAt g.K H a vs
  | .dic t lk kvs => if t = true then ∃ ws, RelTV ro H kvs ws ∧ AtL H a lk (.dT ws) else ∃ ws, RelKV ro H kvs ws ∧ AtL H a lk (.dK ws)
  | .ins c fs => ∃ dx ws, RelF g ro H fs ws ∧ H a = some (.ins (g.cls c) dx ws)
def isFrz : Ob → Prop
  | .frz _ => True
  | _ => False
structure RelS (g : G) (ro : List Addr) (S : Sto) (H : Hp) : Prop where
  len : ro.length = S.length
  ob : ∀ (n : Nat) (o : Ob), S[n]? = some o → ∃ a, ro[n]? = some a ∧ RelOb g ro H a o
  inj : ∀ (n m : Nat) (a : Addr), n ≠ m → ro[n]? = some a → ro[m]? = some a → (∃ o, S[n]? = some o ∧ isFrz o) ∨ ∃ o, S[m]? = some o ∧ isFrz o
  tabs : LamX.Tabs g.T H
section
variable {g : G} {ro ro' : List Addr} {S : Sto} {H H' : Hp} {a : Addr}
theorem RelF.mono (gr : Gr ro ro') (e : TExt H H') {fs : List (Nat × D)} {ws : List (Str × V)} (r : RelF g ro H fs ws) : RelF g ro' H' fs ws := Paired.imp (fun _ _ h => ⟨h.1, RelD.mono gr e _ _ h.2⟩) r
theorem RelKV.mono (gr : Gr ro ro') (e : TExt H H') {fs : List (D × D)} {ws : List (L2.Key × V)} (r : RelKV ro H fs ws) : RelKV ro' H' fs ws := Paired.imp (fun _ _ h => ⟨h.1, RelD.mono gr e _ _ h.2⟩) r
theorem RelTV.mono (gr : Gr ro ro') (e : TExt H H') {fs : List (D × D)} {ws : List (List L2.Key × V)} (r : RelTV ro H fs ws) : RelTV ro' H' fs ws := Paired.imp (fun _ _ h => ⟨h.1, RelD.mono gr e _ _ h.2⟩) r
theorem AtL.eq {lk : Bool} {u : HO} (h : AtL H a lk u) (e : H' a = H a) : AtL H' a lk u := by
  unfold AtL at h ⊢
  rw [e]
  exact h
theorem RelOb.mono (gr : Gr ro ro') (e : TExt H H') {o : Ob} (h : RelOb g ro H a o) (ea : H' a = H a) : RelOb g ro' H' a o := by
  cases o with
  | lst xs =>
    obtain ⟨vs, r, q⟩ := h
    exact ⟨vs, RelDs.mono gr e _ _ r, ea.trans q⟩
  | frz xs =>
    obtain ⟨vs, r, q⟩ := h
    exact ⟨vs, RelDs.mono gr e _ _ r, q.keep fun _ _ z => ea.trans z⟩
  | dic t lk kvs =>
    cases t with
    | true =>
      obtain ⟨ws, r, q⟩ := (show ∃ ws, RelTV ro H kvs ws ∧ AtL H a lk (.dT ws) from h)
      exact ⟨ws, r.mono gr e, q.eq ea⟩
    | false =>
      obtain ⟨ws, r, q⟩ := (show ∃ ws, RelKV ro H kvs ws ∧ AtL H a lk (.dK ws) from h)
      exact ⟨ws, r.mono gr e, q.eq ea⟩
  | ins c fs =>
    obtain ⟨dx, ws, r, q⟩ := h
    exact ⟨dx, ws, r.mono gr e, ea.trans q⟩
/-- what stands at a place that isn't only read -/
theorem RelOb.there {o : Ob} (h : RelOb g ro H a o) (n : ¬ isFrz o) : ∃ u, H a = some u ∧ (∀ vs, u ≠ .tup vs) ∧ ∀ ps, u ≠ .tbl ps := by
  cases o with
  | lst xs =>
    obtain ⟨vs, _, q⟩ := h
    exact ⟨_, q, fun _ z => (by cases z), fun _ z => (by cases z)⟩
  | frz xs => exact (n trivial).elim
  | dic t lk kvs =>
    cases t <;> cases lk
    · obtain ⟨ws, _, q⟩ := (show ∃ ws, RelKV ro H kvs ws ∧ AtL H a false (.dK ws) from h)
      exact ⟨_, q, fun _ z => (by cases z), fun _ z => (by cases z)⟩
    · obtain ⟨ws, _, o, q⟩ := (show ∃ ws, RelKV ro H kvs ws ∧ AtL H a true (.dK ws) from h)
      exact ⟨_, q, fun _ z => (by cases z), fun _ z => (by cases z)⟩
    · obtain ⟨ws, _, q⟩ := (show ∃ ws, RelTV ro H kvs ws ∧ AtL H a false (.dT ws) from h)
      exact ⟨_, q, fun _ z => (by cases z), fun _ z => (by cases z)⟩
    · obtain ⟨ws, _, o, q⟩ := (show ∃ ws, RelTV ro H kvs ws ∧ AtL H a true (.dT ws) from h)
      exact ⟨_, q, fun _ z => (by cases z), fun _ z => (by cases z)⟩
  | ins c fs =>
    obtain ⟨dx, ws, _, q⟩ := h
    exact ⟨_, q, fun _ z => (by cases z), fun _ z => (by cases z)⟩
/-- beside something new -/
theorem RelOb.new (gr : Gr ro ro') {o : Ob} {p : Addr} {u : HO} (h : RelOb g ro H a o) (hp : H p = none) : RelOb g ro' (upd H p u) a o := by
  by_cases ha : a = p
  · subst ha
    cases o with
    | frz xs =>
      obtain ⟨vs, r, q⟩ := h
      refine ⟨vs, RelDs.mono gr (.new hp) _ _ r, q.keep fun _ _ z => ?_⟩
      rw [hp] at z
      cases z
    | _ =>
      obtain ⟨u, q, _⟩ := h.there (by simp [isFrz])
      rw [hp] at q
      cases q
  · exact h.mono gr (.new hp) (upd_ne ha)
/-- something new that is no place of the store -/
theorem RelS.aside (R : RelS g ro S H) {p : Addr} {o : HO} (hp : H p = none) : RelS g ro S (upd H p o) := by
  refine ⟨R.len, fun n o' e => ?_, R.inj, R.tabs.ext fun b u e => by rw [upd_ne (ne_of_none e hp)]; exact e⟩
  obtain ⟨a, h1, h2⟩ := R.ob n o' e
  exact ⟨a, h1, h2.new (.refl _) hp⟩
theorem RelS.lt (R : RelS g ro S H) {n : Nat} {a : Addr} (h : ro[n]? = some a) : n < S.length := by
  have q := (List.getElem?_eq_some_iff.mp h).1
  rw [R.len] at q
  exact q
theorem RelS.at (R : RelS g ro S H) {n : Nat} {a : Addr} {o : Ob} (h : ro[n]? = some a) (e : S[n]? = some o) : RelOb g ro H a o := by
  obtain ⟨b, h1, h2⟩ := R.ob n o e
  rw [h] at h1
  cases h1
  exact h2
/-- a new object, a new place -/
theorem RelS.push (R : RelS g ro S H) {p : Addr} {o : HO} {ob : Ob} (hp : H p = none) (h : RelOb g (ro ++ [p]) (upd H p o) p ob) : RelS g (ro ++ [p]) (S ++ [ob]) (upd H p o) := by
  have old : ∀ {k : Nat} {a : Addr}, k < S.length → (ro ++ [p])[k]? = some a → ro[k]? = some a := fun {k a} hk e => by
    rw [List.getElem?_append_left (by rw [R.len]; exact hk)] at e
    exact e
  have lt : ∀ {k : Nat} {a : Addr}, (ro ++ [p])[k]? = some a → k < S.length ∨ (k = S.length ∧ a = p) := fun {k a} e => by
    by_cases hk : k < S.length
    · exact .inl hk
    · have q := (List.getElem?_eq_some_iff.mp e).1
      rw [List.length_append, List.length_singleton, R.len] at q
      have hk' : k = S.length := by omega
      subst hk'
      rw [List.getElem?_append_right (by rw [R.len]; exact Nat.le_refl _), R.len, Nat.sub_self] at e
      exact .inr ⟨rfl, (Option.some.inj e).symm⟩
  have frz : ∀ {k : Nat}, k < S.length → ro[k]? = some p → ∃ o, S[k]? = some o ∧ isFrz o := fun {k} hk e => by
    obtain ⟨a, h1, h2⟩ := R.ob k S[k] (List.getElem?_eq_getElem hk)
    rw [e] at h1
    cases h1
    refine ⟨S[k], List.getElem?_eq_getElem hk, ?_⟩
    cases q : S[k] with
    | frz xs => trivial
    | _ =>
      rw [q] at h2
      obtain ⟨u, q, _⟩ := h2.there (by simp [isFrz])
      rw [hp] at q
      cases q
  have up : ∀ {k : Nat} {o : Ob}, S[k]? = some o → (S ++ [ob])[k]? = some o := fun {k o} e => by
    rw [List.getElem?_append_left (List.getElem?_eq_some_iff.mp e).1]
    exact e
  refine ⟨by simp [R.len], fun k o' e => ?_, fun k m a hne e1 e2 => ?_, R.tabs.ext fun b u e => by rw [upd_ne (ne_of_none e hp)]; exact e⟩
  · by_cases hk : k < S.length
    · rw [List.getElem?_append_left hk] at e
      obtain ⟨a, h1, h2⟩ := R.ob k o' e
      exact ⟨a, Gr.snoc _ _ _ _ h1, h2.new (Gr.snoc _ _) hp⟩
    · have q := (List.getElem?_eq_some_iff.mp e).1
      rw [List.length_append, List.length_singleton] at q
      have hk' : k = S.length := by omega
      subst hk'
      rw [List.getElem?_append_right (Nat.le_refl _), Nat.sub_self] at e
      obtain rfl : ob = o' := Option.some.inj e
      exact ⟨p, by rw [List.getElem?_append_right (by rw [R.len]; exact Nat.le_refl _), R.len, Nat.sub_self] <;> rfl, h⟩
  · rcases lt e1 with h1 | ⟨h1, h1'⟩ <;> rcases lt e2 with h2 | ⟨h2, h2'⟩
    · rcases R.inj k m a hne (old h1 e1) (old h2 e2) with ⟨o, q1, q2⟩ | ⟨o, q1, q2⟩
      · exact .inl ⟨o, up q1, q2⟩
      · exact .inr ⟨o, up q1, q2⟩
    · subst h2'
      obtain ⟨o, q1, q2⟩ := frz h1 (old h1 e1)
      exact .inl ⟨o, up q1, q2⟩
    · subst h1'
      obtain ⟨o, q1, q2⟩ := frz h2 (old h2 e2)
      exact .inr ⟨o, up q1, q2⟩
    · omega
/-- the object at a place changes -/
theorem RelS.put (R : RelS g ro S H) {n : Nat} {a : Addr} {o ob : Ob} {u u' : HO} (hn : ro[n]? = some a) (hS : S[n]? = some o) (nf : ¬ isFrz o) (nf' : ¬ isFrz ob) (hu : H a = some u) (h : RelOb g ro (upd H a u') a ob)
    (nu : (∀ vs, u ≠ .tup vs) ∧ (∀ ps, u ≠ .tbl ps) ∧ ∀ f, LamX.CodeO a f ≠ u) : RelS g ro (S.set n ob) (upd H a u') := by
  have ex : TExt H (upd H a u') := .put hu nu.1
  have nS : n < S.length := (List.getElem?_eq_some_iff.mp hS).1
  refine ⟨by simp [R.len], fun k o' e => ?_, fun k m b hne e1 e2 => ?_, fun p hp => ?_⟩
  · by_cases hk : k = n
    · subst hk
      rw [List.getElem?_set_self nS] at e
      obtain rfl : ob = o' := Option.some.inj e
      exact ⟨a, hn, h⟩
    · rw [List.getElem?_set_ne (Ne.symm hk)] at e
      obtain ⟨b, h1, h2⟩ := R.ob k o' e
      refine ⟨b, h1, ?_⟩
      by_cases hb : b = a
      · subst hb
        have fz : ∃ xs, o' = .frz xs := by
          rcases R.inj k n b hk h1 hn with ⟨q, q1, q2⟩ | ⟨q, q1, q2⟩
          · rw [e] at q1
            obtain rfl : o' = q := Option.some.inj q1
            cases o' with
            | frz xs => exact ⟨xs, rfl⟩
            | _ => exact q2.elim
          · rw [hS] at q1
            obtain rfl : o = q := Option.some.inj q1
            exact (nf q2).elim
        obtain ⟨xs, rfl⟩ := fz
        obtain ⟨vs, r, q⟩ := h2
        refine ⟨vs, RelDs.mono (.refl _) ex _ _ r, ?_⟩
        rcases q with ⟨ob', q⟩ | q
        · exfalso
          -- a place that isn't only read bears no known list
          have z := R.at hn hS
          cases o with
          | lst xs => obtain ⟨_, _, q'⟩ := z; rw [q] at q'; cases q'
          | frz xs => exact nf trivial
          | dic t lk kvs =>
            cases t <;> cases lk
            · obtain ⟨_, _, q'⟩ := (show ∃ ws, RelKV ro H kvs ws ∧ AtL H b false (.dK ws) from z); have q' : H b = _ := q'; rw [q] at q'; cases q'
            · obtain ⟨_, _, _, q'⟩ := (show ∃ ws, RelKV ro H kvs ws ∧ AtL H b true (.dK ws) from z); rw [q] at q'; cases q'
            · obtain ⟨_, _, q'⟩ := (show ∃ ws, RelTV ro H kvs ws ∧ AtL H b false (.dT ws) from z); have q' : H b = _ := q'; rw [q] at q'; cases q'
            · obtain ⟨_, _, _, q'⟩ := (show ∃ ws, RelTV ro H kvs ws ∧ AtL H b true (.dT ws) from z); rw [q] at q'; cases q'
          | ins c fs => obtain ⟨_, _, _, q'⟩ := z; rw [q] at q'; cases q'
        · exact .inr q
      · exact h2.mono (.refl _) ex (upd_ne hb)
  · have tr : ∀ {k : Nat}, (∃ o, S[k]? = some o ∧ isFrz o) → ∃ o, (S.set n ob)[k]? = some o ∧ isFrz o := fun {k} ⟨q, q1, q2⟩ => by
      have hk : n ≠ k := fun z => by
        subst z
        rw [hS] at q1
        obtain rfl : o = q := Option.some.inj q1
        exact nf q2
      exact ⟨q, by rw [List.getElem?_set_ne hk]; exact q1, q2⟩
    exact (R.inj k m b hne e1 e2).imp tr tr
  · obtain ⟨ps, h1, h2, h3⟩ := R.tabs p hp
    refine ⟨ps, ?_, h2, fun pos cv hc => ?_⟩
    · rw [upd_ne fun z => nu.2.1 ps (by rw [z, hu] at h1; exact Option.some.inj h1)]
      exact h1
    · obtain ⟨c, e1, e2⟩ := h3 pos cv hc
      refine ⟨c, e1, ?_⟩
      rw [upd_ne fun z => nu.2.2 p.2 (by subst z; rw [hu] at e2; exact (Option.some.inj e2).symm)]
      exact e2
end
/-- kinds apart -/
def Nu (a : Addr) (u : HO) : Prop := (∀ vs, u ≠ .tup vs) ∧ (∀ ps, u ≠ .tbl ps) ∧ ∀ f, LamX.CodeO a f ≠ u
theorem nu_lst {a : Addr} {xs : List V} : Nu a (.lst xs) := by refine ⟨?_, ?_, ?_⟩ <;> intro _ z <;> cases z
theorem nu_ins {a C dx : Addr} {xs : List (Str × V)} : Nu a (.ins C dx xs) := by refine ⟨?_, ?_, ?_⟩ <;> intro _ z <;> cases z
theorem nu_dK {a : Addr} {xs : List (L2.Key × V)} : Nu a (.dK xs) := by refine ⟨?_, ?_, ?_⟩ <;> intro _ z <;> cases z
theorem nu_dT {a : Addr} {xs : List (List L2.Key × V)} : Nu a (.dT xs) := by refine ⟨?_, ?_, ?_⟩ <;> intro _ z <;> cases z
theorem nu_frz {a : Addr} {o : Obj} {u : HO} : Nu a (.frz o u) := by refine ⟨?_, ?_, ?_⟩ <;> intro _ z <;> cases z
theorem lst_tup {xs : List V} : ∀ vs, HO.lst xs ≠ .tup vs := by intro _ z; cases z
theorem ins_tup {C dx : Addr} {xs : List (Str × V)} : ∀ vs, HO.ins C dx xs ≠ .tup vs := by intro _ z; cases z
theorem dK_tup {xs : List (L2.Key × V)} : ∀ vs, HO.dK xs ≠ .tup vs := by intro _ z; cases z
theorem dT_tup {xs : List (List L2.Key × V)} : ∀ vs, HO.dT xs ≠ .tup vs := by intro _ z; cases z
theorem lst_frz {xs : List V} : ∀ o u, HO.lst xs ≠ .frz o u := by intro _ _ z; cases z
theorem ins_frz {C dx : Addr} {xs : List (Str × V)} : ∀ o u, HO.ins C dx xs ≠ .frz o u := by intro _ _ z; cases z
theorem dK_frz {xs : List (L2.Key × V)} : ∀ o u, HO.dK xs ≠ .frz o u := by intro _ _ z; cases z
theorem dT_frz {xs : List (List L2.Key × V)} : ∀ o u, HO.dT xs ≠ .frz o u := by intro _ _ z; cases z
end MP

namespace MP
open PySem L2
/-- a raised exception: its class, its own dict -/
def RelX (g : G) (ro : List Addr) (H : Hp) (x : Exc) (c : Value) (d : Option Addr) : Prop :=
  c = .ref (g.ecls x.c) ∧ match x.p with
    | [] => d = none
    | [v] => ∃ dd u, d = some dd ∧ H dd = some (.xd [(("house" : Str), u)]) ∧ RelD ro H v u
    | _ => False
section
variable {α β γ δ : Type}
/-- what is wanted behind a computation -/
def Post (RA : List Addr → Hp → α → β → Prop) (g : G) (E : XK) (ro : List Addr) (H : Hp) (Q : β → Hp → Prop) : R α → Prop
  | .ok d S => ∀ (ro' : List Addr) (H' : Hp) (v : β), Gr ro ro' → Ext H H' → RelS g ro' S H' → RA ro' H' d v → Q v H'
  | .exc x S => ∀ (ro' : List Addr) (H' : Hp) (c : Value) (dd : Option Addr), Gr ro ro' → Ext H H' → RelS g ro' S H' → RelX g ro' H' x c dd → E c dd H'
  | .err => False
theorem Post.mono {RA : List Addr → Hp → α → β → Prop} {g : G} {E : XK} {ro ro' : List Addr} {H H' : Hp} {Q : β → Hp → Prop} {r : R α} (gr : Gr ro ro') (ex : Ext H H') (h : Post RA g E ro H Q r) : Post RA g E ro' H' Q r := by
  cases r with
  | ok d S => exact fun ro1 H1 v a b => h ro1 H1 v (gr.trans a) (ex.trans b)
  | exc x S => exact fun ro1 H1 c dd a b => h ro1 H1 c dd (gr.trans a) (ex.trans b)
  | err => exact h
/-- one computation behind another -/
theorem Post.bind {RA : List Addr → Hp → α → β → Prop} {RB : List Addr → Hp → γ → δ → Prop} {g : G} {E : XK} {ro : List Addr} {H : Hp} {Q : δ → Hp → Prop} {Q' : β → Hp → Prop} {r : R α} {f : α → Sto → R γ}
    (h : Post RB g E ro H Q (r.bind f)) (k : ∀ (d : α) (S : Sto) (ro' : List Addr) (H' : Hp) (v : β), Gr ro ro' → Ext H H' → RelS g ro' S H' → RA ro' H' d v → Post RB g E ro' H' Q (f d S) → Q' v H') : Post RA g E ro H Q' r := by
  cases r with
  | ok d S => exact fun ro' H' v a b c e => k d S ro' H' v a b c e (Post.mono a b h)
  | exc x S => exact h
  | err => exact h
/-- the reading of a computation -/
def rd (RA : List Addr → Hp → α → β → Prop) (g : G) (E : XK) (m : Loc → Sto → R α) : St → Hp → (β → Hp → Prop) → Prop := fun s H Q =>
  ∃ (ro : List Addr) (L : Loc) (S : Sto), RelL ro H L s ∧ RelS g ro S H ∧ Post RA g E ro H Q (m L S)
end
abbrev RelB : List Addr → Hp → Bool → Bool → Prop := fun _ _ a b => a = b
abbrev rdE := rd RelD
abbrev rdA := rd RelDs
abbrev rdT := rd RelB
/-- the context that a body is walked in -/
structure Ctx (g : G) (E : XK) (X : Cx) : Prop where
  P : X.prog = g.P
  w : X.w = g.w
  K : X.K = g.K
  mg : X.mg = g.mg
  base : X.base = g.base
  takes : L2N.Takes X fun c d _ H => E c d H
  units : X.A.units + 66 < cLine
structure SE (X : Cx) (g : G) (E : XK) (e : Expr) (m : EM) : Prop where
  run : PE X e (rdE g E m)
structure SA (X : Cx) (g : G) (E : XK) (es : List Expr) (m : AM) : Prop where
  run : PA X es (rdA g E m)
structure ST (X : Cx) (g : G) (E : XK) (e : Expr) (m : BM) : Prop where
  run : PT X e (rdT g E m)
structure SW (X : Cx) (g : G) (E : XK) (e : Expr) (m : BM) : Prop where
  run : PW X e (rdT g E m)
theorem pe_imp {X : Cx} {e : Expr} {t t' : TE} (h : PE X e t) (i : ∀ s H Q, t' s H Q → t s H Q) : PE X e t' := ⟨fun pins s σ H Q I q => h.run pins s σ H Q I (i _ _ _ q)⟩
theorem pa_imp {X : Cx} {e : List Expr} {t t' : TA} (h : PA X e t) (i : ∀ s H Q, t' s H Q → t s H Q) : PA X e t' := ⟨fun pos pins s σ H Q I q => h.run pos pins s σ H Q I (i _ _ _ q)⟩
theorem pt_imp {X : Cx} {e : Expr} {t t' : TT} (h : PT X e t) (i : ∀ s H Q, t' s H Q → t s H Q) : PT X e t' := ⟨fun pins s σ H Q I q => h.run pins s σ H Q I (i _ _ _ q)⟩
theorem pw_imp {X : Cx} {e : Expr} {t t' : TT} (h : PW X e t) (i : ∀ s H Q, t' s H Q → t s H Q) : PW X e t' := ⟨fun wh pins s σ H Q I q => h.run wh pins s σ H Q I (i _ _ _ q)⟩
theorem ps_imp {X : Cx} {e : Stmt} {t t' : TS} (h : PS X e t) (i : ∀ D s H, t' D s H → t D s H) : PS X e t' := ⟨fun pins s σ H D I q => h.run pins s σ H D I (i _ _ _ q)⟩
theorem pss_imp {X : Cx} {e : List Stmt} {t t' : TS} (h : PSs X e t) (i : ∀ D s H, t' D s H → t D s H) : PSs X e t' := ⟨fun pins s σ H D I q => h.run pins s σ H D I (i _ _ _ q)⟩

/-! ### operations by values -/
def r2 (g : G) (E : XK) (f : Op2) : R2 := fun x y H Q => ∃ (ro : List Addr) (S : Sto) (dx dy : D), RelS g ro S H ∧ RelD ro H dx x ∧ RelD ro H dy y ∧ Post RelD g E ro H Q (f dx dy S)
def r1 (g : G) (E : XK) (f : Op1) : V → Hp → VK → Prop := fun x H Q => ∃ (ro : List Addr) (S : Sto) (dx : D), RelS g ro S H ∧ RelD ro H dx x ∧ Post RelD g E ro H Q (f dx S)
def O2 (X : Cx) (g : G) (E : XK) (k : Value → Value → Sem Value) (f : Op2) : Prop := OpR X k (r2 g E f)
section
variable {X : Cx} {g : G} {E : XK} {a b c e : Expr} {ma mb mc : EM} {pos : Pos}
theorem rd_bin {f : Op2} {s : St} {H : Hp} {Q : VK} {r : R2} (hr : ∀ x y H Q, r2 g E f x y H Q → r x y H Q) (h : rdE g E (eBin f ma mb) s H Q) : L2.tOp r (rdE g E ma) (rdE g E mb) s H Q := by
  obtain ⟨ro, L, S, hL, hS, h⟩ := h
  refine ⟨ro, L, S, hL, hS, Post.bind h fun d S1 ro1 H1 v gr ex hS1 rv h => ?_⟩
  refine ⟨ro1, L, S1, hL.mono gr ex, hS1, Post.bind h fun d2 S2 ro2 H2 v2 gr2 ex2 hS2 rv2 h => ?_⟩
  exact hr _ _ _ _ ⟨ro2, S2, d, d2, hS2, rv.mono gr2 ex2, rv2, h⟩
theorem se_bin {op : Operator} {f : Op2} (ho : O2 X g E (binaryOp op) f) (ha : SE X g E a ma) (hb : SE X g E b mb) : SE X g E (.BinOp a op b pos) (eBin f ma mb) :=
  ⟨pe_imp (pe_op ho ha.run hb.run) fun _ _ _ h => rd_bin (fun _ _ _ _ z => z) h⟩
theorem se_cmp {op : CmpOp} {f : Op2} (ho : O2 X g E (compareOp op) f) (ha : SE X g E a ma) (hb : SE X g E b mb) (hm : behindInMarks op b = false) : SE X g E (.Compare a [op] [b] pos) (eBin f ma mb) :=
  ⟨pe_imp (pe_cmpR ho ha.run hb.run hm) fun _ _ _ h => rd_bin (fun _ _ _ _ z => z) h⟩
/-- a test by its value -/
theorem rd_tv {m : EM} {s : St} {H : Hp} {Q : Bool → Hp → Prop} (h : rdT g E (tV m) s H Q) : rdE g E m s H fun x H1 => ∃ k, x = .bl k ∧ Q k H1 := by
  obtain ⟨ro, L, S, hL, hS, h⟩ := h
  refine ⟨ro, L, S, hL, hS, Post.bind h fun d S1 ro1 H1 v gr ex hS1 rv h => ?_⟩
  cases d with
  | bl k => exact ⟨k, rv.bl_inv, h ro1 H1 k (.refl _) (.refl _) hS1 rfl⟩
  | _ => exact h.elim
theorem st_cmp {op : CmpOp} {f : Op2} (ho : O2 X g E (compareOp op) f) (ha : SE X g E a ma) (hb : SE X g E b mb) (hm : behindInMarks op b = false) : ST X g E (.Compare a [op] [b] pos) (tV (eBin f ma mb)) :=
  ⟨pt_imp (pt_cmpR ho ha.run hb.run hm) fun _ _ _ h => by
    obtain ⟨ro, L, S, hL, hS, h⟩ := rd_tv h
    exact rd_bin (fun _ _ _ _ z => z) ⟨ro, L, S, hL, hS, h⟩⟩
theorem st_val (ha : SE X g E a ma) (he : ∀ whole, isTrue a X.env whole = (do let v ← whole; standAt a.pos; holding [v] (truthy v)) := by intro _; rfl) : ST X g E a (tV ma) :=
  ⟨pt_imp (pt_val ha.run he) fun _ _ _ h => rd_tv h⟩

/-! ### names, constants -/
theorem se_var (i : Nat) {x : Str} {pos : Pos} (hN : X.N[i]? = some x := by rfl) (hv : Vis X.env.scope x := by first | exact Or.inl rfl | exact Or.inr (Or.inl rfl) | exact Or.inr (Or.inr rfl)) (hd : (x == ("__debug__" : Str)) = false := by decide)
    (hcd : (x == ("__classdict__" : Str)) = false := by decide) : SE X g E (.Name x pos) (eV i) := ⟨pe_imp (pe_var hN hv hd hcd) fun s H Q h => by
  obtain ⟨ro, L, S, hL, hS, h⟩ := h
  unfold eV at h
  split at h
  · rename_i d e
    obtain ⟨v, e1, r⟩ := hL.get e
    exact ⟨v, e1, h ro H v (.refl _) (.refl _) hS r⟩
  · exact h.elim⟩
theorem se_int {i : Int} {j : Nat} {pos : Pos} : SE X g E (.Constant (.int i) j pos) (eC (.int i)) := ⟨pe_imp pe_int fun s H Q ⟨ro, L, S, hL, hS, h⟩ => h ro H _ (.refl _) (.refl _) hS .int_mk⟩
theorem se_bl {i : Bool} {j : Nat} {pos : Pos} : SE X g E (.Constant (.bool i) j pos) (eC (.bl i)) := ⟨pe_imp pe_bl fun s H Q ⟨ro, L, S, hL, hS, h⟩ => h ro H _ (.refl _) (.refl _) hS .bl_mk⟩
theorem se_non {j : Nat} {pos : Pos} : SE X g E (.Constant .none j pos) (eC .non) := ⟨pe_imp pe_non fun s H Q ⟨ro, L, S, hL, hS, h⟩ => h ro H _ (.refl _) (.refl _) hS .non_mk⟩
theorem se_str {x : List Nat} {y : Str} {j : Nat} {pos : Pos} (e : y = ⟨x.toArray⟩ := by decide +kernel) (hx : okS x = true := by decide +kernel) : SE X g E (.Constant (.str y) j pos) (eC (.str x)) := ⟨pe_imp pe_str fun s H Q ⟨ro, L, S, hL, hS, h⟩ => by
  subst e
  refine h ro H _ (.refl _) (.refl _) hS (.str_mk fun c hc => ?_)
  simpa using List.all_eq_true.mp hx c hc⟩
/-- a constant of the module -/
theorem se_glob {x : Str} {d : D} {v : V} {u : Value} {pos : Pos} (hg : Gl X x) (hm : X.mg x = some u) (r : RelV v u) (rd : ∀ ro H, RelD ro H d v) (hd : (x == ("__debug__" : Str)) = false := by decide) : SE X g E (.Name x pos) (eC d) :=
  ⟨pe_imp (pe_glob hg hm r hd) fun s H Q ⟨ro, L, S, hL, hS, h⟩ => h ro H _ (.refl _) (.refl _) hS (rd _ _)⟩

/-! ### and, or, not, if -/
theorem se_one {op : BoolOp} (h : SE X g E a ma) : SE X g E (.BoolOp op [a] pos) ma := ⟨pe_one h.run⟩
theorem se_and {rest : List Expr} (ha : SE X g E a ma) (hb : SE X g E (.BoolOp .And (b :: rest) pos) mb) : SE X g E (.BoolOp .And (a :: b :: rest) pos) (eAnd ma mb) := ⟨pe_imp (pe_and ha.run hb.run) fun s H Q h => by
  obtain ⟨ro, L, S, hL, hS, h⟩ := h
  refine ⟨ro, L, S, hL, hS, Post.bind h fun d S1 ro1 H1 v gr ex hS1 rv h => ?_⟩
  cases d with
  | bl k =>
    refine ⟨k, rv.bl_inv, ?_⟩
    cases k with
    | true => rw [if_pos rfl]; exact ⟨ro1, L, S1, hL.mono gr ex, hS1, h⟩
    | false => rw [if_neg Bool.false_ne_true]; exact h ro1 H1 _ (.refl _) (.refl _) hS1 .bl_mk
  | _ => exact h.elim⟩
theorem se_or {rest : List Expr} (ha : SE X g E a ma) (hb : SE X g E (.BoolOp .Or (b :: rest) pos) mb) : SE X g E (.BoolOp .Or (a :: b :: rest) pos) (eOr ma mb) := ⟨pe_imp (pe_or ha.run hb.run) fun s H Q h => by
  obtain ⟨ro, L, S, hL, hS, h⟩ := h
  refine ⟨ro, L, S, hL, hS, Post.bind h fun d S1 ro1 H1 v gr ex hS1 rv h => ?_⟩
  cases d with
  | bl k =>
    refine ⟨k, rv.bl_inv, ?_⟩
    cases k with
    | true => rw [if_pos rfl]; exact h ro1 H1 _ (.refl _) (.refl _) hS1 .bl_mk
    | false => rw [if_neg Bool.false_ne_true]; exact ⟨ro1, L, S1, hL.mono gr ex, hS1, h⟩
  | _ => exact h.elim⟩
theorem se_not (ha : SE X g E a ma) : SE X g E (.UnaryOp .Not a pos) (eNot ma) := ⟨pe_imp (pe_not ha.run) fun s H Q h => by
  obtain ⟨ro, L, S, hL, hS, h⟩ := h
  refine ⟨ro, L, S, hL, hS, Post.bind h fun d S1 ro1 H1 v gr ex hS1 rv h => ?_⟩
  cases d with
  | bl k => exact ⟨k, rv.bl_inv, h ro1 H1 _ (.refl _) (.refl _) hS1 .bl_mk⟩
  | _ => exact h.elim⟩
theorem rd_if {t : BM} {s : St} {H : Hp} {Q : VK} (h : rdE g E (eIf t ma mb) s H Q) : rdT g E t s H fun c H1 => if c = true then rdE g E ma s H1 Q else rdE g E mb s H1 Q := by
  obtain ⟨ro, L, S, hL, hS, h⟩ := h
  refine ⟨ro, L, S, hL, hS, Post.bind h fun d S1 ro1 H1 v gr ex hS1 rv h => ?_⟩
  obtain rfl : d = v := rv
  cases d with
  | true => rw [if_pos rfl] at h ⊢; exact ⟨ro1, L, S1, hL.mono gr ex, hS1, h⟩
  | false => rw [if_neg Bool.false_ne_true] at h ⊢; exact ⟨ro1, L, S1, hL.mono gr ex, hS1, h⟩
theorem se_if {t : BM} (hc : ST X g E c t) (ha : SE X g E a ma) (hb : SE X g E b mb) : SE X g E (.IfExp c a b pos) (eIf t ma mb) := ⟨pe_imp (pe_ifExp hc.run ha.run hb.run) fun s H Q h => rd_if h⟩
theorem sw_one {op : BoolOp} {t : BM} (ha : ST X g E a t) : SW X g E (.BoolOp op [a] pos) t := ⟨by cases op; exact pw_and1 ha.run; exact pw_or1 ha.run⟩
theorem sw_and {rest : List Expr} {t u : BM} (ha : ST X g E a t) (hb : SW X g E (.BoolOp .And (b :: rest) pos) u) : SW X g E (.BoolOp .And (a :: b :: rest) pos) (tAnd t u) := ⟨pw_imp (pw_and ha.run hb.run) fun s H Q h => by
  obtain ⟨ro, L, S, hL, hS, h⟩ := h
  refine ⟨ro, L, S, hL, hS, Post.bind h fun d S1 ro1 H1 v gr ex hS1 rv h => ?_⟩
  obtain rfl : d = v := rv
  cases d with
  | true => rw [if_pos rfl] at h ⊢; exact ⟨ro1, L, S1, hL.mono gr ex, hS1, h⟩
  | false => rw [if_neg Bool.false_ne_true] at h ⊢; exact h ro1 H1 _ (.refl _) (.refl _) hS1 rfl⟩
theorem sw_or {rest : List Expr} {t u : BM} (ha : ST X g E a t) (hb : SW X g E (.BoolOp .Or (b :: rest) pos) u) : SW X g E (.BoolOp .Or (a :: b :: rest) pos) (tOr t u) := ⟨pw_imp (pw_or ha.run hb.run) fun s H Q h => by
  obtain ⟨ro, L, S, hL, hS, h⟩ := h
  refine ⟨ro, L, S, hL, hS, Post.bind h fun d S1 ro1 H1 v gr ex hS1 rv h => ?_⟩
  obtain rfl : d = v := rv
  cases d with
  | true => rw [if_pos rfl] at h ⊢; exact h ro1 H1 _ (.refl _) (.refl _) hS1 rfl
  | false => rw [if_neg Bool.false_ne_true] at h ⊢; exact ⟨ro1, L, S1, hL.mono gr ex, hS1, h⟩⟩
theorem st_bool {t : BM} (h : SW X g E a t) : ST X g E a t := ⟨h.run.pt⟩
theorem st_not {t : BM} (ha : ST X g E a t) : ST X g E (.UnaryOp .Not a pos) (tNot t) := ⟨pt_imp (pt_not ha.run) fun s H Q h => by
  obtain ⟨ro, L, S, hL, hS, h⟩ := h
  refine ⟨ro, L, S, hL, hS, Post.bind h fun d S1 ro1 H1 v gr ex hS1 rv h => ?_⟩
  obtain rfl : d = v := rv
  exact h ro1 H1 _ (.refl _) (.refl _) hS1 rfl⟩

/-! ### arguments, displays -/
theorem sa_nil : SA X g E [] aNil := ⟨pa_imp pa_nil fun s H Q ⟨ro, L, S, hL, hS, h⟩ => h ro H _ (.refl _) (.refl _) hS .nil⟩
theorem sa_cons {es : List Expr} {ms : AM} (ha : SE X g E e ma) (hr : SA X g E es ms) (hs : starEach (e :: es) X.env = (false, eval e X.env) :: starEach es X.env := by rfl) : SA X g E (e :: es) (aCons ma ms) := ⟨pa_imp (pa_cons ha.run hr.run hs) fun s H Q h => by
  obtain ⟨ro, L, S, hL, hS, h⟩ := h
  refine ⟨ro, L, S, hL, hS, Post.bind h fun d S1 ro1 H1 v gr ex hS1 rv h => ?_⟩
  refine ⟨ro1, L, S1, hL.mono gr ex, hS1, Post.bind h fun ds S2 ro2 H2 vs gr2 ex2 hS2 rv2 h => ?_⟩
  exact h ro2 H2 _ (.refl _) (.refl _) hS2 (.cons (rv.mono gr2 ex2) rv2)⟩
theorem sz_eq : sz = sizeLine := by rw [sizeLine_eq] <;> rfl
theorem se_tup {es : List Expr} {ms : AM} {x1 : Nat} (h : SA X g E es ms) : SE X g E (.Tuple es x1 pos) (eTup ms) := ⟨pe_imp (pe_tup h.run) fun s H Q h => by
  obtain ⟨ro, L, S, hL, hS, h⟩ := h
  refine ⟨ro, L, S, hL, hS, Post.bind h fun ds S1 ro1 H1 vs gr ex hS1 rv h => ?_⟩
  by_cases hz : ds.length ≤ sz
  · rw [if_pos hz] at h
    refine ⟨by rw [← rv.length, ← sz_eq]; exact hz, fun p hp => h ro1 _ _ (.refl _) (.new hp) (hS1.aside hp) (.tup_mk upd_same (rv.mono (.refl _) (.new hp)))⟩
  · rw [if_neg hz] at h
    exact h.elim⟩
theorem Post.push {g : G} {E : XK} {ro : List Addr} {H : Hp} {Q : VK} {S : Sto} {ob : Ob} {u : HO} {p : Addr} (h : Post RelD g E ro H Q (.ok (.ref S.length) (S ++ [ob]))) (R : RelS g ro S H) (hp : H p = none) (ho : RelOb g (ro ++ [p]) (upd H p u) p ob) : Q (.ref p) (upd H p u) :=
  h (ro ++ [p]) _ _ (.snoc _ _) (.new hp) (R.push hp ho) (.ref_mk (by rw [← R.len, List.getElem?_append_right (Nat.le_refl _), Nat.sub_self] <;> rfl))
theorem se_lst {es : List Expr} {ms : AM} (h : SA X g E es ms) : SE X g E (.List es pos) (eLst ms) := ⟨pe_imp (pe_lst h.run) fun s H Q h => by
  obtain ⟨ro, L, S, hL, hS, h⟩ := h
  refine ⟨ro, L, S, hL, hS, Post.bind h fun ds S1 ro1 H1 vs gr ex hS1 rv h => ?_⟩
  by_cases hz : ds.length ≤ sz
  · rw [if_pos hz] at h
    exact ⟨by rw [← rv.length, ← sz_eq]; exact hz, fun p hp => h.push hS1 hp ⟨vs, rv.mono (.snoc _ _) (.new hp), upd_same⟩⟩
  · rw [if_neg hz] at h
    exact h.elim⟩
theorem se_dicK : SE X g E (.Dict [] [] pos) (eDic false) := ⟨pe_imp pe_dnewK fun s H Q ⟨ro, L, S, hL, hS, h⟩ p hp => h.push hS hp (show ∃ ws, RelKV _ _ [] ws ∧ AtL _ p false (.dK ws) from ⟨[], .nil, upd_same⟩)⟩
theorem se_dicT : SE X g E (.Dict [] [] pos) (eDic true) := ⟨pe_imp pe_dnewT fun s H Q ⟨ro, L, S, hL, hS, h⟩ p hp => h.push hS hp (show ∃ ws, RelTV _ _ [] ws ∧ AtL _ p false (.dT ws) from ⟨[], .nil, upd_same⟩)⟩
end
end MP

namespace MP
open PySem L2
/-- what is wanted behind a statement -/
def PostS (g : G) (E : XK) (ro : List Addr) (H : Hp) (D : Ends) : RS → Prop
  | .nx L S => ∀ (ro' : List Addr) (H' : Hp) (s : St), Gr ro ro' → Ext H H' → RelS g ro' S H' → RelL ro' H' L s → D.nx s H'
  | .rt d S => ∀ (ro' : List Addr) (H' : Hp) (v : V), Gr ro ro' → Ext H H' → RelS g ro' S H' → RelD ro' H' d v → D.rt v H'
  | .bk L S => ∀ (ro' : List Addr) (H' : Hp) (s : St), Gr ro ro' → Ext H H' → RelS g ro' S H' → RelL ro' H' L s → D.bk s H'
  | .ct L S => ∀ (ro' : List Addr) (H' : Hp) (s : St), Gr ro ro' → Ext H H' → RelS g ro' S H' → RelL ro' H' L s → D.ct s H'
  | .exc x _ S => ∀ (ro' : List Addr) (H' : Hp) (c : Value) (dd : Option Addr), Gr ro ro' → Ext H H' → RelS g ro' S H' → RelX g ro' H' x c dd → E c dd H'
  | .err => False
theorem PostS.mono {g : G} {E : XK} {ro ro' : List Addr} {H H' : Hp} {D : Ends} {r : RS} (gr : Gr ro ro') (ex : Ext H H') (h : PostS g E ro H D r) : PostS g E ro' H' D r := by
  cases r with
  | err => exact h
  | exc x L S => exact fun ro1 H1 c dd a b => h ro1 H1 c dd (gr.trans a) (ex.trans b)
  | _ => exact fun ro1 H1 s a b => h ro1 H1 s (gr.trans a) (ex.trans b)
/-- a statement that begins with an expression -/
theorem PostS.st {α β : Type} {RA : List Addr → Hp → α → β → Prop} {g : G} {E : XK} {ro : List Addr} {H : Hp} {D : Ends} {Q' : β → Hp → Prop} {r : R α} {L : Loc} {f : α → Sto → RS}
    (h : PostS g E ro H D (r.st L f)) (k : ∀ (d : α) (S : Sto) (ro' : List Addr) (H' : Hp) (v : β), Gr ro ro' → Ext H H' → RelS g ro' S H' → RA ro' H' d v → PostS g E ro' H' D (f d S) → Q' v H') : Post RA g E ro H Q' r := by
  cases r with
  | ok d S => exact fun ro' H' v a b c e => k d S ro' H' v a b c e (PostS.mono a b h)
  | exc x S => exact h
  | err => exact h
def rdS (g : G) (E : XK) (m : SM) : TS := fun D s H => ∃ (ro : List Addr) (L : Loc) (S : Sto), RelL ro H L s ∧ RelS g ro S H ∧ PostS g E ro H D (m L S)
structure SS (X : Cx) (g : G) (E : XK) (st : Stmt) (m : SM) : Prop where
  run : PS X st (rdS g E m)
structure SSs (X : Cx) (g : G) (E : XK) (st : List Stmt) (m : SM) : Prop where
  run : PSs X st (rdS g E m)
/-- what is wanted of a target -/
def PostG (g : G) (ro : List Addr) (H : Hp) (Q : St → Hp → Prop) : R Loc → Prop
  | .ok L S => ∀ (ro' : List Addr) (H' : Hp) (s : St), Gr ro ro' → Ext H H' → RelS g ro' S H' → RelL ro' H' L s → Q s H'
  | _ => False
def rdG (g : G) (t : TM) : TG := fun v s H Q => ∃ (ro : List Addr) (L : Loc) (S : Sto) (d : D), RelL ro H L s ∧ RelS g ro S H ∧ RelD ro H d v ∧ PostG g ro H Q (t d L S)
def rdGs (g : G) (t : List D → Loc → Sto → R Loc) : TGs := fun vs s H Q => ∃ (ro : List Addr) (L : Loc) (S : Sto) (ds : List D), RelL ro H L s ∧ RelS g ro S H ∧ RelDs ro H ds vs ∧ PostG g ro H Q (t ds L S)
theorem PostG.mono {g : G} {ro ro' : List Addr} {H H' : Hp} {Q : St → Hp → Prop} {r : R Loc} (gr : Gr ro ro') (ex : Ext H H') (h : PostG g ro H Q r) : PostG g ro' H' Q r := by
  cases r with
  | ok L S => exact fun ro1 H1 s a b => h ro1 H1 s (gr.trans a) (ex.trans b)
  | _ => exact h
structure SG (X : Cx) (g : G) (tg : Expr) (t : TM) : Prop where
  run : PG X tg (rdG g t)
structure SGs (X : Cx) (g : G) (ts : List Expr) (t : List D → Loc → Sto → R Loc) : Prop where
  run : PGs X ts (rdGs g t)
section
variable {X : Cx} {g : G} {E : XK} {e c o : Expr} {m : EM} {st : Stmt} {rest : List Stmt} {a b : SM} {pos pos' : Pos}
theorem pg_imp {tg : Expr} {t t' : TG} (h : PG X tg t) (i : ∀ v s H Q, t' v s H Q → t v s H Q) : PG X tg t' := ⟨fun pins s σ H v u Q I r q => h.run pins s σ H v u Q I r (i _ _ _ _ q)⟩
theorem pgs_imp {tg : List Expr} {t t' : TGs} (h : PGs X tg t) (i : ∀ v s H Q, t' v s H Q → t v s H Q) : PGs X tg t' := ⟨fun pins s σ H v u Q I r q => h.run pins s σ H v u Q I r (i _ _ _ _ q)⟩
theorem ss_nil : SSs X g E [] sNx := ⟨pss_imp pss_nil fun D s H ⟨ro, L, S, hL, hS, h⟩ => h ro H s (.refl _) (.refl _) hS hL⟩
theorem ss_pass : SS X g E (.Pass pos) sNx := ⟨ps_imp ps_pass fun D s H ⟨ro, L, S, hL, hS, h⟩ => h ro H s (.refl _) (.refl _) hS hL⟩
theorem ss_brk : SS X g E (.Break pos) sBrk := ⟨ps_imp ps_break fun D s H ⟨ro, L, S, hL, hS, h⟩ => h ro H s (.refl _) (.refl _) hS hL⟩
theorem ss_cnt : SS X g E (.Continue pos) sCnt := ⟨ps_imp ps_continue fun D s H ⟨ro, L, S, hL, hS, h⟩ => h ro H s (.refl _) (.refl _) hS hL⟩
theorem ss_one (h : SS X g E st a) : SSs X g E [st] a := ⟨pss_one h.run⟩
theorem ss_cons (h1 : SS X g E st a) (h2 : SSs X g E rest b) : SSs X g E (st :: rest) (sSeq a b) := ⟨pss_imp (pss_cons h1.run h2.run) fun D s H ⟨ro, L, S, hL, hS, h⟩ => by
  refine ⟨ro, L, S, hL, hS, ?_⟩
  unfold sSeq at h
  cases q : a L S with
  | nx L1 S1 =>
    rw [q] at h
    exact fun ro' H' s' gr ex R r => ⟨ro', L1, S1, r, R, PostS.mono gr ex h⟩
  | rt d S1 => rw [q] at h; exact h
  | bk L1 S1 => rw [q] at h; exact h
  | ct L1 S1 => rw [q] at h; exact h
  | exc x L1 S1 => rw [q] at h; exact h
  | err => rw [q] at h; exact h⟩
theorem ss_expr (he : SE X g E e m) (hs : swapsWith e none pos.line X.env = pure false := by rfl) : SS X g E (.Expr e pos) (sExpr m) := ⟨ps_imp (ps_expr he.run hs) fun D s H ⟨ro, L, S, hL, hS, h⟩ =>
  ⟨ro, L, S, hL, hS, PostS.st h fun d S1 ro1 H1 v gr ex hS1 rv h => h ro1 H1 s (.refl _) (.refl _) hS1 (hL.mono gr ex)⟩⟩
theorem ss_doc {x : Str} {j : Nat} : SS X g E (.Expr (.Constant (.str x) j pos') pos) sNx := ⟨ps_imp ps_doc fun D s H ⟨ro, L, S, hL, hS, h⟩ => h ro H s (.refl _) (.refl _) hS hL⟩
theorem ss_ret (he : SE X g E e m) : SS X g E (.Return (some e) pos) (sRet m) := ⟨ps_imp (ps_ret he.run) fun D s H ⟨ro, L, S, hL, hS, h⟩ =>
  ⟨ro, L, S, hL, hS, PostS.st h fun d S1 ro1 H1 v gr ex hS1 rv h => h ro1 H1 v (.refl _) (.refl _) hS1 rv⟩⟩
theorem ss_retN : SS X g E (.Return none pos) sRetN := ⟨ps_imp ps_retN fun D s H ⟨ro, L, S, hL, hS, h⟩ => h ro H _ (.refl _) (.refl _) hS .non_mk⟩
theorem ss_if {t : BM} {p q : List Stmt} (hc : ST X g E c t) (ha : SSs X g E p a) (hb : SSs X g E q b) : SS X g E (.If c p q pos) (sIf t a b) := ⟨ps_imp (ps_if hc.run ha.run hb.run) fun D s H ⟨ro, L, S, hL, hS, h⟩ =>
  ⟨ro, L, S, hL, hS, PostS.st h fun d S1 ro1 H1 v gr ex hS1 rv h => by
    obtain rfl : d = v := rv
    cases d with
    | true => rw [if_pos rfl] at h ⊢; exact ⟨ro1, L, S1, hL.mono gr ex, hS1, h⟩
    | false => rw [if_neg Bool.false_ne_true] at h ⊢; exact ⟨ro1, L, S1, hL.mono gr ex, hS1, h⟩⟩⟩

/-! ### targets -/
theorem sg_name (i : Nat) {x : Str} (hN : X.N.Nodup) (hi : X.N[i]? = some x := by rfl) (hx : L2.Loc X.env.scope x := by first | exact Or.inl rfl | exact Or.inr rfl) (hf : X.fn x = true ∨ X.env.scope.names.lookup x = some .local := by first | exact Or.inl rfl | exact Or.inr rfl) : SG X g (.Name x pos) (gV i) :=
  ⟨pg_imp (pg_name hN hi hx hf) fun v s H Q ⟨ro, L, S, d, hL, hS, rv, h⟩ => h ro H _ (.refl _) (.refl _) hS (hL.set i rv)⟩
theorem sgs_nil : SGs X g [] gNil := ⟨pgs_imp pgs_nil fun v s H Q ⟨ro, L, S, ds, hL, hS, rv, h⟩ => by
  unfold MP.gNil at h
  split at h
  · rename_i e
    subst e
    exact ⟨rv.inv0, h ro H _ (.refl _) (.refl _) hS hL⟩
  · exact h.elim⟩
theorem sgs_cons {es : List Expr} {t : TM} {u : List D → Loc → Sto → R Loc} (h1 : SG X g e t) (h2 : SGs X g es u) (hs : (assignEach (e :: es) X.env).map (·.2) = assign e X.env :: (assignEach es X.env).map (·.2) := by rfl) : SGs X g (e :: es) (gCons t u) :=
  ⟨pgs_imp (pgs_cons h1.run h2.run hs) fun v s H Q ⟨ro, L, S, ds, hL, hS, rv, h⟩ => by
    unfold MP.gCons at h
    cases ds with
    | nil => exact h.elim
    | cons d ds =>
      obtain ⟨x, r, rfl, r1, r2⟩ := rv.inv
      refine ⟨x, r, rfl, ro, L, S, d, hL, hS, r1, ?_⟩
      simp only at h
      cases q : t d L S with
      | ok L1 S1 =>
        rw [q] at h
        exact fun ro' H' s' gr ex R rl => ⟨ro', L1, S1, ds, rl, R, r2.mono gr ex, PostG.mono gr ex h⟩
      | exc x S1 => rw [q] at h; exact h
      | err => rw [q] at h; exact h⟩
theorem sg_tup {es : List Expr} {k : Nat} {u : List D → Loc → Sto → R Loc} {n : Nat} (hc : X.calm = true) (h : SGs X g es u) (hn : (assignEach es X.env).length = n := by rfl) (hst : (assignEach es X.env).findIdx? (·.1) = none := by rfl) : SG X g (.Tuple es k pos) (gTup n u) :=
  ⟨pg_imp (pg_tup hc h.run hn hst) fun v s H Q ⟨ro, L, S, d, hL, hS, rv, h⟩ => by
    cases d with
    | tup ds =>
      obtain ⟨a, vs, rfl, ha, r⟩ := rv.tup_inv
      unfold MP.gTup at h
      simp only at h
      split at h
      · rename_i hn
        exact ⟨a, vs, rfl, SqT.of ha, by rw [← r.length]; exact hn, ro, L, S, ds, hL, hS, r, h⟩
      · exact h.elim
    | _ => exact h.elim⟩
theorem ss_asg {tg : Expr} {t : TM} (he : SE X g E e m) (hg : SG X g tg t) (hs : swapsWithSole [tg] e pos.line X.env = pure false := by rfl) (hw : swappedStores [tg] e X.env = pure none := by rfl) (h1 : (assignEach [tg] X.env).map (·.2) = [assign tg X.env] := by rfl) :
    SS X g E (.Assign [tg] e pos) (sAsg m t) := ⟨ps_imp (ps_asg he.run hg.run hs hw h1) fun D s H ⟨ro, L, S, hL, hS, h⟩ =>
  ⟨ro, L, S, hL, hS, PostS.st h fun d S1 ro1 H1 v gr ex hS1 rv h => ⟨ro1, L, S1, d, hL.mono gr ex, hS1, rv, by
    cases q : t d L S1 with
    | ok L1 S2 => rw [q] at h; exact h
    | exc x S2 => rw [q] at h; exact h
    | err => rw [q] at h; exact h⟩⟩⟩
/-- name = e -/
theorem ss_set (i : Nat) {x : Str} {pos2 : Pos} (hN : X.N.Nodup) (he : SE X g E e m) (hi : X.N[i]? = some x := by rfl) (hx : L2.Loc X.env.scope x := by first | exact Or.inl rfl | exact Or.inr rfl) (hs : swapsWith e (some (.Name x pos2)) pos.line X.env = pure false := by rfl)
    (hf : X.fn x = true ∨ X.env.scope.names.lookup x = some .local := by first | exact Or.inl rfl | exact Or.inr rfl) : SS X g E (.Assign [.Name x pos2] e pos) (sAsg m (gV i)) := ⟨ps_imp (ps_set hN hi hx he.run hs hf) fun D s H ⟨ro, L, S, hL, hS, h⟩ =>
  ⟨ro, L, S, hL, hS, PostS.st h fun d S1 ro1 H1 v gr ex hS1 rv h => h ro1 H1 _ (.refl _) (.refl _) hS1 ((hL.mono gr ex).set i rv)⟩⟩
/-- a, b = x, y: two names -/
theorem ss_par2 {i j : Nat} {x y : Str} {p q : Expr} {mp mq : EM} {px py pt : Pos} {kt k2 : Nat} {pt2 : Pos} (hc : X.calm = true) (hN : X.N.Nodup) (hp : SE X g E p mp) (hq : SE X g E q mq) (hij : i ≠ j) (hi : X.N[i]? = some x := by rfl) (hj : X.N[j]? = some y := by rfl)
    (hx : X.env.scope.names.lookup x = some .local := by rfl) (hy : X.env.scope.names.lookup y = some .local := by rfl)
    (hw : swappedStores [.Tuple [.Name x px, .Name y py] kt pt] (.Tuple [p, q] k2 pt2) X.env = pure (some [x, y]) := by rfl) (hs : swapsWithSole [.Tuple [.Name x px, .Name y py] kt pt] (.Tuple [p, q] k2 pt2) pos.line X.env = pure false := by rfl)
    (h1 : starEach [p, q] X.env = (false, eval p X.env) :: starEach [q] X.env := by rfl) (h2 : starEach [q] X.env = (false, eval q X.env) :: starEach [] X.env := by rfl) :
    SS X g E (.Assign [.Tuple [.Name x px, .Name y py] kt pt] (.Tuple [p, q] k2 pt2) pos) (sAsg (eTup (aCons mp (aCons mq aNil))) (gTup 2 (gCons (gV i) (gCons (gV j) gNil)))) :=
  ⟨ps_imp (ps_par hc hN hi hj hij hx hy (sa_cons hp (sa_cons hq sa_nil h2) h1).run hw hs) fun D s H ⟨ro, L, S, hL, hS, h⟩ => by
    refine ⟨ro, L, S, hL, hS, ?_⟩
    unfold sAsg MP.eTup at h
    cases z : aCons mp (aCons mq aNil) L S with
    | ok ds S1 =>
      rw [z] at h
      simp only [R.bind_ok] at h
      intro ro1 H1 vs gr ex hS1 rv
      split at h
      · match ds with
        | [d1, d2] =>
          obtain ⟨v1, r, rfl, r1, rr⟩ := rv.inv
          obtain ⟨v2, r', rfl, r2, rr2⟩ := rr.inv
          cases rr2.inv0
          simp only [R.st_ok, MP.gTup, MP.gCons, MP.gV, MP.gNil, R.bind_ok, List.length_cons, List.length_nil, if_true] at h
          exact ⟨v1, v2, rfl, h ro1 H1 _ gr ex hS1 (((hL.mono gr ex).set i r1).set j r2)⟩
        | [] => exact absurd h (by simp [R.st_ok, MP.gTup, PostS])
        | [_] => exact absurd h (by simp [R.st_ok, MP.gTup, PostS])
        | _ :: _ :: _ :: _ => exact absurd h (by simp [R.st_ok, MP.gTup, PostS])
      · exact h.elim
    | exc x S1 => rw [z] at h; exact h
    | err => rw [z] at h; exact h⟩
end
end MP

namespace MP
open PySem L2
/-- the iterator tells the items as long as what is checked holds -/
def WkOk (g : G) (ro : List Addr) (H : Hp) (k : Wk) (J : It) : Prop :=
  ∀ (i : Nat) (ro' : List Addr) (S' : Sto) (H' : Hp), Gr ro ro' → Ext H H' → RelS g ro' S' H' → k.chk S' = true →
    (∀ d, k.items[i]? = some d → J.go i H' ∧ ∀ x H'', J.yld i H' x H'' → Ext H' H'' ∧ RelS g ro' S' H'' ∧ RelD ro' H'' d x) ∧ (i = k.items.length → J.stop i H')
theorem WkOk.mono {g : G} {ro ro' : List Addr} {H H' : Hp} {k : Wk} {J : It} (gr : Gr ro ro') (ex : Ext H H') (h : WkOk g ro H k J) : WkOk g ro' H' k J := fun i ro1 S1 H1 a b => h i ro1 S1 H1 (gr.trans a) (ex.trans b)
structure SI (X : Cx) (g : G) (E : XK) (tg iter : Expr) (w : WM) : Prop where
  run : PI X tg iter (rd (WkOk g) g E w)
section
variable {X : Cx} {g : G} {E : XK} {tg e a b : Expr} {m ma mb : EM} {pos p : Pos}
theorem pi_imp {iter : Expr} {t t' : TI} (h : PI X tg iter t) (i : ∀ s H Q, t' s H Q → t s H Q) : PI X tg iter t' := ⟨fun pins s σ H R I q => h.run pins s σ H R I (i _ _ _ q)⟩
theorem drop_at {α : Type} {l : List α} {i : Nat} (h : i < l.length) : ∃ x, l[i]? = some x ∧ l.drop i = x :: l.drop (i + 1) := ⟨l[i], List.getElem?_eq_getElem h, List.drop_eq_getElem_cons h⟩
theorem si_lst (hK : X.K = g.K) (ha : SE X g E a ma) : SI X g E tg a (wLst ma) := ⟨pi_imp (pi_list ha.run) fun s H Q ⟨ro, L, S, hL, hS, h⟩ => by
  refine ⟨ro, L, S, hL, hS, Post.bind h fun d S1 ro1 H1 v gr ex hS1 rv h => ?_⟩
  cases d with
  | ref n =>
    obtain ⟨p, hp, rfl⟩ := rv.ref_inv
    simp only at h
    split at h
    · rename_i xs e
      obtain ⟨vs, r, q⟩ := hS1.at hp e
      refine ⟨p, rfl, ⟨vs, SqL.of q⟩, h ro1 H1 _ (.refl _) (.refl _) hS1 fun i ro' S' H' gr' ex' R hk => ?_⟩
      have e' : S'[n]? = some (.lst xs) := of_decide_eq_true hk
      obtain ⟨us, r', q'⟩ := R.at (gr' _ _ hp) e'
      refine ⟨fun d hd => ?_, fun hi => ⟨us, SqL.of q', by rw [hi, r'.length]; exact Nat.le_refl _⟩⟩
      obtain ⟨v, h1, h2⟩ := r'.get hd
      refine ⟨⟨us, v, SqL.of q', h1⟩, fun x H'' ⟨e1, e2⟩ => ?_⟩
      subst e1
      have z := e2 us (SqL.of q')
      rw [h1] at z
      cases z
      exact ⟨.refl _, R, h2⟩
    · exact h.elim
  | _ => exact h.elim⟩
theorem si_tup (hK : X.K = g.K) (ha : SE X g E a ma) : SI X g E tg a (wTup ma) := ⟨pi_imp (pi_tup ha.run) fun s H Q ⟨ro, L, S, hL, hS, h⟩ => by
  refine ⟨ro, L, S, hL, hS, Post.bind h fun d S1 ro1 H1 v gr ex hS1 rv h => ?_⟩
  cases d with
  | tup xs =>
    obtain ⟨p, vs, rfl, hp, r⟩ := rv.tup_inv
    refine ⟨p, rfl, ⟨vs, SqT.of hp⟩, h ro1 H1 _ (.refl _) (.refl _) hS1 fun i ro' S' H' gr' ex' R hk => ?_⟩
    have q' := ex'.tup _ _ hp
    have r' := RelDs.mono gr' ex'.tup _ _ r
    refine ⟨fun d hd => ?_, fun hi => ⟨vs, SqT.of q', by rw [hi, r'.length]; exact Nat.le_refl _⟩⟩
    obtain ⟨v, h1, h2⟩ := r'.get hd
    refine ⟨⟨vs, v, SqT.of q', h1⟩, fun x H'' ⟨e1, e2⟩ => ?_⟩
    subst e1
    have z := e2 vs (SqT.of q')
    rw [h1] at z
    cases z
    exact ⟨.refl _, R, h2⟩
  | _ => exact h.elim⟩
theorem rng_ok {ro : List Addr} {H : Hp} {lo : Int} {n : Nat} {chk : Sto → Bool} : WkOk g ro H ⟨rngD lo n, chk⟩ (Itr lo n) := fun i ro' S' H' gr' ex' R hk => by
  refine ⟨fun d hd => ?_, fun hi => ?_⟩
  · unfold rngD at hd
    rw [List.getElem?_map] at hd
    cases q : (List.range n)[i]? with
    | none => rw [q] at hd; cases hd
    | some j =>
      rw [q] at hd
      obtain ⟨h1, h2⟩ := List.getElem?_eq_some_iff.mp q
      rw [List.length_range] at h1
      rw [List.getElem_range] at h2
      subst h2
      cases hd
      refine ⟨h1, fun x H'' ⟨e1, e2⟩ => ?_⟩
      subst e1 e2
      exact ⟨.refl _, R, .int_mk⟩
  · show n ≤ i
    rw [hi]
    simp [rngD]
theorem si_rng1 (hg : Gl X "range") (hm : X.mg "range" = none) (ha : SE X g E a ma) (h1 : starEach [a] X.env = (false, eval a X.env) :: starEach [] X.env := by rfl) (hs : starEach [a] X.env = [(false, eval a X.env)] := by rfl) :
    SI X g E tg (.Call (.Name "range" p) [a] [] pos) (wRng1 ma) := ⟨pi_imp (pi_range1 hg hm (sa_cons ha sa_nil h1).run hs) fun s H Q ⟨ro, L, S, hL, hS, h⟩ => by
  refine ⟨ro, L, S, hL, hS, ?_⟩
  unfold wRng1 at h
  unfold aCons
  cases z : ma L S with
  | ok d S1 =>
    rw [z] at h
    simp only [R.bind_ok, aNil] at h ⊢
    intro ro1 H1 vs gr ex hS1 rv
    obtain ⟨v, r, rfl, r1, r2⟩ := rv.inv
    cases r2.inv0
    cases d with
    | int j =>
      simp only at h
      split at h
      · rename_i hj
        exact ⟨j, by rw [r1.int_inv], hj.1, hj.2, h ro1 H1 _ gr ex hS1 rng_ok⟩
      · exact h.elim
    | _ => exact h.elim
  | exc x S1 => rw [z] at h; exact h
  | err => rw [z] at h; exact h⟩
theorem si_rng2 (hg : Gl X "range") (hm : X.mg "range" = none) (ha : SE X g E a ma) (hb : SE X g E b mb) (h1 : starEach [a, b] X.env = (false, eval a X.env) :: starEach [b] X.env := by rfl) (h2 : starEach [b] X.env = (false, eval b X.env) :: starEach [] X.env := by rfl)
    (hs : starEach [a, b] X.env = [(false, eval a X.env), (false, eval b X.env)] := by rfl) (hs2 : starEach [b] X.env = [(false, eval b X.env)] := by rfl) :
    SI X g E tg (.Call (.Name "range" p) [a, b] [] pos) (wRng2 ma mb) := ⟨pi_imp (pi_range2 hg hm (sa_cons ha (sa_cons hb sa_nil h2) h1).run hs hs2) fun s H Q ⟨ro, L, S, hL, hS, h⟩ => by
  refine ⟨ro, L, S, hL, hS, ?_⟩
  unfold wRng2 at h
  unfold aCons
  cases z : ma L S with
  | ok d S1 =>
    rw [z] at h
    simp only [R.bind_ok] at h ⊢
    cases z2 : mb L S1 with
    | ok d2 S2 =>
      rw [z2] at h
      simp only [R.bind_ok, aNil] at h ⊢
      intro ro1 H1 vs gr ex hS1 rv
      obtain ⟨v, r, rfl, r1, rr⟩ := rv.inv
      obtain ⟨v2, r', rfl, r2, rr2⟩ := rr.inv
      cases rr2.inv0
      cases d with
      | int i =>
        cases d2 with
        | int j =>
          simp only at h
          split at h
          · rename_i hj
            exact ⟨i, j, by rw [r1.int_inv, r2.int_inv], hj, h ro1 H1 _ gr ex hS1 rng_ok⟩
          · exact h.elim
        | _ => exact h.elim
      | _ => cases d2 <;> exact h.elim
    | exc x S2 => rw [z2] at h; exact h
    | err => rw [z2] at h; exact h
  | exc x S1 => rw [z] at h; exact h
  | err => rw [z] at h; exact h⟩
/-- for .. in ..: -/
theorem ss_for {iter : Expr} {body : List Stmt} {w : WM} {t : TM} {bm : SM} (hp : PassesOwn (model X.prog X.w) X.A X.env X.xe) (hc : X.calm = true) (hi : SI X g E tg iter w) (hg : SG X g tg t) (hb : SSs X g E body bm)
    (hs : ∀ x, foldedSetIterable iter X.env x = pure x := by intro _; rfl) : SS X g E (.For tg iter body [] pos) (sFor w t bm) := ⟨ps_imp (ps_for hp hc hi.run hg.run hb.run hs) fun D s H ⟨ro, L, S, hL, hS, h⟩ => by
  refine ⟨ro, L, S, hL, hS, PostS.st h fun k S1 ro1 H1 J gr ex hS1 wk h => ?_⟩
  refine ⟨fun i m s H' => m = k.items.length - i ∧ i ≤ k.items.length ∧ ∃ (ro' : List Addr) (L' : MP.Loc) (S' : Sto), Gr ro1 ro' ∧ Ext H1 H' ∧ RelL ro' H' L' s ∧ RelS g ro' S' H' ∧ PostS g E ro' H' D (forL k.chk t bm (k.items.drop i) L' S'),
    ⟨_, rfl, Nat.zero_le _, ro1, L, S1, .refl _, .refl _, hL.mono gr ex, hS1, h⟩, ?_⟩
  rintro i m s' H' ⟨rfl, hi, ro', L', S', gr', ex', hL', hS', h⟩
  by_cases hlt : i < k.items.length
  · obtain ⟨d, hd, e⟩ := drop_at hlt
    rw [e] at h
    unfold forL at h
    split at h
    · rename_i hk
      obtain ⟨go, yl⟩ := (wk i ro' S' H' gr' ex' hS' hk).1 d hd
      refine .inr ⟨go, fun σ' H' => ∃ (ro' : List Addr) (L' : MP.Loc) (S' : Sto), Gr ro1 ro' ∧ Ext H1 H' ∧ RelL ro' H' L' σ' ∧ RelS g ro' S' H' ∧ PostS g E ro' H' D (forL k.chk t bm (k.items.drop (i + 1)) L' S'), fun σ' H' n' => ⟨_, by omega, rfl, hlt, n'⟩, fun x H2 hy => ?_⟩
      obtain ⟨ex2, hS2, rv⟩ := yl x H2 hy
      refine ⟨ro', L', S', d, hL'.mono (.refl _) ex2, hS2, rv, ?_⟩
      cases q : t d L' S' with
      | ok L1 S3 =>
        rw [q] at h
        intro ro3 H3 s3 gr3 ex3 hS3 hL3
        refine ⟨ro3, L1, S3, hL3, hS3, ?_⟩
        have h := PostS.mono gr3 (ex2.trans ex3) h
        simp only at h
        have up := gr'.trans gr3
        have ux := ex'.trans (ex2.trans ex3)
        cases z : bm L1 S3 with
        | nx L4 S4 =>
          rw [z] at h
          exact fun ro4 H4 s4 gr4 ex4 hS4 hL4 => ⟨ro4, L4, S4, up.trans gr4, ux.trans ex4, hL4, hS4, PostS.mono gr4 ex4 h⟩
        | ct L4 S4 =>
          rw [z] at h
          exact fun ro4 H4 s4 gr4 ex4 hS4 hL4 => ⟨ro4, L4, S4, up.trans gr4, ux.trans ex4, hL4, hS4, PostS.mono gr4 ex4 h⟩
        | bk L4 S4 => rw [z] at h; exact h
        | rt d4 S4 => rw [z] at h; exact h
        | exc x4 L4 S4 => rw [z] at h; exact h
        | err => rw [z] at h; exact h
      | exc x S3 => rw [q] at h; exact h.elim
      | err => rw [q] at h; exact h.elim
    · exact h.elim
  · have e : i = k.items.length := by omega
    subst e
    rw [List.drop_length] at h
    unfold forL at h
    split at h
    · rename_i hk
      exact .inl ⟨(wk _ ro' S' H' gr' ex' hS' hk).2 rfl, h ro' H' s' (.refl _) (.refl _) hS' hL'⟩
    · exact h.elim⟩

/-! ### while -/
theorem whileN_up {t : BM} {bm : SM} : ∀ {n m : Nat} {L : MP.Loc} {S : Sto}, n ≤ m → whileN t bm n L S ≠ .err → whileN t bm m L S = whileN t bm n L S
  | 0, _, L, S, _, h => absurd rfl h
  | n + 1, 0, L, S, hl, _ => by omega
  | n + 1, m + 1, L, S, hl, h => by
    unfold whileN at h ⊢
    cases q : t L S with
    | ok c S1 =>
      rw [q] at h
      simp only [R.st_ok] at h ⊢
      cases c with
      | true =>
        simp only [if_true] at h ⊢
        cases z : bm L S1 with
        | nx L2 S2 => rw [z] at h; exact whileN_up (by omega) h
        | ct L2 S2 => rw [z] at h; exact whileN_up (by omega) h
        | _ => rfl
      | false => rfl
    | exc x S1 => rfl
    | err => rfl
theorem sWhile_of {t : BM} {bm : SM} {n : Nat} {L : MP.Loc} {S : Sto} (h : whileN t bm n L S ≠ .err) : sWhile t bm L S = whileN t bm n L S := by
  have ex : ∃ n, whileN t bm n L S ≠ .err := ⟨n, h⟩
  unfold sWhile
  rw [dif_pos ex]
  have h2 := ex.choose_spec
  rcases Nat.le_total n ex.choose with l | l
  · exact whileN_up l h
  · exact (whileN_up l h2).symm
/-- one turn -/
theorem sWhile_eq (t : BM) (bm : SM) (L : MP.Loc) (S : Sto) : sWhile t bm L S = (t L S).st L fun c S1 => if c = true then (match bm L S1 with
    | .nx L2 S2 => sWhile t bm L2 S2
    | .ct L2 S2 => sWhile t bm L2 S2
    | .bk L2 S2 => .nx L2 S2
    | r => r) else .nx L S1 := by
  by_cases ex : ∃ n, whileN t bm n L S ≠ .err
  · obtain ⟨n, h⟩ := ex
    rw [sWhile_of h]
    cases n with
    | zero => exact absurd rfl h
    | succ n =>
      unfold whileN at h ⊢
      cases q : t L S with
      | ok c S1 =>
        rw [q] at h
        simp only [R.st_ok] at h ⊢
        cases c with
        | true =>
          simp only [if_true] at h ⊢
          cases z : bm L S1 with
          | nx L2 S2 => rw [z] at h; exact (sWhile_of h).symm
          | ct L2 S2 => rw [z] at h; exact (sWhile_of h).symm
          | _ => rfl
        | false => rfl
      | exc x S1 => rfl
      | err => rfl
  · have e1 : sWhile t bm L S = .err := by unfold sWhile; rw [dif_neg ex]
    rw [e1]
    have e2 : ∀ n, whileN t bm n L S = .err := fun n => Classical.byContradiction fun z => ex ⟨n, z⟩
    cases q : t L S with
    | ok c S1 =>
      simp only [R.st_ok]
      cases c with
      | true =>
        simp only [if_true]
        have more : ∀ L2 S2, (bm L S1 = .nx L2 S2 ∨ bm L S1 = .ct L2 S2) → sWhile t bm L2 S2 = .err := fun L2 S2 z => by
          have e3 : ∀ n, whileN t bm n L2 S2 = .err := fun n => by
            have := e2 (n + 1)
            unfold whileN at this
            rw [q] at this
            simp only [R.st_ok, if_true] at this
            rcases z with z | z <;> (rw [z] at this; exact this)
          unfold sWhile
          rw [dif_neg fun ⟨n, h⟩ => h (e3 n)]
        have h1 := e2 1
        unfold whileN at h1
        rw [q] at h1
        simp only [R.st_ok, if_true] at h1
        cases z : bm L S1 with
        | nx L2 S2 => exact (more L2 S2 (.inl z)).symm
        | ct L2 S2 => exact (more L2 S2 (.inr z)).symm
        | bk L2 S2 => rw [z] at h1; cases h1
        | rt d S2 => rw [z] at h1; cases h1
        | exc x L2 S2 => rw [z] at h1; cases h1
        | err => rfl
      | false =>
        have h1 := e2 1
        unfold whileN at h1
        rw [q] at h1
        simp only [R.st_ok, Bool.false_eq_true, if_false] at h1
        cases h1
    | exc x S1 =>
      have h1 := e2 1
      unfold whileN at h1
      rw [q] at h1
      cases h1
    | err => rfl
theorem ss_while {c : Expr} {body : List Stmt} {t : BM} {bm : SM} (hp : PassesOwn (model X.prog X.w) X.A X.env X.xe) (hc : ST X g E c t) (hb : SSs X g E body bm) : SS X g E (.While c body [] pos) (sWhile t bm) := ⟨ps_imp (ps_while hp hc.run hb.run) fun D s H ⟨ro, L, S, hL, hS, h⟩ => by
  by_cases ex : ∃ n, whileN t bm n L S ≠ .err
  · obtain ⟨n, hn⟩ := ex
    rw [sWhile_of hn] at h
    refine ⟨fun m s H' => ∃ (ro' : List Addr) (L' : MP.Loc) (S' : Sto), RelL ro' H' L' s ∧ RelS g ro' S' H' ∧ PostS g E ro' H' D (whileN t bm m L' S'), ⟨n, ro, L, S, hL, hS, h⟩, ?_⟩
    rintro m s' H' ⟨ro', L', S', hL', hS', h⟩
    refine ⟨ro', L', S', hL', hS', ?_⟩
    cases m with
    | zero => exact h.elim
    | succ m =>
      unfold whileN at h
      refine PostS.st h fun d S1 ro1 H1 v gr ex hS1 rv h => ?_
      obtain rfl : d = v := rv
      cases d with
      | true =>
        rw [if_pos rfl] at h ⊢
        refine ⟨fun s H' => ∃ (ro' : List Addr) (L' : MP.Loc) (S' : Sto), RelL ro' H' L' s ∧ RelS g ro' S' H' ∧ PostS g E ro' H' D (whileN t bm m L' S'), fun s' H' n' => ⟨m, Nat.lt_succ_self _, n'⟩, ro1, L', S1, hL'.mono gr ex, hS1, ?_⟩
        cases z : bm L' S1 with
        | nx L4 S4 =>
          rw [z] at h
          exact fun ro4 H4 s4 gr4 ex4 hS4 hL4 => ⟨ro4, L4, S4, hL4, hS4, PostS.mono gr4 ex4 h⟩
        | ct L4 S4 =>
          rw [z] at h
          exact fun ro4 H4 s4 gr4 ex4 hS4 hL4 => ⟨ro4, L4, S4, hL4, hS4, PostS.mono gr4 ex4 h⟩
        | bk L4 S4 => rw [z] at h; exact h
        | rt d4 S4 => rw [z] at h; exact h
        | exc x4 L4 S4 => rw [z] at h; exact h
        | err => rw [z] at h; exact h
      | false =>
        rw [if_neg Bool.false_ne_true] at h ⊢
        exact h ro1 H1 s' (.refl _) (.refl _) hS1 (hL'.mono gr ex)
  · have e1 : sWhile t bm L S = .err := by unfold sWhile; rw [dif_neg ex]
    rw [e1] at h
    exact h.elim⟩
end
end MP

namespace MP
open PySem L2
/-! ### targets that store names of their own alone -/
def rdGw (g : G) (vs : List Nat) (t : TM) : TG := fun v s H Q => ∃ (ro : List Addr) (L : Loc) (S : Sto) (d : D), RelL ro H L s ∧ RelS g ro S H ∧ RelD ro H d v ∧
  ∃ L', t d L S = .ok L' S ∧ ∀ (H' : Hp) (s' : St), Ext H H' → RelS g ro S H' → RelL ro H' L' s' → L2.wipe s' vs = L2.wipe s vs → Q s' H'
def rdGws (g : G) (vs : List Nat) (t : List D → Loc → Sto → R Loc) : TGs := fun us s H Q => ∃ (ro : List Addr) (L : Loc) (S : Sto) (ds : List D), RelL ro H L s ∧ RelS g ro S H ∧ RelDs ro H ds us ∧
  ∃ L', t ds L S = .ok L' S ∧ ∀ (H' : Hp) (s' : St), Ext H H' → RelS g ro S H' → RelL ro H' L' s' → L2.wipe s' vs = L2.wipe s vs → Q s' H'
structure SGw (X : Cx) (g : G) (vs : List Nat) (tg : Expr) (t : TM) : Prop where
  run : PG X tg (rdGw g vs t)
structure SGws (X : Cx) (g : G) (vs : List Nat) (tg : List Expr) (t : List D → Loc → Sto → R Loc) : Prop where
  run : PGs X tg (rdGws g vs t)
/-- the store stays -/
class PureT (t : TM) : Prop where
  same : ∀ d L S L' S', t d L S = .ok L' S' → S' = S
class PureTs (t : List D → Loc → Sto → R Loc) : Prop where
  same : ∀ d L S L' S', t d L S = .ok L' S' → S' = S
instance (i : Nat) : PureT (gV i) := ⟨fun d L S L' S' h => by cases h; rfl⟩
instance : PureTs MP.gNil := ⟨fun d L S L' S' h => by
  unfold MP.gNil at h
  split at h
  · cases h; rfl
  · cases h⟩
instance (t : TM) (u : List D → Loc → Sto → R Loc) [p : PureT t] [q : PureTs u] : PureTs (MP.gCons t u) := ⟨fun d L S L' S' h => by
  unfold MP.gCons at h
  cases d with
  | nil => cases h
  | cons d ds =>
    simp only at h
    cases z : t d L S with
    | ok L1 S1 =>
      obtain rfl := p.same _ _ _ _ _ z
      rw [z] at h
      exact q.same _ _ _ _ _ h
    | exc x S1 => rw [z] at h; cases h
    | err => rw [z] at h; cases h⟩
instance (n : Nat) (u : List D → Loc → Sto → R Loc) [q : PureTs u] : PureT (MP.gTup n u) := ⟨fun d L S L' S' e1 => by
  unfold MP.gTup at e1
  cases d with
  | tup ds =>
    simp only at e1
    split at e1
    · exact q.same _ _ _ _ _ e1
    · cases e1
  | _ => cases e1⟩
theorem wipe_set {s : St} {i : Nat} {x : Option V} : ∀ {vs : List Nat}, i ∈ vs → L2.wipe (s.set i x) vs = L2.wipe s vs
  | [], h => by simp at h
  | v :: vs, h => by
    unfold L2.wipe
    by_cases hv : i ∈ vs
    · rw [wipe_set hv]
    · have e : i = v := by
        rcases List.mem_cons.mp h with h | h
        · exact h
        · exact absurd h hv
      subst e
      have out : ∀ {ws : List Nat} {s : St} {y : Option V}, i ∉ ws → L2.wipe (s.set i y) ws = (L2.wipe s ws).set i y := by
        intro ws
        induction ws with
        | nil => intro s y _; rfl
        | cons w ws ih =>
          intro s y hn
          unfold L2.wipe
          rw [ih fun z => hn (List.mem_cons_of_mem _ z), List.set_comm _ _ (fun z => hn (by rw [z]; exact List.mem_cons_self))]
      rw [out hv, List.set_set]
theorem wipe_at {s : St} {i : Nat} : ∀ {vs : List Nat}, (L2.wipe s vs)[i]? = if i ∈ vs then s[i]?.map (fun _ => none) else s[i]?
  | [] => by simp [L2.wipe]
  | v :: vs => by
    unfold L2.wipe
    by_cases e : v = i
    · subst e
      rw [if_pos List.mem_cons_self]
      by_cases h : v < s.length
      · rw [List.getElem?_set_self (by rw [wipe_length]; exact h), List.getElem?_eq_getElem h]
        rfl
      · rw [List.getElem?_eq_none (by rw [List.length_set, wipe_length]; omega), List.getElem?_eq_none (by omega)]
        rfl
    · rw [List.getElem?_set_ne e, wipe_at]
      by_cases h : i ∈ vs
      · rw [if_pos h, if_pos (List.mem_cons_of_mem _ h)]
      · rw [if_neg h, if_neg (fun z => (List.mem_cons.mp z).elim (fun q => e q.symm) h)]
theorem wipe_wipe {s : St} {vs : List Nat} : L2.wipe (L2.wipe s vs) vs = L2.wipe s vs := by
  apply List.ext_getElem?
  intro i
  rw [wipe_at, wipe_at]
  split
  · cases s[i]? <;> rfl
  · rfl
section
variable {X : Cx} {g : G} {E : XK} {tg e a b o : Expr} {m ma mb : EM} {pos p : Pos} {vs : List Nat}
theorem sgw_name (i : Nat) {x : Str} (hv : i ∈ vs) (hN : X.N.Nodup) (hi : X.N[i]? = some x := by rfl) (hx : L2.Loc X.env.scope x := by first | exact Or.inl rfl | exact Or.inr rfl) (hf : X.fn x = true ∨ X.env.scope.names.lookup x = some .local := by first | exact Or.inr rfl | exact Or.inl rfl) : SGw X g vs (.Name x pos) (gV i) :=
  ⟨pg_imp (pg_name hN hi hx hf) fun v s H Q ⟨ro, L, S, d, hL, hS, rv, L', h1, h2⟩ => by
    cases h1
    exact h2 H _ (.refl _) hS (hL.set i rv) (wipe_set hv)⟩
theorem sgws_nil : SGws X g vs [] MP.gNil := ⟨pgs_imp pgs_nil fun v s H Q ⟨ro, L, S, ds, hL, hS, rv, L', h1, h2⟩ => by
  unfold MP.gNil at h1
  split at h1
  · rename_i e
    subst e
    cases h1
    exact ⟨rv.inv0, h2 H _ (.refl _) hS hL rfl⟩
  · cases h1⟩
theorem sgws_cons {es : List Expr} {t : TM} {u : List D → MP.Loc → Sto → R MP.Loc} [pt : PureT t] (h1 : SGw X g vs e t) (h2 : SGws X g vs es u) (hs : (assignEach (e :: es) X.env).map (·.2) = assign e X.env :: (assignEach es X.env).map (·.2) := by rfl) : SGws X g vs (e :: es) (MP.gCons t u) :=
  ⟨pgs_imp (pgs_cons h1.run h2.run hs) fun v s H Q ⟨ro, L, S, ds, hL, hS, rv, L', e1, e2⟩ => by
    unfold MP.gCons at e1
    cases ds with
    | nil => cases e1
    | cons d ds =>
      obtain ⟨x, r, rfl, r1, r2⟩ := rv.inv
      refine ⟨x, r, rfl, ro, L, S, d, hL, hS, r1, ?_⟩
      simp only at e1
      cases q : t d L S with
      | ok L1 S1 =>
        obtain rfl := pt.same _ _ _ _ _ q
        rw [q] at e1
        exact ⟨L1, rfl, fun H' s' ex R rl w => ⟨ro, L1, S1, ds, rl, R, RelDs.mono (.refl _) ex.tup _ _ r2, L', e1, fun H2 s2 ex2 R2 rl2 w2 => e2 H2 s2 (ex.trans ex2) R2 rl2 (w2.trans w)⟩⟩
      | exc x S1 => rw [q] at e1; cases e1
      | err => rw [q] at e1; cases e1⟩
theorem sgw_tup {es : List Expr} {k : Nat} {u : List D → MP.Loc → Sto → R MP.Loc} {n : Nat} (hc : X.calm = true) (h : SGws X g vs es u) (hn : (assignEach es X.env).length = n := by rfl) (hst : (assignEach es X.env).findIdx? (·.1) = none := by rfl) : SGw X g vs (.Tuple es k pos) (MP.gTup n u) :=
  ⟨pg_imp (pg_tup hc h.run hn hst) fun v s H Q ⟨ro, L, S, d, hL, hS, rv, L', e1, e2⟩ => by
    cases d with
    | tup ds =>
      obtain ⟨a, ws, rfl, ha, r⟩ := rv.tup_inv
      unfold MP.gTup at e1
      simp only at e1
      split at e1
      · rename_i hn
        exact ⟨a, ws, rfl, SqT.of ha, by rw [← r.length]; exact hn, ro, L, S, ds, hL, hS, r, L', e1, e2⟩
      · cases e1
    | _ => cases e1⟩

/-! ### comprehensions -/
structure STs (X : Cx) (g : G) (E : XK) (ifs : List Expr) (t : BM) : Prop where
  run : PTs X ifs (rdT g E t)
theorem sts_nil : STs X g E [] MP.tYes := ⟨⟨fun pins s σ H Q I ⟨ro, L, S, hL, hS, h⟩ => pts_nil.run pins s σ H Q I (h ro H _ (.refl _) (.refl _) hS rfl)⟩⟩
theorem sts_one {t : BM} (h : ST X g E a t) : STs X g E [a] t := ⟨pts_one h.run⟩
theorem lc_rd {iter : Expr} {vs : List Nat} {w : WM} {t : TM} {tt : BM} {em : EM} [pt : PureT t] {s : St} {H : Hp} {Q : VK} (h : rdE g E (eLc w t tt em vs) s H Q) : tLc (rd (WkOk g) g E w) (rdGw g vs t) (rdT g E0 tt) (rdE g E0 em) vs s H Q := by
    obtain ⟨ro, L, S, hL, hS, h⟩ := h
    refine ⟨ro, L, S, hL, hS, Post.bind h fun k S1 ro1 H1 J gr ex hS1 wk h => ?_⟩
    intro D hD
    have hL1 := (RelL.mono gr ex.tup hL).wipe vs
    have hS2 : RelS g (ro1 ++ [D]) (S1 ++ [.lst []]) (upd H1 D (.lst [])) := hS1.push hD ⟨[], .nil, upd_same⟩
    have hDn : (ro1 ++ [D])[S1.length]? = some D := by rw [← hS1.len, List.getElem?_append_right (Nat.le_refl _), Nat.sub_self] <;> rfl
    generalize hn : S1.length = n at h hDn
    refine ⟨fun i m H' => m = k.items.length - i ∧ i ≤ k.items.length ∧ ∃ (ro' : List Addr) (S' : Sto), Gr (ro1 ++ [D]) ro' ∧ Ext (upd H1 D (.lst [])) H' ∧ RelS g ro' S' H' ∧ Post RelD g E ro' H' Q (lcL k.chk t tt em (MP.wipe L vs) n (k.items.drop i) S'),
      ⟨_, rfl, Nat.zero_le _, _, _, .refl _, .refl _, hS2, Post.mono (.snoc _ _) (.new hD) h⟩, ?_⟩
    rintro i m H' ⟨rfl, hi, ro', S', gr', ex', hS', h⟩
    have gr1 := (Gr.snoc ro1 D).trans gr'
    have ex1 := (Ext.new hD).trans ex'
    by_cases hlt : i < k.items.length
    · obtain ⟨d, hd, e⟩ := drop_at hlt
      rw [e] at h
      unfold lcL at h
      split at h
      · rename_i hk
        obtain ⟨go, yl⟩ := (wk i ro' S' H' gr1 ex1 hS' hk).1 d hd
        refine .inr ⟨go, fun H' => ∃ (ro' : List Addr) (S' : Sto), Gr (ro1 ++ [D]) ro' ∧ Ext (upd H1 D (.lst [])) H' ∧ RelS g ro' S' H' ∧ Post RelD g E ro' H' Q (lcL k.chk t tt em (MP.wipe L vs) n (k.items.drop (i + 1)) S'), fun H' n' => ⟨_, by omega, rfl, hlt, n'⟩, fun x H2 hy => ?_⟩
        obtain ⟨ex2, hS3, rv⟩ := yl x H2 hy
        cases q : t d (MP.wipe L vs) S' with
        | ok L1 S3 =>
          rw [q] at h
          obtain rfl : S3 = S' := pt.same _ _ _ _ _ q
          refine ⟨ro', _, S3, d, RelL.mono (.refl _) ex2.tup (RelL.mono gr1 ex1.tup hL1), hS3, rv, L1, q, fun H3 s3 ex3 hS4 hL4 hw => ⟨hw.trans wipe_wipe, ro', L1, S3, hL4, hS4, ?_⟩⟩
          simp only at h
          cases z : tt L1 S3 with
          | ok kb S4 =>
            rw [z] at h
            intro ro4 H4 v4 gr4 ex4 hS5 rv4
            obtain rfl : kb = v4 := rv4
            cases kb with
            | true =>
              rw [if_pos rfl]
              simp only at h
              refine ⟨ro4, L1, S4, RelL.mono gr4 ex4.tup hL4, hS5, ?_⟩
              cases y : em L1 S4 with
              | ok d5 S5 =>
                rw [y] at h
                intro ro5 H5 v5 gr5 ex5 hS6 rv5
                simp only at h
                split at h
                · rename_i acc ha
                  have hD5 : ro5[n]? = some D := gr5 _ _ (gr4 _ _ (gr' _ _ hDn))
                  obtain ⟨us, r5, q5⟩ := hS6.at hD5 ha
                  split at h
                  · rename_i hz
                    refine ⟨us, q5, by rw [← r5.length, ← sz_eq]; exact hz, ro5, S5.set n (.lst (acc ++ [d5])), gr'.trans (gr4.trans gr5), ?_, ?_, ?_⟩
                    · exact ex'.trans (ex2.trans (ex3.trans (ex4.trans (ex5.trans (.put q5 lst_tup lst_frz)))))
                    · exact hS6.put hD5 ha (fun z => z.elim) (fun z => z.elim) q5 ⟨us ++ [v5], RelDs.mono (.refl _) (.put q5 lst_tup) _ _ (r5.append (.cons rv5 .nil)), upd_same⟩ nu_lst
                    · exact Post.mono (gr4.trans gr5) (ex2.trans (ex3.trans (ex4.trans (ex5.trans (.put q5 lst_tup lst_frz))))) h
                  · exact h.elim
                · exact h.elim
              | exc x5 S5 => rw [y] at h; exact h.elim
              | err => rw [y] at h; exact h.elim
            | false =>
              rw [if_neg Bool.false_ne_true]
              exact ⟨ro4, S4, gr'.trans gr4, ex'.trans (ex2.trans (ex3.trans ex4)), hS5, Post.mono gr4 (ex2.trans (ex3.trans ex4)) h⟩
          | exc x4 S4 => rw [z] at h; exact h.elim
          | err => rw [z] at h; exact h.elim
        | exc x3 S3 => rw [q] at h; exact h.elim
        | err => rw [q] at h; exact h.elim
      · exact h.elim
    · have e : i = k.items.length := by omega
      subst e
      rw [List.drop_length] at h
      unfold lcL at h
      split at h
      · rename_i hk
        exact .inl ⟨(wk _ ro' S' H' gr1 ex1 hS' hk).2 rfl, h ro' H' _ (.refl _) (.refl _) hS' (.ref_mk (gr' _ _ hDn))⟩
      · exact h.elim
theorem se_lc {iter elt : Expr} {ifs : List Expr} {scope : Scope} {own : List (Str × Nat)} {w : WM} {t : TM} {tt : BM} {em : EM} [pt : PureT t] (hc : X.calm = true) (hN : X.N.Nodup) (hi : SI X g E tg iter w) (ok : BlkOk X.N X.env.scope scope own)
    (hg : ∀ (s : Shared) (H : Hp) (C : Addr) (cl : List (Str × Addr)) (fp : List Addr), SGw (X.blk s H scope (compEnvC scope cl C X.env) fp) g (own.map (·.2)) tg t) (ht : ∀ (s : Shared) (H : Hp) (C : Addr) (cl : List (Str × Addr)) (fp : List Addr), STs (X.blk s H scope (compEnvC scope cl C X.env) fp) g E0 ifs tt)
    (he : ∀ (s : Shared) (H : Hp) (C : Addr) (cl : List (Str × Addr)) (fp : List Addr), SE (X.blk s H scope (compEnvC scope cl C X.env) fp) g E0 elt em) (hs : ∀ x, foldedSetIterable iter X.env x = pure x := by intro _; rfl) :
    SE X g E (.ListComp elt [⟨tg, iter, ifs, 0⟩] scope pos) (eLc w t tt em (own.map (·.2))) :=
  ⟨pe_imp (pe_lc hc hN hi.run ok (fun s H C cl fp => (hg s H C cl fp).run) (fun s H C cl fp => (ht s H C cl fp).run) (fun s H C cl fp => (he s H C cl fp).run) hs) fun s H Q h => lc_rd (iter := iter) h⟩
end
end MP

namespace MP
open PySem L2 PySem.Spec PyProof.Rows
/-- the promise of a def that computes F -/
def spM (g : G) (F : Fn) : Sp := fun vs H Q E => ∃ (ro : List Addr) (S : Sto) (ds : List D), RelS g ro S H ∧ RelDs ro H ds vs ∧ Post RelD g E ro H Q (F ds S)
abbrev FOk (g : G) (k : Nat) (f : Addr) (fd : FuncData) (ps : List Str) (F : Fn) : Prop := FnOk g.P g.w g.K g.mg g.base (L2N.CX g.P g.w) k f fd ps (spM g F)
/-- the name x is a def that computes F -/
def Df (g : G) (k : Nat) (x : Str) (F : Fn) : Prop := ∃ (f : Addr) (fd : FuncData) (ps : List Str), FOk g k f fd ps F ∧ g.mg x = some (.ref f) ∧ PySem.W.keepIn g.K (.ref f) = true ∧ Binds g.K fd ps []
/-- a method m of the class c -/
def Me (g : G) (k : Nat) (c : Nat) (m : Str) (F : Fn) : Prop := ∃ (f : Addr) (fd : FuncData) (ps : List Str), FOk g k f fd ps F ∧ Cls g.K (g.cls c) ∧ Meth g.K (g.cls c) m f ∧ Binds g.K fd ps []
/-- the name x is the class c, its __init__ computes F -/
def Mi (g : G) (k : Nat) (x : Str) (c : Nat) (F : Fn) : Prop := ∃ (f : Addr) (fd : FuncData) (ps : List Str), FOk g k f fd ps F ∧ g.mg x = some (.ref (g.cls c)) ∧ Mk g.K (g.cls c) f ∧ Binds g.K fd ps []
section
variable {X : Cx} {g : G} {E : XK} {e o : Expr} {es : List Expr} {m mo : EM} {ms : AM} {pos p apos : Pos} {k : Nat} {x : Str} {F : Fn}
theorem passM (c : Ctx g E X) : Passes (L2N.CX X.prog X.w) X E := L2N.passes_call c.takes fun _ _ _ _ h => h
theorem FOk.at (c : Ctx g E X) {f : Addr} {fd : FuncData} {ps : List Str} (h : FOk g k f fd ps F) : FnOk X.prog X.w X.K X.mg X.base (L2N.CX X.prog X.w) k f fd ps (spM g F) := by
  rw [c.P, c.w, c.K, c.mg, c.base]
  exact h
/-- f(e, ..) -/
theorem se_call (c : Ctx g E X) (d : Df g k x F) (hr : Room k X.A) (hg : Gl X x) (ha : SA X g E (e :: es) ms) (hdb : (x == ("__debug__" : Str)) = false := by decide) (he : starEach (e :: es) X.env = (false, eval e X.env) :: starEach es X.env := by rfl)
    (hpl : (backTo pos (starEach es X.env)).any (·.1) = false := by rfl) : SE X g E (.Call (.Name x p) (e :: es) [] pos) (eCall F ms) := by
  obtain ⟨f, fd, ps, h, hm, hk, hb⟩ := d
  refine ⟨pe_imp (pe_call (h.at c) hr hg (by rw [c.mg]; exact hm) (by rw [c.K]; exact hk) (by rw [c.K]; exact hb) .nil (passM c) ha.run hdb he hpl) fun s H Q ⟨ro, L, S, hL, hS, h⟩ => ?_⟩
  refine ⟨ro, L, S, hL, hS, Post.bind h fun ds S1 ro1 H1 vs gr ex hS1 rv h => ⟨ro1, S1, ds, hS1, by rw [List.append_nil]; exact rv, h⟩⟩
theorem se_call0 (c : Ctx g E X) (d : Df g k x F) (hr : Room k X.A) (hg : Gl X x) (hdb : (x == ("__debug__" : Str)) = false := by decide) : SE X g E (.Call (.Name x p) [] [] pos) (eCall F aNil) := by
  obtain ⟨f, fd, ps, h, hm, hk, hb⟩ := d
  exact ⟨pe_imp (pe_call0 (h.at c) hr hg (by rw [c.mg]; exact hm) (by rw [c.K]; exact hk) (by rw [c.K]; exact hb) .nil (passM c) hdb) fun s H Q ⟨ro, L, S, hL, hS, h⟩ => ⟨ro, S, [], hS, .nil, h⟩⟩
theorem fget_rel {ro : List Addr} {H : Hp} {f : Nat} : ∀ {fs : List (Nat × D)} {ws : List (Str × V)}, RelF g ro H fs ws → (∀ d, fget f fs = some d → ∃ v, ws.lookup (g.fname f) = some v ∧ RelD ro H d v) ∧ (fget f fs = none → ws.lookup (g.fname f) = none)
  | _, _, .nil => ⟨fun d h => by simp [fget] at h, fun _ => rfl⟩
  | (n, d) :: fs, (y, v) :: ws, .cons ⟨h1, h2⟩ t => by
    have h1 : y = g.fname n := h1
    subst h1
    obtain ⟨i1, i2⟩ := fget_rel t
    unfold fget
    by_cases q : f = n
    · subst q
      rw [if_pos rfl]
      refine ⟨fun d' e => ?_, fun e => by cases e⟩
      cases e
      exact ⟨v, by simp [List.lookup], h2⟩
    · rw [if_neg q]
      have z : (g.fname f == g.fname n) = false := by simpa using fun w => q (g.finj _ _ w)
      have l : ∀ r, ws.lookup (g.fname f) = r → List.lookup (g.fname f) ((g.fname n, v) :: ws) = r := fun r e => by simp [List.lookup, z, e]
      exact ⟨fun d' e => let ⟨v', a, b⟩ := i1 d' e; ⟨v', l _ a, b⟩, fun e => l _ (i2 e)⟩
theorem fput_rel {ro : List Addr} {H : Hp} {f : Nat} {d : D} {v : V} (r : RelD ro H d v) : ∀ {fs : List (Nat × D)} {ws : List (Str × V)}, RelF g ro H fs ws → RelF g ro H (fput f d fs) (putF (g.fname f) v ws)
  | _, _, .nil => .cons ⟨rfl, r⟩ .nil
  | (n, d') :: fs, (y, v') :: ws, .cons ⟨h1, h2⟩ t => by
    have h1 : y = g.fname n := h1
    subst h1
    unfold fput putF
    by_cases q : n = f
    · subst q
      rw [if_pos rfl, if_pos rfl]
      exact .cons ⟨rfl, r⟩ t
    · rw [if_neg q, if_neg fun w => q (g.finj _ _ w)]
      exact .cons ⟨rfl, h2⟩ (fput_rel r t)
theorem RelF.len {ro : List Addr} {H : Hp} : ∀ {fs : List (Nat × D)} {ws : List (Str × V)}, RelF g ro H fs ws → fs.length = ws.length
  | _, _, .nil => rfl
  | _, _, .cons _ t => by simp only [List.length_cons, RelF.len t]
/-- o.m(..) -/
theorem se_meth {c mi : Nat} {mn : Str} (cx : Ctx g E X) (d : Me g k c mn F) (hr : Room k X.A) (hmn : mn = g.fname mi) (ho : SE X g E o mo) (ha : SA X g E (e :: es) ms) {pl : Sem Bool}
    (hst : starEach (e :: es) X.env = (false, eval e X.env) :: starEach es X.env := by rfl) (hpl : (backTo pos (starEach es X.env)).any (·.1) = false := by rfl)
    (ht : eval (.Call (.Attribute o mn apos) (e :: es) [] pos) X.env = (do
      let ov ← eval o X.env
      standAt apos.atName
      let (f, first) ← holding [ov] (getMethod ov mn pl)
      callWith pos f first (backTo pos (starEach (e :: es) X.env)) (backToKw pos (keywordEach [] X.env))) := by rfl) :
    SE X g E (.Call (.Attribute o mn apos) (e :: es) [] pos) (eMeth c mi F mo ms) := by
  obtain ⟨f, fd, ps, h, hc, hm, hb⟩ := d
  refine ⟨pe_imp (pe_meth ho.run (by rw [cx.K]; exact hc) (by rw [cx.K]; exact hm) (h.at cx) hr (by rw [cx.K]; exact hb) .nil (passM cx) ha.run hst hpl ht) fun s H Q ⟨ro, L, S, hL, hS, h⟩ => ?_⟩
  refine ⟨ro, L, S, hL, hS, Post.bind h fun d S1 ro1 H1 v gr ex hS1 rv w => ?_⟩
  clear h
  cases d with
  | ref n =>
    obtain ⟨a, ha, rfl⟩ := rv.ref_inv
    simp only at w
    split at w
    · rename_i c' fs e1
      split at w
      · rename_i hc'
        obtain ⟨rfl, hf⟩ := hc'
        obtain ⟨dx, ws, r, q⟩ := hS1.at ha e1
        refine ⟨a, dx, ws, rfl, q, by rw [hmn]; exact (fget_rel r).2 hf, ro1, L, S1, hL.mono gr ex, hS1, Post.bind w fun ds S2 ro2 H2 vs gr2 ex2 hS2 rv2 w => ?_⟩
        exact ⟨ro2, S2, .ref n :: ds, hS2, .cons (.ref_mk (gr2 _ _ ha)) (by rw [List.append_nil]; exact rv2), w⟩
      · exact w.elim
    · exact w.elim
  | _ => exact w.elim
theorem se_meth0 {c mi : Nat} {mn : Str} (cx : Ctx g E X) (d : Me g k c mn F) (hr : Room k X.A) (hmn : mn = g.fname mi) (ho : SE X g E o mo) {pl : Sem Bool}
    (ht : eval (.Call (.Attribute o mn apos) [] [] pos) X.env = (do
      let ov ← eval o X.env
      standAt apos.atName
      let (f, first) ← holding [ov] (getMethod ov mn pl)
      callWith pos f first (backTo pos (starEach [] X.env)) (backToKw pos (keywordEach [] X.env))) := by rfl) :
    SE X g E (.Call (.Attribute o mn apos) [] [] pos) (eMeth c mi F mo aNil) := by
  obtain ⟨f, fd, ps, h, hc, hm, hb⟩ := d
  refine ⟨pe_imp (pe_meth0 ho.run (by rw [cx.K]; exact hc) (by rw [cx.K]; exact hm) (h.at cx) hr (by rw [cx.K]; exact hb) .nil (passM cx) ht) fun s H Q ⟨ro, L, S, hL, hS, h⟩ => ?_⟩
  refine ⟨ro, L, S, hL, hS, Post.bind h fun d S1 ro1 H1 v gr ex hS1 rv w => ?_⟩
  clear h
  cases d with
  | ref n =>
    obtain ⟨a, ha, rfl⟩ := rv.ref_inv
    simp only at w
    split at w
    · rename_i c' fs e1
      split at w
      · rename_i hc'
        obtain ⟨rfl, hf⟩ := hc'
        obtain ⟨dx, ws, r, q⟩ := hS1.at ha e1
        exact ⟨a, dx, ws, rfl, q, by rw [hmn]; exact (fget_rel r).2 hf, ro1, S1, [.ref n], hS1, .cons (.ref_mk ha) .nil, w⟩
      · exact w.elim
    · exact w.elim
  | _ => exact w.elim
/-- what is wanted behind C(..) -/
theorem make_rd {c : Nat} {ro : List Addr} {H : Hp} {S : Sto} {ds : List D} {vs : List V} {Q : VK} (hS : RelS g ro S H) (rv : RelDs ro H ds vs)
    (h : Post RelD g E ro H Q ((F (.ref S.length :: ds) (S ++ [.ins c []])).bind fun v S2 => if v = .non then .ok (.ref S.length) S2 else .err)) (y dx : Addr) (hy : H y = none) (hdx : H dx = none) (ne : dx ≠ y) :
    spM g F (.ref y :: vs) (upd (upd H dx (.own y)) y (.ins (g.cls c) dx [])) (fun v H2 => v = .non ∧ Q (.ref y) H2) E := by
  have hS1 : RelS g ro S (upd H dx (.own y)) := hS.aside hdx
  have hy1 : upd H dx (.own y) y = none := by rw [upd_ne (Ne.symm ne)]; exact hy
  have hS2 : RelS g (ro ++ [y]) (S ++ [.ins c []]) (upd (upd H dx (.own y)) y (.ins (g.cls c) dx [])) := hS1.push hy1 ⟨dx, [], .nil, upd_same⟩
  have ex : Ext H (upd (upd H dx (.own y)) y (.ins (g.cls c) dx [])) := (Ext.new hdx).trans (.new hy1)
  have hat : (ro ++ [y])[S.length]? = some y := by rw [← hS.len, List.getElem?_append_right (Nat.le_refl _), Nat.sub_self] <;> rfl
  refine ⟨ro ++ [y], _, _, hS2, .cons (.ref_mk hat) (RelDs.mono (.snoc _ _) ex.tup _ _ rv), Post.bind (Post.mono (.snoc _ _) ex h) fun d S3 ro3 H3 v gr3 ex3 hS3 rv3 h => ?_⟩
  split at h
  · rename_i e
    subst e
    exact ⟨rv3.non_inv, h ro3 H3 _ (.refl _) (.refl _) hS3 (.ref_mk (gr3 _ _ hat))⟩
  · exact h.elim
theorem se_make {c : Nat} (cx : Ctx g E X) (d : Mi g k x c F) (hr : Room (k + 1) X.A) (hg : Gl X x) (ha : SA X g E (e :: es) ms) (hdb : (x == ("__debug__" : Str)) = false := by decide) (he : starEach (e :: es) X.env = (false, eval e X.env) :: starEach es X.env := by rfl)
    (hpl : (backTo pos (starEach es X.env)).any (·.1) = false := by rfl) : SE X g E (.Call (.Name x p) (e :: es) [] pos) (eMake c F ms) := by
  obtain ⟨f, fd, ps, h, hm, hk, hb⟩ := d
  refine ⟨pe_imp (pe_make (by rw [cx.K]; exact hk) (h.at cx) hr hg (by rw [cx.mg]; exact hm) (by rw [cx.K]; exact hb) .nil (passM cx) ha.run hdb he hpl) fun s H Q ⟨ro, L, S, hL, hS, h⟩ => ?_⟩
  refine ⟨ro, L, S, hL, hS, Post.bind h fun ds S1 ro1 H1 vs gr ex hS1 rv h => ?_⟩
  intro y dx hy hdx ne
  rw [List.append_nil]
  exact make_rd hS1 rv h y dx hy hdx ne
theorem se_make0 {c : Nat} (cx : Ctx g E X) (d : Mi g k x c F) (hr : Room (k + 1) X.A) (hg : Gl X x) (hdb : (x == ("__debug__" : Str)) = false := by decide) : SE X g E (.Call (.Name x p) [] [] pos) (eMake c F aNil) := by
  obtain ⟨f, fd, ps, h, hm, hk, hb⟩ := d
  refine ⟨pe_imp (pe_make0 (by rw [cx.K]; exact hk) (h.at cx) hr hg (by rw [cx.mg]; exact hm) (by rw [cx.K]; exact hb) .nil (passM cx) hdb) fun s H Q ⟨ro, L, S, hL, hS, h⟩ => ?_⟩
  intro y dx hy hdx ne
  exact make_rd hS .nil h y dx hy hdx ne

/-! ### fields -/
theorem se_fld {c fi : Nat} {f : Str} (cx : Ctx g E X) (hf : f = g.fname fi) (hc : Cls g.K (g.cls c)) (hn : NoAttr g.K (g.cls c) f) (ho : SE X g E o mo) (hb : attributeBase o f X.env (eval o X.env) = eval o X.env := by rfl) : SE X g E (.Attribute o f pos) (eUn (opFld c fi) mo) :=
  ⟨pe_imp (pe_fld ho.run hb) fun s H Q ⟨ro, L, S, hL, hS, h⟩ => by
    refine ⟨ro, L, S, hL, hS, Post.bind h fun d S1 ro1 H1 v gr ex hS1 rv w => ?_⟩
    clear h
    cases d with
    | ref n =>
      obtain ⟨a, ha, rfl⟩ := rv.ref_inv
      simp only [opFld] at w
      split at w
      · rename_i c' fs e1
        split at w
        · rename_i hc'
          subst hc'
          obtain ⟨dx, ws, r, q⟩ := hS1.at ha e1
          split at w
          · rename_i d2 e2
            obtain ⟨v, l, r2⟩ := (fget_rel r).1 _ e2
            exact ⟨a, _, dx, ws, v, rfl, q, by rw [cx.K]; exact hc, by rw [cx.K]; exact hn, by rw [hf]; exact l, w ro1 H1 v (.refl _) (.refl _) hS1 r2⟩
          · exact w.elim
        · exact w.elim
      · exact w.elim
    | _ => exact w.elim⟩
theorem ss_fld {c fi : Nat} {f : Str} {pos' : Pos} (cx : Ctx g E X) (hf : f = g.fname fi) (hc : Cls g.K (g.cls c)) (hn : NoAttr g.K (g.cls c) f) (ho : SE X g E o mo) (he : SE X g E e m) (hs : swapsWith e (some (.Attribute o f pos')) pos.line X.env = pure false := by rfl) :
    SS X g E (.Assign [.Attribute o f pos'] e pos) (sAsg m (gFld c fi mo)) := ⟨ps_imp (ps_fld ho.run he.run hs) fun D s H ⟨ro, L, S, hL, hS, h⟩ => by
  refine ⟨ro, L, S, hL, hS, PostS.st h fun d S1 ro1 H1 v gr ex hS1 rv w => ?_⟩
  clear h
  refine ⟨ro1, L, S1, hL.mono gr ex, hS1, ?_⟩
  unfold gFld at w
  cases z : mo L S1 with
  | ok d2 S2 =>
    rw [z] at w
    simp only [R.bind_ok] at w
    intro ro2 H2 v2 gr2 ex2 hS2 rv2
    cases d2 with
    | ref n =>
      obtain ⟨a, ha, rfl⟩ := rv2.ref_inv
      simp only at w
      cases e1 : S2[n]? with
      | none => rw [e1] at w; exact w.elim
      | some ob =>
        rw [e1] at w
        cases ob with
        | ins c' fs =>
          simp only at w
          by_cases hc' : c' = c ∧ fs.length < 1000
          · rw [if_pos hc'] at w
            obtain ⟨rfl, hz⟩ := hc'
            obtain ⟨dx, ws, r, q⟩ := hS2.at ha e1
            refine ⟨a, _, dx, ws, rfl, q, by rw [cx.K]; exact hc, by rw [cx.K]; exact hn, by rw [← r.len]; exact hz, ?_⟩
            have ex3 : Ext H2 (upd H2 a (.ins (g.cls c') dx (putF f v ws))) := .put q ins_tup ins_frz
            have up := RelD.mono gr2 ex2.tup _ _ rv
            refine w ro2 _ s gr2 (ex2.trans ex3) (hS2.put ha e1 (fun z => z.elim) (fun z => z.elim) q ⟨dx, _, ?_, upd_same⟩ nu_ins) (RelL.mono gr2 (ex2.trans ex3).tup (RelL.mono gr ex.tup hL))
            rw [hf] at ex3 ⊢
            exact RelF.mono (.refl _) ex3.tup (fput_rel up r)
          · rw [if_neg hc'] at w; exact w.elim
        | _ => exact w.elim
    | _ => exact w.elim
  | exc x S2 => rw [z] at w; exact w.elim
  | err => rw [z] at w; exact w.elim⟩

/-! ### a def by its body -/
theorem df_body {y qual : Str} {st : Stmt} {f : Addr} {fd : FuncData} {N ps : List Str} {body : SM} (fn : Fun g.K y qual st f fd) (S : FnScope N ps (defScope st))
    (hb : ∀ (X : Cx) (E : XK), (∃ (cdv : Value) (A : Around) (outer : List Env) (s : Shared) (H : Hp), Room k (A.deeper (envOfC qual (defScope st) s.heap.objs.size f cdv)) ∧ X = cxOf (L2N.CX g.P g.w) g.P g.w g.K g.mg g.base N qual (defScope st) f cdv A outer s H E) → SSs X g E (defBody st) body) :
    FOk g (k + 1) f fd ps (MP.fn ps.length N.length body) := by
  obtain ⟨oc, od, kV, doc, pm, an, cdv, ct, osl, rfl, lk, hcd⟩ := fn.ex
  refine fn_of lk hcd S (fun vs H Q E ⟨ro, S, ds, hS, rv, h⟩ => ?_) fun A outer s H vs Q E hr ⟨ro, S', ds, hS, rv, h⟩ => ⟨_, (hb _ E ⟨cdv, A, outer, s, H, hr, rfl⟩).run, ?_⟩
  · unfold MP.fn at h
    split at h
    · rename_i e
      rw [← rv.length, e]
    · exact h.elim
  · unfold MP.fn at h
    split at h
    · rename_i e
      rw [← e] at h
      refine ⟨ro, _, S', RelL.start N rv, hS, ?_⟩
      cases z : body (ds.map some ++ List.replicate (N.length - ds.length) none) S' with
      | nx L1 S1 => rw [z] at h; exact fun ro' H' s' gr ex R r => h ro' H' _ gr ex R .non_mk
      | rt d S1 => rw [z] at h; exact h
      | exc x L1 S1 => rw [z] at h; exact h
      | bk L1 S1 => rw [z] at h; exact h.elim
      | ct L1 S1 => rw [z] at h; exact h.elim
      | err => rw [z] at h; exact h.elim
    · exact h.elim
/-- the context of a def's body -/
theorem ctx_of {cdv : Value} {A : Around} {outer : List Env} {s : Shared} {H : Hp} {N : List Str} {qual : Str} {sc : Scope} {f : Addr} (hr : Room k (A.deeper (envOfC qual sc s.heap.objs.size f cdv))) :
    Ctx g E (cxOf (L2N.CX g.P g.w) g.P g.w g.K g.mg g.base N qual sc f cdv A outer s H E) := ⟨rfl, rfl, rfl, rfl, rfl, L2N.takes_of rfl rfl rfl rfl, by have := hr.un; show (A.deeper _).units + 66 < cLine; omega⟩
theorem own_of {cdv : Value} {A : Around} {outer : List Env} {s : Shared} {H : Hp} {N : List Str} {qual : Str} {sc : Scope} {f : Addr} :
    PassesOwn (model (cxOf (L2N.CX g.P g.w) g.P g.w g.K g.mg g.base N qual sc f cdv A outer s H E).prog (cxOf (L2N.CX g.P g.w) g.P g.w g.K g.mg g.base N qual sc f cdv A outer s H E).w) (cxOf (L2N.CX g.P g.w) g.P g.w g.K g.mg g.base N qual sc f cdv A outer s H E).A
      (cxOf (L2N.CX g.P g.w) g.P g.w g.K g.mg g.base N qual sc f cdv A outer s H E).env (cxOf (L2N.CX g.P g.w) g.P g.w g.K g.mg g.base N qual sc f cdv A outer s H E).xe := passes_of (K := fun e s' => L2N.CX g.P g.w outer H s E e s') rfl
/-- .. of a comprehension's block -/
theorem ctx_blk {s : Shared} {H : Hp} {scope : Scope} {cenv : Env} {fp : List Addr} (c : Ctx g E X) : Ctx g E0 (X.blk s H scope cenv fp) := ⟨c.P, c.w, c.K, c.mg, c.base, fun u s' x => by
  obtain ⟨_, _, _, _, _, _, _, _, _, _, _, _, _, _, _, _, z⟩ := x
  exact z.elim, c.units⟩
end
end MP

namespace MP
open PySem L2
section
variable {X : Cx} {g : G} {E : XK} {a b e c : Expr} {m ma mb : EM} {pos : Pos}
theorem o_ints {k : Value → Value → Sem Value} {f : Op2} (h : ∀ (i j : Int) (S : Sto) (pins : List (Addr × Obj)) (s : Shared) (σ : St) (H : Hp) (v u : Value) (Q : VK) (ro : List Addr), Inv X pins σ H s → RelV (.int i) v → RelV (.int j) u → RelS g ro S H → Post RelD g E ro H Q (f (.int i) (.int j) S) →
      wpAny (model X.prog X.w) X.A (k v u) (EP X pins σ Q) X.xe s) (hf : ∀ dx dy S, (∀ i j, ¬ (dx = .int i ∧ dy = .int j)) → f dx dy S = .err) : O2 X g E k f := by
  intro pins s σ H x y v u Q I rx ry ⟨ro, S, dx, dy, hS, r1, r2, w⟩
  by_cases q : ∃ i j, dx = .int i ∧ dy = .int j
  · obtain ⟨i, j, rfl, rfl⟩ := q
    rw [r1.int_inv] at rx
    rw [r2.int_inv] at ry
    exact h i j S pins s σ H v u Q ro I rx ry hS w
  · rw [hf dx dy S fun i j z => q ⟨i, j, z⟩] at w
    exact w.elim
theorem o_cmp {k : Value → Value → Sem Value} {p : Int → Int → Bool} (h : OpR X k (rI0 fun i j => .bl (p i j))) : O2 X g E k (opCmp p) :=
  o_ints (fun i j S pins s σ H v u Q ro I rx ry hS w => h pins s σ H _ _ v u Q I rx ry ⟨i, j, rfl, rfl, w ro H _ (.refl _) (.refl _) hS .bl_mk⟩) fun dx dy S q => by
    unfold opCmp
    split
    · exact (q _ _ ⟨rfl, rfl⟩).elim
    · rfl
theorem o_lt : O2 X g E (compareOp .Lt) opLt := o_cmp op_lt
theorem o_le : O2 X g E (compareOp .LtE) opLe := o_cmp op_le
theorem o_gt : O2 X g E (compareOp .Gt) opGt := o_cmp op_gt
theorem o_ge : O2 X g E (compareOp .GtE) opGe := o_cmp op_ge
theorem o_sub : O2 X g E (binaryOp .Sub) opSub :=
  o_ints (fun i j S pins s σ H v u Q ro I rx ry hS w => op_sub pins s σ H _ _ v u Q I rx ry ⟨i, j, rfl, rfl, w ro H _ (.refl _) (.refl _) hS .int_mk⟩) fun dx dy S q => by
    unfold opSub
    split
    · exact (q _ _ ⟨rfl, rfl⟩).elim
    · rfl
theorem o_mod : O2 X g E (binaryOp .Mod) opMod :=
  o_ints (fun i j S pins s σ H v u Q ro I rx ry hS w => by
    simp only [opMod] at w
    split at w
    · rename_i hj
      exact op_mod pins s σ H _ _ v u Q I rx ry ⟨i, j, rfl, rfl, hj, w ro H _ (.refl _) (.refl _) hS .int_mk⟩
    · exact w.elim) fun dx dy S q => by
    unfold opMod
    split
    · exact (q _ _ ⟨rfl, rfl⟩).elim
    · rfl
theorem o_div : O2 X g E (binaryOp .FloorDiv) opDiv :=
  o_ints (fun i j S pins s σ H v u Q ro I rx ry hS w => by
    simp only [opDiv] at w
    split at w
    · rename_i hj
      have z : j.natAbs < 2 ^ 200 := by
        have h1 := hj.1
        have h2 := hj.2
        omega
      exact op_fdivW pins s σ H _ _ v u Q I rx ry ⟨i, j, rfl, rfl, wide_div hj.1 z (by decide) (by decide), w ro H _ (.refl _) (.refl _) hS .int_mk⟩
    · exact w.elim) fun dx dy S q => by
    unfold opDiv
    split
    · exact (q _ _ ⟨rfl, rfl⟩).elim
    · rfl
theorem o_pow : O2 X g E (binaryOp .Pow) opPow :=
  o_ints (fun i j S pins s σ H v u Q ro I rx ry hS w => by
    simp only [opPow] at w
    split at w
    · rename_i hj
      exact op_pow pins s σ H _ _ v u Q I rx ry ⟨i, j, rfl, rfl, hj, w ro H _ (.refl _) (.refl _) hS .int_mk⟩
    · exact w.elim) fun dx dy S q => by
    unfold opPow
    split
    · exact (q _ _ ⟨rfl, rfl⟩).elim
    · rfl
theorem okS_app {x y : List Nat} (h1 : ∀ c ∈ x, c < 0x110000) (h2 : ∀ c ∈ y, c < 0x110000) : ∀ c ∈ x ++ y, c < 0x110000 := fun c hc => (List.mem_append.mp hc).elim (h1 c) (h2 c)
theorem str_len (x : List Nat) : (⟨x.toArray⟩ : Str).length = x.length := SX.S_len x
theorem o_add (cx : Ctx g E X) : O2 X g E (binaryOp .Add) opAdd := by
  intro pins s σ H x y v u Q I rx ry ⟨ro, S, dx, dy, hS, r1, r2, w⟩
  cases dx with
  | int i =>
    cases dy with
    | int j => exact op_add pins s σ H x y v u Q I rx ry ⟨i, j, r1.int_inv, r2.int_inv, w ro H _ (.refl _) (.refl _) hS .int_mk⟩
    | _ => exact w.elim
  | str i =>
    cases dy with
    | str j =>
      simp only [opAdd] at w
      split at w
      · rename_i hz
        obtain ⟨e1, k1⟩ := r1.str_inv
        obtain ⟨e2, k2⟩ := r2.str_inv
        refine op_add_str pins s σ H x y v u Q I rx ry ⟨_, _, e1, e2, by rw [str_len, str_len, ← sz_eq]; exact hz, ?_⟩
        have q := w ro H _ (.refl _) (.refl _) hS (.str_mk (okS_app k1 k2))
        rw [SX.S_cat]
        exact q
      · exact w.elim
    | _ => exact w.elim
  | tup i =>
    cases dy with
    | tup j =>
      simp only [opAdd] at w
      split at w
      · rename_i hz
        obtain ⟨p1, xs, e1, h1, q1⟩ := r1.tup_inv
        obtain ⟨p2, ys, e2, h2, q2⟩ := r2.tup_inv
        refine op_catA pins s σ H x y v u Q I rx ry ⟨p1, p2, xs, ys, e1, e2, SqT.of h1, SqT.of h2, by rw [← q1.length, ← q2.length, ← sz_eq]; exact hz, fun z => ?_, fun _ z => ?_, fun _ _ p hp => ?_⟩
        · subst z
          have : i = [] := List.length_eq_zero_iff.mp (by rw [q1.length]; rfl)
          subst this
          exact w ro H _ (.refl _) (.refl _) hS (.tup_mk h2 q2)
        · subst z
          have : j = [] := List.length_eq_zero_iff.mp (by rw [q2.length]; rfl)
          subst this
          rw [List.append_nil] at w
          exact w ro H _ (.refl _) (.refl _) hS (.tup_mk h1 q1)
        · exact w ro _ _ (.refl _) (.new hp) (hS.aside hp) (.tup_mk upd_same (RelDs.mono (.refl _) (.new hp) _ _ (q1.append q2)))
      · exact w.elim
    | _ => exact w.elim
  | ref i =>
    cases dy with
    | ref j =>
      obtain ⟨p1, h1, e1⟩ := r1.ref_inv
      obtain ⟨p2, h2, e2⟩ := r2.ref_inv
      simp only [opAdd] at w
      split at w
      · rename_i xs ys z1 z2
        split at w
        · rename_i hz
          obtain ⟨vs1, q1, t1⟩ := hS.at h1 z1
          obtain ⟨vs2, q2, t2⟩ := hS.at h2 z2
          refine op_cat pins s σ H x y v u Q I rx ry ⟨p1, p2, vs1, vs2, e1, e2, t1, t2, by rw [← q1.length, ← q2.length, ← sz_eq]; exact hz, fun p hp => ?_⟩
          exact w.push hS hp ⟨_, RelDs.mono (.snoc _ _) (.new hp) _ _ (q1.append q2), upd_same⟩
        · exact w.elim
      · exact w.elim
    | _ => exact w.elim
  | _ => cases dy <;> exact w.elim
theorem mulOk_ok {i j : Int} (h : mulOk i j = true) : IntMulOk i j := by
  unfold mulOk at h
  simp only [Bool.or_eq_true, Bool.and_eq_true, decide_eq_true_eq] at h
  rcases h with (⟨h1, h2⟩ | ⟨h1, h2⟩) | ⟨h1, h2⟩
  · exact CMul.ok (.inl ⟨h1, h2⟩)
  · exact CMul.ok (.inr ⟨h1, h2⟩)
  · exact CMulW.ok (wide_mul h1 h2 (by decide) (by decide) (by decide))
theorem flat_rep {ro : List Addr} {H : Hp} {ds : List D} {vs : List V} (h : RelDs ro H ds vs) : ∀ n : Nat, RelDs ro H (List.replicate n ds).flatten (List.replicate n vs).flatten
  | 0 => .nil
  | n + 1 => by
    rw [List.replicate_succ, List.replicate_succ, List.flatten_cons, List.flatten_cons]
    exact h.append (flat_rep h n)
theorem o_mul (cx : Ctx g E X) : O2 X g E (binaryOp .Mult) opMul := by
  intro pins s σ H x y v u Q I rx ry ⟨ro, S, dx, dy, hS, r1, r2, w⟩
  cases dx with
  | int i =>
    cases dy with
    | int j =>
      simp only [opMul] at w
      split at w
      · rename_i hz
        rw [r1.int_inv] at rx
        rw [r2.int_inv] at ry
        obtain ⟨t, rfl⟩ := rx
        obtain ⟨t', rfl⟩ := ry
        exact PyProof.Rows.mul_int ⟨.int (i * j), H, I.tok _, ⟨_, rfl⟩, w ro H _ (.refl _) (.refl _) hS .int_mk⟩ (mulOk_ok hz)
      · exact w.elim
    | _ => exact w.elim
  | tup i =>
    cases dy with
    | int k =>
      simp only [opMul] at w
      split at w
      · rename_i hz
        obtain ⟨p1, xs, e1, h1, q1⟩ := r1.tup_inv
        refine op_repT pins s σ H x y v u Q I rx ry ⟨p1, k, xs, e1, r2.int_inv, SqT.of h1, fun z => hz.1 (List.length_eq_zero_iff.mp (by rw [q1.length, z]; rfl)), hz.2.1, hz.2.2.1, by rw [← q1.length]; exact hz.2.2.2, fun p hp => ?_⟩
        exact w ro _ _ (.refl _) (.new hp) (hS.aside hp) (.tup_mk upd_same (RelDs.mono (.refl _) (.new hp) _ _ (flat_rep q1 _)))
      · exact w.elim
    | _ => exact w.elim
  | ref n =>
    cases dy with
    | int k =>
      obtain ⟨p1, h1, e1⟩ := r1.ref_inv
      simp only [opMul] at w
      split at w
      · rename_i xs z1
        split at w
        · rename_i hz
          obtain ⟨vs1, q1, t1⟩ := hS.at h1 z1
          refine op_rep pins s σ H x y v u Q I rx ry ⟨p1, k, vs1, e1, r2.int_inv, t1, hz.1, hz.2.1, by rw [← q1.length, ← sz_eq]; exact hz.2.2, fun p hp => ?_⟩
          exact w.push hS hp ⟨_, RelDs.mono (.snoc _ _) (.new hp) _ _ (flat_rep q1 _), upd_same⟩
        · exact w.elim
      · exact w.elim
    | _ => exact w.elim
  | _ => cases dy <;> exact w.elim

/-! ### data compared -/
theorem reify_dp {ro : List Addr} {S : Sto} {H : Hp} (hS : RelS g ro S H) : ∀ (n : Nat) (d : D) (v : V) (p : PyData), RelD ro H d v → reify n S d = some p → Dp g.K H v p ∧ p.canLay0 = true ∧ p.depth ≤ n := by
  have str : ∀ (n : Nat) (x : List Nat) (v : V) (p : PyData), RelD ro H (.str x) v → p = .str ⟨x.toArray⟩ → Dp g.K H v p ∧ p.canLay0 = true ∧ p.depth ≤ n := by
    intro n x v p r e
    subst e
    obtain ⟨e, k⟩ := r.str_inv
    subst e
    refine ⟨.str _, ?_, Nat.zero_le _⟩
    simp only [PyData.canLay0, PyData.strOk]
    rw [Array.all_eq_true']
    intro c hc
    simpa using k c (by simpa using hc)
  intro n
  induction n with
  | zero =>
    intro d v p r e
    cases d with
    | non => cases e; rw [r.non_inv]; exact ⟨.non, rfl, Nat.le_refl _⟩
    | bl b => cases e; rw [r.bl_inv]; exact ⟨.bl b, rfl, Nat.le_refl _⟩
    | int b => cases e; rw [r.int_inv]; exact ⟨.int b, rfl, Nat.le_refl _⟩
    | str x => exact str 0 x v p r (by simpa [reify] using e.symm)
    | _ => simp [reify] at e
  | succ n ih =>
    have all : ∀ (ds : List D) (vs : List V) (ps : List PyData), RelDs ro H ds vs → ds.mapM (reify n S) = some ps → DpAll g.K H vs ps ∧ PyData.canLayAll0 ps = true ∧ PyData.depthAll ps ≤ n := by
      intro ds
      induction ds with
      | nil =>
        intro vs ps r e
        rw [List.mapM_nil] at e
        cases e
        rw [r.inv0]
        exact ⟨.nil, rfl, Nat.zero_le _⟩
      | cons d ds ihd =>
        intro vs ps r e
        rw [List.mapM_cons] at e
        obtain ⟨x, us, rfl, r1, r2⟩ := r.inv
        cases h1 : reify n S d with
        | none => rw [h1] at e; cases e
        | some p =>
          cases h2 : ds.mapM (reify n S) with
          | none => rw [h1, h2] at e; cases e
          | some qs =>
            rw [h1, h2] at e
            cases e
            obtain ⟨a1, a2, a3⟩ := ih d x p r1 h1
            obtain ⟨b1, b2, b3⟩ := ihd us qs r2 h2
            refine ⟨.cons a1 b1, ?_, ?_⟩
            · simp only [PyData.canLayAll0, a2, b2, Bool.and_self]
            · simp only [PyData.depthAll]
              omega
    intro d v p r e
    cases d with
    | non => cases e; rw [r.non_inv]; exact ⟨.non, rfl, Nat.zero_le _⟩
    | bl b => cases e; rw [r.bl_inv]; exact ⟨.bl b, rfl, Nat.zero_le _⟩
    | int b => cases e; rw [r.int_inv]; exact ⟨.int b, rfl, Nat.zero_le _⟩
    | str x => exact str (n + 1) x v p r (by simpa [reify] using e.symm)
    | tup ds =>
      obtain ⟨a, vs, rfl, ha, rr⟩ := r.tup_inv
      simp only [reify] at e
      cases h1 : ds.mapM (reify n S) with
      | none => rw [h1] at e; cases e
      | some ps =>
        rw [h1] at e
        cases e
        obtain ⟨b1, b2, b3⟩ := all ds vs ps rr h1
        refine ⟨.tup (SqT.of ha) b1, b2, ?_⟩
        simp only [PyData.depth]
        omega
    | ref k =>
      obtain ⟨a, ha, rfl⟩ := r.ref_inv
      simp only [reify] at e
      have go : ∀ (xs : List D) (vs : List V), SqL g.K H a vs → RelDs ro H xs vs → (xs.mapM (reify n S)).map PyData.list = some p → Dp g.K H (.ref a) p ∧ p.canLay0 = true ∧ p.depth ≤ n + 1 := by
        intro xs vs hs rr e
        cases h1 : xs.mapM (reify n S) with
        | none => rw [h1] at e; cases e
        | some ps =>
          rw [h1] at e
          cases e
          obtain ⟨b1, b2, b3⟩ := all xs vs ps rr h1
          refine ⟨.lst hs b1, b2, ?_⟩
          simp only [PyData.depth]
          omega
      split at e
      · rename_i xs z
        obtain ⟨vs, q, t⟩ := hS.at ha z
        exact go xs vs (SqL.of t) q e
      · rename_i xs z
        obtain ⟨vs, q, t⟩ := hS.at ha z
        exact go xs vs t.sq q e
      · cases e
    | exn _ _ => simp [reify] at e
theorem shaped_of {p : PyData} (h1 : p.canLay0 = true) (h2 : p.depth ≤ 60) : SeqAt.shaped p = true := by
  unfold SeqAt.shaped
  rw [h1, decide_eq_true (by omega : p.depth ≤ 64)]
  rfl
theorem o_eq (cx : Ctx g E X) : O2 X g E (compareOp .Eq) opEq := by
  intro pins s σ H x y v u Q I rx ry ⟨ro, S, dx, dy, hS, r1, r2, w⟩
  unfold opEq at w
  split at w
  · rename_i p q h1 h2
    obtain ⟨a1, a2, a3⟩ := reify_dp hS 60 dx x p r1 h1
    obtain ⟨b1, b2, b3⟩ := reify_dp hS 60 dy y q r2 h2
    exact op_eqD (by have := cx.units; omega) pins s σ H x y v u Q I rx ry ⟨p, q, by rw [cx.K]; exact a1, by rw [cx.K]; exact b1, shaped_of a2 a3, shaped_of b2 b3, w ro H _ (.refl _) (.refl _) hS .bl_mk⟩
  · exact w.elim
theorem o_ne (cx : Ctx g E X) : O2 X g E (compareOp .NotEq) opNe := by
  intro pins s σ H x y v u Q I rx ry ⟨ro, S, dx, dy, hS, r1, r2, w⟩
  unfold opNe at w
  split at w
  · rename_i p q h1 h2
    obtain ⟨a1, a2, a3⟩ := reify_dp hS 60 dx x p r1 h1
    obtain ⟨b1, b2, b3⟩ := reify_dp hS 60 dy y q r2 h2
    exact op_neD (by have := cx.units; omega) pins s σ H x y v u Q I rx ry ⟨p, q, by rw [cx.K]; exact a1, by rw [cx.K]; exact b1, shaped_of a2 a3, shaped_of b2 b3, w ro H _ (.refl _) (.refl _) hS .bl_mk⟩
  · exact w.elim
/-- is None .. -/
theorem se_isN {j : Nat} {pos2 : Pos} (ha : SE X g E a ma) : SE X g E (.Compare a [.Is] [.Constant .none j pos2] pos) (eUn opIsN ma) := ⟨pe_imp (pe_cmp (pc_isN ha.run) rfl) fun s H Q ⟨ro, L, S, hL, hS, h⟩ =>
  ⟨ro, L, S, hL, hS, Post.bind h fun d S1 ro1 H1 v gr ex hS1 rv w => by
    have q := w ro1 H1 _ (.refl _) (.refl _) hS1 .bl_mk
    have e : decide (d = .non) = decide (v = .non) := by
      cases d with
      | non => rw [rv.non_inv] <;> rfl
      | bl b => rw [rv.bl_inv] <;> rfl
      | int b => rw [rv.int_inv] <;> rfl
      | str b => rw [rv.str_inv.1] <;> rfl
      | tup b => obtain ⟨_, _, e, _⟩ := rv.tup_inv; rw [e] <;> rfl
      | ref b => obtain ⟨_, _, e⟩ := rv.ref_inv; rw [e] <;> rfl
      | exn _ _ => rw [rv.exn_inv] <;> rfl
    rw [e] at q
    exact q⟩⟩
theorem se_notN {j : Nat} {pos2 : Pos} (ha : SE X g E a ma) : SE X g E (.Compare a [.IsNot] [.Constant .none j pos2] pos) (eUn opNotN ma) := ⟨pe_imp (pe_cmp (pc_notN ha.run) rfl) fun s H Q ⟨ro, L, S, hL, hS, h⟩ =>
  ⟨ro, L, S, hL, hS, Post.bind h fun d S1 ro1 H1 v gr ex hS1 rv w => by
    have q := w ro1 H1 _ (.refl _) (.refl _) hS1 .bl_mk
    have e : decide (d = .non) = decide (v = .non) := by
      cases d with
      | non => rw [rv.non_inv] <;> rfl
      | bl b => rw [rv.bl_inv] <;> rfl
      | int b => rw [rv.int_inv] <;> rfl
      | str b => rw [rv.str_inv.1] <;> rfl
      | tup b => obtain ⟨_, _, e, _⟩ := rv.tup_inv; rw [e] <;> rfl
      | ref b => obtain ⟨_, _, e⟩ := rv.ref_inv; rw [e] <;> rfl
      | exn _ _ => rw [rv.exn_inv] <;> rfl
    rw [e] at q
    exact q⟩⟩
end
end MP

namespace MP
open PySem L2
section
variable {X : Cx} {g : G} {E : XK} {a b e c o : Expr} {es : List Expr} {m ma mb mo : EM} {ms : AM} {pos p apos : Pos}
/-! ### subscripts by values -/
theorem ixN_eq (n : Nat) (i : Int) : MP.ixN n i = L2.ixN n i := rfl
theorem atI_rel {ro : List Addr} {H : Hp} {ds : List D} {vs : List V} {i : Int} {d : D} (h : RelDs ro H ds vs) (e : MP.atI ds i = some d) : ∃ v, L2.atI vs i = some v ∧ RelD ro H d v := by
  unfold MP.atI at e
  unfold L2.atI
  rw [← h.length]
  cases q : MP.ixN ds.length i with
  | none => rw [q] at e; cases e
  | some j =>
    rw [q] at e
    rw [ixN_eq] at q
    rw [q]
    exact h.get e
theorem se_ix (cx : Ctx g E X) (ha : SE X g E a ma) (hb : SE X g E b mb) (hs : PlainIx b := by intro _ _; rfl) : SE X g E (.Subscript a b pos) (eBin opIx ma mb) :=
  ⟨pe_imp (pe_ix ix_seq ha.run hb.run hs) fun s H Q h => rd_bin (fun x y H Q ⟨ro, S, dx, dy, hS, r1, r2, w⟩ => by
    cases dx with
    | tup xs =>
      cases dy with
      | int i =>
        obtain ⟨p1, vs, e1, h1, q1⟩ := r1.tup_inv
        simp only [opIx] at w
        split at w
        · rename_i d z
          obtain ⟨v, z2, r⟩ := atI_rel q1 z
          exact .inr (.inl ⟨p1, vs, i, v, e1, r2.int_inv, SqT.of h1, z2, w ro H v (.refl _) (.refl _) hS r⟩)
        · exact w.elim
      | _ => exact w.elim
    | str z =>
      cases dy with
      | int i =>
        obtain ⟨e1, k1⟩ := r1.str_inv
        simp only [opIx] at w
        split at w
        · rename_i hz
          split at w
          · rename_i c z2
            refine .inr (.inr ⟨_, i, c, e1, r2.int_inv, by rw [str_len, ← sz_eq]; exact hz, ?_, ?_⟩)
            · show L2.atI z i = some c
              unfold L2.atI
              rw [← ixN_eq]
              exact z2
            · refine w ro H _ (.refl _) (.refl _) hS (.str_mk fun c' hc => ?_)
              rw [List.mem_singleton] at hc
              subst hc
              unfold MP.atI at z2
              cases q : MP.ixN z.length i with
              | none => rw [q] at z2; cases z2
              | some j => rw [q] at z2; exact k1 _ (List.mem_of_getElem? z2)
          · exact w.elim
        · exact w.elim
      | _ => exact w.elim
    | ref n =>
      cases dy with
      | int i =>
        obtain ⟨p1, h1, e1⟩ := r1.ref_inv
        simp only [opIx] at w
        split at w
        · rename_i xs z
          obtain ⟨vs, q, t⟩ := hS.at h1 z
          split at w
          · rename_i d z1
            obtain ⟨v, z2, r⟩ := atI_rel q z1
            exact .inl ⟨p1, vs, i, v, e1, r2.int_inv, SqL.of t, z2, w ro H v (.refl _) (.refl _) hS r⟩
          · exact w.elim
        · rename_i xs z
          obtain ⟨vs, q, t⟩ := hS.at h1 z
          split at w
          · rename_i d z1
            obtain ⟨v, z2, r⟩ := atI_rel q z1
            exact .inl ⟨p1, vs, i, v, e1, r2.int_inv, by rw [cx.K]; exact t.sq, z2, w ro H v (.refl _) (.refl _) hS r⟩
          · exact w.elim
        · exact w.elim
      | _ => exact w.elim
    | _ => cases dy <;> exact w.elim) h⟩
/-- x is True .. -/
theorem se_isB {k : Bool} {j : Nat} {pos2 : Pos} (ha : SE X g E a ma) : SE X g E (.Compare a [.Is] [.Constant (.bool k) j pos2] pos) (eUn (opIsB k) ma) :=
  ⟨pe_imp (pe_cmpR op_is_bl ha.run (se_bl (g := g) (E := E)).run rfl) fun s H Q ⟨ro, L, S, hL, hS, h⟩ => ⟨ro, L, S, hL, hS, Post.bind h fun d S1 ro1 H1 v gr ex hS1 rv w => ⟨ro1, L, S1, hL.mono gr ex, hS1, fun ro2 H2 v2 gr2 ex2 hS2 rv2 => by
    cases d with
    | bl b => exact ⟨b, k, rv.bl_inv, rv2.bl_inv, w ro2 H2 _ gr2 ex2 hS2 .bl_mk⟩
    | _ => exact w.elim⟩⟩⟩
theorem se_notB {k : Bool} {j : Nat} {pos2 : Pos} (ha : SE X g E a ma) : SE X g E (.Compare a [.IsNot] [.Constant (.bool k) j pos2] pos) (eUn (opNotB k) ma) :=
  ⟨pe_imp (pe_cmpR op_isnot_bl ha.run (se_bl (g := g) (E := E)).run rfl) fun s H Q ⟨ro, L, S, hL, hS, h⟩ => ⟨ro, L, S, hL, hS, Post.bind h fun d S1 ro1 H1 v gr ex hS1 rv w => ⟨ro1, L, S1, hL.mono gr ex, hS1, fun ro2 H2 v2 gr2 ex2 hS2 rv2 => by
    cases d with
    | bl b => exact ⟨b, k, rv.bl_inv, rv2.bl_inv, w ro2 H2 _ gr2 ex2 hS2 .bl_mk⟩
    | _ => exact w.elim⟩⟩⟩
theorem se_neg (ha : SE X g E a ma) : SE X g E (.UnaryOp .USub a pos) (eUn opNeg ma) := ⟨pe_imp (pe_un un_neg ha.run) fun s H Q ⟨ro, L, S, hL, hS, h⟩ => ⟨ro, L, S, hL, hS, Post.bind h fun d S1 ro1 H1 v gr ex hS1 rv w => by
  cases d with
  | int i => exact ⟨i, rv.int_inv, w ro1 H1 _ (.refl _) (.refl _) hS1 .int_mk⟩
  | _ => exact w.elim⟩⟩

/-! ### slices -/
structure SP (X : Cx) (g : G) (E : XK) (e : Option Expr) (m : PM) : Prop where
  run : PO X e (rd (fun _ _ a b => a = b) g E m)
theorem sp_no : SP X g E none pNo := ⟨⟨fun pins s σ H Q I ⟨ro, L, S, hL, hS, h⟩ => po_none.run pins s σ H Q I (h ro H _ (.refl _) (.refl _) hS rfl)⟩⟩
theorem sp_some (ha : SE X g E a ma) : SP X g E (some a) (pSome ma) := ⟨⟨fun pins s σ H Q I ⟨ro, L, S, hL, hS, h⟩ => (po_some ha.run).run pins s σ H Q I ⟨ro, L, S, hL, hS, Post.bind h fun d S1 ro1 H1 v gr ex hS1 rv w => by
  cases d with
  | int i => exact ⟨i, rv.int_inv, w ro1 H1 _ (.refl _) (.refl _) hS1 rfl⟩
  | _ => exact w.elim⟩⟩⟩
theorem sIx_eq (n d : Nat) (o : Option Int) : MP.sIx n d o = HT.sIx n d o := by cases o <;> rfl
theorem cut_rel {ro : List Addr} {H : Hp} {ds : List D} {vs : List V} (h : RelDs ro H ds vs) (lo hi : Option Int) : RelDs ro H (cut ds lo hi) (cutV vs lo hi) := by
  unfold cut cutV
  rw [sIx_eq, sIx_eq, h.length]
  exact (h.drop _).take _
theorem se_sl {lo hi : Option Expr} {ml mh : PM} {pos2 : Pos} (cx : Ctx g E X) (ha : SE X g E a ma) (hl : SP X g E lo ml) (hh : SP X g E hi mh) : SE X g E (.Subscript a (.Slice lo hi none pos2) pos) (eSl ma ml mh) :=
  ⟨pe_imp (pe_slice (sl_list.or (sl_tupA.or sl_str)) ha.run hl.run hh.run) fun s H Q ⟨ro, L, S, hL, hS, h⟩ => by
    refine ⟨ro, L, S, hL, hS, Post.bind h fun d S1 ro1 H1 v gr ex hS1 rv w => ⟨ro1, L, S1, hL.mono gr ex, hS1, Post.bind w fun l S2 ro2 H2 l' gr2 ex2 hS2 el w => ⟨ro2, L, S2, RelL.mono gr2 ex2.tup (hL.mono gr ex), hS2, Post.bind w fun u S3 ro3 H3 u' gr3 ex3 hS3 eu w => ?_⟩⟩⟩
    subst el eu
    have rv := RelD.mono gr3 ex3.tup _ _ (RelD.mono gr2 ex2.tup _ _ rv)
    cases d with
    | tup xs =>
      obtain ⟨p1, vs, e1, h1, q1⟩ := rv.tup_inv
      refine .inr (.inl ⟨p1, vs, e1, SqT.of h1, fun z => ?_, fun _ p hp => ?_⟩)
      · have e : cut xs l u = xs := by
          unfold cut
          rw [sIx_eq, sIx_eq, q1.length, z.1, z.2, List.drop_zero, ← q1.length, Nat.sub_zero, List.take_length]
        have w : Post RelD g E ro3 H3 Q (.ok (.tup (cut xs l u)) S3) := w
        rw [e] at w
        exact w ro3 H3 _ (.refl _) (.refl _) hS3 (.tup_mk h1 q1)
      · exact w ro3 _ _ (.refl _) (.new hp) (hS3.aside hp) (.tup_mk upd_same (RelDs.mono (.refl _) (.new hp) _ _ (cut_rel q1 l u)))
    | str z =>
      obtain ⟨e1, k1⟩ := rv.str_inv
      simp only [opSl] at w
      split at w
      · rename_i hz
        refine .inr (.inr ⟨_, e1, by rw [str_len, ← sz_eq]; exact hz, ?_⟩)
        have q := w ro3 H3 _ (.refl _) (.refl _) hS3 (.str_mk (x := cut z l u) fun c hc => k1 c ?_)
        · have e : (⟨(cut z l u).toArray⟩ : Str) = cutS ⟨z.toArray⟩ l u := by
            unfold cut cutS
            rw [sIx_eq, sIx_eq, str_len]
          rw [e] at q
          exact q
        · unfold cut at hc
          exact List.mem_of_mem_drop (List.mem_of_mem_take hc)
      · exact w.elim
    | ref n =>
      obtain ⟨p1, h1, e1⟩ := rv.ref_inv
      simp only [opSl] at w
      split at w
      · rename_i xs z
        obtain ⟨vs, q, t⟩ := hS3.at h1 z
        exact .inl ⟨p1, vs, e1, SqL.of t, fun p hp => w.push hS3 hp ⟨_, RelDs.mono (.snoc _ _) (.new hp) _ _ (cut_rel q l u), upd_same⟩⟩
      · exact w.elim
    | _ => exact w.elim⟩

/-! ### builtins -/
def rN (g : G) (E : XK) (F : Fn) : List V → Hp → VK → Prop := fun vs H Q => ∃ (ro : List Addr) (S : Sto) (ds : List D), RelS g ro S H ∧ RelDs ro H ds vs ∧ Post RelD g E ro H Q (F ds S)
theorem se_callB {x : Str} {id : String} {F : Fn} (hc : CallR X (.builtin id) (rN g E F)) (hg : Gl X x) (hm : X.mg x = none) (hv : bootBuiltins x = some (.builtin id)) (ha : SA X g E (e :: es) ms) (hn : x ≠ "__name__" := by decide) (hdb : (x == ("__debug__" : Str)) = false := by decide)
    (he : starEach (e :: es) X.env = (false, eval e X.env) :: starEach es X.env := by rfl) (hpl : (backTo pos (starEach es X.env)).any (·.1) = false := by rfl) : SE X g E (.Call (.Name x p) (e :: es) [] pos) (eCall F ms) :=
  ⟨pe_imp (pe_callB hc hg hm hv ha.run hn hdb he hpl) fun s H Q ⟨ro, L, S, hL, hS, h⟩ => ⟨ro, L, S, hL, hS, Post.bind h fun ds S1 ro1 H1 vs gr ex hS1 rv w => ⟨ro1, S1, ds, hS1, rv, w⟩⟩⟩
theorem se_callT {x : Str} {T : String} {F : Fn} (hc : CallR X (.type T) (rN g E F)) (hg : Gl X x) (hm : X.mg x = none) (hv : bootBuiltins x = some (.type T)) (ha : SA X g E (e :: es) ms) (hn : x ≠ "__name__" := by decide) (hdb : (x == ("__debug__" : Str)) = false := by decide)
    (he : starEach (e :: es) X.env = (false, eval e X.env) :: starEach es X.env := by rfl) (hpl : (backTo pos (starEach es X.env)).any (·.1) = false := by rfl) : SE X g E (.Call (.Name x p) (e :: es) [] pos) (eCall F ms) :=
  ⟨pe_imp (pe_callTy hc hg hm hv ha.run hn hdb he hpl) fun s H Q ⟨ro, L, S, hL, hS, h⟩ => ⟨ro, L, S, hL, hS, Post.bind h fun ds S1 ro1 H1 vs gr ex hS1 rv w => ⟨ro1, S1, ds, hS1, rv, w⟩⟩⟩
theorem callR_imp {f : Value} {r r' : List V → Hp → VK → Prop} (h : CallR X f r) (i : ∀ xs H Q, r' xs H Q → r xs H Q) : CallR X f r' := fun pins s σ H xs us Q I rv q => h pins s σ H xs us Q I rv (i _ _ _ q)
theorem c_len (cx : Ctx g E X) : CallR X (.builtin "len") (rN g E fLen) := callR_imp call_len fun xs H Q ⟨ro, S, ds, hS, rv, w⟩ => by
  unfold fLen at w
  split at w
  · rename_i z
    obtain ⟨v, r, rfl, r1, r2⟩ := rv.inv
    cases r2.inv0
    split at w
    · rename_i hz
      rw [r1.str_inv.1]
      exact ⟨_, z.length, rfl, ⟨by rw [str_len, ← sz_eq]; exact hz, (str_len z).symm⟩, w ro H _ (.refl _) (.refl _) hS .int_mk⟩
    · exact w.elim
  · rename_i ys
    obtain ⟨v, r, rfl, r1, r2⟩ := rv.inv
    cases r2.inv0
    obtain ⟨p1, vs, rfl, h1, q1⟩ := r1.tup_inv
    exact ⟨_, ys.length, rfl, .inr ⟨vs, SqT.of h1, q1.length⟩, w ro H _ (.refl _) (.refl _) hS .int_mk⟩
  · rename_i n
    obtain ⟨v, r, rfl, r1, r2⟩ := rv.inv
    cases r2.inv0
    obtain ⟨p1, h1, rfl⟩ := r1.ref_inv
    split at w
    · rename_i ys z
      obtain ⟨vs, q, t⟩ := hS.at h1 z
      exact ⟨_, ys.length, rfl, .inl ⟨vs, SqL.of t, q.length⟩, w ro H _ (.refl _) (.refl _) hS .int_mk⟩
    · rename_i ys z
      obtain ⟨vs, q, t⟩ := hS.at h1 z
      exact ⟨_, ys.length, rfl, .inl ⟨vs, by rw [cx.K]; exact t.sq, q.length⟩, w ro H _ (.refl _) (.refl _) hS .int_mk⟩
    · exact w.elim
  · exact w.elim
theorem c_max2 (hc : X.calm = true) : CallR X (.builtin "max") (rN g E fMax2) := callR_imp (call_max2 hc) fun xs H Q ⟨ro, S, ds, hS, rv, w⟩ => by
  unfold fMax2 at w
  split at w
  · obtain ⟨v, r, rfl, r1, rr⟩ := rv.inv
    obtain ⟨v2, r', rfl, r2, rr2⟩ := rr.inv
    cases rr2.inv0
    exact ⟨_, _, by rw [r1.int_inv, r2.int_inv], w ro H _ (.refl _) (.refl _) hS .int_mk⟩
  · exact w.elim
theorem c_min2 (hc : X.calm = true) : CallR X (.builtin "min") (rN g E fMin2) := callR_imp (call_min2 hc) fun xs H Q ⟨ro, S, ds, hS, rv, w⟩ => by
  unfold fMin2 at w
  split at w
  · obtain ⟨v, r, rfl, r1, rr⟩ := rv.inv
    obtain ⟨v2, r', rfl, r2, rr2⟩ := rr.inv
    cases rr2.inv0
    exact ⟨_, _, by rw [r1.int_inv, r2.int_inv], w ro H _ (.refl _) (.refl _) hS .int_mk⟩
  · exact w.elim
theorem c_int : CallR X (.type "int") (rN g E fInt) := callR_imp call_int1 fun xs H Q ⟨ro, S, ds, hS, rv, w⟩ => by
  unfold fInt at w
  split at w
  · obtain ⟨v, r, rfl, r1, rr⟩ := rv.inv
    cases rr.inv0
    exact .inl ⟨_, by rw [r1.int_inv], w ro H _ (.refl _) (.refl _) hS .int_mk⟩
  · obtain ⟨v, r, rfl, r1, rr⟩ := rv.inv
    cases rr.inv0
    exact .inr ⟨_, by rw [r1.bl_inv], w ro H _ (.refl _) (.refl _) hS .int_mk⟩
  · exact w.elim
theorem allB_rel {ro : List Addr} {H : Hp} : ∀ {ds : List D} {vs : List V} {b : Bool}, RelDs ro H ds vs → allB ds = some b → ∃ bs : List Bool, vs = bs.map V.bl ∧ b = bs.all id
  | [], vs, b, h, e => by cases e; exact ⟨[], by rw [h.inv0] <;> rfl, rfl⟩
  | d :: ds, vs, b, h, e => by
    obtain ⟨v, r, rfl, h2, h3⟩ := h.inv
    cases d with
    | bl k =>
      simp only [allB] at e
      cases q : allB ds with
      | none => rw [q] at e; cases e
      | some b' =>
        rw [q] at e
        cases e
        obtain ⟨bs, e1, e2⟩ := allB_rel h3 q
        exact ⟨k :: bs, by rw [h2.bl_inv, e1] <;> rfl, by rw [e2] <;> rfl⟩
    | _ => simp [allB] at e
theorem c_all (hc : X.calm = true) : CallR X (.builtin "all") (rN g E fAll) := callR_imp (cr_all hc) fun xs H Q ⟨ro, S, ds, hS, rv, w⟩ => by
  unfold fAll at w
  split at w
  · rename_i n
    obtain ⟨v, r, rfl, r1, r2⟩ := rv.inv
    cases r2.inv0
    obtain ⟨p1, h1, rfl⟩ := r1.ref_inv
    split at w
    · rename_i ys z
      obtain ⟨vs, q, t⟩ := hS.at h1 z
      split at w
      · rename_i b hb
        obtain ⟨bs, e1, e2⟩ := allB_rel q hb
        subst e1 e2
        exact ⟨p1, bs, rfl, SqL.of t, w ro H _ (.refl _) (.refl _) hS .bl_mk⟩
      · exact w.elim
    · exact w.elim
  · exact w.elim
theorem intsOf_rel {ro : List Addr} {H : Hp} : ∀ {ds : List D} {vs : List V} {is : List Int}, RelDs ro H ds vs → intsOf ds = some is → vs = is.map V.int
  | [], vs, b, h, e => by cases e; rw [h.inv0] <;> rfl
  | d :: ds, vs, b, h, e => by
    obtain ⟨v, r, rfl, h2, h3⟩ := h.inv
    cases d with
    | int k =>
      simp only [intsOf] at e
      cases q : intsOf ds with
      | none => rw [q] at e; cases e
      | some b' =>
        rw [q] at e
        cases e
        rw [h2.int_inv, intsOf_rel h3 q] <;> rfl
    | _ => simp [intsOf] at e
theorem c_sum (hc : X.calm = true) : CallR X (.builtin "sum") (rN g E fSum) := callR_imp (cr_sum hc) fun xs H Q ⟨ro, S, ds, hS, rv, w⟩ => by
  unfold fSum at w
  split at w
  · rename_i n
    obtain ⟨v, r, rfl, r1, r2⟩ := rv.inv
    cases r2.inv0
    obtain ⟨p1, h1, rfl⟩ := r1.ref_inv
    split at w
    · rename_i ys z
      obtain ⟨vs, q, t⟩ := hS.at h1 z
      split at w
      · rename_i b hb
        have e1 := intsOf_rel q hb
        subst e1
        exact ⟨p1, _, rfl, SqL.of t, w ro H _ (.refl _) (.refl _) hS .int_mk⟩
      · exact w.elim
    · exact w.elim
  · exact w.elim
theorem c_list : CallR X (.type "list") (rN g E fList) := callR_imp call_list_of fun xs H Q ⟨ro, S, ds, hS, rv, w⟩ => by
  unfold fList at w
  split at w
  · rename_i n
    obtain ⟨v, r, rfl, r1, r2⟩ := rv.inv
    cases r2.inv0
    obtain ⟨p1, h1, rfl⟩ := r1.ref_inv
    split at w
    · rename_i ys z
      obtain ⟨vs, q, t⟩ := hS.at h1 z
      exact ⟨p1, vs, rfl, .inl (SqL.of t), fun l hl => w.push hS hl ⟨vs, RelDs.mono (.snoc _ _) (.new hl) _ _ q, upd_same⟩⟩
    · exact w.elim
  · rename_i ys
    obtain ⟨v, r, rfl, r1, r2⟩ := rv.inv
    cases r2.inv0
    obtain ⟨p1, vs, rfl, h1, q⟩ := r1.tup_inv
    exact ⟨p1, vs, rfl, .inr (SqT.of h1), fun l hl => w.push hS hl ⟨vs, RelDs.mono (.snoc _ _) (.new hl) _ _ q, upd_same⟩⟩
  · exact w.elim
theorem c_tuple : CallR X (.type "tuple") (rN g E fTuple) := callR_imp call_tuple_of fun xs H Q ⟨ro, S, ds, hS, rv, w⟩ => by
  unfold fTuple at w
  split at w
  · rename_i n
    obtain ⟨v, r, rfl, r1, r2⟩ := rv.inv
    cases r2.inv0
    obtain ⟨p1, h1, rfl⟩ := r1.ref_inv
    split at w
    · rename_i ys z
      obtain ⟨vs, q, t⟩ := hS.at h1 z
      exact ⟨p1, vs, rfl, .inl ⟨SqL.of t, fun l hl => w ro _ _ (.refl _) (.new hl) (hS.aside hl) (.tup_mk upd_same (RelDs.mono (.refl _) (.new hl) _ _ q))⟩⟩
    · exact w.elim
  · rename_i ys
    obtain ⟨v, r, rfl, r1, r2⟩ := rv.inv
    cases r2.inv0
    obtain ⟨p1, vs, rfl, h1, q⟩ := r1.tup_inv
    exact ⟨p1, vs, rfl, .inr ⟨SqT.of h1, w ro H _ (.refl _) (.refl _) hS (.tup_mk h1 q)⟩⟩
  · exact w.elim
/-- isinstance(x, T) -/
theorem tyNm_rel {ro : List Addr} {S : Sto} {H : Hp} (hS : RelS g ro S H) {d : D} {v : V} {t : String} (r : RelD ro H d v) (e : tyNm S d = some t) : TyX g.K H v (.type t) ∧ t ∈ ["NoneType", "bool", "int", "str", "tuple", "list", "dict"] := by
  cases d with
  | non => cases e; rw [r.non_inv]; exact ⟨.base .non, by simp⟩
  | bl b => cases e; rw [r.bl_inv]; exact ⟨.base (.bl b), by simp⟩
  | int b => cases e; rw [r.int_inv]; exact ⟨.base (.int b), by simp⟩
  | str b => cases e; rw [r.str_inv.1]; exact ⟨.base (.str _), by simp⟩
  | tup b => cases e; obtain ⟨_, _, rfl, h1, _⟩ := r.tup_inv; exact ⟨.base (.tup h1), by simp⟩
  | ref n =>
    obtain ⟨a, h1, rfl⟩ := r.ref_inv
    simp only [tyNm] at e
    split at e
    · rename_i xs z
      cases e
      obtain ⟨vs, q, t⟩ := hS.at h1 z
      exact ⟨.base (.lst t), by simp⟩
    · rename_i t' kvs z
      cases e
      have q := hS.at h1 z
      cases t' with
      | true => obtain ⟨ws, _, q⟩ := (show ∃ ws, RelTV ro H kvs ws ∧ AtL H a false (.dT ws) from q); exact ⟨.base (.dT q), by simp⟩
      | false => obtain ⟨ws, _, q⟩ := (show ∃ ws, RelKV ro H kvs ws ∧ AtL H a false (.dK ws) from q); exact ⟨.base (.dK q), by simp⟩
    · cases e
  | exn _ _ => cases e
theorem se_isi {T : String} {x : Str} {p2 : Pos} (cx : Ctx g E X) (hT : T ∈ ["int", "bool", "str", "tuple", "list"]) (ha : SE X g E a ma) (hm : X.mg "isinstance" = none) (hm2 : X.mg x = none) (hv : bootBuiltins x = some (.type T)) (hg : Gl X "isinstance" := by rfl) (hg2 : Gl X x := by rfl) (hn : x ≠ "__name__" := by decide) (hdb : (x == ("__debug__" : Str)) = false := by decide)
    (h1 : starEach [a, .Name x p2] X.env = (false, eval a X.env) :: starEach [.Name x p2] X.env := by rfl) (h2 : starEach [.Name x p2] X.env = (false, eval (.Name x p2) X.env) :: starEach [] X.env := by rfl) (hpl : (backTo pos (starEach [.Name x p2] X.env)).any (·.1) = false := by rfl) :
    SE X g E (.Call (.Name "isinstance" p) [a, .Name x p2] [] pos) (eUn (opIsi T) ma) := by
  have ht : PE X (.Name x p2) (tC (.ty T)) := pe_bltn hg2 hm2 hv rfl hn hdb
  refine ⟨pe_imp (pe_callB call_isi hg hm (by decide +kernel) (pa_cons ha.run (pa_cons ht pa_nil h2) h1) (by decide) (by decide) h1 hpl) fun s H Q ⟨ro, L, S, hL, hS, h⟩ => ?_⟩
  refine ⟨ro, L, S, hL, hS, Post.bind h fun d S1 ro1 H1 v gr ex hS1 rv w => ?_⟩
  unfold opIsi at w
  split at w
  · rename_i t ht
    obtain ⟨q1, q2⟩ := tyNm_rel hS1 rv ht
    refine ⟨v, .ty T, .type t, .type T, _, rfl, .ty T, by rw [cx.K]; exact q1, kit_ty ?_, w ro1 H1 _ (.refl _) (.refl _) hS1 .bl_mk⟩
    simp only [List.mem_cons, List.not_mem_nil, or_false] at q2 hT
    rcases q2 with rfl | rfl | rfl | rfl | rfl | rfl | rfl <;> rcases hT with rfl | rfl | rfl | rfl | rfl <;> decide +kernel
  · exact w.elim
end
end MP

namespace MP
open PySem L2
section
variable {X : Cx} {g : G} {E : XK} {a b e c o : Expr} {es : List Expr} {m ma mb mo : EM} {ms : AM} {pos p apos : Pos}
/-! ### methods of lists -/
def rM (g : G) (E : XK) (F : Fn) : V → List V → Hp → VK → Prop := fun x vs H Q => rN g E F (x :: vs) H Q
theorem mtr_imp {id : String} {r r' : V → List V → Hp → VK → Prop} (h : MtR X id r) (i : ∀ x xs H Q, r' x xs H Q → r x xs H Q) : MtR X id r' := fun pins s σ H x xs v us Q I rx rv q => h pins s σ H x xs v us Q I rx rv (i _ _ _ _ q)
theorem rd_bm {T : String} {F : Fn} {s : St} {H : Hp} {Q : VK} (hK : X.K = g.K) (hT : T = "list" ∨ T = "str") (h : rdE g E (eBM T F mo ms) s H Q) : tBM X.K T (rM g E F) (rdE g E mo) (rdA g E ms) s H Q := by
  obtain ⟨ro, L, S, hL, hS, h⟩ := h
  refine ⟨ro, L, S, hL, hS, Post.bind h fun d S1 ro1 H1 v gr ex hS1 rv w => ?_⟩
  split at w
  · rename_i ht
    refine ⟨?_, ro1, L, S1, hL.mono gr ex, hS1, Post.bind w fun ds S2 ro2 H2 vs gr2 ex2 hS2 rv2 w => ⟨ro2, S2, d :: ds, hS2, .cons (rv.mono gr2 ex2) rv2, w⟩⟩
    cases d with
    | non => cases ht; rcases hT with q | q <;> exact absurd q (by decide)
    | bl b => cases ht; rcases hT with q | q <;> exact absurd q (by decide)
    | int b => cases ht; rcases hT with q | q <;> exact absurd q (by decide)
    | str b => cases ht; rw [rv.str_inv.1] <;> rfl
    | tup b => cases ht; rcases hT with q | q <;> exact absurd q (by decide)
    | ref n =>
      obtain ⟨p1, h1, rfl⟩ := rv.ref_inv
      simp only [tyNm] at ht
      split at ht
      · rename_i xs z
        cases ht
        obtain ⟨vs, q, t⟩ := hS1.at h1 z
        exact .inl ⟨rfl, vs, SqL.of t⟩
      · cases ht; rcases hT with q | q <;> exact absurd q (by decide)
      · cases ht
    | exn _ _ => cases ht
  · exact w.elim
theorem se_bm {T id : String} {name : Str} {F : Fn} (cx : Ctx g E X) (pa : PlainAttrs T) (slot : Slot T name id) (hty : typeOf (.builtin id) = pure (.type "method_descriptor")) (hm : MtR X id (rM g E F)) (hT : T = "list" ∨ T = "str") (ho : SE X g E o mo) (ha : SA X g E (e :: es) ms)
    (hbase : attributeBase o name X.env (eval o X.env) = eval o X.env := by rfl)
    (hfew : ((backTo pos (starEach (e :: es) X.env)).all (fun x => !x.1) && (backToKw pos (keywordEach [] X.env)).all (fun x => x.1.isSome)
      && decide ((e :: es).length + ([] : List Keyword).length + (if ([] : List Keyword).isEmpty then 0 else 1) < 30)) = true := by rfl)
    (hline : (apos.endLine == pos.line) = true := by rfl) (hs : starEach (e :: es) X.env = (false, eval e X.env) :: starEach es X.env := by rfl) (hplain : (backTo pos (starEach es X.env)).any (·.1) = false := by rfl) :
    SE X g E (.Call (.Attribute o name apos) (e :: es) [] pos) (eBM T F mo ms) := ⟨pe_imp (pe_bm pa slot hty hm ho.run ha.run hbase hfew hline hs hplain) fun s H Q h => rd_bm cx.K hT h⟩
theorem RelS.putL {ro : List Addr} {S : Sto} {H : Hp} (hS : RelS g ro S H) {n : Nat} {a : Addr} {xs ys : List D} {vs us : List V} (hn : ro[n]? = some a) (e : S[n]? = some (.lst xs)) (h : H a = some (.lst vs)) (r : RelDs ro H ys us) : RelS g ro (S.set n (.lst ys)) (upd H a (.lst us)) :=
  hS.put hn e (fun z => z.elim) (fun z => z.elim) h ⟨us, RelDs.mono (.refl _) (.put h lst_tup) _ _ r, upd_same⟩ nu_lst
theorem m_append : MtR X "list.append" (rM g E fAppend) := mtr_imp mt_append fun x xs H Q ⟨ro, S, ds, hS, rv, w⟩ => by
  unfold fAppend at w
  split at w
  · rename_i n y
    obtain ⟨v, r, e1, r1, rr⟩ := rv.inv
    obtain ⟨v2, r', rfl, r2, rr2⟩ := rr.inv
    cases rr2.inv0
    cases e1
    obtain ⟨p1, h1, rfl⟩ := r1.ref_inv
    split at w
    · rename_i ys z
      obtain ⟨vs, q, t⟩ := hS.at h1 z
      split at w
      · rename_i hz
        exact ⟨p1, vs, v2, rfl, rfl, t, by rw [← q.length, ← sz_eq]; exact hz, w ro _ _ (.refl _) (.put t lst_tup lst_frz) (hS.putL h1 z t (q.append (.cons r2 .nil))) .non_mk⟩
      · exact w.elim
    · exact w.elim
  · exact w.elim
theorem m_insert : MtR X "list.insert" (rM g E fInsert) := mtr_imp mt_insert fun x xs H Q ⟨ro, S, ds, hS, rv, w⟩ => by
  unfold fInsert at w
  split at w
  · rename_i n i y
    obtain ⟨v, r, e1, r1, rr⟩ := rv.inv
    obtain ⟨v2, r', rfl, r2, rr2⟩ := rr.inv
    obtain ⟨v3, r'', rfl, r3, rr3⟩ := rr2.inv
    cases rr3.inv0
    cases e1
    obtain ⟨p1, h1, rfl⟩ := r1.ref_inv
    split at w
    · rename_i ys z
      obtain ⟨vs, q, t⟩ := hS.at h1 z
      split at w
      · rename_i hz
        exact ⟨p1, vs, i, v3, rfl, by rw [r2.int_inv], t, by rw [← q.length, ← sz_eq]; exact hz.1, hz.2.1, hz.2.2, w ro _ _ (.refl _) (.put t lst_tup lst_frz) (hS.putL h1 z t (((q.take _).append (.cons r3 .nil)).append (q.drop _))) .non_mk⟩
      · exact w.elim
    · exact w.elim
  · exact w.elim
theorem m_pop0 : MtR X "list.pop" (rM g E fPopAt) := mtr_imp mt_popAt fun x xs H Q ⟨ro, S, ds, hS, rv, w⟩ => by
  unfold fPopAt at w
  split at w
  · rename_i n i
    obtain ⟨v, r, e1, r1, rr⟩ := rv.inv
    obtain ⟨v2, r', rfl, r2, rr2⟩ := rr.inv
    cases rr2.inv0
    cases e1
    obtain ⟨p1, h1, rfl⟩ := r1.ref_inv
    split at w
    · rename_i ys z
      obtain ⟨vs, q, t⟩ := hS.at h1 z
      split at w
      · rename_i y rest
        split at w
        · rename_i hi
          subst hi
          obtain ⟨u, us, rfl, q1, q2⟩ := q.inv
          refine ⟨p1, _, 0, 0, u, rfl, by rw [r2.int_inv], t, by decide, by decide, ?_, rfl, w ro _ _ (.refl _) (.put t lst_tup lst_frz) (hS.putL h1 z t q2) (q1.mono (.refl _) (Ext.put t lst_tup lst_frz).tup)⟩
          simp [seqIndex?]
        · exact w.elim
      · exact w.elim
    · exact w.elim
  · exact w.elim
/-- xs[i] = v -/
theorem sg_setL {i : Expr} {mi : EM} (cx : Ctx g E X) (ho : SE X g E o mo) (hi : SE X g E i mi)
    (ha : ∀ v, assign (.Subscript o i pos) X.env v = (do
      let ov ← holding [v] (eval o X.env)
      let iv ← holding [v, ov] (eval i X.env)
      standAt pos
      holding [v, ov, iv] (setItem ov iv v)
      release [v, ov, iv] []) := by intro _; rfl) : SG X g (.Subscript o i pos) (gSub setL mo mi) :=
  ⟨pg_imp (pg_sub ho.run hi.run set_list ha) fun v s H Q ⟨ro, L, S, d, hL, hS, rv, w⟩ => by
    refine ⟨ro, L, S, hL, hS, ?_⟩
    unfold MP.gSub at w
    cases z : mo L S with
    | ok d1 S1 =>
      rw [z] at w
      simp only [R.bind_ok] at w
      intro ro1 H1 v1 gr1 ex1 hS1 rv1
      refine ⟨ro1, L, S1, hL.mono gr1 ex1, hS1, ?_⟩
      cases z2 : mi L S1 with
      | ok d2 S2 =>
        rw [z2] at w
        simp only [R.bind_ok] at w
        intro ro2 H2 v2 gr2 ex2 hS2 rv2
        unfold setL at w
        split at w
        · rename_i n i
          obtain ⟨p1, h1, rfl⟩ := rv1.ref_inv
          have h2 := gr2 _ _ h1
          cases z3 : S2[n]? with
          | none => rw [z3] at w; exact w.elim
          | some ob =>
            rw [z3] at w
            cases ob with
            | lst xs =>
              simp only at w
              obtain ⟨vs, q, t⟩ := hS2.at h2 z3
              cases z4 : MP.ixN xs.length i with
              | none => rw [z4] at w; exact w.elim
              | some j =>
                rw [z4] at w
                simp only [R.bind_ok] at w
                have r3 := RelD.mono gr2 ex2.tup _ _ (RelD.mono gr1 ex1.tup _ _ rv)
                refine ⟨p1, vs, i, j, rfl, rv2.int_inv, t, by rw [← q.length]; exact z4, ?_⟩
                exact w ro2 _ s (gr1.trans gr2) (ex1.trans (ex2.trans (.put t lst_tup lst_frz))) (hS2.putL h2 z3 t (RelDs.set r3 j q)) (RelL.mono (gr1.trans gr2) (ex1.trans (ex2.trans (.put t lst_tup lst_frz))).tup hL)
            | _ => exact w.elim
        · exact w.elim
      | exc x S2 => rw [z2] at w; exact w.elim
      | err => rw [z2] at w; exact w.elim
    | exc x S1 => rw [z] at w; exact w.elim
    | err => rw [z] at w; exact w.elim⟩

/-! ### in -/
theorem all_dp {ro : List Addr} {S : Sto} {H : Hp} (hS : RelS g ro S H) : ∀ (ds : List D) (vs : List V) (ps : List PyData) (n : Nat), RelDs ro H ds vs → ds.mapM (reify n S) = some ps → DpAll g.K H vs ps ∧ PyData.canLayAll0 ps = true ∧ PyData.depthAll ps ≤ n
  | [], vs, ps, n, r, e => by
    rw [List.mapM_nil] at e
    cases e
    rw [r.inv0]
    exact ⟨.nil, rfl, Nat.zero_le _⟩
  | d :: ds, vs, ps, n, r, e => by
    rw [List.mapM_cons] at e
    obtain ⟨x, us, rfl, r1, r2⟩ := r.inv
    cases h1 : reify n S d with
    | none => rw [h1] at e; cases e
    | some p =>
      cases h2 : ds.mapM (reify n S) with
      | none => rw [h1, h2] at e; cases e
      | some qs =>
        rw [h1, h2] at e
        cases e
        obtain ⟨a1, a2, a3⟩ := reify_dp hS n d x p r1 h1
        obtain ⟨b1, b2, b3⟩ := all_dp hS ds us qs n r2 h2
        refine ⟨.cons a1 b1, ?_, ?_⟩
        · simp only [PyData.canLayAll0, a2, b2, Bool.and_self]
        · simp only [PyData.depthAll]
          omega
theorem o_inL (cx : Ctx g E X) : O2 X g E (compareOp .In) (inL false) := by
  intro pins s σ H x y v u Q I rx ry ⟨ro, S, dx, dy, hS, r1, r2, w⟩
  unfold inL at w
  split at w
  · rename_i n
    obtain ⟨p1, h1, rfl⟩ := r2.ref_inv
    split at w
    · rename_i xs z
      obtain ⟨vs, q, t⟩ := hS.at h1 z
      split at w
      · rename_i p ps e1 e2
        obtain ⟨a1, a2, a3⟩ := reify_dp hS 60 dx x p r1 e1
        obtain ⟨b1, b2, b3⟩ := all_dp hS xs vs ps 59 q e2
        refine op_inD (by have := cx.units; omega) pins s σ H x _ v u Q I rx ry ⟨p, ps, by rw [cx.K]; exact a1, by rw [cx.K]; exact .lst (SqL.of t) b1, shaped_of a2 a3, shaped_of (p := .list ps) b2 (by simp only [PyData.depth]; omega), ?_⟩
        exact w ro H _ (.refl _) (.refl _) hS .bl_mk
      · exact w.elim
    · exact w.elim
  · exact w.elim
theorem o_notInL (cx : Ctx g E X) : O2 X g E (compareOp .NotIn) (inL true) := by
  intro pins s σ H x y v u Q I rx ry ⟨ro, S, dx, dy, hS, r1, r2, w⟩
  unfold inL at w
  split at w
  · rename_i n
    obtain ⟨p1, h1, rfl⟩ := r2.ref_inv
    split at w
    · rename_i xs z
      obtain ⟨vs, q, t⟩ := hS.at h1 z
      split at w
      · rename_i p ps e1 e2
        obtain ⟨a1, a2, a3⟩ := reify_dp hS 60 dx x p r1 e1
        obtain ⟨b1, b2, b3⟩ := all_dp hS xs vs ps 59 q e2
        refine op_notInD (by have := cx.units; omega) pins s σ H x _ v u Q I rx ry ⟨p, ps, by rw [cx.K]; exact a1, by rw [cx.K]; exact .lst (SqL.of t) b1, shaped_of a2 a3, shaped_of (p := .list ps) b2 (by simp only [PyData.depth]; omega), ?_⟩
        exact w ro H _ (.refl _) (.refl _) hS .bl_mk
      · exact w.elim
    · exact w.elim
  · exact w.elim
theorem o_inS : O2 X g E (compareOp .In) (inS false) := by
  intro pins s σ H x y v u Q I rx ry ⟨ro, S, dx, dy, hS, r1, r2, w⟩
  unfold inS at w
  split at w
  · rename_i c z
    refine op_in_sign pins s σ H x y v u Q I rx ry ⟨c, ⟨z.toArray⟩, r1.str_inv.1, r2.str_inv.1, ?_⟩
    exact w ro H _ (.refl _) (.refl _) hS .bl_mk
  · exact w.elim
theorem o_notInS : O2 X g E (compareOp .NotIn) (inS true) := by
  intro pins s σ H x y v u Q I rx ry ⟨ro, S, dx, dy, hS, r1, r2, w⟩
  unfold inS at w
  split at w
  · rename_i c z
    refine op_notIn_sign pins s σ H x y v u Q I rx ry ⟨c, ⟨z.toArray⟩, r1.str_inv.1, r2.str_inv.1, ?_⟩
    exact w ro H _ (.refl _) (.refl _) hS .bl_mk
  · exact w.elim

/-! ### raise C('..') -/
structure Xc (g : G) (x : Str) (c : Nat) : Prop where
  mgx : g.mg x = some (.ref (g.ecls c))
  ex : PySem.W.excIn g.K (g.ecls c) [.type "ValueError", .type "Exception", .type "BaseException", .type "object"] "ValueError.__new__" = true
  kp : PySem.W.keepIn g.K (.ref (g.ecls c)) = true
  sub : PySem.W.subIn g.K (.ref (g.ecls c)) (.type "BaseException") = some true
  ty : PySem.W.typeIn g.K (.ref (g.ecls c)) = some (.type "type")
theorem ss_raise {x m : Str} {c j : Nat} {p2 pos2 : Pos} (cx : Ctx g E X) (h : Xc g x c) (hc : X.calm = true) (hg : Gl X x) (hdb : (x == ("__debug__" : Str)) = false := by decide) : SS X g E (.Raise (some (.Call (.Name x p) [.Constant (.str m) j p2] [] pos)) none pos2) (sRaise c aNil) :=
  ⟨ps_imp (L2N.ps_raise hc cx.takes (L2N.pmk_own PySem.F.excBase_ValueError (by rw [cx.K]; exact h.ex) (by rw [cx.mg]; exact h.mgx) (by rw [cx.K]; exact h.kp) (raises_own (by rw [cx.K]; exact h.sub) (by rw [cx.K]; exact h.ty)) hg hdb)) fun D s H ⟨ro, L, S, hL, hS, h⟩ =>
    h ro H _ _ (.refl _) (.refl _) hS ⟨rfl, rfl⟩⟩

/-! ### calls by defaults -/
def DfD (g : G) (k : Nat) (x : Str) (F : Fn) (dd : List D) : Prop := ∃ (f : Addr) (fd : FuncData) (ps : List Str) (ds : List Value) (dvs : List V), FOk g k f fd ps F ∧ g.mg x = some (.ref f) ∧ PySem.W.keepIn g.K (.ref f) = true ∧ Binds g.K fd ps ds ∧ Vals dvs ds ∧ ∀ ro H, RelDs ro H dd dvs
theorem se_callD {k : Nat} {x : Str} {F : Fn} {dd : List D} (c : Ctx g E X) (d : DfD g k x F dd) (hr : Room k X.A) (hg : Gl X x) (ha : SA X g E (e :: es) ms) (hdb : (x == ("__debug__" : Str)) = false := by decide) (he : starEach (e :: es) X.env = (false, eval e X.env) :: starEach es X.env := by rfl)
    (hpl : (backTo pos (starEach es X.env)).any (·.1) = false := by rfl) : SE X g E (.Call (.Name x p) (e :: es) [] pos) (eCall (withD F dd) ms) := by
  obtain ⟨f, fd, ps, dvl, dvs, h, hm, hk, hb, hv, hd⟩ := d
  refine ⟨pe_imp (pe_call (h.at c) hr hg (by rw [c.mg]; exact hm) (by rw [c.K]; exact hk) (by rw [c.K]; exact hb) hv (passM c) ha.run hdb he hpl) fun s H Q ⟨ro, L, S, hL, hS, h⟩ => ?_⟩
  refine ⟨ro, L, S, hL, hS, Post.bind h fun ds S1 ro1 H1 vs gr ex hS1 rv h => ⟨ro1, S1, ds ++ dd, hS1, rv.append (hd _ _), h⟩⟩
/-- as df_body, for a def with defaults -/
theorem df_bodyD {k : Nat} {y qual : Str} {params : Arguments} {bd : List Stmt} {sc : Scope} {dvs : List V} {kws : List (Str × V)} {f : Addr} {fd : FuncData} {N ps : List Str} {body : SM} (fn : FunD g.K y qual params bd sc dvs kws f fd) (S : FnScope N ps sc)
    (hb : ∀ (X : Cx) (E : XK), (∃ (cdv : Value) (A : Around) (outer : List Env) (s : Shared) (H : Hp), Room k (A.deeper (PyProof.Rows.envOfC qual sc s.heap.objs.size f cdv)) ∧ X = cxOf (L2N.CX g.P g.w) g.P g.w g.K g.mg g.base N qual sc f cdv A outer s H E) → SSs X g E bd body) :
    FOk g (k + 1) f fd ps (MP.fn ps.length N.length body) := by
  obtain ⟨oc, od, dV, kV, doc, pm, an, cdv, ct, osl, rfl, lk, hcd, _, _⟩ := fn.ex
  refine fn_of lk hcd S (fun vs H Q E ⟨ro, S, ds, hS, rv, h⟩ => ?_) fun A outer s H vs Q E hr ⟨ro, S', ds, hS, rv, h⟩ => ⟨_, (hb _ E ⟨cdv, A, outer, s, H, hr, rfl⟩).run, ?_⟩
  · unfold MP.fn at h
    split at h
    · rename_i e
      rw [← rv.length, e]
    · exact h.elim
  · unfold MP.fn at h
    split at h
    · rename_i e
      rw [← e] at h
      refine ⟨ro, _, S', RelL.start N rv, hS, ?_⟩
      cases z : body (ds.map some ++ List.replicate (N.length - ds.length) none) S' with
      | nx L1 S1 => rw [z] at h; exact fun ro' H' s' gr ex R r => h ro' H' _ gr ex R .non_mk
      | rt d S1 => rw [z] at h; exact h
      | exc x L1 S1 => rw [z] at h; exact h
      | bk L1 S1 => rw [z] at h; exact h.elim
      | ct L1 S1 => rw [z] at h; exact h.elim
      | err => rw [z] at h; exact h.elim
    · exact h.elim
end
end MP

namespace MP
open PySem L2
section
variable {X : Cx} {g : G} {E : XK} {a b c e o i : Expr} {es : List Expr} {m ma mb mc mo mi : EM} {ms : AM} {pos p apos : Pos}
theorem se_chain {op op' : CmpOp} {f f' : Op2} (ho : O2 X g E (compareOp op) f) (ho' : O2 X g E (compareOp op') f') (ha : SE X g E a ma) (hb : SE X g E b mb) (hc : SE X g E c mc) (hm : lastMarks [op, op'] [b, c] = false := by with_unfolding_all rfl) :
    SE X g E (.Compare a [op, op'] [b, c] pos) (eChain f f' ma mb mc) := ⟨pe_imp (pe_chain ho ho' ha.run hb.run hc.run hm) fun s H Q ⟨ro, L, S, hL, hS, h⟩ => by
  refine ⟨ro, L, S, hL, hS, Post.bind h fun d S1 ro1 H1 v gr ex hS1 rv w => ⟨ro1, L, S1, hL.mono gr ex, hS1, Post.bind w fun d2 S2 ro2 H2 v2 gr2 ex2 hS2 rv2 w => ?_⟩⟩
  refine ⟨ro2, S2, d, d2, hS2, rv.mono gr2 ex2, rv2, Post.bind w fun d3 S3 ro3 H3 v3 gr3 ex3 hS3 rv3 w => ?_⟩
  cases d3 with
  | bl k =>
    refine ⟨k, rv3.bl_inv, ?_⟩
    cases k with
    | true =>
      rw [if_pos rfl]
      refine ⟨ro3, L, S3, RelL.mono gr3 ex3.tup (RelL.mono gr2 ex2.tup (hL.mono gr ex)), hS3, Post.bind w fun d4 S4 ro4 H4 v4 gr4 ex4 hS4 rv4 w => ?_⟩
      exact ⟨ro4, S4, d2, d4, hS4, RelD.mono gr4 ex4.tup _ _ (RelD.mono gr3 ex3.tup _ _ rv2), rv4, w⟩
    | false =>
      rw [if_neg Bool.false_ne_true]
      exact w ro3 H3 _ (.refl _) (.refl _) hS3 .bl_mk
  | _ => exact w.elim⟩
theorem se_rev {k : Nat} {p1 p2 p3 : Pos} (hK : X.K = g.K) (ha : SE X g E a ma) : SE X g E (.Subscript a (.Slice none none (some (.UnaryOp .USub (.Constant (.int 1) k p1) p2)) p3) pos) (eUn opRev ma) := ⟨pe_imp (pe_revL ha.run) fun s H Q ⟨ro, L, S, hL, hS, h⟩ => by
  refine ⟨ro, L, S, hL, hS, Post.bind h fun d S1 ro1 H1 v gr ex hS1 rv w => ?_⟩
  cases d with
  | ref n =>
    obtain ⟨p1, h1, e1⟩ := rv.ref_inv
    simp only [opRev] at w
    split at w
    · rename_i xs z
      obtain ⟨vs, q, t⟩ := hS1.at h1 z
      have rr : ∀ {ds : List D} {us : List V}, RelDs ro1 H1 ds us → RelDs ro1 H1 ds.reverse us.reverse := by
        intro ds
        induction ds with
        | nil => intro us h; rw [h.inv0]; exact .nil
        | cons d ds ih =>
          intro us h
          obtain ⟨v, r, rfl, h2, h3⟩ := h.inv
          rw [List.reverse_cons, List.reverse_cons]
          exact (ih h3).append (.cons h2 .nil)
      exact ⟨p1, vs, e1, SqL.of t, fun p hp => w.push hS1 hp ⟨_, RelDs.mono (.snoc _ _) (.new hp) _ _ (rr q), upd_same⟩⟩
    · exact w.elim
  | _ => exact w.elim⟩
/-- y = [..], y a local name -/
theorem ss_setLc (j : Nat) {y : Str} {py spos : Pos} {tg iter elt : Expr} {ifs : List Expr} {scope : Scope} {own : List (Str × Nat)} {w : WM} {t : TM} {tt : BM} {em : EM} [pt : PureT t] (hc : X.calm = true) (hN : X.N.Nodup) (hi : SI X g E tg iter w) (ok : BlkOk X.N X.env.scope scope own)
    (hg : ∀ (s : Shared) (H : Hp) (C : Addr) (cl : List (Str × Addr)) (fp : List Addr), SGw (X.blk s H scope (compEnvC scope cl C X.env) fp) g (own.map (·.2)) tg t) (ht : ∀ (s : Shared) (H : Hp) (C : Addr) (cl : List (Str × Addr)) (fp : List Addr), STs (X.blk s H scope (compEnvC scope cl C X.env) fp) g E0 ifs tt)
    (he : ∀ (s : Shared) (H : Hp) (C : Addr) (cl : List (Str × Addr)) (fp : List Addr), SE (X.blk s H scope (compEnvC scope cl C X.env) fp) g E0 elt em) (hy : X.N[j]? = some y := by rfl) (hyl : X.env.scope.names.lookup y = some .local := by rfl)
    (hsw : swapsWith (.ListComp elt [⟨tg, iter, ifs, 0⟩] scope pos) (some (.Name y py)) spos.line X.env = pure true := by exact sw_true rfl rfl rfl (by decide +kernel)) (hs : ∀ x, foldedSetIterable iter X.env x = pure x := by intro _; rfl) :
    SS X g E (.Assign [.Name y py] (.ListComp elt [⟨tg, iter, ifs, 0⟩] scope pos) spos) (sAsg (eLc w t tt em (own.map (·.2))) (gV j)) :=
  ⟨ps_imp (ps_setLc hc hN hy hyl hsw hi.run ok (fun s H C cl fp => (hg s H C cl fp).run) (fun s H C cl fp => (ht s H C cl fp).run) (fun s H C cl fp => (he s H C cl fp).run) hs) fun D s H ⟨ro, L, S, hL, hS, h⟩ =>
    lc_rd (iter := iter) ⟨ro, L, S, hL, hS, PostS.st h fun d S1 ro1 H1 v gr ex hS1 rv w => w ro1 H1 _ (.refl _) (.refl _) hS1 ((hL.mono gr ex).set j rv)⟩⟩
/-- a, b, c = x, y, z: three names -/
theorem ss_par3 {i j l : Nat} {x y z : Str} {p q r : Expr} {mp mq mr : EM} {px py pz pt : Pos} {kt k2 : Nat} {pt2 : Pos} (hc : X.calm = true) (hN : X.N.Nodup) (hp : SE X g E p mp) (hq : SE X g E q mq) (hr : SE X g E r mr) (hij : i ≠ j) (hil : i ≠ l) (hjl : j ≠ l)
    (hi : X.N[i]? = some x := by rfl) (hj : X.N[j]? = some y := by rfl) (hl : X.N[l]? = some z := by rfl)
    (hx : X.env.scope.names.lookup x = some .local := by rfl) (hy : X.env.scope.names.lookup y = some .local := by rfl) (hz : X.env.scope.names.lookup z = some .local := by rfl)
    (hw : swappedStores [.Tuple [.Name x px, .Name y py, .Name z pz] kt pt] (.Tuple [p, q, r] k2 pt2) X.env = pure (some [x, y, z]) := by rfl) (hs : swapsWithSole [.Tuple [.Name x px, .Name y py, .Name z pz] kt pt] (.Tuple [p, q, r] k2 pt2) pos.line X.env = pure false := by rfl)
    (h1 : starEach [p, q, r] X.env = (false, eval p X.env) :: starEach [q, r] X.env := by rfl) (h2 : starEach [q, r] X.env = (false, eval q X.env) :: starEach [r] X.env := by rfl) (h3 : starEach [r] X.env = (false, eval r X.env) :: starEach [] X.env := by rfl) :
    SS X g E (.Assign [.Tuple [.Name x px, .Name y py, .Name z pz] kt pt] (.Tuple [p, q, r] k2 pt2) pos) (sAsg (eTup (aCons mp (aCons mq (aCons mr aNil)))) (gTup 3 (gCons (gV i) (gCons (gV j) (gCons (gV l) gNil))))) :=
  ⟨ps_imp (ps_par3 hc hN hi hj hl hij hil hjl hx hy hz (sa_cons hp (sa_cons hq (sa_cons hr sa_nil h3) h2) h1).run hw hs) fun D s H ⟨ro, L, S, hL, hS, h⟩ => by
    refine ⟨ro, L, S, hL, hS, ?_⟩
    unfold sAsg MP.eTup at h
    cases z : aCons mp (aCons mq (aCons mr aNil)) L S with
    | ok ds S1 =>
      rw [z] at h
      simp only [R.bind_ok] at h
      intro ro1 H1 vs gr ex hS1 rv
      split at h
      · match ds with
        | [d1, d2, d3] =>
          obtain ⟨v1, _, rfl, r1, rr⟩ := rv.inv
          obtain ⟨v2, _, rfl, r2, rr2⟩ := rr.inv
          obtain ⟨v3, _, rfl, r3, rr3⟩ := rr2.inv
          cases rr3.inv0
          simp only [R.st_ok, MP.gTup, MP.gCons, MP.gV, MP.gNil, R.bind_ok, List.length_cons, List.length_nil, if_true] at h
          exact ⟨v1, v2, v3, rfl, h ro1 H1 _ gr ex hS1 ((((hL.mono gr ex).set i r1).set j r2).set l r3)⟩
        | [] => exact absurd h (by simp [R.st_ok, MP.gTup, PostS])
        | [_] => exact absurd h (by simp [R.st_ok, MP.gTup, PostS])
        | [_, _] => exact absurd h (by simp [R.st_ok, MP.gTup, PostS])
        | _ :: _ :: _ :: _ :: _ => exact absurd h (by simp [R.st_ok, MP.gTup, PostS])
      · exact h.elim
    | exc x S1 => rw [z] at h; exact h
    | err => rw [z] at h; exact h⟩
/-- constants of the module -/
theorem se_globI {x : Str} {k : Int} (hg : Gl X x) (h : ∃ t, X.mg x = some (.int k t)) (hd : (x == ("__debug__" : Str)) = false := by decide) : SE X g E (.Name x pos) (eC (.int k)) := by
  obtain ⟨t, h⟩ := h
  exact se_glob (v := .int k) hg h ⟨t, rfl⟩ (fun _ _ => .int_mk) hd
theorem se_globS {x y : Str} {z : List Nat} (hg : Gl X x) (h : ∃ t, X.mg x = some (.str y t)) (hy : y = ⟨z.toArray⟩ := by decide +kernel) (hz : okS z = true := by decide +kernel) (hd : (x == ("__debug__" : Str)) = false := by decide) : SE X g E (.Name x pos) (eC (.str z)) := by
  obtain ⟨t, h⟩ := h
  subst hy
  exact se_glob (v := .str ⟨z.toArray⟩) hg h ⟨t, rfl⟩ (fun _ _ => .str_mk fun c hc => by simpa using List.all_eq_true.mp hz c hc) hd

/-! ### keys of dicts -/
theorem dkey_kV {ro : List Addr} {H : Hp} {d : D} {v : V} (r : RelD ro H d v) (h : isKey d = true) : ∃ k, dkey d = some k ∧ v = kV k := by
  cases d with
  | int n => exact ⟨.inl n, rfl, r.int_inv⟩
  | str x => exact ⟨.inr ⟨x.toArray⟩, if_pos h, r.str_inv.1⟩
  | _ => exact absurd h Bool.false_ne_true
theorem tkey_kV {ro : List Addr} {H : Hp} {d : D} {v : V} (r : RelD ro H d v) (h : keyOk true d = true) : ∃ k b, tkey d = some k ∧ v = .ref b ∧ H b = some (.tup (k.map kV)) := by
  cases d with
  | tup ds =>
    obtain ⟨p1, vs, e1, h1, q1⟩ := r.tup_inv
    have go : ∀ {ds : List D} {vs : List V}, RelDs ro H ds vs → ds.all isKey = true → ∃ k, ds.mapM dkey = some k ∧ vs = k.map kV := by
      intro ds
      induction ds with
      | nil => intro vs r _; exact ⟨[], rfl, by rw [r.inv0] <;> rfl⟩
      | cons d ds ih =>
        intro vs r h
        obtain ⟨v, us, rfl, r1, r2⟩ := r.inv
        rw [List.all_cons, Bool.and_eq_true] at h
        obtain ⟨k, h1, h2⟩ := dkey_kV r1 h.1
        obtain ⟨ks, h3, h4⟩ := ih r2 h.2
        refine ⟨k :: ks, ?_, by rw [h2, h4] <;> rfl⟩
        rw [List.mapM_cons, h1, h3] <;> rfl
    obtain ⟨k, h2, h3⟩ := go q1 (show ds.all isKey = true from h)
    exact ⟨k, p1, h2, e1, by rw [← h3]; exact h1⟩
  | _ => exact absurd h Bool.false_ne_true
theorem dkey_inj {x y : D} {k : L2.Key} (hx : dkey x = some k) (hy : dkey y = some k) : x = y := by
  have str : ∀ {z : List Nat} {k}, (if okS z = true then some (.inr ⟨z.toArray⟩ : L2.Key) else none) = some k → k = .inr ⟨z.toArray⟩ := fun {z k} h => by
    split at h
    · cases h; rfl
    · cases h
  cases x with
  | int n =>
    cases hx
    cases y with
    | int m => cases hy; rfl
    | str z => cases str hy
    | _ => cases hy
  | str z =>
    have e := str hx
    subst e
    cases y with
    | int m => cases hy
    | str z' =>
      have e := str hy
      have e2 : z = z' := by
        have := Sum.inr.inj e
        exact SX.S_inj this
      rw [e2]
    | _ => cases hy
  | _ => cases hx
theorem mapM_inj : ∀ {xs ys : List D} {k : List L2.Key}, xs.mapM dkey = some k → ys.mapM dkey = some k → xs = ys := by
  have cons : ∀ {x : D} {xs : List D} {k : List L2.Key}, (x :: xs).mapM dkey = some k → ∃ a r, k = a :: r ∧ dkey x = some a ∧ xs.mapM dkey = some r := fun {x xs k} h => by
    rw [List.mapM_cons] at h
    cases h1 : dkey x with
    | none => rw [h1] at h; cases h
    | some a =>
      cases h2 : xs.mapM dkey with
      | none => rw [h1, h2] at h; cases h
      | some r => rw [h1, h2] at h; cases h; exact ⟨a, r, rfl, rfl, rfl⟩
  intro xs
  induction xs with
  | nil =>
    intro ys k h1 h2
    cases ys with
    | nil => rfl
    | cons y ys =>
      obtain ⟨a, r, e, _⟩ := cons h2
      rw [e] at h1
      cases h1
  | cons x xs ih =>
    intro ys k h1 h2
    obtain ⟨a, r, e, q1, q2⟩ := cons h1
    cases ys with
    | nil =>
      rw [e] at h2
      cases h2
    | cons y ys =>
      obtain ⟨a', r', e', q1', q2'⟩ := cons h2
      rw [e] at e'
      cases e'
      rw [dkey_inj q1 q1', ih q2 q2']
theorem tkey_inj {x y : D} {k : List L2.Key} (hx : tkey x = some k) (hy : tkey y = some k) : x = y := by
  cases x with
  | tup xs =>
    cases y with
    | tup ys => rw [mapM_inj hx hy]
    | _ => cases hy
  | _ => cases hx
/-- one theory for both kinds -/
theorem kget_rel {κ : Type} [DecidableEq κ] {kf : D → Option κ} (inj : ∀ {x y : D} {k : κ}, kf x = some k → kf y = some k → x = y) {ro : List Addr} {H : Hp} {x : D} {k : κ} (hx : kf x = some k) :
    ∀ {kvs : List (D × D)} {ws : List (κ × V)}, Paired (fun p q => kf p.1 = some q.1 ∧ RelD ro H p.2 q.2) kvs ws → (∀ d, kget x kvs = some d → ∃ v, valV ws k = some v ∧ RelD ro H d v) ∧ (kget x kvs = none → valV ws k = none)
  | _, _, .nil => ⟨fun d h => by simp [kget] at h, fun _ => rfl⟩
  | (y, d) :: kvs, (k', v) :: ws, .cons ⟨h1, h2⟩ t => by
    have h1 : kf y = some k' := h1
    obtain ⟨i1, i2⟩ := kget_rel inj hx t
    unfold kget
    by_cases q : y = x
    · subst q
      rw [hx] at h1
      cases h1
      rw [if_pos rfl]
      refine ⟨fun d' e => ?_, fun e => by cases e⟩
      cases e
      exact ⟨v, by simp [valV], h2⟩
    · rw [if_neg q]
      have ne : ¬ k' = k := fun z => q (inj (z ▸ h1) hx)
      have l : valV ((k', v) :: ws) k = valV ws k := by
        unfold valV
        rw [List.find?_cons]
        simp [ne]
      rw [l]
      exact ⟨i1, i2⟩
theorem kput_rel {κ : Type} [DecidableEq κ] {kf : D → Option κ} (inj : ∀ {x y : D} {k : κ}, kf x = some k → kf y = some k → x = y) {ro : List Addr} {H : Hp} {x d : D} {k : κ} {v : V} (hx : kf x = some k) (r : RelD ro H d v)
    {kvs : List (D × D)} {ws : List (κ × V)} (h : Paired (fun p q => kf p.1 = some q.1 ∧ RelD ro H p.2 q.2) kvs ws) : Paired (fun p q => kf p.1 = some q.1 ∧ RelD ro H p.2 q.2) (kput x d kvs) (putK ws k v) := by
  have any : ∀ {kvs : List (D × D)} {ws : List (κ × V)}, Paired (fun p q => kf p.1 = some q.1 ∧ RelD ro H p.2 q.2) kvs ws → (kvs.any fun q => decide (q.1 = x)) = ws.any fun q => decide (q.1 = k) := by
    intro kvs ws h
    induction h with
    | nil => rfl
    | @cons p q l1 l2 hp _ ih =>
      rw [List.any_cons, List.any_cons, ih]
      congr 1
      rw [Bool.eq_iff_iff]
      simp only [decide_eq_true_eq]
      exact ⟨fun e => by rw [e, hx] at hp; exact (Option.some.inj hp.1).symm, fun e => inj (by rw [← e]; exact hp.1) hx⟩
  have map : ∀ {kvs : List (D × D)} {ws : List (κ × V)}, Paired (fun p q => kf p.1 = some q.1 ∧ RelD ro H p.2 q.2) kvs ws → Paired (fun p q => kf p.1 = some q.1 ∧ RelD ro H p.2 q.2) (kvs.map fun q => if q.1 = x then (q.1, d) else q) (ws.map fun kv => if kv.1 = k then (kv.1, v) else kv) := by
    intro kvs ws h
    induction h with
    | nil => exact .nil
    | @cons p q l1 l2 hp _ ih =>
      refine .cons ?_ ih
      by_cases e : p.1 = x
      · have e2 : q.1 = k := by
          have := hp.1
          rw [e, hx] at this
          exact (Option.some.inj this).symm
        dsimp only
        rw [if_pos e, if_pos e2]
        exact ⟨hp.1, r⟩
      · have e2 : ¬ q.1 = k := fun z => e (inj (by rw [← z]; exact hp.1) hx)
        dsimp only
        rw [if_neg e, if_neg e2]
        exact hp
  unfold kput putK
  rw [any h]
  split
  · exact map h
  · exact Paired.app h (.cons ⟨hx, r⟩ .nil)
theorem kdrop_rel {κ : Type} [DecidableEq κ] {kf : D → Option κ} (inj : ∀ {x y : D} {k : κ}, kf x = some k → kf y = some k → x = y) {ro : List Addr} {H : Hp} {x : D} {k : κ} (hx : kf x = some k)
    {kvs : List (D × D)} {ws : List (κ × V)} (h : Paired (fun p q => kf p.1 = some q.1 ∧ RelD ro H p.2 q.2) kvs ws) : Paired (fun p q => kf p.1 = some q.1 ∧ RelD ro H p.2 q.2) (kdrop x kvs) (dropK ws k) := by
  unfold kdrop dropK
  induction h with
  | nil => exact .nil
  | @cons p q l1 l2 hp _ ih =>
    rw [List.filter_cons, List.filter_cons]
    by_cases e : p.1 = x
    · have e2 : q.1 = k := by
        have := hp.1
        rw [e, hx] at this
        exact (Option.some.inj this).symm
      rw [if_neg (by simp [e]), if_neg (by simp [e2])]
      exact ih
    · have e2 : ¬ q.1 = k := fun z => e (inj (by rw [← z]; exact hp.1) hx)
      rw [if_pos (by simp [e]), if_pos (by simp [e2])]
      exact .cons hp ih
/-- a dict read -/
theorem dget_rel {ro : List Addr} {S : Sto} {H : Hp} (hS : RelS g ro S H) {n : Nat} {a : Addr} {t lk : Bool} {kvs : List (D × D)} {x : D} {y : V} (hn : ro[n]? = some a) (e : S[n]? = some (.dic t lk kvs)) (r : RelD ro H x y) (hk : keyOk t x = true) :
    (∀ d, kget x kvs = some d → ∃ v, DGet H a y (some v) ∧ RelD ro H d v) ∧ (kget x kvs = none → DGet H a y none) := by
  have q := hS.at hn e
  cases t with
  | true =>
    obtain ⟨ws, r2, q⟩ := (show ∃ ws, RelTV ro H kvs ws ∧ AtL H a lk (.dT ws) from q)
    obtain ⟨k, b, h1, h2, h3⟩ := tkey_kV r hk
    have rdd : Rd H a (.dT ws) := by
      cases lk with
      | true => exact .inr q
      | false => exact .inl q
    obtain ⟨i1, i2⟩ := kget_rel tkey_inj h1 r2
    exact ⟨fun d e => let ⟨v, e1, e2⟩ := i1 d e; ⟨v, .inr ⟨ws, k, b, rdd, h2, h3, e1.symm⟩, e2⟩, fun e => .inr ⟨ws, k, b, rdd, h2, h3, (i2 e).symm⟩⟩
  | false =>
    obtain ⟨ws, r2, q⟩ := (show ∃ ws, RelKV ro H kvs ws ∧ AtL H a lk (.dK ws) from q)
    obtain ⟨k, h1, h2⟩ := dkey_kV r hk
    have rdd : Rd H a (.dK ws) := by
      cases lk with
      | true => exact .inr q
      | false => exact .inl q
    obtain ⟨i1, i2⟩ := kget_rel dkey_inj h1 r2
    exact ⟨fun d e => let ⟨v, e1, e2⟩ := i1 d e; ⟨v, .inl ⟨ws, k, rdd, h2, e1.symm⟩, e2⟩, fun e => .inl ⟨ws, k, rdd, h2, (i2 e).symm⟩⟩
theorem dput_rel {ro : List Addr} {S : Sto} {H : Hp} (hS : RelS g ro S H) {n : Nat} {a : Addr} {t : Bool} {kvs : List (D × D)} {x d : D} {y v : V} (hn : ro[n]? = some a) (e : S[n]? = some (.dic t false kvs)) (r : RelD ro H x y) (hk : keyOk t x = true) (rv : RelD ro H d v) (hz : kvs.length < sz) :
    ∃ H', DPut H a y v H' ∧ Ext H H' ∧ RelS g ro (S.set n (.dic t false (kput x d kvs))) H' := by
  have q := hS.at hn e
  have len : ∀ {α β : Type} {F : α → β → Prop} {l : List α} {m : List β}, Paired F l m → l.length = m.length := by
    intro α β F l m h
    induction h with
    | nil => rfl
    | cons _ _ ih => simp only [List.length_cons, ih]
  cases t with
  | true =>
    obtain ⟨ws, r2, q⟩ := (show ∃ ws, RelTV ro H kvs ws ∧ AtL H a false (.dT ws) from q)
    obtain ⟨k, b, h1, h2, h3⟩ := tkey_kV r hk
    have q : H a = some (.dT ws) := q
    have ex : Ext H (upd H a (.dT (putK ws k v))) := .put q dT_tup dT_frz
    refine ⟨_, .inr ⟨ws, k, b, q, h2, h3, by rw [← len r2, ← sz_eq]; exact hz, rfl⟩, ex, ?_⟩
    refine hS.put hn e (fun z => z.elim) (fun z => z.elim) q (show ∃ ws', RelTV ro (upd H a (.dT (putK ws k v))) (kput x d kvs) ws' ∧ AtL (upd H a (.dT (putK ws k v))) a false (.dT ws') from ⟨_, RelTV.mono (.refl _) ex.tup (kput_rel tkey_inj h1 rv r2), upd_same⟩) nu_dT
  | false =>
    obtain ⟨ws, r2, q⟩ := (show ∃ ws, RelKV ro H kvs ws ∧ AtL H a false (.dK ws) from q)
    obtain ⟨k, h1, h2⟩ := dkey_kV r hk
    have q : H a = some (.dK ws) := q
    have ex : Ext H (upd H a (.dK (putK ws k v))) := .put q dK_tup dK_frz
    refine ⟨_, .inl ⟨ws, k, q, h2, by rw [← len r2, ← sz_eq]; exact hz, rfl⟩, ex, ?_⟩
    refine hS.put hn e (fun z => z.elim) (fun z => z.elim) q (show ∃ ws', RelKV ro (upd H a (.dK (putK ws k v))) (kput x d kvs) ws' ∧ AtL (upd H a (.dK (putK ws k v))) a false (.dK ws') from ⟨_, RelKV.mono (.refl _) ex.tup (kput_rel dkey_inj h1 rv r2), upd_same⟩) nu_dK
/-- d[k] -/
theorem se_dget (cx : Ctx g E X) (ho : SE X g E o mo) (hi : SE X g E i mi) (hs : NoSl i := by intro _ _; rfl) : SE X g E (.Subscript o i pos) (eBin opGet mo mi) := ⟨pe_imp (pe_dget (by have := cx.units; omega) ho.run hi.run hs) fun s H Q ⟨ro, L, S, hL, hS, h⟩ => by
  refine ⟨ro, L, S, hL, hS, Post.bind h fun d S1 ro1 H1 v gr ex hS1 rv w => ⟨ro1, L, S1, hL.mono gr ex, hS1, Post.bind w fun d2 S2 ro2 H2 v2 gr2 ex2 hS2 rv2 w => ?_⟩⟩
  unfold opGet at w
  split at w
  · rename_i n
    obtain ⟨p1, h1, rfl⟩ := rv.ref_inv
    split at w
    · rename_i t lk kvs e
      split at w
      · rename_i hk
        split at w
        · rename_i d3 e3
          obtain ⟨v3, g3, r3⟩ := (dget_rel hS2 (gr2 _ _ h1) e rv2 hk).1 _ e3
          exact ⟨p1, v3, rfl, g3, w ro2 H2 _ (.refl _) (.refl _) hS2 r3⟩
        · exact w.elim
      · exact w.elim
    · exact w.elim
  · exact w.elim⟩
end
end MP

namespace MP
open PySem L2
section
variable {X : Cx} {g : G} {E : XK} {a b e c o i : Expr} {m ma mb mc mo mi : EM} {pos p apos : Pos} {es : List Expr} {ms : AM} {k : Nat} {F : Fn}
theorem se_err : SE X g E e eErr := ⟨⟨fun pins s σ H Q I ⟨ro, L, S, hL, hS, h⟩ => h.elim⟩⟩
theorem ss_err {st : Stmt} : SS X g E st sErr := ⟨⟨fun pins s σ H D I ⟨ro, L, S, hL, hS, h⟩ => h.elim⟩⟩
theorem Ctx.free {x : Str} (cx : Ctx g E X) (h : g.mg x = none) : X.mg x = none := by rw [cx.mg]; exact h
theorem Ctx.gi {x : Str} {i : Int} (cx : Ctx g E X) (h : ∃ t, g.mg x = some (.int i t)) : ∃ t, X.mg x = some (.int i t) := by rw [cx.mg]; exact h
theorem Ctx.gs {x z : Str} (cx : Ctx g E X) (h : ∃ t, g.mg x = some (.str z t)) : ∃ t, X.mg x = some (.str z t) := by rw [cx.mg]; exact h
theorem is_non {ro : List Addr} {H : Hp} {d : D} {v : V} (rv : RelD ro H d v) : decide (d = .non) = decide (v = .non) := by
  cases d with
  | non => rw [rv.non_inv] <;> rfl
  | bl b => rw [rv.bl_inv] <;> rfl
  | int b => rw [rv.int_inv] <;> rfl
  | str b => rw [rv.str_inv.1] <;> rfl
  | tup b => obtain ⟨_, _, e, _⟩ := rv.tup_inv; rw [e] <;> rfl
  | ref b => obtain ⟨_, _, e⟩ := rv.ref_inv; rw [e] <;> rfl
  | exn _ _ => rw [rv.exn_inv] <;> rfl
theorem st_isN {j : Nat} {pos2 : Pos} (ha : SE X g E a ma) : ST X g E (.Compare a [.Is] [.Constant .none j pos2] pos) (tV (eUn opIsN ma)) := ⟨pt_imp (pt_cmp (pc_isN ha.run) rfl) fun s H Q h => by
  obtain ⟨ro, L, S, hL, hS, h⟩ := rd_tv h
  exact ⟨ro, L, S, hL, hS, Post.bind h fun d S1 ro1 H1 v gr ex hS1 rv w => by
    have q := w ro1 H1 _ (.refl _) (.refl _) hS1 .bl_mk
    rw [is_non rv] at q
    exact q⟩⟩
theorem st_notN {j : Nat} {pos2 : Pos} (ha : SE X g E a ma) : ST X g E (.Compare a [.IsNot] [.Constant .none j pos2] pos) (tV (eUn opNotN ma)) := ⟨pt_imp (pt_cmp (pc_notN ha.run) rfl) fun s H Q h => by
  obtain ⟨ro, L, S, hL, hS, h⟩ := rd_tv h
  exact ⟨ro, L, S, hL, hS, Post.bind h fun d S1 ro1 H1 v gr ex hS1 rv w => by
    have q := w ro1 H1 _ (.refl _) (.refl _) hS1 .bl_mk
    rw [is_non rv] at q
    exact q⟩⟩
theorem st_isB {k : Bool} {j : Nat} {pos2 : Pos} (ha : SE X g E a ma) : ST X g E (.Compare a [.Is] [.Constant (.bool k) j pos2] pos) (tV (eUn (opIsB k) ma)) :=
  ⟨pt_imp (pt_cmpR op_is_bl ha.run (se_bl (g := g) (E := E)).run rfl) fun s H Q h => by
    obtain ⟨ro, L, S, hL, hS, h⟩ := rd_tv h
    exact ⟨ro, L, S, hL, hS, Post.bind h fun d S1 ro1 H1 v gr ex hS1 rv w => ⟨ro1, L, S1, hL.mono gr ex, hS1, fun ro2 H2 v2 gr2 ex2 hS2 rv2 => by
      cases d with
      | bl b => exact ⟨b, k, rv.bl_inv, rv2.bl_inv, w ro2 H2 _ gr2 ex2 hS2 .bl_mk⟩
      | _ => exact w.elim⟩⟩⟩
theorem st_notB {k : Bool} {j : Nat} {pos2 : Pos} (ha : SE X g E a ma) : ST X g E (.Compare a [.IsNot] [.Constant (.bool k) j pos2] pos) (tV (eUn (opNotB k) ma)) :=
  ⟨pt_imp (pt_cmpR op_isnot_bl ha.run (se_bl (g := g) (E := E)).run rfl) fun s H Q h => by
    obtain ⟨ro, L, S, hL, hS, h⟩ := rd_tv h
    exact ⟨ro, L, S, hL, hS, Post.bind h fun d S1 ro1 H1 v gr ex hS1 rv w => ⟨ro1, L, S1, hL.mono gr ex, hS1, fun ro2 H2 v2 gr2 ex2 hS2 rv2 => by
      cases d with
      | bl b => exact ⟨b, k, rv.bl_inv, rv2.bl_inv, w ro2 H2 _ gr2 ex2 hS2 .bl_mk⟩
      | _ => exact w.elim⟩⟩⟩
theorem si_str {tg : Expr} (cx : Ctx g E X) (ha : SE X g E a ma) : SI X g E tg a (wStr ma) := ⟨pi_imp (pi_str ha.run) fun s H Q ⟨ro, L, S, hL, hS, h⟩ => by
  refine ⟨ro, L, S, hL, hS, Post.bind h fun d S1 ro1 H1 v gr ex hS1 rv h => ?_⟩
  cases d with
  | str z =>
    obtain ⟨e, k⟩ := rv.str_inv
    refine ⟨_, e, h ro1 H1 _ (.refl _) (.refl _) hS1 fun i ro' S' H' gr' ex' R hk => ?_⟩
    refine ⟨fun d hd => ?_, fun hi => ?_⟩
    · rw [List.getElem?_map] at hd
      cases q : z[i]? with
      | none => rw [q] at hd; cases hd
      | some c =>
        rw [q] at hd
        cases hd
        have q2 : z.toArray[i]? = some c := by simpa using q
        refine ⟨(Array.getElem?_eq_some_iff.mp q2).1, fun x H'' ⟨e1, c', e2, e3⟩ => ?_⟩
        subst e1 e3
        rw [q2] at e2
        cases e2
        exact ⟨.refl _, R, .str_mk fun b hb => by
          cases hb with
          | head => exact k _ (List.mem_of_getElem? q)
          | tail _ hb => cases hb⟩
    · show z.toArray.size ≤ i
      rw [hi]
      simp
  | _ => exact h.elim⟩
/-- all values are written, of a def with defaults -/
theorem binds_full {K : PySem.W.Frag} {x qual : Str} {params : Arguments} {body : List Stmt} {scope : Scope} {dvs : List V} {f : Addr} {fd : FuncData} {ps : List Str} (F : FunD K x qual params body scope dvs [] f fd) (n : Nat) (hd : dvs ≠ []) (hn : n = ps.length)
    (h : ∀ (T : Addr) (kV doc pm : Value) (an : Option Addr) (cdv ct : Value) (us its : List Value), us.length = n → its.length = dvs.length →
      ∃ k, bindArgs (PySem.W.fnOf x qual params body scope (.ref T) kV doc pm an cdv ct) ⟨us, []⟩ = seqItems? (.ref T) >>= k ∧ k (some its.toArray) = pure (ps.zip us)) : Binds K fd ps [] := by
  obtain ⟨ds, v, b⟩ := F.binds1 (ps := ps) n dvs.length hd (by omega) fun T kV doc pm an cdv ct us its h1 h2 => by
    obtain ⟨k, e1, e2⟩ := h T kV doc pm an cdv ct us its h1 h2
    refine ⟨k, e1, ?_⟩
    rw [e2, ← h2, List.drop_length, List.append_nil]
  rw [List.drop_length] at v
  cases v
  exact b
theorem c_lenOwn {c : Nat} (cx : Ctx g E X) (d : Me g k c "__len__" F) (hr : Room (k + 1) X.A) : CallR X (.builtin "len") (rN g E (fLenOwn c F)) := by
  obtain ⟨f, fd, ps, hF, hc, hm, hb⟩ := d
  have hF := hF.at cx
  rw [← cx.K] at hc hm hb
  intro pins s σ H xs us Q I rv ⟨ro, S, ds, hS, rd, w⟩
  unfold fLenOwn at w
  split at w
  · rename_i n
    obtain ⟨v, _, rfl, r1, r2⟩ := rd.inv
    cases r2.inv0
    obtain ⟨x, hx, rfl⟩ := r1.ref_inv
    obtain ⟨u, _, ru, rn, rfl⟩ := (show ∃ u us', RelV (.ref x) u ∧ Vals [] us' ∧ us = u :: us' from by cases rv; exact ⟨_, _, by assumption, by assumption, rfl⟩)
    cases rn
    cases ru
    split at w
    · rename_i c' fs e1
      split at w
      · rename_i hc'
        subst hc'
        obtain ⟨dx, ws, r, q⟩ := hS.at hx e1
        obtain ⟨mA, J, _⟩ := ins_get I.hok q
        obtain ⟨od, J, _⟩ := J.look
        refine Calls.call_function_entry kind_len plain_len entry_len (args_len1 _) ?_
        unfold Builtin.«len»
        refine wpAny_bind (m := oneArg "len" _) (wpAny_pure ?_)
        have env0 : Env0 X.prog X.w X.K X.mg X.base X.A.in1 X.stack s H := by
          have e := I.env0
          exact ⟨e.frames, e.mod, e.bs, e.bsz, e.funs, e.frf, e.hok, e.bare⟩
        have hsp : spM g F [.ref x] H (fun v H' => ∃ (i : Int), v = .int i ∧ 0 ≤ i ∧ i < 2 ^ 63 ∧ Q (.int i) H') E := by
          refine ⟨ro, S, [.ref n], hS, .cons (.ref_mk hx) .nil, Post.bind w fun d1 S1 ro1 H1 v1 gr ex hS1 rv1 w => ?_⟩
          split at w
          · rename_i i
            split at w
            · rename_i hi
              exact ⟨i, rv1.int_inv, hi.1, hi.2, w ro1 H1 _ (.refl _) (.refl _) hS1 .int_mk⟩
            · exact w.elim
          · exact w.elim
        have hl := hF.len _ _ _ _ hsp
        have r2 : Vals [V.ref x] [Value.ref x] := .cons rfl .nil
        refine wpAny_bind (m := callSpecial? (.ref x) (Str.ofString "__len__")) ?_
        simp only [callSpecial?]
        refine wpAny_bind (wpAny_bind (J.type.here ((PySem.W.looks_findIn I.kIn hm.at_).here ?_)))
        refine wpAny_holding (wpAny_bind ((PySem.W.bind_fn I.kIn _ (beq_iff_eq.mp hm.fn)).here ?_))
        refine wpAny_bind (wpAny_call (codeAny_mono (hF.run X.A.in1 X.stack s H ⟨[.ref x], []⟩ [.ref x] [.ref x] _ E (Room.in1 hr) env0 (by
          have := hb s [.ref x] I.kIn (by simpa using hl)
          simpa using this) r2 hsp) fun r s' hq => ?_))
        cases r with
        | error e => exact passM cx pins σ H s e s' I hq
        | ok fl =>
          cases fl with
          | ret w =>
            obtain ⟨z, H', I', rz, i, ez, h0, h1, hQ⟩ := I.after hq
            subst ez
            obtain ⟨t, rfl⟩ := rz
            refine wpAny_pure (wpAny_bind (wpAny_holding (wpAny_pure ?_)))
            refine wpAny_bind (wpAny_letGo ?_)
            show wpAny _ _ (if i < 0 then _ else _) _ _ _
            rw [if_neg (by omega)]
            show wpAny _ _ (if i ≥ 2 ^ 63 then _ else _) _ _ _
            rw [if_neg (by omega)]
            exact wpAny_bind (wpAny_mkInt (wpAny_pure ⟨_, rfl, .int i, H', I'.tok _, ⟨_, rfl⟩, hQ⟩))
          | next => exact False.elim hq
          | brk => exact False.elim hq
          | cont => exact False.elim hq
      · exact w.elim
    · exact w.elim
  · exact w.elim
end
end MP

namespace MP
open PySem L2
abbrev tS (x : List Nat) : Str := ⟨x.toArray⟩
theorem tS_join (a : List Nat) : ∀ ys : List (List Nat), Str.join (tS a) (ys.map tS) = tS (joinS a ys)
  | [] => rfl
  | [x] => rfl
  | x :: y :: r => by
    show tS x ++ tS a ++ Str.join (tS a) ((y :: r).map tS) = tS (x ++ a ++ joinS a (y :: r))
    rw [tS_join a (y :: r), SX.S_cat, SX.S_cat]
theorem strsOfD_rel {ro : List Addr} {H : Hp} : ∀ {ds : List D} {vs : List V} {zs : List (List Nat)}, RelDs ro H ds vs → strsOfD ds = some zs → vs = (zs.map tS).map V.str ∧ ∀ z ∈ zs, ∀ c ∈ z, c < 0x110000
  | [], vs, b, h, e => by cases e; exact ⟨by rw [h.inv0] <;> rfl, fun z hz => by cases hz⟩
  | d :: ds, vs, b, h, e => by
    obtain ⟨v, r, rfl, h2, h3⟩ := h.inv
    cases d with
    | str i =>
      simp only [strsOfD] at e
      cases q : strsOfD ds with
      | none => rw [q] at e; cases e
      | some c =>
        rw [q] at e
        cases e
        obtain ⟨e1, e2⟩ := strsOfD_rel h3 q
        obtain ⟨e3, e4⟩ := h2.str_inv
        refine ⟨by rw [e1, e3] <;> rfl, fun z hz => ?_⟩
        rcases List.mem_cons.mp hz with rfl | hz
        · exact e4
        · exact e2 z hz
    | _ => simp [strsOfD] at e
theorem joinS_ok {a : List Nat} (ha : ∀ c ∈ a, c < 0x110000) : ∀ {zs : List (List Nat)}, (∀ z ∈ zs, ∀ c ∈ z, c < 0x110000) → ∀ c ∈ joinS a zs, c < 0x110000
  | [], _, c, hc => by cases hc
  | [x], h, c, hc => h x (List.mem_cons_self ..) c hc
  | x :: y :: r, h, c, hc => by
    rcases List.mem_append.mp (show c ∈ (x ++ a) ++ joinS a (y :: r) from hc) with hc | hc
    · rcases List.mem_append.mp hc with hc | hc
      · exact h x (List.mem_cons_self ..) c hc
      · exact ha c hc
    · exact joinS_ok ha (fun z hz => h z (List.mem_cons_of_mem _ hz)) c hc
theorem txt_split (x : List Nat) (c : Nat) : Txt.split (tS x) ⟨#[c]⟩ = (splitC c x).map tS := by
  have un : ∀ l : List Str, ∃ ys : List (List Nat), l = ys.map tS := fun l => ⟨l.map fun z => z.cps.toList, by rw [List.map_map]; exact (List.map_id' l).symm.trans (List.map_congr_left fun z _ => by simp [tS])⟩
  obtain ⟨ys, e⟩ := un (Txt.split (tS x) ⟨#[c]⟩)
  have j : Str.join (tS [c]) (Txt.split (tS x) (tS [c])) = tS x := StrLaws.join_split _ _
  have e' : Txt.split (tS x) (tS [c]) = ys.map tS := e
  rw [e', tS_join] at j
  have j := SX.S_inj j
  have fr : ∀ p ∈ ys, c ∉ p := fun p hp => by
    have := StrLaws.split_free (tS x) c (tS p) (by rw [e]; exact List.mem_map_of_mem hp)
    simpa [tS] using this
  have ne : ys ≠ [] := fun z => by
    have := PyProof.Rows.split_pos (tS x) ⟨#[c]⟩
    rw [e, z] at this
    simp at this
  rw [e, join_inj ne (splitC_ne c x) fr (splitC_free c x) (j.trans (splitC_join c x).symm)]
theorem rel_strs {ro : List Addr} {H : Hp} : ∀ ys : List (List Nat), (∀ y ∈ ys, ∀ k ∈ y, k < 0x110000) → RelDs ro H (ys.map D.str) ((ys.map tS).map V.str)
  | [], _ => .nil
  | y :: ys, h => .cons (.str_mk (h y (List.mem_cons_self ..))) (rel_strs ys fun y hy => h y (List.mem_cons_of_mem _ hy))
section
variable {X : Cx} {g : G} {E : XK}
theorem m_join (cx : Ctx g E X) : MtR X "str.join" (rM g E fJoin) := mtr_imp mt_join fun x xs H Q ⟨ro, S, ds, hS, rv, w⟩ => by
  unfold fJoin at w
  split at w
  · rename_i a ys
    obtain ⟨v, _, e1, r1, r2⟩ := rv.inv
    obtain ⟨u, _, e2, r3, r4⟩ := r2.inv
    cases r4.inv0
    subst e2
    cases e1
    obtain ⟨p, vs, rfl, hp, rr⟩ := r3.tup_inv
    obtain ⟨ea, ka⟩ := r1.str_inv
    split at w
    · rename_i zs hz
      split at w
      · rename_i hle
        obtain ⟨e3, k3⟩ := strsOfD_rel rr hz
        refine ⟨tS a, p, zs.map tS, ea, rfl, .inr (by rw [← e3]; exact SqT.of hp), ?_, ?_⟩
        · have l1 : (zs.map tS).map (·.length) = zs.map (·.length) := by
            rw [List.map_map]
            exact List.map_congr_left fun z _ => SX.S_len z
          rw [l1, List.length_map, SX.S_len]
          exact hle
        · have e4 : Txt.join (tS a) (zs.map tS) = tS (joinS a zs) := by
            unfold Txt.join
            rw [StrLaws.glued_eq_join, tS_join]
          rw [e4]
          exact w ro H _ (.refl _) (.refl _) hS (.str_mk (joinS_ok ka k3))
      · exact w.elim
    · exact w.elim
  · exact w.elim
theorem m_split (cx : Ctx g E X) : MtR X "str.split" (rM g E fSplit) := mtr_imp mt_split fun x xs H Q ⟨ro, S, ds, hS, rv, w⟩ => by
  unfold fSplit at w
  split at w
  · rename_i z c
    obtain ⟨v, _, e1, r1, r2⟩ := rv.inv
    obtain ⟨u, _, e2, r3, r4⟩ := r2.inv
    cases r4.inv0
    subst e2
    cases e1
    obtain ⟨ea, ka⟩ := r1.str_inv
    obtain ⟨eb, kb⟩ := r3.str_inv
    subst eb
    split at w
    · rename_i hle
      refine ⟨tS z, ⟨#[c]⟩, ea, rfl, rfl, by rw [SX.S_len, ← sz_eq]; exact hle, fun p hp => ?_⟩
      rw [txt_split]
      refine w.push hS hp ⟨_, ?_, upd_same⟩
      have ok : ∀ y ∈ splitC c z, ∀ k ∈ y, k < 0x110000 := by
        have : ∀ x : List Nat, (∀ k ∈ x, k < 0x110000) → ∀ y ∈ splitC c x, ∀ k ∈ y, k < 0x110000 := by
          intro x
          induction x with
          | nil => intro _ y hy k hk; simp [splitC] at hy; subst hy; cases hk
          | cons a r ih =>
            intro h y hy k hk
            have ih := ih fun k hk => h k (List.mem_cons_of_mem _ hk)
            unfold splitC at hy
            split at hy
            · rcases List.mem_cons.mp hy with rfl | hy
              · cases hk
              · exact ih y hy k hk
            · split at hy
              · rename_i hd tl e
                rcases List.mem_cons.mp hy with rfl | hy
                · rcases List.mem_cons.mp hk with rfl | hk
                  · exact h _ (List.mem_cons_self ..)
                  · exact ih hd (by rw [e]; exact List.mem_cons_self ..) k hk
                · exact ih y (by rw [e]; exact List.mem_cons_of_mem _ hy) k hk
              · rename_i e
                exact absurd e (splitC_ne c r)
        exact this z ka
      exact rel_strs _ ok
    · exact w.elim
  · exact w.elim
end
end MP

namespace MP
open PySem PySem.W PySem.Calls PyProof.Rows PySem.SeqAt
section
variable {prog : Program} {w : World} {A : Around} {E : Value → Shared → Prop} {s : Shared}
theorem call_tuple_lt {Q : Value → Shared → Prop} {l b : Addr} {items items2 : Array Value} {e r : Nat → Bool} (hl : s.heap.IsTuple l items) (hb : s.heap.IsTuple b items2)
    (he : ∀ j (h1 : j < items.size) (h2 : j < items2.size), EqAt A.in1 s items[j] items2[j] (e j)) (hr : ∀ j (h1 : j < items.size) (h2 : j < items2.size), e j = false → RcLt A.in1 s items[j] items2[j] (r j))
    (h : Q (.bool (firstLt e r (decide (items.size < items2.size)) (List.range (min items.size items2.size)))) s) : wpAny (model prog w) A (call (.builtin "tuple.__lt__") [.ref l, .ref b]) Q E s := by
  obtain ⟨⟨cls, dd, data, sl⟩, ho, hc, n, hd⟩ := id hl
  obtain ⟨⟨cls2, dd2, data2, sl2⟩, ho2, hc2, n2, hd2⟩ := id hb
  simp only at hc hd hc2 hd2
  subst hc hd hc2 hd2
  exact call_meets F.slot_tuple_lt ⟨_, ho, rfl⟩ F.entry_tuple_lt (F.args_tuple_lt_2 _ _) (tuple_ltAt l b items items2 n n2 dd dd2 sl sl2 e r) ⟨ho, ho2, he, hr, h⟩
theorem oneLt_tup {xs ys : List PyData} {a b : Value} {as bs : List Addr} {Q : Bool → Shared → Prop} (ra : Reads s.heap a (.tuple xs) as) (rb : Reads s.heap b (.tuple ys) bs) (hal : alikeAll xs ys = true)
    (hu : A.units + min (PyData.tuple xs).depth (PyData.tuple ys).depth < cLine) (hq : Q (dataLt (.tuple xs) (.tuple ys)) s) : wpAny (model prog w) A (oneLt' true a b) Q E s := by
  cases ra with
  | @tuple l o vs n _ as₁ h1 h2 h3 h4 =>
    cases rb with
    | @tuple l' o' vs' n' _ bs₁ k1 k2 k3 k4 =>
      have n1 : vs.size = xs.length := by simpa using SeqAt.ReadsAll.length _ _ _ h4
      have n2 : vs'.size = ys.length := by simpa using SeqAt.ReadsAll.length _ _ _ k4
      rw [dataLt_tuple, ← firstLt_toks xs ys hal, ← n1, ← n2] at hq
      rw [oneLt'_eq]
      simp only [if_true]
      refine wpAny_bind (wpAny_cRoomFor (room_here hu) ?_)
      refine wpAny_bind (wpAny_callSpecialIfBound?_slot (T := "tuple") ⟨_, h1, h2⟩ F.slot_tuple_lt (call_tuple_lt (e := pairEq xs ys) (r := fun j => dataLt (xs.getD j .none) (ys.getD j .none)) ⟨_, h1, h2, _, h3⟩ ⟨_, k1, k2, _, k3⟩ (fun j j1 j2 => ?_) (fun j j1 j2 hj => ?_) ?_))
      · have := eqAt_alikeAll xs ys A.in1 s vs.toList vs'.toList _ _ h4 k4 hal (room_in hu) j (by simpa using j1) (by simpa using j2)
        simpa using this
      · have := rcLt_alikeAll xs ys A.in1 s vs.toList vs'.toList _ _ h4 k4 hal (room_in hu) j (by simpa using j1) (by simpa using j2) hj
        simpa using this
      · exact wpAny_truthy_bool hq
/-- an item at least -/
def neT : PyData → Bool
  | .tuple (_ :: _) => true
  | _ => false
theorem firsts_any : ∀ {vs : List Value} {ds : List PyData}, EachIs (fun v d => ∃ as, Reads s.heap v d as) vs ds → (∀ d ∈ ds, ∃ xs, d = .tuple xs) →
    ∃ fs : List (Option Value), fs.map (·.isSome) = ds.map neT ∧ ∀ {Q : List (Option Value) → Shared → Prop}, Q fs s → wpAny (model prog w) A (vs.mapM firstOfTuple') Q E s
  | _, _, .nil, _ => ⟨[], rfl, fun h => by rw [List.mapM_nil]; exact wpAny_pure h⟩
  | _, _, .cons (a := v) (b := d) ⟨as, r⟩ t, ht => by
    obtain ⟨fs, h1, h2⟩ := firsts_any t fun d hd => ht d (List.mem_cons_of_mem _ hd)
    obtain ⟨xs, rfl⟩ := ht d (List.mem_cons_self ..)
    cases r with
    | @tuple a o vs n _ _ ho hc hd hr =>
      refine ⟨vs[0]? :: fs, ?_, fun {Q} h => ?_⟩
      · rw [List.map_cons, List.map_cons, h1]
        congr 1
        have hl : vs.size = xs.length := by simpa using SeqAt.ReadsAll.length _ _ _ hr
        cases xs with
        | nil =>
          have : vs[0]? = none := Array.getElem?_eq_none (by rw [hl]; exact Nat.le_refl _)
          rw [this]
          rfl
        | cons x r =>
          have : 0 < vs.size := by rw [hl, List.length_cons]; omega
          rw [Array.getElem?_eq_getElem this]
          rfl
      · rw [List.mapM_cons]
        refine wpAny_bind ?_
        rw [kas_first_eq]
        refine wpAny_bind (Looks.here (show Looks _ s.heap (typeOf (.ref a)) o.cls from (Looks.ld ho).andThen .now) ?_)
        rw [hc, if_neg (by first | decide | simp)]
        refine wpAny_bind (listItems_at ho hd (wpAny_pure ?_))
        exact wpAny_bind (h2 (Q := fun bs s' => wpAny _ A (pure (vs[0]? :: bs)) Q E s') (wpAny_pure h))
/-- tuples, some of them empty: their kind -/
theorem kind_tups0 {vs : List Value} {ds : List PyData} {Q : SortKind → Shared → Prop} (e : EachIs (fun v d => ∃ as, Reads s.heap v d as) vs ds) (ht : ∀ d ∈ ds, ∃ xs, d = .tuple xs) (hn : ds.all neT = false)
    (h : Q (if (ds.head?.map neT) = some true then general' else oneType') s) : wpAny (model prog w) A (keyKind' vs.toArray) Q E s := by
  obtain ⟨fs, h1, h2⟩ := firsts_any (prog := prog) (w := w) (A := A) (E := E) e ht
  rw [kat_kind_eq, List.mapM_toArray, map_eq_pure_bind]
  refine wpAny_bind (wpAny_bind (h2 (wpAny_pure ?_)))
  have hall : (fs.toArray.all fun x => x.isSome) = false := by
    have e1 : fs.all (·.isSome) = (fs.map (·.isSome)).all id := by rw [List.all_map]; rfl
    have e2 : ds.all neT = (ds.map neT).all id := by rw [List.all_map]; rfl
    simp only [List.all_toArray]
    rw [e1, h1, ← e2, hn]
  rw [if_neg (by rw [hall]; decide)]
  have hne : (fs.toArray[0]?.bind id).isSome = decide ((ds.head?.map neT) = some true) := by
    cases fs with
    | nil =>
      cases ds with
      | nil => rfl
      | cons d ds => cases h1
    | cons f fs =>
      cases ds with
      | nil => cases h1
      | cons d ds =>
        simp only [List.map_cons, List.cons.injEq] at h1
        simp [h1.1]
  rw [hne]
  by_cases q : (ds.head?.map neT) = some true
  · rw [if_pos (by simp [q])]
    rw [if_pos q] at h
    exact wpAny_pure h
  · rw [if_neg (by simp [q])]
    rw [if_neg q] at h
    have hT : ∀ v ∈ vs, Looks (model prog w) s.heap (typeOf v) (.type "tuple") := fun v hv => by
      obtain ⟨d, hd, as, r⟩ := e.left v hv
      obtain ⟨xs, rfl⟩ := ht d hd
      exact looks_reads r
    rw [oneTypeOnly'_eq, List.mapM_toArray, map_eq_pure_bind]
    refine wpAny_bind (wpAny_bind (wpAny_bind (kas_mapM (r := .type "tuple") _ (fun v hv Q' hq => (hT v hv).here hq) (wpAny_pure ?_))))
    cases vs with
    | nil => cases e; simp at hn
    | cons v vs =>
      have hall : ((List.map (fun _ => Value.type "tuple") (v :: vs)).toArray.all fun x => x == Value.type "tuple") = true := by
        simp only [List.all_toArray, List.all_map, List.all_eq_true]
        intro _ _
        exact beq_self_eq_true _
      have h0 : (List.map (fun _ => Value.type "tuple") (v :: vs)).toArray[0]? = some (Value.type "tuple") := by simp
      rw [h0]
      simp only [hall, if_true]
      exact wpAny_pure (wpAny_pure h)
/-- alike tuples, some of them empty, can be sorted -/
theorem sortsAt_tups {vs : List Value} {ds : List PyData} (e : EachIs (fun v d => ∃ as, Reads s.heap v d as) vs ds) (hal : AllAlike ds) (ht : ∀ d ∈ ds, ∃ xs, d = .tuple xs) (hu : ∀ d, d ∈ ds → A.units + d.depth < cLine) :
    SortsAt prog w A s (dataKind s.heap ds) vs := by
  cases hn : ds.all neT with
  | true =>
    refine SortsAt.data e hal (.inl fun d hd => ?_) hu
    have q := List.all_eq_true.mp hn d hd
    obtain ⟨xs, rfl⟩ := ht d hd
    cases xs with
    | nil => cases q
    | cons x r => exact ⟨x, r, rfl⟩
  | false =>
    have room : ∀ {d d' : PyData}, d ∈ ds → A.units + min d.depth d'.depth < cLine := fun {d d'} hd => Nat.lt_of_le_of_lt (Nat.add_le_add_left (Nat.min_le_left _ _) _) (hu d hd)
    refine ⟨fun v hv => ?_, if (ds.head?.map neT) = some true then general' else oneType', ?_, fun _ E Q hq => kind_tups0 e ht hn hq⟩
    · obtain ⟨d, hd, as, r⟩ := e.left v hv
      exact ⟨_, dataKind_some hal hd r⟩
    · intro E x y a b Q ha hb hq
      obtain ⟨d, as, hd, ra, rfl⟩ := dataKind_inv ha
      obtain ⟨d', as', hd', rb, rfl⟩ := dataKind_inv hb
      obtain ⟨xs, rfl⟩ := ht d hd
      obtain ⟨ys, rfl⟩ := ht d' hd'
      have h := hal _ hd _ hd'
      have hq' : Q (dataLt (.tuple xs) (.tuple ys)) s := hq
      split
      · show wpAny _ _ (oneLt' false x y) _ _ _
        exact oneLt_alike (fun z => by cases z) ra rb h (by intro z; cases z) (room hd) hq'
      · rw [keyLt'_oneType]
        exact oneLt_tup ra rb (by simpa [alike] using h) (room hd) hq'
/-- what a walk yields, as a list -/
theorem collectK {T : String} {r d : Addr} {n : Nat} {P : Nat → Value → Prop} {OK : Heap → Prop} {R : List Value → Shared → Prop} (K : KdlSrc prog w T r d n P OK) (hh : A.handled = none) (hok : OK s.heap) (hn : n ≤ sizeLine)
    (h : ∀ (h' : Heap) (tk : Nat) (acc : Array Value), (∀ b o, s.heap.get? b = some o → h'.get? b = some o) → s.heap.objs.size ≤ h'.objs.size → ItemsOf P acc n → R acc.toList { s with heap := h', toks := tk }) :
    wpAny (model prog w) A (collect (.ref r)) R E s := by
  have hlt := K.there _ hok
  unfold collect
  refine wpAny_bind (wpAny_runValue (codeAny_builtin entry_proto_collect' ?_))
  rw [Around.under_plainId PySem.F.plain_proto_collect _]
  show wpAny _ A.in1 (newList [] >>= fun l => again (.builtin "list.__iadd__" ⟨[l, .ref r], []⟩)) _ _ s
  refine wpAny_bind (wpAny_newObj_type ?_)
  refine wpAny_pure ⟨plainId_quiet PySem.F.plain_list_iadd _, codeAny_builtin entry_list_iadd' ?_⟩
  rw [Around.under_plainId PySem.F.plain_list_iadd _]
  have hS₁ : (s.heap.push { cls := .type "list", data := .seq ([] : List Value).toArray }).get? s.heap.objs.size = some { cls := .type "list", data := .seq #[] } := Heap.get?_push_size _ rfl
  show wpAny _ A.in1 (Builtin.List.listExtendWith (.ref s.heap.objs.size) (.ref r) (.ref s.heap.objs.size)) _ _ _
  have key := kdl_extend (prog := prog) (w := w) (A := A) (s := { s with heap := s.heap.push { cls := .type "list", data := .seq ([] : List Value).toArray } }) K
    (R := fun (q : Result) (s' : Shared) => ∃ (h' : Heap) (tk : Nat) (acc' : Array Value) (c' : Nat), q = .ok (.ret (.ref s.heap.objs.size)) ∧ s' = { s with heap := h', toks := tk } ∧
      (∀ b o, s.heap.get? b = some o → h'.get? b = some o) ∧ h'.get? s.heap.objs.size = some { cls := .type "list", dict := none, data := .seq acc' c', slots := #[] } ∧ ItemsOf P acc' n)
    hh (K.keep _ _ hok fun b _ o e => Heap.get?_push_of_some _ e) s.heap.objs.size (Nat.ne_of_gt hlt.1) (Nat.ne_of_gt hlt.2) (.ref s.heap.objs.size) 0 hS₁
    (fun h' tk acc' c' hk hS' hacc => ⟨h', tk, acc', c', rfl, rfl, fun b o e => hk b o (Nat.ne_of_lt (Heap.lt_size e)) (Heap.get?_push_of_some _ e), hS', hacc⟩) hn
  refine wpAny_mono key (fun fin s' x => ?_) fun e s' x => ?_
  · cases fin with
    | done f =>
      obtain ⟨h', tk, acc', c', e, rfl, hk, hS', hacc⟩ := x
      cases e
      show wpAny _ A (load s.heap.objs.size >>= _) _ _ _
      refine wpAny_bind (wpAny_load hS' ?_)
      refine wpAny_pure ?_
      show R acc'.toList _
      exact h h' tk acc' hk (Nat.le_of_lt (Heap.lt_size hS')) hacc
    | again c₁ =>
      refine ⟨x.1, codeAny_mono x.2 fun q s₂ y => ?_⟩
      obtain ⟨h', tk, acc', c', rfl, rfl, hk, hS', hacc⟩ := y
      show wpAny _ A (load s.heap.objs.size >>= _) _ _ _
      refine wpAny_bind (wpAny_load hS' ?_)
      refine wpAny_pure ?_
      show R acc'.toList _
      exact h h' tk acc' hk (Nat.le_of_lt (Heap.lt_size hS')) hacc
  · obtain ⟨_, _, _, _, e', _⟩ := x
    cases e'
/-- sorted(x), by what is collected of x -/
theorem sorted_by {x : Value} {Q : Value → Shared → Prop} (G : List Value → Prop)
    (hc : ∀ (R : List Value → Shared → Prop), (∀ (h' : Heap) (tk : Nat) (vs : List Value), (∀ b o, s.heap.get? b = some o → h'.get? b = some o) → s.heap.objs.size ≤ h'.objs.size → G vs → R vs { s with heap := h', toks := tk }) → wpAny (model prog w) A.in1 (collect x) R E s)
    (hS : ∀ (tk : Nat) (vs : List Value) (h' : Heap), (∀ b o, s.heap.get? b = some o → h'.get? b = some o) → G vs → vs.length ≤ sizeLine ∧ ∃ κ, SortsAt prog w A.in1.in1 { s with heap := h', toks := tk } κ vs ∧
      ∀ (h3 : Heap) (d : Addr), (∀ b o, s.heap.get? b = some o → h3.get? b = some o) → s.heap.objs.size ≤ d → (∃ n, h3.get? d = some (seqObj "list" (sortVals κ false vs vs).toArray n)) → Q (.ref d) { s with heap := h3, toks := tk }) :
    wpAny (model prog w) A (call (.builtin "sorted") [x]) Q E s := by
  refine Calls.call_function_entry kind_sorted plain_sorted entry_sorted (args_sorted1 _) ?_
  unfold Builtin.«sorted»
  refine wpAny_bind (m := checkCount "sorted" 1 1 _) (wpAny_pure ?_)
  refine wpAny_bind (hc _ fun h' tk vs hk hle hG => ?_)
  refine wpAny_bind (wpAny_newList ?_ (hS tk vs h' hk hG).1)
  have ho : (h'.push (seqObj "list" vs.toArray 0)).get? h'.objs.size = some (seqObj "list" vs.toArray 0) := Heap.get?_push_size _ rfl
  have ne : ∀ {b : Addr} {o : Obj}, s.heap.get? b = some o → b ≠ h'.objs.size := fun e => Nat.ne_of_lt (Nat.lt_of_lt_of_le (Heap.lt_size e) hle)
  have kp : ∀ b o, s.heap.get? b = some o → (h'.push (seqObj "list" vs.toArray 0)).get? b = some o := fun b o e => Heap.get?_push_of_some _ (hk b o e)
  obtain ⟨hz, κ, S, q⟩ := hS tk vs (sortingHeap (h'.push (seqObj "list" vs.toArray 0)) h'.objs.size vs) (fun b o e => sortingHeap_old (ne e) (kp b o e)) hG
  show wpAny _ _ _ _ _ { s with heap := h'.push (seqObj "list" vs.toArray 0), toks := tk }
  refine wpAny_bind (wpAny_holding (wpAny_call_entry slot_list_sort ⟨_, ho, rfl⟩ entry_list_sort (list_sort_vals (s := { s with heap := h'.push (seqObj "list" vs.toArray 0), toks := tk }) ho S hz ⟨_, rfl, ?_⟩) (args_list_sort _)))
  exact wpAny_pure ⟨_, rfl, q _ _ (fun b o e => (sortedHeap_old (ne e) (Heap.lt_size (kp b o e))).trans (kp b o e)) hle (sortedHeap_at ho)⟩
end
end MP

namespace MP
open PySem L2
section
variable {X : Cx} {g : G} {E : XK} {a b e c o i tg : Expr} {es : List Expr} {m ma mb mo mi : EM} {ms : AM} {pos p apos : Pos}
/-! ### in, len, d[k] = v -/
theorem o_inD (cx : Ctx g E X) : O2 X g E (compareOp .In) (inD false) := by
  intro pins s σ H x y v u Q I rx ry ⟨ro, S, dx, dy, hS, r1, r2, w⟩
  unfold inD at w
  split at w
  · rename_i n
    obtain ⟨p1, h1, rfl⟩ := r2.ref_inv
    cases ry
    split at w
    · rename_i t lk kvs z
      split at w
      · rename_i hk
        obtain ⟨i1, i2⟩ := dget_rel hS h1 z r1 hk
        rw [if_neg (by decide)] at w
        cases q : kget dx kvs with
        | some d =>
          obtain ⟨v1, g1, _⟩ := i1 d q
          rw [q] at w
          exact d_in (by have := cx.units; omega) I g1 rx fun s' I' => ⟨.bl true, H, I', rfl, w ro H _ (.refl _) (.refl _) hS .bl_mk⟩
        | none =>
          rw [q] at w
          exact d_in (by have := cx.units; omega) I (i2 q) rx fun s' I' => ⟨.bl false, H, I', rfl, w ro H _ (.refl _) (.refl _) hS .bl_mk⟩
      · exact w.elim
    · exact w.elim
  · exact w.elim
theorem o_notInD (cx : Ctx g E X) : O2 X g E (compareOp .NotIn) (inD true) := by
  intro pins s σ H x y v u Q I rx ry ⟨ro, S, dx, dy, hS, r1, r2, w⟩
  unfold inD at w
  split at w
  · rename_i n
    obtain ⟨p1, h1, rfl⟩ := r2.ref_inv
    cases ry
    split at w
    · rename_i t lk kvs z
      split at w
      · rename_i hk
        obtain ⟨i1, i2⟩ := dget_rel hS h1 z r1 hk
        rw [if_pos rfl] at w
        cases q : kget dx kvs with
        | some d =>
          obtain ⟨v1, g1, _⟩ := i1 d q
          rw [q] at w
          exact d_notIn (by have := cx.units; omega) I g1 rx fun s' I' => ⟨.bl false, H, I', rfl, w ro H _ (.refl _) (.refl _) hS .bl_mk⟩
        | none =>
          rw [q] at w
          exact d_notIn (by have := cx.units; omega) I (i2 q) rx fun s' I' => ⟨.bl true, H, I', rfl, w ro H _ (.refl _) (.refl _) hS .bl_mk⟩
      · exact w.elim
    · exact w.elim
  · exact w.elim
theorem c_lenD (cx : Ctx g E X) : CallR X (.builtin "len") (rN g E fLenDT) := callR_imp call_len_dT fun xs H Q ⟨ro, S, ds, hS, rv, w⟩ => by
  unfold fLenDT at w
  split at w
  · rename_i n
    obtain ⟨v, r, rfl, r1, r2⟩ := rv.inv
    cases r2.inv0
    obtain ⟨p1, h1, rfl⟩ := r1.ref_inv
    split at w
    · rename_i kvs z
      obtain ⟨ws, rl, q⟩ := (show ∃ ws, RelTV ro H kvs ws ∧ AtL H p1 false (.dT ws) from hS.at h1 z)
      refine ⟨p1, ws, rfl, q, ?_⟩
      rw [← Paired.length rl]
      exact w ro H _ (.refl _) (.refl _) hS .int_mk
    · exact w.elim
  · exact w.elim
theorem sg_setD {i : Expr} {mi : EM} (cx : Ctx g E X) (ho : SE X g E o mo) (hi : SE X g E i mi)
    (ha : ∀ v, assign (.Subscript o i pos) X.env v = (do
      let ov ← holding [v] (eval o X.env)
      let iv ← holding [v, ov] (eval i X.env)
      standAt pos
      holding [v, ov, iv] (setItem ov iv v)
      release [v, ov, iv] []) := by intro _; rfl) : SG X g (.Subscript o i pos) (gSub setD mo mi) :=
  ⟨pg_imp (pg_sub ho.run hi.run (set_dict (by have := cx.units; omega)) ha) fun v s H Q ⟨ro, L, S, d, hL, hS, rv, w⟩ => by
    refine ⟨ro, L, S, hL, hS, ?_⟩
    unfold MP.gSub at w
    cases z : mo L S with
    | ok d1 S1 =>
      rw [z] at w
      simp only [R.bind_ok] at w
      intro ro1 H1 v1 gr1 ex1 hS1 rv1
      refine ⟨ro1, L, S1, hL.mono gr1 ex1, hS1, ?_⟩
      cases z2 : mi L S1 with
      | ok d2 S2 =>
        rw [z2] at w
        simp only [R.bind_ok] at w
        intro ro2 H2 v2 gr2 ex2 hS2 rv2
        unfold setD at w
        split at w
        · rename_i n
          obtain ⟨p1, h1, rfl⟩ := rv1.ref_inv
          have h2 := gr2 _ _ h1
          split at w
          · rename_i t kvs z3
            split at w
            · rename_i hk
              simp only [R.bind_ok] at w
              have r3 := RelD.mono gr2 ex2.tup _ _ (RelD.mono gr1 ex1.tup _ _ rv)
              obtain ⟨H', g1, ex3, hS3⟩ := dput_rel hS2 h2 z3 rv2 hk.1 r3 hk.2
              refine ⟨p1, H', rfl, g1, ?_⟩
              exact w ro2 _ s (gr1.trans gr2) (ex1.trans (ex2.trans ex3)) hS3 (RelL.mono (gr1.trans gr2) (ex1.trans (ex2.trans ex3)).tup hL)
            · exact w.elim
          · exact w.elim
        · exact w.elim
      | exc x S2 => rw [z2] at w; exact w.elim
      | err => rw [z2] at w; exact w.elim
    | exc x S1 => rw [z] at w; exact w.elim
    | err => rw [z] at w; exact w.elim⟩
/-! ### d.pop(k) -/
theorem rd_bmD {F : Fn} {s : St} {H : Hp} {Q : VK} (hK : X.K = g.K) (h : rdE g E (eBM "dict" F mo ms) s H Q) : tBM X.K "dict" (rM g E F) (rdE g E mo) (rdA g E ms) s H Q := by
  obtain ⟨ro, L, S, hL, hS, h⟩ := h
  refine ⟨ro, L, S, hL, hS, Post.bind h fun d S1 ro1 H1 v gr ex hS1 rv w => ?_⟩
  split at w
  · rename_i ht
    refine ⟨?_, ro1, L, S1, hL.mono gr ex, hS1, Post.bind w fun ds S2 ro2 H2 vs gr2 ex2 hS2 rv2 w => ⟨ro2, S2, d :: ds, hS2, .cons (rv.mono gr2 ex2) rv2, w⟩⟩
    cases d with
    | ref n =>
      obtain ⟨p1, h1, rfl⟩ := rv.ref_inv
      simp only [tyNm] at ht
      split at ht
      · exact absurd (Option.some.inj ht) (by decide)
      · rename_i t kvs z
        have q := hS1.at h1 z
        cases t with
        | true =>
          obtain ⟨ws, _, q⟩ := (show ∃ ws, RelTV ro1 H1 kvs ws ∧ AtL H1 p1 false (.dT ws) from q)
          exact .inr (.inr (.inl ⟨rfl, .inr ⟨ws, q⟩⟩))
        | false =>
          obtain ⟨ws, _, q⟩ := (show ∃ ws, RelKV ro1 H1 kvs ws ∧ AtL H1 p1 false (.dK ws) from q)
          exact .inr (.inr (.inl ⟨rfl, .inl ⟨ws, q⟩⟩))
      · cases ht
    | _ => first | (exact absurd (Option.some.inj ht) (by decide)) | (cases ht)
  · exact w.elim
theorem se_bmD {id : String} {name : Str} {F : Fn} (cx : Ctx g E X) (slot : Slot "dict" name id) (hty : typeOf (.builtin id) = pure (.type "method_descriptor")) (hm : MtR X id (rM g E F)) (ho : SE X g E o mo) (ha : SA X g E (e :: es) ms)
    (hbase : attributeBase o name X.env (eval o X.env) = eval o X.env := by rfl)
    (hfew : ((backTo pos (starEach (e :: es) X.env)).all (fun x => !x.1) && (backToKw pos (keywordEach [] X.env)).all (fun x => x.1.isSome)
      && decide ((e :: es).length + ([] : List Keyword).length + (if ([] : List Keyword).isEmpty then 0 else 1) < 30)) = true := by rfl)
    (hline : (apos.endLine == pos.line) = true := by rfl) (hs : starEach (e :: es) X.env = (false, eval e X.env) :: starEach es X.env := by rfl) (hplain : (backTo pos (starEach es X.env)).any (·.1) = false := by rfl) :
    SE X g E (.Call (.Attribute o name apos) (e :: es) [] pos) (eBM "dict" F mo ms) := ⟨pe_imp (pe_bm PySem.F.plainAttrs_dict slot hty hm ho.run ha.run hbase hfew hline hs hplain) fun s H Q h => rd_bmD cx.K h⟩
/-- pop of a key that is there -/
theorem mt_pop1 (hu : X.A.units + 1 < cLine) : MtR X "dict.pop" (fun x xs H Q => ∃ (a : Addr) (kvs : List (List L2.Key × V)) (k : List L2.Key) (b : Addr) (v : V), x = .ref a ∧ xs = [.ref b] ∧ H a = some (.dT kvs) ∧ H b = some (.tup (k.map kV)) ∧
    valV kvs k = some v ∧ Q v (upd H a (.dT (dropK kvs k)))) := by
  intro pins s σ H x xs v us Q I rx rxs h
  obtain ⟨a, kvs, k, b, v0, rfl, rfl, ha, hb, ev, q1⟩ := h
  cases rx
  obtain ⟨u1, rfl, r1⟩ := vals1 rxs
  cases r1
  obtain ⟨z, hd, xs', rel, dd⟩ := dt_of I.hok ha
  have hz : xs'.length ≤ sizeLine := by rw [← Paired.length rel]; exact z
  have r := rel.val k
  rw [ev] at r
  obtain ⟨w', hw, rw'⟩ := RelO.some_of (v := v0) (o := (atKey xs' k).map (·.2)) r
  obtain ⟨p, hp, hp2⟩ := Option.map_eq_some_iff.mp hw
  refine call_pop_heap (.inl rfl) (PySem.F.args_dict_pop_2 _ _) (tupleKind_room_in1 hu) (key_of I.hok hb) hd dd hp (fun h' dd' hs => ?_) hz
  obtain ⟨o, es, ep, hq, h2, h3, h4, _, h5⟩ := dd'
  have I2 : Inv X pins σ (upd H a (.dT (dropK kvs k))) { s with heap := h', toks := s.toks + (tupleKind (mixKind X.prog X.w)).draws k } :=
    d_write I (by rw [ha]; exact True.intro) hs ⟨o, hq⟩ ⟨Nat.le_trans (dropK_le kvs k) z, hd, _, (DX.KT_drop k rel).keeps (fun c ys ec => (by rw [upd_ne (ne_of ec ha (fun z => nomatch z))]; exact ec)), o, es, ep, hq, h2, h3, h4, h5⟩
  rw [hp2]
  exact ⟨v0, _, I2, rw', q1⟩
theorem m_pop1 (cx : Ctx g E X) : MtR X "dict.pop" (rM g E fPop1) := mtr_imp (mt_pop1 (by have := cx.units; omega)) fun x xs H Q ⟨ro, S, ds, hS, rv, w⟩ => by
  unfold fPop1 at w
  split at w
  · rename_i n k
    obtain ⟨v, r, e1, r1, rr⟩ := rv.inv
    obtain ⟨v2, r', rfl, r2, rr2⟩ := rr.inv
    cases rr2.inv0
    cases e1
    obtain ⟨p1, h1, rfl⟩ := r1.ref_inv
    split at w
    · rename_i kvs z
      split at w
      · rename_i hk
        split at w
        · rename_i d e3
          obtain ⟨ws, rl, q⟩ := (show ∃ ws, RelTV ro H kvs ws ∧ AtL H p1 false (.dT ws) from hS.at h1 z)
          have q : H p1 = some (.dT ws) := q
          obtain ⟨k', b, t1, rfl, t3⟩ := tkey_kV r2 hk
          obtain ⟨v3, g3, r3⟩ := (kget_rel tkey_inj t1 rl).1 _ e3
          have ex : Ext H (upd H p1 (.dT (dropK ws k'))) := .put q dT_tup dT_frz
          refine ⟨p1, ws, k', b, v3, rfl, rfl, q, t3, g3, w ro _ _ (.refl _) ex ?_ (r3.mono (.refl _) ex.tup)⟩
          exact hS.put h1 z (fun z => z.elim) (fun z => z.elim) q (show ∃ ws', RelTV ro (upd H p1 (.dT (dropK ws k'))) (kdrop k kvs) ws' ∧ AtL (upd H p1 (.dT (dropK ws k'))) p1 false (.dT ws') from ⟨_, RelTV.mono (.refl _) ex.tup (kdrop_rel tkey_inj t1 rl), upd_same⟩) nu_dT
        · exact w.elim
      · exact w.elim
    · exact w.elim
  · exact w.elim
/-! ### range(i, j, -1) -/
theorem rngDn_ok {ro : List Addr} {H : Hp} {lo : Int} {n : Nat} {chk : Sto → Bool} : WkOk g ro H ⟨rngDn lo n, chk⟩ (Itc lo (-1) n) := fun i ro' S' H' gr' ex' R hk => by
  refine ⟨fun d hd => ?_, fun hi => ?_⟩
  · unfold rngDn at hd
    rw [List.getElem?_map] at hd
    cases q : (List.range n)[i]? with
    | none => rw [q] at hd; cases hd
    | some j =>
      rw [q] at hd
      obtain ⟨h1, h2⟩ := List.getElem?_eq_some_iff.mp q
      rw [List.length_range] at h1
      rw [List.getElem_range] at h2
      subst h2
      cases hd
      refine ⟨h1, fun x H'' ⟨e1, e2⟩ => ?_⟩
      subst e1 e2
      have e : lo + ((i : Nat) : Int) * (-1) = lo - (i : Nat) := by omega
      rw [e]
      exact ⟨.refl _, R, .int_mk⟩
  · show n ≤ i
    rw [hi]
    simp [rngDn]
theorem si_rngDn (hg : Gl X "range") (hm : X.mg "range" = none) (ha : SE X g E a ma) (hb : SE X g E b mb) (hc : SE X g E c (eUn opNeg (eC (.int 1))))
    (h1 : starEach [a, b, c] X.env = (false, eval a X.env) :: starEach [b, c] X.env := by rfl) (h2 : starEach [b, c] X.env = (false, eval b X.env) :: starEach [c] X.env := by rfl) (h3 : starEach [c] X.env = (false, eval c X.env) :: starEach [] X.env := by rfl)
    (hpl : (backTo pos (starEach [b, c] X.env)).any (·.1) = false := by rfl) :
    SI X g E tg (.Call (.Name "range" p) [a, b, c] [] pos) (wRngDn ma mb) := ⟨pi_imp (pi_range3 hg hm (sa_cons ha (sa_cons hb (sa_cons hc sa_nil h3) h2) h1).run h1 hpl) fun s H Q ⟨ro, L, S, hL, hS, h⟩ => by
  refine ⟨ro, L, S, hL, hS, ?_⟩
  unfold wRngDn at h
  unfold aCons
  cases z : ma L S with
  | ok d S1 =>
    rw [z] at h
    simp only [R.bind_ok] at h ⊢
    cases z2 : mb L S1 with
    | ok d2 S2 =>
      rw [z2] at h
      simp only [R.bind_ok] at h ⊢
      simp only [eUn, eC, opNeg, R.bind_ok, aNil]
      intro ro1 H1 vs gr ex hS1 rv
      obtain ⟨v, r, rfl, r1, rr⟩ := rv.inv
      obtain ⟨v2, r', rfl, r2, rr2⟩ := rr.inv
      obtain ⟨v3, r'', rfl, r3, rr3⟩ := rr2.inv
      cases rr3.inv0
      cases d with
      | int i =>
        cases d2 with
        | int j =>
          simp only at h
          split at h
          · rename_i hj
            exact ⟨i, j, -1, (i - j).toNat, by rw [r1.int_inv, r2.int_inv, r3.int_inv], RgC.neg hj.1 hj.2.1 hj.2.2.1 hj.2.2.2, h ro1 H1 _ gr ex hS1 rngDn_ok⟩
          · exact h.elim
        | _ => exact h.elim
      | _ => cases d2 <;> exact h.elim
    | exc x S2 => rw [z2] at h; exact h
    | err => rw [z2] at h; exact h
  | exc x S1 => rw [z] at h; exact h
  | err => rw [z] at h; exact h⟩
/-! ### len(set(x)) -/
theorem nub_met (ns : List Int) : PyProof.Rows.firstMet (fun i => ns.getD i 0) ns.length = nubI ns := by
  unfold PyProof.Rows.firstMet nubI
  have e : (List.range ns.length).map (fun i => ns.getD i 0) = ns := by
    apply List.ext_getElem
    · simp
    · intro i h1 h2
      simp [List.getD_eq_getElem?_getD, h2]
  rw [e]
  congr 1
  funext acc k
  unfold PyProof.Rows.step_dedup
  have q : (acc.any (· == k)) = decide (k ∈ acc) := by
    rw [Bool.eq_iff_iff]
    simp
  rw [q]
  by_cases h : k ∈ acc <;> simp [h]
def tLenSetN (K : PySem.W.Frag) (ta : TE) : TE := fun σ H Q => ta σ H fun x H1 => ∃ (l : Addr) (ns : List Int), x = V.ref l ∧ SqL K H1 l (ns.map V.int) ∧ ns.length ≤ 1000 ∧ Q (.int (nubI ns).length) H1
theorem pe_lenSetN {a : Expr} {ta : TE} {p p2 q pos : Pos} (hc : X.calm = true) (hg : Gl X "len") (hm : X.mg "len" = none) (hg2 : Gl X "set") (hm2 : X.mg "set" = none) (ha : PE X a ta)
    (na : starEach [a] X.env = (false, eval a X.env) :: starEach [] X.env := by rfl) : PE X (.Call (.Name "len" p) [.Call (.Name "set" p2) [a] [] q] [] pos) (tLenSetN X.K ta) := by
  refine ⟨fun pins s σ H Q I h => ?_⟩
  refine PyProof.Rows.Call_ (ld_blt I hg hm PySem.boot_len ?_)
  refine PyProof.Rows.callWith_builtin1 (PyProof.Rows.args_cons ?_ rfl) rfl rfl
  refine PyProof.Rows.Call_ (ld_blt I hg2 hm2 PyProof.Rows.boot_set ?_)
  refine PyProof.Rows.callWith_type1 (PyProof.Rows.args_cons (thn (ha.run pins s σ H _ I h) fun v s1 ⟨x, H1, I1, r1, q1⟩ => PyProof.Rows.args_nil ?_) na) na rfl
  obtain ⟨l, ns, rfl, hq, h1, q1⟩ := q1
  cases r1
  obtain ⟨its, r, pl, hz⟩ := I1.list hq
  have hl : its.toArray.size = ns.length := by rw [List.size_toArray, ← r.length, List.length_map]
  refine call_set_list (I1.ok.hd hc) pl.isList (ns := ns) (by simpa using r.ints) (by unfold scanBound; omega) fun h' tk hS hk => ?_
  rw [hl, nub_met] at hS
  refine PyProof.Rows.args_nil ?_
  obtain ⟨o, es, ep, t, ho, hex, hd, _, _, _, hf, hn⟩ := hS
  have I2 : Inv X pins σ H1 { s1 with heap := h', toks := tk } := I1.kept fun b o e => hk b o (Heap.lt_size e) e
  have hle : (nubI ns).length ≤ ns.length := by rw [← nub_met]; exact PyProof.Rows.firstMet_length_le _ _
  refine call_len_set ho hex hd hf (by rw [hn] <;> omega) ⟨.int (nubI ns).length, H1, I2.tok _, ⟨_, by rw [hn]⟩, q1⟩
theorem intsOf_len : ∀ {ds : List D} {ns : List Int}, intsOf ds = some ns → ds.length = ns.length
  | [], ns, h => by cases h; rfl
  | d :: ds, ns, h => by
    cases d with
    | int i =>
      simp only [intsOf] at h
      cases q : intsOf ds with
      | none => rw [q] at h; cases h
      | some ms =>
        rw [q] at h
        cases h
        simp [intsOf_len q]
    | _ => cases h
theorem se_lenSet {p p2 q pos : Pos} (hc : X.calm = true) (hK : X.K = g.K) (hg : Gl X "len") (hm : X.mg "len" = none) (hg2 : Gl X "set") (hm2 : X.mg "set" = none) (ha : SE X g E a ma)
    (na : starEach [a] X.env = (false, eval a X.env) :: starEach [] X.env := by rfl) : SE X g E (.Call (.Name "len" p) [.Call (.Name "set" p2) [a] [] q] [] pos) (eUn opLenSet ma) :=
  ⟨pe_imp (pe_lenSetN hc hg hm hg2 hm2 ha.run na) fun s H Q ⟨ro, L, S, hL, hS, h⟩ => ⟨ro, L, S, hL, hS, Post.bind h fun d S1 ro1 H1 v gr ex hS1 rv w => by
    unfold opLenSet at w
    split at w
    · rename_i n
      obtain ⟨p1, h1, rfl⟩ := rv.ref_inv
      split at w
      · rename_i xs z
        obtain ⟨vs, r, t⟩ := hS1.at h1 z
        split at w
        · rename_i ns e
          split at w
          · rename_i hz
            have ev := intsOf_rel r e
            subst ev
            exact ⟨p1, ns, rfl, SqL.of t, hz, w ro1 H1 _ (.refl _) (.refl _) hS1 .int_mk⟩
          · exact w.elim
        · exact w.elim
      · exact w.elim
    · exact w.elim⟩⟩
end
end MP

namespace MP
open PySem L2
section
variable {X : Cx} {g : G} {E : XK}
theorem alike_flI {d d' : D} (h : flI d = true) (h' : flI d' = true) : PySem.W.alike (encF d) (encF d') = true := by
  cases d <;> first | (cases h; done) | skip
  cases d' <;> first | (cases h'; done) | rfl
theorem alike_flS {d d' : D} (h : flS d = true) (h' : flS d' = true) : PySem.W.alike (encF d) (encF d') = true := by
  cases d <;> first | (cases h; done) | skip
  cases d' <;> first | (cases h'; done) | rfl
theorem alikeAll_of {f : D → Bool} (hf : ∀ d d', f d = true → f d' = true → PySem.W.alike (encF d) (encF d') = true) : ∀ {ds es : List D}, ds.all f = true → es.all f = true → PySem.W.alikeAll (ds.map encF) (es.map encF) = true
  | [], _, _, _ => rfl
  | _ :: _, [], _, _ => rfl
  | d :: ds, e :: es, h, h' => by
    simp only [List.all_cons, Bool.and_eq_true] at h h'
    simp only [List.map_cons, PySem.W.alikeAll, Bool.and_eq_true]
    exact ⟨hf _ _ h.1 h'.1, alikeAll_of hf h.2 h'.2⟩
theorem depth_fl : ∀ d : D, (encF d).depth = 0
  | .int _ => rfl
  | .str _ => rfl
  | .non => rfl
  | .bl _ => rfl
  | .tup _ => rfl
  | .ref _ => rfl
  | .exn _ _ => rfl
theorem depthAll_fl : ∀ ds : List D, PyData.depthAll (ds.map encF) = 0
  | [] => rfl
  | d :: ds => by simp only [List.map_cons, PyData.depthAll, depth_fl, depthAll_fl ds]; rfl
theorem depth_enc (d : D) : (encD d).depth ≤ 1 := by
  cases d with
  | tup ds =>
    show PyData.depth (.tuple (ds.map encF)) ≤ 1
    simp only [PyData.depth, depthAll_fl]
    omega
  | _ => simp [encD, depth_fl]
theorem reads_fl {P : Program} {w : World} {ro : List Addr} {H : Hp} {h : Heap} {d : D} {x : V} {u : Value} (r : RelD ro H d x) (ru : RelV x u) (f : flI d = true ∨ flS d = true) : Reads h u (encF d) [] := by
  cases d with
  | int i =>
    rw [r.int_inv] at ru
    obtain ⟨t, rfl⟩ := ru
    exact .int i t
  | str z =>
    rw [r.str_inv.1] at ru
    obtain ⟨t, rfl⟩ := ru
    exact .str _ t
  | _ => rcases f with f | f <;> cases f
theorem readsAll_fl {P : Program} {w : World} {ro : List Addr} {H : Hp} {h : Heap} : ∀ {ds : List D} {xs : List V} {us : List Value}, RelDs ro H ds xs → Vals xs us → (∀ d ∈ ds, flI d = true ∨ flS d = true) → ReadsAll h us (ds.map encF) []
  | [], xs, us, r, ru, f => by
    rw [r.inv0] at ru
    cases ru
    exact .nil
  | d :: ds, xs, us, r, ru, f => by
    obtain ⟨v, r', rfl, r1, r2⟩ := r.inv
    cases ru with
    | cons q t =>
      have e : ([] : List Addr) = [] ++ [] := rfl
      rw [e]
      exact .cons (reads_fl (P := P) (w := w) r1 q (f d (List.mem_cons_self ..))) (readsAll_fl (P := P) (w := w) r2 t fun x hx => f x (List.mem_cons_of_mem _ hx))
theorem reads_tup {P : Program} {w : World} {ro : List Addr} {H : Hp} {h : Heap} (ok : HOk P w H h) {ds : List D} {x : V} {u : Value} (r : RelD ro H (.tup ds) x) (ru : RelV x u) (f : ∀ d ∈ ds, flI d = true ∨ flS d = true) : Reads h u (encD (.tup ds)) [] := by
  obtain ⟨a, vs, rfl, ha, rs⟩ := r.tup_inv
  cases ru
  obtain ⟨_, its, r2, o, ho, hc, n, hd⟩ := (show ObjOk P w H h a (.tup vs) from ok a _ ha)
  exact .tuple ho hc hd (by simpa using readsAll_fl (P := P) (w := w) rs r2 f)
/-- the three kinds -/
theorem srt_cases {ds : List D} (h : srtOk ds = true) : (∀ d ∈ ds, flI d = true) ∨ ((∀ d ∈ ds, ∃ r, d = .tup r ∧ ∀ e ∈ r, flI e = true ∨ flS e = true) ∧ ∀ d ∈ ds, ∀ d' ∈ ds, PySem.W.alike (encD d) (encD d') = true) := by
  unfold srtOk at h
  rw [Bool.or_eq_true, Bool.or_eq_true] at h
  rcases h with (h | h) | h
  · exact .inl fun d hd => List.all_eq_true.mp h d hd
  · have q : ∀ d ∈ ds, ∃ r, d = .tup r ∧ r.all flI = true := fun d hd => by
      have z := List.all_eq_true.mp h d hd
      cases d <;> first | (cases z; done) | exact ⟨_, rfl, z⟩
    refine .inr ⟨fun d hd => ?_, fun d hd d' hd' => ?_⟩
    · obtain ⟨r, rfl, z⟩ := q d hd
      exact ⟨r, rfl, fun e he => .inl (List.all_eq_true.mp z e he)⟩
    · obtain ⟨r, rfl, z⟩ := q d hd
      obtain ⟨r', rfl, z'⟩ := q d' hd'
      simp only [encD, PySem.W.alike]
      exact alikeAll_of (fun _ _ => alike_flI) z z'
  · have q : ∀ d ∈ ds, ∃ r, d = .tup r ∧ r.all flS = true := fun d hd => by
      have z := List.all_eq_true.mp h d hd
      cases d <;> first | (cases z; done) | exact ⟨_, rfl, z⟩
    refine .inr ⟨fun d hd => ?_, fun d hd d' hd' => ?_⟩
    · obtain ⟨r, rfl, z⟩ := q d hd
      exact ⟨r, rfl, fun e he => .inr (List.all_eq_true.mp z e he)⟩
    · obtain ⟨r, rfl, z⟩ := q d hd
      obtain ⟨r', rfl, z'⟩ := q d' hd'
      simp only [encD, PySem.W.alike]
      exact alikeAll_of (fun _ _ => alike_flS) z z'
def RVD (ro : List Addr) (H : Hp) (u : Value) (d : D) : Prop := ∃ x, RelV x u ∧ RelD ro H d x
theorem each_of {ro : List Addr} {H : Hp} : ∀ {ds : List D} {xs : List V} {us : List Value}, RelDs ro H ds xs → Vals xs us → PySem.W.EachIs (RVD ro H) us ds
  | [], xs, us, r, ru => by
    rw [r.inv0] at ru
    cases ru
    exact .nil
  | d :: ds, xs, us, r, ru => by
    obtain ⟨v, r', rfl, r1, r2⟩ := r.inv
    cases ru with
    | cons q t => exact .cons ⟨v, q, r1⟩ (each_of r2 t)
theorem each_to {ro : List Addr} {H : Hp} : ∀ {us : List Value} {ds : List D}, PySem.W.EachIs (RVD ro H) us ds → ∃ xs, Vals xs us ∧ RelDs ro H ds xs
  | _, _, .nil => ⟨[], .nil, .nil⟩
  | _, _, .cons ⟨x, h1, h2⟩ t => let ⟨xs, h3, h4⟩ := each_to t; ⟨x :: xs, .cons h1 h3, .cons h2 h4⟩
theorem each_reads {P : Program} {w : World} {ro : List Addr} {H : Hp} {h : Heap} (ok : HOk P w H h) {ds : List D} (hs : srtOk ds = true) : ∀ {us : List Value} {es : List D}, (∀ d ∈ es, d ∈ ds) → PySem.W.EachIs (RVD ro H) us es → PySem.W.EachIs (fun v d => ∃ as, Reads h v (encD d) as) us es
  | _, _, _, .nil => .nil
  | _, d :: _, hm, .cons ⟨x, h1, h2⟩ t => by
    refine .cons ?_ (each_reads ok hs (fun e he => hm e (List.mem_cons_of_mem _ he)) t)
    have hd := hm d (List.mem_cons_self ..)
    rcases srt_cases hs with q | ⟨q, _⟩
    · have z := q d hd
      cases d <;> first | (cases z; done) | skip
      exact ⟨[], reads_fl (P := P) (w := w) h2 h1 (.inl rfl)⟩
    · obtain ⟨r, rfl, z⟩ := q d hd
      exact ⟨[], reads_tup ok h2 h1 z⟩
theorem sorts_at {P : Program} {w : World} {A : Around} {s : Shared} {ds : List D} {us : List Value} (hs : srtOk ds = true) (hu : A.units + 2 < cLine) (e : PySem.W.EachIs (fun v d => ∃ as, Reads s.heap v (encD d) as) us ds) :
    PySem.W.AllAlike (ds.map encD) ∧ PySem.W.SortsAt P w A s (PySem.W.dataKind s.heap (ds.map encD)) us := by
  have e' := PySem.W.each_map (R := fun v d => ∃ as, Reads s.heap v d as) encD e
  have hb : ∀ d, d ∈ ds.map encD → A.units + d.depth < cLine := fun d hd => by
    obtain ⟨b, _, rfl⟩ := List.mem_map.mp hd
    have := depth_enc b
    omega
  rcases srt_cases hs with q | ⟨q, qa⟩
  · have q1 : ∀ d ∈ ds, ∃ i, d = .int i := fun d hd => by
      have z := q d hd
      cases d <;> first | (cases z; done) | exact ⟨_, rfl⟩
    have al : PySem.W.AllAlike (ds.map encD) := fun d hd d' hd' => by
      obtain ⟨b, hb, rfl⟩ := List.mem_map.mp hd
      obtain ⟨b', hb', rfl⟩ := List.mem_map.mp hd'
      obtain ⟨i, rfl⟩ := q1 b hb
      obtain ⟨j, rfl⟩ := q1 b' hb'
      rfl
    refine ⟨al, PySem.W.SortsAt.data e' al (.inr fun d hd => ?_) hb⟩
    obtain ⟨b, hb, rfl⟩ := List.mem_map.mp hd
    obtain ⟨i, rfl⟩ := q1 b hb
    exact ⟨(fun z => by cases z), (fun xs z => by cases z)⟩
  · have al : PySem.W.AllAlike (ds.map encD) := fun d hd d' hd' => by
      obtain ⟨b, hb, rfl⟩ := List.mem_map.mp hd
      obtain ⟨b', hb', rfl⟩ := List.mem_map.mp hd'
      exact qa b hb b' hb'
    refine ⟨al, sortsAt_tups e' al (fun d hd => ?_) hb⟩
    obtain ⟨b, hb, rfl⟩ := List.mem_map.mp hd
    obtain ⟨r, rfl, _⟩ := q b hb
    exact ⟨_, rfl⟩
/-- what sorted lays -/
theorem sorted_rel {pins : List (Addr × Obj)} {σ : St} {H : Hp} {s : Shared} {Q : VK} {x : Value} {ro : List Addr} {S : Sto} {ds : List D} (cx : Ctx g E X) (I : Inv X pins σ H s) (hS : RelS g ro S H) (hs : srtOk ds = true) (hz : ds.length ≤ sz)
    (hc : ∀ (R : List Value → Shared → Prop), (∀ (h' : Heap) (tk : Nat) (vs : List Value), (∀ b o, s.heap.get? b = some o → h'.get? b = some o) → s.heap.objs.size ≤ h'.objs.size → PySem.W.EachIs (RVD ro H) vs ds → R vs { s with heap := h', toks := tk }) →
      wpAny (model X.prog X.w) X.A.in1 (collect x) R X.xe s)
    (w : Post RelD g E ro H Q (.ok (.ref S.length) (S ++ [.lst (srtD ds)]))) : wpAny (model X.prog X.w) X.A (call (.builtin "sorted") [x]) (EP X pins σ Q) X.xe s := by
  refine sorted_by (fun vs => PySem.W.EachIs (RVD ro H) vs ds) hc fun tk vs h' hk e => ?_
  have ok' : HOk X.prog X.w H h' := (I.kept (t' := s.toks) hk).hok
  have er := each_reads ok' hs (fun _ z => z) e
  have hu : X.A.in1.in1.units + 2 < cLine := by
    have := cx.units
    show X.A.units + 1 + 1 + 2 < cLine
    omega
  obtain ⟨al, sa⟩ := sorts_at (P := X.prog) (w := X.w) (s := { s with heap := h', toks := tk }) hs hu er
  refine ⟨by rw [e.length, ← sz_eq]; exact hz, _, sa, fun h3 d k3 hd hn => ?_⟩
  have out := PySem.W.sortVals_data false e er al
  obtain ⟨ys, r1, r2⟩ := each_to out
  obtain ⟨n, hn⟩ := hn
  have hl : ys.length ≤ sizeLine := by
    rw [r1.length, PySem.W.sortVals_length false rfl, e.length, ← sz_eq]
    exact hz
  have fr : H d = none := I.hok.fresh hd
  exact ⟨.ref d, upd H d (.lst ys), I.laid k3 hd ⟨hl, _, n, r1, hn⟩, rfl, w.push hS fr ⟨ys, RelDs.mono (.snoc _ _) (.new fr) _ _ r2, upd_same⟩⟩
theorem dkey_rel {ro : List Addr} {H : Hp} {d : D} {k : L2.Key} (h : dkey d = some k) : RelD ro H d (kV k) := by
  cases d with
  | int i => cases h; exact .int_mk
  | str x =>
    simp only [dkey] at h
    split at h
    · rename_i q
      cases h
      exact .str_mk fun c hc => by
        have z := List.all_eq_true.mp q c hc
        exact of_decide_eq_true z
    · cases h
  | _ => cases h
theorem dkeys_rel {ro : List Addr} {H : Hp} : ∀ {ds : List D} {ks : List L2.Key}, ds.mapM dkey = some ks → RelDs ro H ds (ks.map kV)
  | [], ks, h => by
    simp at h
    subst h
    exact .nil
  | d :: ds, ks, h => by
    rw [List.mapM_cons] at h
    simp only [Option.bind_eq_bind, Option.pure_def, Option.bind_eq_some_iff, Option.some.injEq] at h
    obtain ⟨k, h1, r, h2, rfl⟩ := h
    exact .cons (dkey_rel h1) (dkeys_rel h2)
theorem tkey_rel {ro : List Addr} {H : Hp} {d : D} {ks : List L2.Key} {b : Addr} (h : tkey d = some ks) (hb : H b = some (.tup (ks.map kV))) : RelD ro H d (.ref b) := by
  cases d with
  | tup ds => exact .tup_mk hb (dkeys_rel h)
  | _ => cases h
theorem keys_each {ro : List Addr} {H : Hp} : ∀ {kvs : List (D × D)} {ws : List (List L2.Key × V)} {bs : List Addr}, RelTV ro H kvs ws → IsKeys H ws bs → PySem.W.EachIs (RVD ro H) (bs.map Value.ref) (kvs.map (·.1))
  | _, _, _, .nil, .nil => .nil
  | _, _, _, .cons a r, .cons b t => .cons ⟨.ref _, rfl, tkey_rel a.1 b⟩ (keys_each r t)
theorem c_sorted (cx : Ctx g E X) (hc : X.calm = true) : CallR X (.builtin "sorted") (rN g E fSorted) := by
  intro pins s σ H xs us Q I r ⟨ro, S, ds, hS, rv, w⟩
  unfold fSorted at w
  split at w
  · rename_i n
    obtain ⟨v, r', rfl, r1, r2⟩ := rv.inv
    cases r2.inv0
    obtain ⟨p1, h1, rfl⟩ := r1.ref_inv
    obtain ⟨u, rfl, ru⟩ := vals1 r
    cases ru
    split at w
    · rename_i ys z
      split at w
      · rename_i hk
        obtain ⟨vs, q, t⟩ := hS.at h1 z
        obtain ⟨its, rv2, pl, hz2⟩ := I.list (SqL.of t)
        refine sorted_rel cx I hS hk.1 hk.2 (fun R hR => PyProof.Rows.collect_list pl.isList ?_ (by rw [← rv2.length]; exact hz2)) w
        exact hR _ s.toks its (fun b o e => by
          have hlt := Heap.lt_size e
          rw [Heap.get?_update_ne _ _ _ _ (Nat.ne_of_lt hlt)]
          exact Heap.get?_push_of_some _ e) (by rw [Heap.size_update, PyProof.Rows.size_push']; exact Nat.le_succ _) (each_of q rv2)
      · exact w.elim
    · rename_i lk kvs z
      split at w
      · rename_i hk
        obtain ⟨ws, rl, q⟩ := (show ∃ ws, RelTV ro H kvs ws ∧ AtL H p1 lk (.dT ws) from hS.at h1 z)
        have rdd : Rd H p1 (.dT ws) := by
          cases lk with
          | true => exact .inr q
          | false => exact .inl q
        obtain ⟨z1, hs1, ks, pr, o, es, ep, ho, hx, hdt, he, hn⟩ := (show ObjOk X.prog X.w H s.heap p1 (.dT ws) from rdd.ok I.hok)
        have l1 : es.size = ks.length := size_of_entries he
        have l2 : ws.length = ks.length := Paired.length pr
        refine sorted_rel cx I hS hk.1 (by rw [List.length_map]; exact hk.2) (fun R hR => collectK (kdl_raw hs1 hx hdt) (I.ok.hd hc) ho (by omega) fun h' tk acc kp sz it => hR h' tk acc.toList kp sz ?_) w
        have ea : acc.toList = (ks.map fun x => x.2.1).map Value.ref := by
          rw [List.map_map]
          have hl : acc.toList.length = ks.length := by rw [Array.length_toList, it.1]; exact l1
          apply List.ext_getElem?
          intro j
          rw [List.getElem?_map]
          cases hj : acc.toList[j]? with
          | none =>
            have h1 := List.getElem?_eq_none_iff.mp hj
            rw [List.getElem?_eq_none (by omega)]
            all_goals rfl
          | some v =>
            obtain ⟨en, hen, hv⟩ := it.2 j v (by rw [← Array.getElem?_toList]; exact hj)
            have qe := entry_at he j
            rw [hen] at qe
            cases hb : ks[j]? with
            | none =>
              rw [hb] at qe
              exact nomatch (show some en = none from qe)
            | some b =>
              rw [hb] at qe
              have e2 : en = entryOfKey (tupleKind (mixKind X.prog X.w)) b := Option.some.inj qe
              rw [hv, e2]
              all_goals rfl
        rw [ea]
        exact keys_each rl (isKeys_of pr)
      · exact w.elim
    · exact w.elim
  · exact w.elim
end
end MP

namespace MP
open PySem L2
section
variable {X : Cx} {g : G} {E : XK} {tg e : Expr} {st : Stmt} {ma me : EM} {ms : SM} {pos p : Pos}
theorem si_dic (ha : SE X g E e ma) : SI X g E tg e (wDic ma) := ⟨pi_imp (pi_keys ha.run) fun s H Q ⟨ro, L, S, hL, hS, h⟩ => by
  refine ⟨ro, L, S, hL, hS, Post.bind h fun d S1 ro1 H1 v gr ex hS1 rv h => ?_⟩
  cases d with
  | ref n =>
    obtain ⟨p, hp, rfl⟩ := rv.ref_inv
    simp only at h
    split at h
    · rename_i kvs e
      obtain ⟨ws, rl, o, q⟩ := (show ∃ ws, RelTV ro1 H1 kvs ws ∧ AtL H1 p true (.dT ws) from hS1.at hp e)
      refine ⟨p, o, rfl, .inr ⟨ws, q, h ro1 H1 _ (.refl _) (.refl _) hS1 fun i ro' S' H' gr' ex' R hk => ?_⟩⟩
      have q' := ex'.frz _ _ _ q
      have lk : kvs.length = ws.length := Paired.length rl
      refine ⟨fun d hd => ?_, fun hi => ⟨q', by rw [hi, List.length_map, lk]; exact Nat.le_refl _⟩⟩
      rw [List.getElem?_map] at hd
      cases hk2 : kvs[i]? with
      | none => rw [hk2] at hd; cases hd
      | some kv =>
        rw [hk2] at hd
        cases hd
        obtain ⟨w, hw, h1, h2⟩ := Paired.get rl hk2
        refine ⟨⟨q', (List.getElem?_eq_some_iff.mp hw).1⟩, fun x H'' ⟨e1, k, v, b, e2, e3, e4⟩ => ?_⟩
        subst e1 e3
        rw [hw] at e2
        cases e2
        exact ⟨.refl _, R, tkey_rel h1 e4⟩
    · exact h.elim
  | _ => exact h.elim⟩
/-- what the lock does to the heap, and back -/
theorem lock_in {ro : List Addr} {S : Sto} {H : Hp} {n : Nat} {kvs : List (D × D)} (hS : RelS g ro S H) (e : S[n]? = some (.dic true false kvs)) :
    ∃ (d : Addr) (ws : List (List L2.Key × V)), ro[n]? = some d ∧ H d = some (.dT ws) ∧ ∀ od, RelS g ro (S.set n (.dic true true kvs)) (upd H d (.frz od (.dT ws))) ∧ TExt H (upd H d (.frz od (.dT ws))) ∧
      ∀ (ro' : List Addr) (S1 S2 : Sto) (H' : Hp), Gr ro ro' → Ext (upd H d (.frz od (.dT ws))) H' → RelS g ro' S1 H' → (Ext H H' ∧ H' d = some (.frz od (.dT ws)) ∧
        (unlD n kvs S1 = some S2 → Ext H (upd H' d (.dT ws)) ∧ RelS g ro' S2 (upd H' d (.dT ws)) ∧ TExt H' (upd H' d (.dT ws)))) := by
  obtain ⟨d, hn, q⟩ := hS.ob n _ e
  obtain ⟨ws, rl, q⟩ := (show ∃ ws, RelTV ro H kvs ws ∧ AtL H d false (.dT ws) from q)
  have q : H d = some (.dT ws) := q
  refine ⟨d, ws, hn, q, fun od => ?_⟩
  have te : TExt H (upd H d (.frz od (.dT ws))) := .put q dT_tup
  refine ⟨?_, te, fun ro' S1 S2 H' gr ex hS1 => ?_⟩
  · exact hS.put hn e (fun z => z.elim) (fun z => z.elim) q (show ∃ ws', RelTV ro (upd H d (.frz od (.dT ws))) kvs ws' ∧ AtL (upd H d (.frz od (.dT ws))) d true (.dT ws') from ⟨ws, rl.mono (.refl _) te, od, upd_same⟩) nu_dT
  · have hd' : H' d = some (.frz od (.dT ws)) := ex.frz _ _ _ upd_same
    have ne : ∀ {a : Addr} {o : HO}, H a = some o → o ≠ .dT ws → a ≠ d := fun h h' z => by rw [z, q] at h; exact h' (Option.some.inj h).symm
    have e1 : Ext H H' := ⟨te.trans ex.tup, fun a o u h => ex.frz _ _ _ (by rw [upd_ne (ne h (fun z => nomatch z))]; exact h)⟩
    refine ⟨e1, hd', fun hu => ?_⟩
    have t2 : TExt H' (upd H' d (.dT ws)) := .put hd' (fun _ z => nomatch z)
    refine ⟨⟨e1.tup.trans t2, fun a o u h => ?_⟩, ?_, t2⟩
    · rw [upd_ne (ne h (fun z => nomatch z))]
      exact e1.frz _ _ _ h
    · unfold unlD at hu
      split at hu
      · rename_i kv1 z
        cases hu
        exact hS1.put (gr _ _ hn) z (fun z => z.elim) (fun z => z.elim) hd' (show ∃ ws', RelTV ro' (upd H' d (.dT ws)) kvs ws' ∧ AtL (upd H' d (.dT ws)) d false (.dT ws') from ⟨ws, rl.mono gr (e1.tup.trans t2), upd_same⟩) nu_frz
      · cases hu
theorem ss_lock (h : SS X g E st ms) : SS X g E st (sLock ma ms) := ⟨ps_imp (ps_lock h.run) fun D s H ⟨ro, L, S, hL, hS, w⟩ => by
  unfold sLock at w
  split at w
  · rename_i n S0 z0
    split at w
    · rename_i kvs e
      obtain ⟨d, ws, hn, q, k⟩ := lock_in hS e
      refine ⟨d, _, q, trivial, fun od => ?_⟩
      obtain ⟨r1, te, k⟩ := k od
      refine ⟨ro, L, _, hL.mono (.refl _) te, r1, ?_⟩
      cases z : ms L (S.set n (.dic true true kvs)) with
      | err => rw [z] at w; exact w
      | exc x L1 S1 =>
        rw [z] at w
        exact fun ro' H' c dd gr ex hS1 rx => w ro' H' c dd gr (k ro' S1 S1 H' gr ex hS1).1 hS1 rx
      | nx L1 S1 =>
        rw [z] at w
        intro ro' H' s' gr ex hS1 rl
        simp only at w
        cases hu : unlD n kvs S1 with
        | none => rw [hu] at w; exact w.elim
        | some S2 =>
          rw [hu] at w
          obtain ⟨_, hd, k2⟩ := k ro' S1 S2 H' gr ex hS1
          obtain ⟨e2, r2, t2⟩ := k2 hu
          exact ⟨hd, w ro' _ _ gr e2 r2 (rl.mono (.refl _) t2)⟩
      | bk L1 S1 =>
        rw [z] at w
        intro ro' H' s' gr ex hS1 rl
        simp only at w
        cases hu : unlD n kvs S1 with
        | none => rw [hu] at w; exact w.elim
        | some S2 =>
          rw [hu] at w
          obtain ⟨_, hd, k2⟩ := k ro' S1 S2 H' gr ex hS1
          obtain ⟨e2, r2, t2⟩ := k2 hu
          exact ⟨hd, w ro' _ _ gr e2 r2 (rl.mono (.refl _) t2)⟩
      | ct L1 S1 =>
        rw [z] at w
        intro ro' H' s' gr ex hS1 rl
        simp only at w
        cases hu : unlD n kvs S1 with
        | none => rw [hu] at w; exact w.elim
        | some S2 =>
          rw [hu] at w
          obtain ⟨_, hd, k2⟩ := k ro' S1 S2 H' gr ex hS1
          obtain ⟨e2, r2, t2⟩ := k2 hu
          exact ⟨hd, w ro' _ _ gr e2 r2 (rl.mono (.refl _) t2)⟩
      | rt d1 S1 =>
        rw [z] at w
        intro ro' H' v gr ex hS1 rl
        simp only at w
        cases hu : unlD n kvs S1 with
        | none => rw [hu] at w; exact w.elim
        | some S2 =>
          rw [hu] at w
          obtain ⟨_, hd, k2⟩ := k ro' S1 S2 H' gr ex hS1
          obtain ⟨e2, r2, t2⟩ := k2 hu
          exact ⟨hd, w ro' _ _ gr e2 r2 (RelD.mono (.refl _) t2 _ _ rl)⟩
    · exact w.elim
  · exact w.elim⟩
theorem se_lock (h : SE X g E e me) : SE X g E e (eLock ma me) := ⟨pe_imp (pe_lock h.run) fun s H Q ⟨ro, L, S, hL, hS, w⟩ => by
  unfold eLock at w
  split at w
  · rename_i n S0 z0
    split at w
    · rename_i kvs e
      obtain ⟨d, ws, hn, q, k⟩ := lock_in hS e
      refine ⟨d, _, q, trivial, fun od => ?_⟩
      obtain ⟨r1, te, k⟩ := k od
      refine ⟨ro, L, _, hL.mono (.refl _) te, r1, ?_⟩
      cases z : me L (S.set n (.dic true true kvs)) with
      | err => rw [z] at w; exact w
      | exc x S1 =>
        rw [z] at w
        exact fun ro' H' c dd gr ex hS1 rx => w ro' H' c dd gr (k ro' S1 S1 H' gr ex hS1).1 hS1 rx
      | ok d1 S1 =>
        rw [z] at w
        intro ro' H' v gr ex hS1 rl
        simp only at w
        cases hu : unlD n kvs S1 with
        | none => rw [hu] at w; exact w.elim
        | some S2 =>
          rw [hu] at w
          obtain ⟨_, hd, k2⟩ := k ro' S1 S2 H' gr ex hS1
          obtain ⟨e2, r2, t2⟩ := k2 hu
          exact ⟨hd, w ro' _ _ gr e2 r2 (RelD.mono (.refl _) t2 _ _ rl)⟩
    · exact w.elim
  · exact w.elim⟩
end
end MP

namespace MP
open PySem L2
structure SK (X : Cx) (g : G) (E : XK) (kws : List Keyword) (m : AM) : Prop where
  run : PK X kws (rdA g E m)
/-- the name x is the class c; called with n values and the keywords ks its __init__ computes F -/
def MiK (g : G) (k : Nat) (x : Str) (c n : Nat) (ks : List Str) (F : Fn) (gD : List D → List D → List D) : Prop := ∃ (f : Addr) (fd : FuncData) (ps : List Str) (gv : List Value → List Value → List Value) (gV : List V → List V → List V),
  FOk g k f fd ps F ∧ g.mg x = some (.ref (g.cls c)) ∧ Mk g.K (g.cls c) f ∧ KBn g.K fd ps (n + 1) ks gv gV ∧
  ∀ (ro : List Addr) (H : Hp) (ds es : List D) (vs zs : List V) (v : V), RelDs ro H ds vs → RelDs ro H es zs → ∃ us, gV (v :: vs) zs = v :: us ∧ RelDs ro H (gD ds es) us
section
variable {X : Cx} {g : G} {E : XK} {e : Expr} {es : List Expr} {kws : List Keyword} {me : EM} {ms mk : AM} {pos p kpos : Pos} {nm : Option Str} {k n : Nat} {x : Str} {F : Fn} {ks : List Str} {gD : List D → List D → List D}
theorem pk_imp {t t' : TA} (h : PK X kws t) (i : ∀ s H Q, t' s H Q → t s H Q) : PK X kws t' := ⟨fun pos pins s σ H Q I q => h.run pos pins s σ H Q I (i _ _ _ q)⟩
theorem sk_nil : SK X g E [] aNil := ⟨pk_imp pk_nil fun s H Q ⟨ro, L, S, hL, hS, h⟩ => h ro H _ (.refl _) (.refl _) hS .nil⟩
theorem sk_cons (ha : SE X g E e me) (hr : SK X g E kws mk) : SK X g E (⟨nm, e, kpos⟩ :: kws) (aCons me mk) := ⟨pk_imp (pk_cons ha.run hr.run) fun s H Q h => by
  obtain ⟨ro, L, S, hL, hS, h⟩ := h
  refine ⟨ro, L, S, hL, hS, Post.bind h fun d S1 ro1 H1 v gr ex hS1 rv h => ?_⟩
  refine ⟨ro1, L, S1, hL.mono gr ex, hS1, Post.bind h fun ds S2 ro2 H2 vs gr2 ex2 hS2 rv2 h => ?_⟩
  exact h ro2 H2 _ (.refl _) (.refl _) hS2 (.cons (rv.mono gr2 ex2) rv2)⟩
theorem se_makeK {c : Nat} (cx : Ctx g E X) (d : MiK g k x c n ks F gD) (hr : Room (k + 1) X.A) (hg : Gl X x) (ha : SA X g E (e :: es) ms) (hkw : SK X g E kws mk)
    (hall : (backToKw pos (keywordEach kws X.env)).all (·.1.isSome) = true := by rfl) (hks : (backToKw pos (keywordEach kws X.env)).filterMap (·.1) = ks := by rfl) (hdb : (x == ("__debug__" : Str)) = false := by decide)
    (he : starEach (e :: es) X.env = (false, eval e X.env) :: starEach es X.env := by rfl) (hpl : ((backTo pos (starEach (e :: es) X.env)).any (·.1) || (backToKw pos (keywordEach kws X.env)).any (·.1.isNone)) = false := by rfl) :
    SE X g E (.Call (.Name x p) (e :: es) kws pos) (eMakeK c n ks.length F gD ms mk) := by
  obtain ⟨f, fd, ps, gv, gV, h, hm, hk, hb, hrel⟩ := d
  refine ⟨pe_imp (pe_makeK (by rw [cx.K]; exact hk) (h.at cx) hr hg (by rw [cx.mg]; exact hm) (by rw [cx.K]; exact hb) (passM cx) ha.run hkw.run hall hks hdb he hpl) fun s H Q ⟨ro, L, S, hL, hS, h⟩ => ?_⟩
  refine ⟨ro, L, S, hL, hS, Post.bind h fun ds S1 ro1 H1 vs gr ex hS1 rv h => ⟨ro1, L, S1, hL.mono gr ex, hS1, Post.bind h fun zs S2 ro2 H2 ws gr2 ex2 hS2 rv2 w => ?_⟩⟩
  split at w
  · rename_i hl
    have rv' := RelDs.mono gr2 ex2.tup _ _ rv
    refine ⟨by rw [← rv.length]; exact hl.1, by rw [← rv2.length]; exact hl.2, fun y dx hy hdx ne => ?_⟩
    obtain ⟨us, e1, r⟩ := hrel ro2 H2 ds zs vs ws (.ref y) rv' rv2
    rw [e1]
    exact make_rd hS2 r w y dx hy hdx ne
  · exact w.elim
/-! ### a text in a tuple of texts -/
theorem strsOf_rel {ro : List Addr} {H : Hp} : ∀ {ds : List D} {vs : List V} {zs : List (List Nat)}, RelDs ro H ds vs → strsOf ds = some zs → vs = zs.map fun z => V.str ⟨z.toArray⟩
  | [], vs, zs, r, e => by
    cases e
    rw [r.inv0]
    rfl
  | d :: ds, vs, zs, r, e => by
    obtain ⟨v, us, rfl, r1, r2⟩ := r.inv
    cases d with
    | str z =>
      simp only [strsOf] at e
      cases q : strsOf ds with
      | none => rw [q] at e; cases e
      | some ys =>
        rw [q] at e
        cases e
        rw [r1.str_inv.1, strsOf_rel r2 q]
        rfl
    | _ => cases e
theorem inV_strs (c : List Nat) : ∀ zs : List (List Nat), inV (.str ⟨c.toArray⟩) (zs.map fun z => V.str ⟨z.toArray⟩) = decide (c ∈ zs)
  | [] => by simp [inV]
  | z :: zs => by
    have ih := inV_strs c zs
    unfold inV at ih ⊢
    rw [List.map_cons, List.any_cons, ih]
    rw [Bool.eq_iff_iff]
    simp only [Bool.or_eq_true, decide_eq_true_eq, List.mem_cons]
    have e : eqV (.str ⟨z.toArray⟩) (.str ⟨c.toArray⟩) = true ↔ c = z := by
      simp [eqV]
      exact eq_comm
    rw [e]
theorem flat_strs (zs : List (List Nat)) : (zs.map fun z => V.str ⟨z.toArray⟩).all flatV = true := by
  simp [List.all_eq_true, flatV]
theorem o_inT (cx : Ctx g E X) : O2 X g E (compareOp .In) (inT false) := by
  intro pins s σ H x y v u Q I rx ry ⟨ro, S, dx, dy, hS, r1, r2, w⟩
  unfold inT at w
  split at w
  · rename_i c ys
    obtain ⟨p, vs, rfl, hp, r⟩ := r2.tup_inv
    split at w
    · rename_i zs e
      cases r1.str_inv.1
      have ev := strsOf_rel r e
      subst ev
      refine op_in_seq pins s σ H _ _ v u Q I rx ry ⟨p, _, rfl, .inr (SqT.of hp), rfl, flat_strs zs, ?_⟩
      rw [if_neg (by decide), inV_strs]
      rw [if_neg (by decide)] at w
      exact w ro H _ (.refl _) (.refl _) hS .bl_mk
    · exact w.elim
  · exact w.elim
theorem o_notInT (cx : Ctx g E X) : O2 X g E (compareOp .NotIn) (inT true) := by
  intro pins s σ H x y v u Q I rx ry ⟨ro, S, dx, dy, hS, r1, r2, w⟩
  unfold inT at w
  split at w
  · rename_i c ys
    obtain ⟨p, vs, rfl, hp, r⟩ := r2.tup_inv
    split at w
    · rename_i zs e
      cases r1.str_inv.1
      have ev := strsOf_rel r e
      subst ev
      refine op_notIn_seq pins s σ H _ _ v u Q I rx ry ⟨p, _, rfl, .inr (SqT.of hp), rfl, flat_strs zs, ?_⟩
      rw [if_pos rfl, inV_strs]
      rw [if_pos rfl] at w
      exact w ro H _ (.refl _) (.refl _) hS .bl_mk
    · exact w.elim
  · exact w.elim
end
end MP

namespace MP
open PySem L2
section
variable {X : Cx} {g : G} {E : XK}
theorem first_at {k : Int} : ∀ {is : List Int}, k ∈ is → ∃ j : Nat, is[j]? = some k ∧ (∀ m : Nat, m < j → is[m]? ≠ some k) ∧ is.eraseIdx j = is.erase k
  | i :: is, h => by
    by_cases e : i = k
    · subst e
      exact ⟨0, rfl, fun m hm => absurd hm (Nat.not_lt_zero _), by simp⟩
    · obtain ⟨j, h1, h2, h3⟩ := first_at (is := is) (k := k) (by
        rcases List.mem_cons.mp h with z | z
        · exact absurd z.symm e
        · exact z)
      refine ⟨j + 1, by simpa using h1, fun m hm => ?_, by rw [List.eraseIdx_cons_succ, h3, List.erase_cons_tail (by simpa using e)]⟩
      cases m with
      | zero => simp [e]
      | succ m => simpa using h2 m (by omega)
theorem rel_ints' {ro : List Addr} {H : Hp} : ∀ ns : List Int, RelDs ro H (ns.map D.int) (ns.map V.int)
  | [] => .nil
  | n :: ns => .cons .int_mk (rel_ints' ns)
theorem m_remove : MtR X "list.remove" (rM g E fRemove) := fun pins s σ H x xs v us Q I rx rv ⟨ro, S, ds, hS, rv2, w⟩ => by
  unfold fRemove at w
  split at w
  · rename_i n k
    obtain ⟨v1, r, e1, r1, rr⟩ := rv2.inv
    obtain ⟨v2, r', rfl, r2, rr2⟩ := rr.inv
    cases rr2.inv0
    cases e1
    obtain ⟨p1, h1, rfl⟩ := r1.ref_inv
    split at w
    · rename_i ys z
      obtain ⟨vs, q, t⟩ := hS.at h1 z
      split at w
      · rename_i is e
        split at w
        · rename_i hk
          have ev := intsOf_rel q e
          subst ev
          obtain ⟨j, a1, a2, a3⟩ := first_at hk
          refine mt_remove pins s σ H _ _ v us Q I rx rv ⟨p1, is, k, j, rfl, by rw [r2.int_inv], t, a1, a2, ?_⟩
          rw [a3]
          exact w ro _ _ (.refl _) (.put t lst_tup lst_frz) (hS.putL h1 z t (rel_ints' _)) .non_mk
        · exact w.elim
      · exact w.elim
    · exact w.elim
  · exact w.elim
theorem m_count (cx : Ctx g E X) : MtR X "list.count" (rM g E fCount) := mtr_imp mt_lcount fun x xs H Q ⟨ro, S, ds, hS, rv2, w⟩ => by
  unfold fCount at w
  split at w
  · rename_i n k
    obtain ⟨v1, r, e1, r1, rr⟩ := rv2.inv
    obtain ⟨v2, r', rfl, r2, rr2⟩ := rr.inv
    cases rr2.inv0
    cases e1
    obtain ⟨p1, h1, rfl⟩ := r1.ref_inv
    split at w
    · rename_i ys z
      obtain ⟨vs, q, t⟩ := hS.at h1 z
      split at w
      · rename_i is e
        have ev := intsOf_rel q e
        subst ev
        exact ⟨p1, is, k, rfl, by rw [r2.int_inv], SqL.of t, w ro H _ (.refl _) (.refl _) hS .int_mk⟩
      · exact w.elim
    · exact w.elim
  · exact w.elim
end
end MP

namespace MP
open PySem PySem.Spec PyProof.Rows L2 L2H HotX
section
variable {prog : Program} {w : World} {A : Around} {E : Value → Shared → Prop} {s : Shared}
/-- a list's iterator at its end -/
theorem list_end_hot {it l x1 : Addr} {i : Nat} {items : Array Value} {Q : Option Value → Shared → Prop} (hot : HotAt A x1 s.heap) (ne : x1 ≠ it) (hit : s.heap.IsListIter it l i) (hl : s.heap.IsList l items) (hx : items[i]? = none)
    (hQ : ∀ h', Heap.ExtBut it s.heap h' → Q none { s with heap := h' }) : wpAny (model prog w) A (pyNext (.ref it)) Q E s := by
  obtain ⟨oi, gi, ci, di⟩ := id hit
  obtain ⟨ol, gl, _, nl, dl⟩ := hl
  obtain ⟨hh, o1, vs1, g1, d1, c1⟩ := hot
  unfold pyNext
  refine wpAny_bind (wpAny_attempt (wpAny_callSpecial?_slot (name := Str.ofString "__next__") hit.typeIs slot_listiter_next (wpAny_call_entry slot_listiter_next hit.typeIs entry_listiter_next ?_ (args_listiter_next _))))
  show wpAny _ _ (field (.ref it) 0 >>= fun _ => _) _ _ s
  refine wpAny_bind (wpAny_field (x := .ref l) gi di rfl ?_)
  show wpAny _ _ (if (Value.ref l == Value.none) = true then _ else _) _ _ s
  rw [if_neg (by exact Bool.false_ne_true)]
  show wpAny _ _ (field (.ref it) 1 >>= fun _ => _) _ _ s
  refine wpAny_bind (wpAny_field (x := .int i 0) gi di rfl ?_)
  show wpAny _ _ (seqItems? (.ref l) >>= fun _ => _) _ _ s
  refine wpAny_bind (wpAny_seqItems gl dl ?_)
  simp only [Int.toNat_natCast, hx]
  refine wpAny_bind (wpAny_rule (wpAny_bind (wpAny_setField gi di (by simp) ?_)))
  show wpAny _ _ (newExc (.type "StopIteration") [] >>= fun _ => _) _ _ _
  refine wpAny_bind ?_
  simp only [newExc, newTuple]
  refine wpAny_bind (wpAny_newObj_type ?_ (by size_fits))
  refine wpAny_bind (m := firstArgMember _ _) (wpAny_of_eq (a := Value.none) (by rfl) ?_)
  refine wpAny_newObj_type ?_ (by size_fits)
  refine raiseNew_hot ⟨hh, o1, vs1, Heap.get?_push_of_some _ (Heap.get?_push_of_some _ ((Heap.get?_update_other _ _ ne.symm).trans g1)), d1, c1⟩ (Nat.ne_of_lt (Heap.lt_size (Heap.get?_push_of_some _ ((Heap.get?_update_other _ _ ne.symm).trans g1)))) (Heap.get?_push_size _ rfl) rfl
    (by first | (simp; done) | (simp; omega) | (simp only [Array.size_append]; simp; omega)) ?_
  refine wpAny_bind (wpAny_isInstance (T := "StopIteration") (b := true) ⟨_, Heap.get?_update_self _ (Heap.get?_push_size _ rfl) rfl, rfl⟩ isSubtype_stop ?_)
  refine wpAny_pure (hQ _ fun b o nb e => ?_)
  rw [Heap.get?_update_other _ _ (Nat.ne_of_gt (Heap.lt_size (Heap.get?_push_of_some _ ((Heap.get?_update_other _ _ nb.symm).trans e))))]
  exact Heap.get?_push_of_some _ (Heap.get?_push_of_some _ ((Heap.get?_update_other _ _ nb.symm).trans e))
/-- .. as a walk -/
theorem walks_hot {x1 : Addr} {o1 : Obj} {vs1 : Array Value} (hh : A.handled = some (.ref x1)) (d1 : o1.data = .fields vs1) (c1 : vs1[2]? = some .none) (I ax : Addr) (na : ax ≠ I) (nx : x1 ≠ I) (items : Array Value) :
    Walks prog w A I [I, ax, x1] [I] items.size (fun i v => items[i]? = some v) (fun i h => h.IsListIter I ax i ∧ h.IsList ax items ∧ h.get? x1 = some o1) where
  sub := fun b hb => by simp at hb; simp [hb]
  frame := fun i h h' st k => ⟨st.1.at fun o e => k I (by simp) o e, st.2.1.at fun o e => k ax (by simp) o e, k x1 (by simp) _ st.2.2⟩
  item := fun i s Q E hi st hQ => by
    refine wpAny_pyNext_list_item st.1 st.2.1 (x := items[i]) (by simp [hi]) fun h' it' sb => hQ _ h' s.toks (by simp [hi]) ⟨it', st.2.1.extBut sb.extBut na, sb.extBut _ _ nx st.2.2⟩ fun b o hb e => sb.extBut b o (fun z => hb (by simp [z])) e
  done := fun s Q E st hQ => list_end_hot ⟨hh, o1, vs1, st.2.2, d1, c1⟩ nx st.1 st.2.1 (by simp) fun h' eb => hQ h' s.toks fun b o hb e => eb b o (fun z => hb (by simp [z])) e
  self := fun i s Q E st hQ => wpAny_pyIter_listiter st.1 hQ
end
section
variable {X : Cx} {g : G} {E : XK}
/-- sum of a list of ints there -/
theorem c_sumH (hc : HotC X) : CallR X (.builtin "sum") (rN g E fSum) := by
  intro pins s σ H xs us Q I rv ⟨ro, S, ds, hS, rd, w⟩
  unfold fSum at w
  split at w
  · rename_i n
    obtain ⟨v, _, rfl, r1, r2⟩ := rd.inv
    cases r2.inv0
    obtain ⟨l, hn, rfl⟩ := r1.ref_inv
    split at w
    · rename_i ys e1
      split at w
      · rename_i is e2
        obtain ⟨vs, rr, q⟩ := hS.at hn e1
        have ev := intsOf_rel rr e2
        subst ev
        obtain ⟨its, ri, hl, _⟩ := I.list (SqL.of q)
        rw [Vals.ref1 rv]
        obtain ⟨zs, ez⟩ := ri.ints.allInts.items
        have hnum : numsOf (intItems zs).toList = is := by rw [← ez]; exact ri.ints.numsOf
        rw [nums_intItems] at hnum
        have hL := hl.isList
        rw [ez] at hL
        obtain ⟨p, ⟨hh, ws, d1, c1⟩, hp⟩ := hc
        have P1 := (I.pin p (List.mem_append_left _ hp)).1
        refine call_sum_walkG (iter_intList hL fun s2 e st hfp hlI => ?_)
        subst e
        have np : p.1 ≠ s.heap.objs.size := Nat.ne_of_lt (Heap.lt_size P1)
        refine ⟨_, _, _, _, _, _, numAt zs, rfl, walks_hot (A := X.A.in1) hh d1 c1 _ l hlI np (intItems zs), ⟨st.1, st.2, Heap.get?_push_of_some _ P1⟩, fun b hb => ?_, (fun _ _ => intItems_at), fun h' tk t' hk => ?_⟩
        · simp only [List.mem_cons, List.not_mem_nil, or_false] at hb
          rcases hb with hb | hb | hb
          · exact hfp b (by simp [hb])
          · exact hfp b (by simp [hb])
          · subst hb
            exact Heap.lt_size (Heap.get?_push_of_some _ P1)
        · have hk2 : ∀ b o, s.heap.get? b = some o → h'.get? b = some o := fun b o eb => hk b o (by simp; exact Nat.ne_of_lt (Heap.lt_size eb)) (Heap.get?_push_of_some _ eb)
          have e3 : preSum (numAt zs) (intItems zs).size = is.sum := by
            have : (intItems zs).size = zs.size := by simp [intItems]
            rw [this, preSum_eq, List.take_of_length_le (by simp), hnum]
          rw [e3]
          exact ⟨.int is.sum, H, I.kept hk2, ⟨_, rfl⟩, w ro H _ (.refl _) (.refl _) hS .int_mk⟩
      · exact w.elim
    · exact w.elim
  · exact w.elim
end
end MP

namespace MP
open PySem PySem.Spec PyProof.Rows L2 L2H HotX
theorem blsOf_rel {ro : List Addr} {H : Hp} : ∀ {ds : List D} {vs : List V} {bs : List Bool}, RelDs ro H ds vs → blsOf ds = some bs → vs = bs.map V.bl
  | [], vs, b, h, e => by cases e; rw [h.inv0] <;> rfl
  | d :: ds, vs, b, h, e => by
    obtain ⟨v, r, rfl, h2, h3⟩ := h.inv
    cases d with
    | bl i =>
      simp only [blsOf] at e
      cases q : blsOf ds with
      | none => rw [q] at e; cases e
      | some c =>
        rw [q] at e
        cases e
        rw [h2.bl_inv, blsOf_rel h3 q]
        rfl
    | _ => simp [blsOf] at e
theorem ints_rel {ro : List Addr} {H : Hp} : ∀ bs : List Bool, RelDs ro H (bs.map fun b => D.int (if b = true then 1 else 0)) (bs.map fun b => V.int (if b = true then 1 else 0))
  | [] => .nil
  | b :: bs => .cons .int_mk (ints_rel bs)
theorem obj_there {P : Program} {w : World} {H : Hp} {h : Heap} {a : Addr} {o : HO} (x : ObjOk P w H h a o) : ∃ ob, h.get? a = some ob := by
  cases o with
  | lst xs => obtain ⟨_, _, _, _, e⟩ := x; exact ⟨_, e⟩
  | tup xs => obtain ⟨_, _, _, ob, e, _⟩ := x; exact ⟨_, e⟩
  | dK kvs => obtain ⟨_, _, _, _, o, _, _, e, _⟩ := x; exact ⟨_, e⟩
  | dT kvs => obtain ⟨_, _, _, _, o, _, _, e, _⟩ := x; exact ⟨_, e⟩
  | set S n => obtain ⟨o, _, _, _, e, _⟩ := x; exact ⟨_, e⟩
  | ins C dx fs => obtain ⟨_, _, _, e, _⟩ := x; exact ⟨_, e⟩
  | own y => obtain ⟨_, e⟩ := x; exact ⟨_, e⟩
  | xd fs => obtain ⟨_, ⟨_, _, _, e, _⟩, _⟩ := x; exact ⟨_, e⟩
  | rng lo hi => obtain ⟨_, _, _, e⟩ := x; exact ⟨_, e⟩
  | frz ob u => obtain ⟨e, _⟩ := x; exact ⟨_, e⟩
  | tbl ps => exact ⟨_, (show h.get? a = some _ from x)⟩
  | met f y => exact ⟨_, (show h.get? a = some _ from x)⟩
  | ext φ => obtain ⟨_, ⟨_, e⟩, _⟩ := x; exact ⟨_, e⟩
/-- an object laid where nothing stood -/
theorem laid_at {X : Cx} {pins : List (Addr × Obj)} {σ : L2.St} {H : Hp} {s : Shared} {a : Addr} {o : HO} {h' : Heap} {t' : Nat} (I : Inv X pins σ H s) (k : ∀ b u, s.heap.get? b = some u → h'.get? b = some u) (no : s.heap.get? a = none)
    (new : ObjOk X.prog X.w (upd H a o) h' a o) : Inv X pins σ (upd H a o) { s with heap := h', toks := t' } := by
  have hn : H a = none := by
    cases q : H a with
    | none => rfl
    | some u =>
      obtain ⟨ob, e⟩ := obj_there (I.hok a u q)
      rw [no] at e
      cases e
  have nb : ∀ {b u}, s.heap.get? b = some u → b ≠ a := fun e z => by rw [z, no] at e; cases e
  refine I.un ⟨fun b u q _ _ _ => k b u q, fun b u q _ _ _ => ⟨u.slots, k b u q⟩, fun b u q n _ => by rw [upd_ne (nb q)]; exact n, fun b u q _ => ⟨u, k b u q⟩, fun b xs q => by rw [upd_ne (ne_of_none q hn)]; exact q,
    fun b u xs q => by rw [upd_ne (ne_of_none q hn)]; exact q, fun b ps q => ⟨#[], by rw [upd_ne (ne_of_none q hn), q]; simp⟩⟩ fun b u e => ?_
  by_cases hb : b = a
  · subst hb
    rw [upd_same] at e
    cases e
    exact new
  · rw [upd_ne hb] at e
    exact (I.hok b u e).stay (fun c v _ q => k c v q) (fun c q => by rw [upd_ne (ne_of_none q hn)]; exact q) fun c xs q => by rw [upd_ne (ne_of_none q hn)]; exact q
section
variable {X : Cx} {g : G} {E : XK}
theorem se_intsH {x : Str} {q1 q2 q3 px pos : Pos} {iter : Expr} {scope : Scope} {mi : EM} (cx : Ctx g E X) (hc : HotC X) (hi : SE X g E iter mi) (hm : g.mg "int" = none)
    (hfree : ∀ y ∈ scope.names, y.2 ≠ .free) (hcell : ∀ y ∈ scope.names, y.2 ≠ .cell) (hkind : scope.kind = .function) (hnames : ∀ y ∈ scope.names, y.2 = .local → scope.names.lookup y.1 = some .local)
    (hx : scope.names.lookup x = some .local) (hint : scope.names.lookup ("int" : Str) = some .globalImplicit) (hd : (x == ("__debug__" : Str)) = false) (hs : ∀ z, foldedSetIterable iter X.env z = pure z := by intro _; rfl) :
    SE X g E (.ListComp (.Call (.Name "int" q1) [.Name x q2] [] q3) [⟨.Name x px, iter, [], 0⟩] scope pos) (eUn opInts mi) := by
  refine ⟨⟨fun pins s σ H Q I h => ?_⟩⟩
  obtain ⟨ro, L, S, hL, hS, h⟩ := h
  refine wpAny_ListComp_walk (p := fun _ => true) (F := fun v y => ∃ (b : Bool) (t : Tok), v = .bool b ∧ y = .int (if b = true then 1 else 0) t) hfree hcell hkind hnames hx
    (thn (hi.run.run pins s σ H (fun v H1 => ∃ (a : Addr) (bs : List Bool), v = .ref a ∧ H1 a = some (.lst (bs.map V.bl)) ∧ ∀ D, H1 D = none → Q (.ref D) (upd H1 D (.lst (bs.map fun b => V.int (if b = true then 1 else 0))))) I
      ⟨ro, L, S, hL, hS, Post.bind h fun d S1 ro1 H1 v gr ex hS1 rv w => ?_⟩) fun v s1 hq => ?_) hs
  · unfold opInts at w
    split at w
    · rename_i n
      obtain ⟨a, ha, rfl⟩ := rv.ref_inv
      split at w
      · rename_i ys e1
        split at w
        · rename_i bs e2
          obtain ⟨vs, rr, q⟩ := hS1.at ha e1
          have ev := blsOf_rel rr e2
          subst ev
          exact ⟨a, bs, rfl, q, fun D hD => w.push hS1 hD ⟨_, ints_rel bs, upd_same⟩⟩
        · exact w.elim
      · exact w.elim
    · exact w.elim
  · obtain ⟨y, H1, I1, r1, a, bs, rfl, hq, fin⟩ := hq
    cases r1
    obtain ⟨its, ri, hl, hz⟩ := I1.list (SqL.of hq)
    obtain ⟨p, ⟨hh, ws, d1, c1⟩, hp⟩ := hc
    have P1 := (I1.pin p (List.mem_append_left _ hp)).1
    have np : p.1 ≠ s1.heap.objs.size := Nat.ne_of_lt (Heap.lt_size P1)
    have na : a ≠ s1.heap.objs.size := Nat.ne_of_lt (by obtain ⟨_, e, _⟩ := hl.isList; exact Heap.lt_size e)
    have old : ∀ {b : Addr} {o : Obj}, s1.heap.get? b = some o → b ∉ [s1.heap.objs.size] := fun e => by
      simp
      exact Nat.ne_of_lt (Heap.lt_size e)
    refine wpAny_pyIter_list hl.isList ⟨_, _, _, _, _, _, rfl, walks_hot hh d1 c1 s1.heap.objs.size a na np its.toArray, ?_, ⟨⟨_, Heap.get?_push_size _ rfl, rfl, rfl⟩, hl.isList.push _, Heap.get?_push_of_some _ P1⟩, fun b hb => ?_, ⟨?_, ?_⟩, ?_⟩
    · have := ri.length
      simpa [← this] using hz
    · show b < (s1.heap.push _).objs.size
      rw [Heap.size_push]
      simp only [List.mem_cons, List.not_mem_nil, or_false] at hb
      rcases hb with rfl | rfl | rfl
      · exact Nat.lt_succ_self _
      · obtain ⟨_, e, _⟩ := hl.isList
        exact Nat.lt_succ_of_lt (Heap.lt_size e)
      · exact Nat.lt_succ_of_lt (Heap.lt_size P1)
    · intro C i v s3 m3 E' _ _ _ _ _
      simp only [List.forIn_nil]
      exact wpAny_pure ⟨rfl, ⟨s3.heap, s3.toks, rfl, fun _ _ e => e⟩⟩
    · intro C i v s3 m3 E' hv _ hn hm3 hk _
      have hk1 : ∀ b o, s1.heap.get? b = some o → s3.heap.get? b = some o := fun b o e => hk b o (old e) (Heap.get?_push_of_some _ e)
      have hbk : ∀ b o, X.base.get? b = some o → s3.heap.get? b = some o := fun b o e => hk1 b o (I1.bk b o e)
      obtain ⟨mb, b1, b2⟩ := I1.mod.blt
      obtain ⟨b, rfl⟩ : ∃ b : Bool, v = .bool b := by
        have h2 : its[i]? = some v := by simpa using hv
        have : ∀ {its : List Value} {bs : List Bool} {i : Nat}, Vals (bs.map V.bl) its → its[i]? = some v → ∃ b : Bool, v = .bool b := by
          intro its bs
          induction bs generalizing its with
          | nil => intro i r e; cases r; simp at e
          | cons b bs ih =>
            intro i r e
            cases r with
            | cons r1 r2 =>
              cases i with
              | zero => simp at e; subst e; exact ⟨b, r1⟩
              | succ i => exact ih r2 (by simpa using e)
        exact this ri h2
      refine wpAny_Call_Name_kw (Calls.Name_function_global (env := compEnv scope C X.env) hkind hint (Calls.loadGlobal_builtin (by show s3.heap.Ns X.env.globals _; rw [I1.ok.glob]; exact I1.mod.glob.keeps hbk) (by rw [cx.mg]; exact hm) (by show s3.heap.Ns X.env.builtins _; rw [I1.ok.blt]; exact b1.keeps hbk) ((b2 "int" (by decide)).trans (show bootBuiltins "int" = some (.type "int") by rfl)) ?_) (by decide))
      refine PyProof.Rows.callWith_type1 ?_ (by rfl) (by rfl)
      show wpAny _ _ (spliced ((false, eval (.Name x q2) (compEnv scope C X.env)) :: backTo q3 (starEach [] (compEnv scope C X.env)))) _ _ s3
      refine Calls.spliced_cons (wpAny_Name (wpAny_loadName_local hkind hx hn hm3 ?_) hd)
      exact Calls.spliced_nil (call_int_bool ⟨⟨b, _, rfl, rfl⟩, s3.heap, s3.toks + 1, rfl, fun _ _ e => e⟩)
    · intro D h' tk ys vs hD hl' hpl hlen hP hF hk
      have hk1 : ∀ b o, s1.heap.get? b = some o → h'.get? b = some o := fun b o e => hk b o (old e) (Heap.get?_push_of_some _ e)
      have noD : s1.heap.get? D = none := by
        cases e : s1.heap.get? D with
        | none => rfl
        | some o =>
          have e2 := Heap.get?_push_of_some { cls := .type "list_iterator", data := .fields #[.ref a, .int 0 0] } e
          exact absurd (hD.symm.trans e2) (by simp)
      have ev : vs = its := by
        refine List.ext_getElem? fun j => ?_
        cases e : vs[j]? with
        | some v => have := hP j v e; simpa using this.symm
        | none =>
          have h1 : vs.length ≤ j := List.getElem?_eq_none_iff.mp e
          have h2 : its.length ≤ j := by simpa [hlen] using h1
          rw [List.getElem?_eq_none h2]
      subst ev
      rw [List.filter_eq_self.mpr (fun _ _ => rfl)] at hF
      have vals : ∀ {bs : List Bool} {vs ws : List Value}, Vals (bs.map V.bl) vs → PySem.Paired (fun v y => ∃ (b : Bool) (t : Tok), v = Value.bool b ∧ y = Value.int (if b = true then 1 else 0) t) vs ws → Vals (bs.map fun b => V.int (if b = true then 1 else 0)) ws := by
        intro bs
        induction bs with
        | nil => intro vs ws r p; cases r; cases p; exact .nil
        | cons b bs ih =>
          intro vs ws r p
          cases r with
          | cons r1 r2 =>
            cases p with
            | cons p1 p2 =>
              obtain ⟨b', t, e1, e2⟩ := p1
              have r1 : _ = Value.bool b := r1
              rw [r1] at e1
              cases e1
              exact .cons ⟨t, e2⟩ (ih r2 p2)
      have vv := vals ri hF
      obtain ⟨n0, e0⟩ := hpl
      have hz2 : (bs.map fun b => V.int (if b = true then 1 else 0)).length ≤ sizeLine := by simpa using hz
      exact ⟨.ref D, _, laid_at (s := s1) (t' := tk) (o := .lst (bs.map fun b => V.int (if b = true then 1 else 0))) I1 hk1 noD ⟨hz2, ys.toList, n0, vv, by simpa using e0⟩, rfl, fin D (by
        cases q : H1 D with
        | none => rfl
        | some u =>
          obtain ⟨ob, e⟩ := obj_there (I1.hok D u q)
          rw [noD] at e
          cases e)⟩
end
end MP

namespace MP
open PySem PySem.Spec PyProof.Rows L2 L2H HotX
section
variable {X : Cx} {g : G} {E : XK} {e : Expr} {me : EM} {pos p1 p2 : Pos}
theorem m_index (cx : Ctx g E X) : MtR X "list.index" (rM g E fIndex) := mtr_imp (mt_indexD (by have := cx.units; omega)) fun x xs H Q ⟨ro, S, ds, hS, rv, w⟩ => by
  unfold fIndex at w
  split at w
  · rename_i n y
    obtain ⟨v, _, e1, r1, r2⟩ := rv.inv
    obtain ⟨u, _, e2, r3, r4⟩ := r2.inv
    cases r4.inv0
    subst e2
    cases e1
    obtain ⟨a, ha, rfl⟩ := r1.ref_inv
    split at w
    · rename_i ys e1
      obtain ⟨vs, q, t⟩ := hS.at ha e1
      split at w
      · rename_i p ps h1 h2
        split at w
        · rename_i j hj
          obtain ⟨a1, a2, a3⟩ := reify_dp hS 60 y u p r3 h1
          obtain ⟨b1, b2, b3⟩ := all_dp hS ys vs ps 59 q h2
          obtain ⟨hlt, hz, hno⟩ := List.findIdx?_eq_some_iff_getElem.mp hj
          rw [← cx.K] at a1 b1
          refine ⟨a, u, p, ps, j, ps[j], rfl, rfl, .lst (SqL.of t) b1, a1, shaped_of (p := .list ps) b2 (by simp only [PyData.depth]; omega), shaped_of a2 a3, List.getElem?_eq_getElem hlt, hz, fun m z' hm hz' => ?_, w ro H _ (.refl _) (.refl _) hS .int_mk⟩
          obtain ⟨hm2, rfl⟩ := List.getElem?_eq_some_iff.mp hz'
          simpa using hno m hm
        · exact w.elim
      · exact w.elim
    · exact w.elim
  · exact w.elim
/-- isinstance asked of the handled exception -/
theorem call_isEH {a C : Addr} {oe : Obj} (hp : (a, oe) ∈ X.pn) (ec : ExcC X.K C) (hz : Zc (.ref C) none oe) (hf : ∃ vs, oe.data = .fields vs) : CallR X (.builtin "isinstance") (rIsE X.K C a) := by
  rintro pins s σ H xs us Q I r ⟨c, cv, b, rfl, hcv, e, q⟩
  obtain ⟨u1, us, ru, rus, rfl⟩ : ∃ u1 us', RelV (.ref a) u1 ∧ Vals [c] us' ∧ us = u1 :: us' := by cases r; exact ⟨_, _, by assumption, by assumption, rfl⟩
  obtain ⟨u2, us, ru2, rus2, rfl⟩ : ∃ u2 us', RelV c u2 ∧ Vals [] us' ∧ us = u2 :: us' := by cases rus; exact ⟨_, _, by assumption, by assumption, rfl⟩
  cases rus2
  cases ru
  have e0 := hcv _ ru2
  subst e0
  have got := (I.pin (a, oe) (List.mem_append_left _ hp)).1
  obtain ⟨vs, hv⟩ := hf
  have at_ : PySem.W.InstAt s.heap a oe C none := by
    obtain ⟨o1, o2, o3, o4⟩ := oe
    obtain ⟨z1, z2⟩ := hz
    dsimp only at z1 z2 hv
    subst z1; subst z2; subst hv
    exact ⟨got, rfl, rfl, trivial⟩
  exact PySem.W.kia_one (PySem.W.handS_kitx_exc ec.hg ec.hk ec.hs ec.hd ec.ha ec.hn ec.ht ec.hm) I.kIn at_ e (fun z => nomatch z) fun tk => ⟨.bl b, H, I.kept (t' := tk) fun _ _ z => z, rfl, q⟩
/-- isinstance(e, C) there: cv the value of the name C -/
theorem se_isE {a C : Addr} {oe : Obj} {x : Str} {c : V} {b : Bool} {cv : Value} (cx : Ctx g E X) (hp : (a, oe) ∈ X.pn) (ec : ExcC g.K C) (hz : Zc (.ref C) none oe) (hf : ∃ vs, oe.data = .fields vs) (hm : g.mg "isinstance" = none)
    (he : SE X g E e me) (hc : PE X (.Name x p2) (tC c)) (hcv : ∀ u, RelV c u → u = cv) (hk : PySem.W.kitOne g.K (.ref C) cv = some b) (hg : Gl X "isinstance" := by rfl)
    (h1 : starEach [e, .Name x p2] X.env = (false, eval e X.env) :: starEach [.Name x p2] X.env := by rfl) (h2 : starEach [.Name x p2] X.env = (false, eval (.Name x p2) X.env) :: starEach [] X.env := by rfl) (hpl : (backTo pos (starEach [.Name x p2] X.env)).any (·.1) = false := by rfl) :
    SE X g E (.Call (.Name "isinstance" p1) [e, .Name x p2] [] pos) (eUn (opIsE a b) me) := by
  refine ⟨pe_imp (pe_callB (call_isEH hp (by rw [cx.K]; exact ec) hz hf) hg (by rw [cx.mg]; exact hm) PyProof.Rows.boot_isinstance (pa_cons he.run (pa_cons hc pa_nil h2) h1) (by decide) (by decide) h1 hpl) fun s H Q ⟨ro, L, S, hL, hS, h⟩ => ?_⟩
  refine ⟨ro, L, S, hL, hS, Post.bind h fun d S1 ro1 H1 v gr ex hS1 rv w => ?_⟩
  unfold opIsE at w
  split at w
  · rename_i a' p
    split at w
    · rename_i ea
      subst ea
      exact ⟨c, cv, b, by rw [rv.exn_inv], hcv, by rw [cx.K]; exact hk, w ro1 H1 _ (.refl _) (.refl _) hS1 .bl_mk⟩
    · exact w.elim
  · exact w.elim
/-- what a def computes while p is handled -/
def HFok (g : G) (k : Nat) (f : Addr) (fd : FuncData) (ps : List Str) (ks : List Nat) (F : Nat → Nat → Fn) : Prop := (∀ a c ds S, F a c ds S ≠ .err → ds.length = ps.length) ∧
  ∀ (A : Around) (outer : List Env) (s : Shared) (H : Hp) (args : Args) (us : List Value) (vs : List V) (Q : VK) (p : Addr × Obj) (c : Nat), RoomH k A → Hot1 A p → PinOk outer H s p → Zc (.ref (g.ecls c)) none p.2 → c ∈ ks → Env0 g.P g.w g.K g.mg g.base A outer s H →
    BindsTo s fd args (ps.zip us) → Vals vs us → vs.length = ps.length → spM g (F p.1 c) vs H Q E0 → codeAny (model g.P g.w) A (.call (.ref f) args) (CR (L2N.CX g.P g.w) outer g.P g.w H s Q E0) s
theorem hf_body {k : Nat} {y qual : Str} {params : Arguments} {bd : List Stmt} {sc : Scope} {dvs : List V} {kws : List (Str × V)} {f : Addr} {fd : FuncData} {N ps : List Str} {ks : List Nat} {body : Nat → Nat → SM} (F : FunD g.K y qual params bd sc dvs kws f fd) (S : FnScope N ps sc)
    (hb : ∀ (X : Cx) (p : Addr × Obj) (c : Nat), (∃ (cdv : Value) (A : Around) (outer : List Env) (s : Shared) (H : Hp), Hot1 A p ∧ RoomH k (A.deeper (PyProof.Rows.envOfC qual sc s.heap.objs.size f cdv)) ∧ X = cxH (L2N.CX g.P g.w) g.P g.w g.K g.mg g.base N qual sc f cdv A outer s H E0 p) →
      Zc (.ref (g.ecls c)) none p.2 → (∃ vs, p.2.data = .fields vs) → c ∈ ks → SSs X g E0 bd (body p.1 c)) : HFok g (k + 1) f fd ps ks (fun a c => MP.fn ps.length N.length (body a c)) := by
  obtain ⟨oc, od, dV, kV, doc, pm, an, cdv, ct, osl, rfl, lk, hcd, _, _⟩ := F.ex
  refine ⟨fun a c ds S h => Classical.byContradiction fun n => h (show MP.fn ps.length N.length (body a c) ds S = .err by unfold MP.fn; rw [if_neg n]), ?_⟩
  intro A outer s H args us vs Q p c hr hot pin hz hc e0 bnd rv hl ⟨ro, Sx, ds, hS, rd, w⟩
  have inK : g.K.In s.heap := e0.mod.kin.keeps fun b o q => (e0.bs b o q).1
  have nolim : s.heap.NoLimit := e0.mod.nolimit.keeps fun b o q => (e0.bs b o q).1
  refine codeAny_call_function hr.depth (inK _ _ lk) rfl S.co S.gen rfl (PySem.W.codeRec_of inK hcd) (bnd _ _ _ _ ?_)
  refine wpAny_newFunctionEnv_cells S.kind (fun y hy => ?_) fun env he s1 x => ?_
  · obtain ⟨n, v⟩ := y
    exact (S.par n (List.of_mem_zip hy).1).imp id fun q => ⟨q, PySem.W.cellsFrom_some _ _ _ (.inl q)⟩
  subst he
  refine ⟨nolim.keeps x.toInCall.keep, codeAny_func ?_⟩
  have I0 := inv_startH (CX := L2N.CX g.P g.w) (E := E0) S pin e0 hl rv x
  have der := hb _ p c ⟨cdv, A, outer, s, H, hot, hr.deeper _, rfl⟩ hz (by obtain ⟨_, vs, d, _⟩ := hot; exact ⟨vs, d⟩) hc
  have pre : rdS g E0 (body p.1 c) { nx := fun _ H' => Q .non H', rt := Q } (L2.start N vs) H := by
    have w : Post RelD g E0 ro H Q (MP.fn ps.length N.length (body p.1 c) ds Sx) := w
    unfold MP.fn at w
    have el : ds.length = ps.length := by rw [rd.length, hl]
    rw [if_pos el] at w
    refine ⟨ro, _, Sx, RelL.start N rd, hS, ?_⟩
    rw [← el] at w
    cases z : body p.1 c (ds.map some ++ List.replicate (N.length - ds.length) none) Sx with
    | nx L1 S1 => rw [z] at w; exact fun ro' H' s' gr ex R r => w ro' H' _ gr ex R .non_mk
    | rt d S1 => rw [z] at w; exact w
    | exc x L1 S1 => rw [z] at w; exact w
    | bk L1 S1 => rw [z] at w; exact w.elim
    | ct L1 S1 => rw [z] at w; exact w.elim
    | err => rw [z] at w; exact w.elim
  refine wpAny_mono (der.run.run [] s1 _ H _ I0 pre) (fun fl s' hs => ?_) fun _ _ h => h
  cases fl with
  | ret u =>
    obtain ⟨v, σ', H', J, r, q⟩ := hs
    exact ⟨v, H', J.os, J.bare, J.base, J.hok, r, q⟩
  | next =>
    obtain ⟨σ', H', J, q⟩ := hs
    exact ⟨.non, H', J.os, J.bare, J.base, J.hok, rfl, q⟩
  | brk => exact hs.choose_spec.choose_spec.2.elim
  | cont => exact hs.choose_spec.choose_spec.2.elim
/-- the name x is such a def -/
def HDf (g : G) (k : Nat) (x : Str) (ks : List Nat) (F : Nat → Nat → Fn) : Prop := ∃ (f : Addr) (fd : FuncData) (ps : List Str), HFok g k f fd ps ks F ∧ g.mg x = some (.ref f) ∧ PySem.W.keepIn g.K (.ref f) = true ∧ Binds g.K fd ps []
theorem se_callH {k : Nat} {x : Str} {ks : List Nat} {F : Nat → Nat → Fn} {p : Addr × Obj} {c : Nat} {es : List Expr} {ms : AM} {q : Pos} (cx : Ctx g E0 X) (d : HDf g k x ks F) (hot : Hot1 X.A p) (hp : p ∈ X.pn) (hz : Zc (.ref (g.ecls c)) none p.2) (hc : c ∈ ks) (hr : RoomH k X.A) (hg : Gl X x)
    (ha : SA X g E0 (e :: es) ms) (hdb : (x == ("__debug__" : Str)) = false := by decide) (he : starEach (e :: es) X.env = (false, eval e X.env) :: starEach es X.env := by rfl) (hpl : (backTo pos (starEach es X.env)).any (·.1) = false := by rfl) :
    SE X g E0 (.Call (.Name x q) (e :: es) [] pos) (eCall (F p.1 c) ms) := by
  obtain ⟨f, fd, ps, ⟨len, run⟩, hm, hk, hb⟩ := d
  refine ⟨⟨fun pins s σ H Q I ⟨ro, L, S, hL, hS, h⟩ => ?_⟩⟩
  refine wpAny_Call_Name_kw (ld_glob I hg (by rw [cx.mg]; exact hm) ?_ hdb)
  refine PySem.W.callWith_K (h₀ := X.base) I.ok.mod.kin (by rw [cx.K]; exact hk) (thn (ha.run.run pos pins s σ H (fun vs H1 => vs.length = ps.length ∧ spM g (F p.1 c) vs H1 Q E0) I ⟨ro, L, S, hL, hS, Post.bind h fun ds S1 ro1 H1 vs gr ex hS1 rv w => ?_⟩) fun us s1 ⟨vs, H1, I1, r, hl, sp⟩ => ⟨I1.kIn, ?_⟩) he hpl
  · exact ⟨by rw [← rv.length]; exact len _ _ _ S1 (fun z => by rw [z] at w; exact w.elim), ro1, S1, ds, hS1, rv, w⟩
  · have P1 := I1.pin p (List.mem_append_left _ hp)
    have pin : PinOk X.stack H1 s1 p := ⟨P1.1, P1.2.1, fun hm => (List.mem_cons.mp (I1.stkSub p.1 hm)).elim P1.2.2.1 P1.2.2.2.1, P1.2.2.2.2⟩
    have bnd := hb s1 us (by rw [← cx.K]; exact I1.kIn) (by rw [List.append_nil, ← r.length]; exact hl)
    rw [List.append_nil] at bnd
    have e0 := I1.env0
    have code := run X.A X.stack s1 H1 ⟨us, []⟩ us vs Q p c hr hot pin hz hc (by rw [← cx.P, ← cx.w, ← cx.K, ← cx.mg, ← cx.base]; exact e0) bnd r hl sp
    rw [← cx.P, ← cx.w] at code
    refine wpAny_call (codeAny_mono code fun r s2 hq => ?_)
    cases r with
    | error e =>
      obtain ⟨_, _, _, _, _, _, _, _, _, _, _, _, z⟩ := hq
      exact z.elim
    | ok fl =>
      cases fl with
      | ret u => exact I1.after hq
      | next => exact False.elim hq
      | brk => exact False.elim hq
      | cont => exact False.elim hq
end
/-- the context of such a def's body -/
theorem ctx_hot {g : G} {k : Nat} {cdv : Value} {A : Around} {outer : List Env} {s : Shared} {H : Hp} {N : List Str} {qual : Str} {sc : Scope} {f : Addr} {p : Addr × Obj} (hr : RoomH k (A.deeper (PyProof.Rows.envOfC qual sc s.heap.objs.size f cdv))) :
    Ctx g E0 (cxH (L2N.CX g.P g.w) g.P g.w g.K g.mg g.base N qual sc f cdv A outer s H E0 p) := ⟨rfl, rfl, rfl, rfl, rfl, fun _ _ x => by
    obtain ⟨_, _, _, _, _, _, _, _, _, _, _, _, _, _, _, _, z⟩ := x
    exact z.elim, by have := hr.un; show (A.deeper _).units + 66 < cLine; omega⟩
theorem hot_in {g : G} {cdv : Value} {A : Around} {outer : List Env} {s : Shared} {H : Hp} {N : List Str} {qual : Str} {sc : Scope} {f : Addr} {p : Addr × Obj} (h : Hot1 A p) : HotC (cxH (L2N.CX g.P g.w) g.P g.w g.K g.mg g.base N qual sc f cdv A outer s H E0 p) := ⟨p, h, List.mem_singleton_self _⟩
end MP

namespace MP
open PySem PySem.Spec PyProof.Rows L2 L2H HotX
section
variable {g : G} {ro : List Addr} {S : Sto} {H H' : Hp}
theorem Ext.ofN (e : LamX.ExtN H H') : Ext H H' := ⟨fun a vs h => e a _ h fun ps z => (by cases z), fun a o u h => e a _ h fun ps z => (by cases z)⟩
theorem RelS.extN (R : RelS g ro S H) (e : LamX.ExtN H H') (t : LamX.Tabs g.T H') : RelS g ro S H' := by
  have ex := Ext.ofN e
  refine ⟨R.len, fun n o h => ?_, R.inj, t⟩
  obtain ⟨a, h1, h2⟩ := R.ob n o h
  refine ⟨a, h1, ?_⟩
  cases o with
  | lst xs => obtain ⟨vs, r, q⟩ := h2; exact ⟨vs, RelDs.mono (.refl _) ex.tup _ _ r, e _ _ q fun ps z => (by cases z)⟩
  | frz xs => obtain ⟨vs, r, q⟩ := h2; exact ⟨vs, RelDs.mono (.refl _) ex.tup _ _ r, q.keep fun o u q => ex.frz _ _ _ q⟩
  | dic tt lk kvs =>
    have at_ : ∀ u : HO, (∀ ps, u ≠ .tbl ps) → AtL H a lk u → AtL H' a lk u := fun u n q => by
      cases lk with
      | true => obtain ⟨o, q⟩ := (show ∃ o, H a = some (.frz o u) from q); exact (show ∃ o, H' a = some (.frz o u) from ⟨o, ex.frz _ _ _ q⟩)
      | false => exact (show H' a = some u from e _ _ q n)
    cases tt with
    | true => obtain ⟨ws, r, q⟩ := (show ∃ ws, RelTV ro H kvs ws ∧ AtL H a lk (.dT ws) from h2); exact (show ∃ ws, RelTV ro H' kvs ws ∧ AtL H' a lk (.dT ws) from ⟨ws, RelTV.mono (.refl _) ex.tup r, at_ _ (fun ps z => by cases z) q⟩)
    | false => obtain ⟨ws, r, q⟩ := (show ∃ ws, RelKV ro H kvs ws ∧ AtL H a lk (.dK ws) from h2); exact (show ∃ ws, RelKV ro H' kvs ws ∧ AtL H' a lk (.dK ws) from ⟨ws, RelKV.mono (.refl _) ex.tup r, at_ _ (fun ps z => by cases z) q⟩)
  | ins c fs => obtain ⟨dx, ws, r, q⟩ := h2; exact ⟨dx, ws, RelF.mono (.refl _) ex.tup r, e _ _ q fun ps z => (by cases z)⟩
end
/-- the context of a lambda's body -/
abbrev lamN (X : Cx) (A : Around) (outer : List Env) (s : Shared) (H : Hp) (E : XK) (scope : Scope) (f c' : Addr) : Cx :=
  (LamX.lamCx X A outer s H E scope f c').wish fun e s' => wpAny (model X.prog X.w) (A.deeper (LamX.lamEnv X scope s.heap.objs.size f c')) (leaving (LamX.lamEnv X scope s.heap.objs.size f c') e) (fun _ s'' => L2N.CX X.prog X.w outer H s E e s'') (fun e' s'' => L2N.CX X.prog X.w outer H s E e' s'') s'
section
variable {X : Cx} {pins : List (Addr × Obj)} {σ : L2.St} {H : Hp} {s : Shared} {g : G} {E : XK}
theorem ctx_lam {A : Around} {outer : List Env} {s' : Shared} {H' : Hp} {E' : XK} {scope : Scope} {f c' : Addr} {k : Nat} (cx : Ctx g E X) (hr : Room k (A.deeper (LamX.lamEnv X scope s'.heap.objs.size f c'))) : Ctx g E' (lamN X A outer s' H' E' scope f c') :=
  ⟨cx.P, cx.w, cx.K, cx.mg, cx.base, L2N.takes_of rfl rfl rfl rfl, by have := hr.un; show (A.deeper _).units + 66 < cLine; omega⟩
/-- a() in the def that got the lambda -/
theorem pe_actN {Ng : List Str} {qg : Str} {sg : Scope} {ga f c' : Addr} {cdg pm ctv : Value} {params : Arguments} {body : Expr} {scope : Scope} {k i : Nat} {a : Str} {pn : List (Addr × Obj)} {xe : Value → Shared → Prop} {W : WX} {Eg : XK} {tb : XK → TE} {p1 p2 : Pos}
    (I : Inv X pins σ H s) (L : LamX.LamS X.env.scope scope) (obf : s.heap.get? f = some (PySem.W.kla_obj "<lambda>" (X.env.qual ++ "<lambda>") params body scope (cloFrom X.env.cells scope.names []) pm c' ctv)) (hfn : H f = none) (hfr : f ∉ frs X.stack)
    (hbind : bindArgs (PySem.W.kla_fn "<lambda>" (X.env.qual ++ "<lambda>") params body scope (cloFrom X.env.cells scope.names []) pm (.ref c') ctv) ⟨[], []⟩ = pure [])
    (tk : L2N.Takes ((cxOf (L2N.CX X.prog X.w) X.prog X.w X.K X.mg X.base Ng qg sg ga cdg X.A X.stack s H Eg).tr pn xe) W) (hr : Room (k + 1) (X.A.deeper (envOfC qg sg s.heap.objs.size ga cdg)))
    (hbody : ∀ (A : Around) (outer : List Env) (s : Shared) (H : Hp) (E : XK), Room k (A.deeper (LamX.lamEnv X scope s.heap.objs.size f c')) → PE (lamN X A outer s H E scope f c') body (tb E))
    (hN : Ng[i]? = some a) (hv : Vis sg a) (hd : (a == ("__debug__" : Str)) = false := by decide) (hcd : (a == ("__classdict__" : Str)) = false := by decide) :
    PE ((cxOf (L2N.CX X.prog X.w) X.prog X.w X.K X.mg X.base Ng qg sg ga cdg X.A X.stack s H Eg).tr pn xe) (.Call (.Name a p1) [] [] p2)
      (fun σZ HZ Q => σZ[i]? = some (some (.ref f)) ∧ HZ c' = some (LamX.CodeO c' (X.env.qual ++ "<lambda>")) ∧ tb (fun cls d H' => W cls d σZ H') σ HZ Q) := by
  refine ⟨fun pz sz σz hz Q Iz ⟨slot, hc, ht⟩ => ?_⟩
  have look := (pe_var (pos := p1) (i := i) hN hv hd hcd).run pz sz σz hz (fun v H1 => v = .ref f ∧ H1 = hz) Iz ⟨.ref f, slot, rfl, rfl⟩
  refine wpAny_Call_Name_kw (thn look fun u s1 ⟨v, H1, I1, r1, ev, eH⟩ => ?_)
  subst ev; subst eH
  obtain rfl : u = Value.ref f := r1
  have un : Un (frs X.stack) [] H H1 s.heap s1.heap := I1.base
  have ob1 := I1.base.keep f _ obf hfn hfr (fun z => nomatch (show f ∈ ([] : List Addr) from z))
  refine PySem.W.callWith_F0 ⟨_, _, _, _, ob1⟩ ?_
  obtain ⟨⟨oc, vs, t, hoc, hdc, hvc⟩, _, _⟩ := I1.hok c' _ hc
  have inner : codeAny (model X.prog X.w) (X.A.deeper (envOfC qg sg s.heap.objs.size ga cdg)) (.call (.ref f) ⟨[], []⟩) (CR (L2N.CX X.prog X.w) (envOfC qg sg s.heap.objs.size ga cdg :: X.stack) X.prog X.w H1 s1 Q (fun cls d H' => W cls d σz H')) s1 := by
    refine PySem.W.kla_callFunE hr.depth ob1 rfl L.co L.gen rfl ⟨c', oc, vs, t, rfl, hoc, hdc, hvc⟩ ?_
    rw [hbind]
    refine wpAny_pure (wpAny_newFunctionEnv (fun y hy => (L.own y hy).2) (fun y hy => absurd hy (by simp)) (fun h2 ns sb => ⟨I1.nolimit.fresh _ sb, ?_⟩) L.kind)
    show codeAny _ _ (.expr body (LamX.lamEnv X scope s1.heap.objs.size f c')) _ _
    have kp : ∀ b o, s1.heap.get? b = some o → h2.get? b = some o := fun b o e => sb.extBut b o (Nat.ne_of_lt (Heap.lt_size e)) (Heap.get?_push_of_some _ e)
    have J := (LamX.lam_start2 (f := f) (c' := c') (A := X.A.deeper (envOfC qg sg s.heap.objs.size ga cdg)) (outer := envOfC qg sg s.heap.objs.size ga cdg :: X.stack) (E := fun cls d H' => W cls d σz H') (tk := s1.toks + ([] : List (Str × Value)).length) I L I1.env0 hr.hd un ns kp)
    have run := (hbody (X.A.deeper (envOfC qg sg s.heap.objs.size ga cdg)) (envOfC qg sg s.heap.objs.size ga cdg :: X.stack) s1 H1 (fun cls d H' => W cls d σz H') (hr.deeper _)).run [] _ _ H1 Q (J.wish _) ht
    refine PySem.W.kla_codeExpr (wpAny_mono run (fun v s' hq => ?_) fun e s' hq => hq)
    obtain ⟨w', H', J', rv, q⟩ := hq
    exact ⟨w', H', J'.os, J'.bare, J'.base, J'.hok, rv, q⟩
  refine wpAny_call (codeAny_mono inner fun r s' hq => ?_)
  cases r with
  | error e => exact L2N.passAt tk σz pz H1 s1 e s' I1 hq
  | ok fl =>
    cases fl with
    | ret u => exact I1.after hq
    | next => exact hq.elim
    | brk => exact hq.elim
    | cont => exact hq.elim
end
end MP

namespace MP
open PySem PySem.Spec PyProof.Rows L2 L2H HotX
/-- what is wanted of an exception that the told def takes -/
def toldE (g : G) (ks : List Nat) (WT : Nat → D) (WO : Nat → List Ob) (Q : VK) : XK := fun cls d H =>
  ∃ (c : Nat) (ro : List Addr) (S : Sto), cls = .ref (g.ecls c) ∧ d = none ∧ c ∈ ks ∧ RelS g ro S H ∧ Post RelD g E0 ro H Q (.ok (WT c) (S ++ WO c))
/-- the told def, run with a lambda that was made at s -/
def ToldFn (g : G) (k : Nat) (x : Str) (ks : List Nat) (WT : Nat → D) (WO : Nat → List Ob) : Prop :=
  ∃ (ga : Addr) (fd : FuncData) (a : Str), g.mg x = some (.ref ga) ∧ PySem.W.keepIn g.K (.ref ga) = true ∧ Binds g.K fd [a] [] ∧
    ∀ (X : Cx) (pins : List (Addr × Obj)) (σ : L2.St) (H : Hp) (s : Shared) (f c' : Addr) (pm ctv : Value) (params : Arguments) (body : Expr) (scope : Scope) (Q : VK) (tb : XK → TE),
      X.prog = g.P → X.w = g.w → X.K = g.K → X.mg = g.mg → X.base = g.base → Room (k + 2) X.A → Inv X pins σ H s → LamX.LamS X.env.scope scope →
      s.heap.get? f = some (PySem.W.kla_obj "<lambda>" (X.env.qual ++ "<lambda>") params body scope (cloFrom X.env.cells scope.names []) pm c' ctv) → H f = none → f ∉ frs X.stack → H c' = some (LamX.CodeO c' (X.env.qual ++ "<lambda>")) →
      bindArgs (PySem.W.kla_fn "<lambda>" (X.env.qual ++ "<lambda>") params body scope (cloFrom X.env.cells scope.names []) pm (.ref c') ctv) ⟨[], []⟩ = pure [] →
      (∀ (A : Around) (outer : List Env) (s : Shared) (H : Hp) (E : XK), Room k (A.deeper (LamX.lamEnv X scope s.heap.objs.size f c')) → PE (lamN X A outer s H E scope f c') body (tb E)) →
      (∀ (E1 E2 : XK) (σ : L2.St) (H : Hp) (Q : VK), (∀ c d H, E1 c d H → E2 c d H) → tb E1 σ H Q → tb E2 σ H Q) → tb (toldE g ks WT WO Q) σ H Q → codeAny (model X.prog X.w) X.A (.call (.ref ga) ⟨[.ref f], []⟩) (CR (L2N.CX X.prog X.w) X.stack X.prog X.w H s Q E0) s
theorem takesN {X : Cx} : L2N.Takes X (fun _ _ _ _ => False) := fun _ _ x => by
  obtain ⟨_, _, _, _, _, _, _, _, _, _, _, _, _, _, _, _, z⟩ := x
  exact z.elim
section
variable {g : G}
theorem told_fn {k : Nat} {x a en xn : Str} {params : Arguments} {sc : Scope} {ga cs : Addr} {fd : FuncData} {ks : List Nat} {WT : Nat → D} {WO : Nat → List Ob} {b0 : Stmt} {suite : List Stmt} {p1 p2 p3 p4 p7 p8 : Pos} {hc : Nat → Nat → SM}
    (F : FunD g.K x x params [.Try [.Return (some (.Call (.Name a p1) [] [] p2)) p3] [.ExceptHandler (some (.Name xn p4)) (some en) (b0 :: suite) p7] [] [] p8] sc [] [] ga fd) (hm : g.mg x = some (.ref ga)) (hb : Binds g.K fd [a] []) (S : FnScope [a, en] [a] sc)
    (hen : sc.names.lookup en = some .local) (hxn : sc.names.lookup xn = some .globalImplicit) (hxm : g.mg xn = some (.ref cs)) (hxd : (xn == ("__debug__" : Str)) = false) (hva : Vis sc a) (had : (a == ("__debug__" : Str)) = false) (hac : (a == ("__classdict__" : Str)) = false)
    (hex : ∀ c ∈ ks, PySem.W.exmOne g.K (.ref (g.ecls c)) (.ref cs) = some true)
    (hH : ∀ (X : Cx) (p : Addr × Obj) (c : Nat), (∃ (cdv : Value) (A : Around) (outer : List Env) (s : Shared) (H : Hp) (pn : List (Addr × Obj)), RoomH (k + 1) X.A ∧ X = (cxOf (L2N.CX g.P g.w) g.P g.w g.K g.mg g.base [a, en] x sc ga cdv A outer s H E0).suite p.1 (p :: pn)) → Ctx g E0 X → Hot1 X.A p → p ∈ X.pn →
      Zc (.ref (g.ecls c)) none p.2 → (∃ vs, p.2.data = .fields vs) → c ∈ ks → SSs X g E0 (b0 :: suite) (hc p.1 c))
    (hw : ∀ (f' a' c : Nat) (S' : Sto), c ∈ ks → hc a' c [some (.exn f' []), some (.exn a' [])] S' = .rt (WT c) (S' ++ WO c)) : ToldFn g k x ks WT WO := by
  obtain ⟨oc, od, dV, kV, doc, pm0, an, cdv, ct, osl, rfl, lk, hcd, _, _⟩ := F.ex
  refine ⟨ga, _, a, hm, F.kp, hb, ?_⟩
  intro X pins σ H s f c' pm ctv lps body scope Q tb eP ew eK em eb hr I L obf hfn hfr hco hbind hbody mono ht
  refine LamX.run_ofS (CX := L2N.CX X.prog X.w) (N := [a, en]) (ps := [a]) (us := [.ref f]) (vs := [.ref f]) (by rw [eK]; exact lk) (by rw [eK]; exact hcd) S hr I.env0 (by
    have := hb s [.ref f] (by rw [← eK]; exact I.kIn) rfl
    exact this) (.cons rfl .nil) rfl fun hr' => ?_
  have hr2 : Room (k + 1) (X.A.deeper (envOfC x sc s.heap.objs.size ga cdv)) := hr'
  let Xt : Cx := cxOf (L2N.CX X.prog X.w) X.prog X.w X.K X.mg X.base [a, en] x sc ga cdv X.A X.stack s H E0
  let ts : Addr → Value → Option Addr → TS := fun b cls d D σ' H' => ∃ c : Nat, cls = .ref (g.ecls c) ∧ d = none ∧ c ∈ ks ∧ rdS g E0 (hc b c) D σ' H'
  have body2 : PS Xt (.Try [.Return (some (.Call (.Name a p1) [] [] p2)) p3] [.ExceptHandler (some (.Name xn p4)) (some en) (b0 :: suite) p7] [] [] p8) (fun D σ' H' =>
      σ'[0]? = some (some (.ref f)) ∧ H' c' = some (LamX.CodeO c' (X.env.qual ++ "<lambda>")) ∧ tb (fun cls d H2 => wAs Xt.K (.ref cs) 1 ts (fun _ _ _ _ => False) D cls d σ' H2) σ H' D.rt) := by
    refine L2N.ps_try_as (X := Xt) (i := 1) (n := en) (c := .ref cs) (ts := ts) (tb := fun W D σ' H' => σ'[0]? = some (some (.ref f)) ∧ H' c' = some (LamX.CodeO c' (X.env.qual ++ "<lambda>")) ∧ tb (fun cls d H2 => W cls d σ' H2) σ H' D.rt) (Wout := fun _ _ _ _ => False) rfl rfl S.nd rfl hen ⟨hxn, hxd, .inl (by show X.mg xn = _; rw [em]; exact hxm)⟩ takesN (fun W pn xe tk _ => ?_) fun b oe cls d pn zn dat => ?_
    · refine pss_one (ps_imp (ps_ret (pos := p3) (te := fun (σ' : L2.St) (H' : Hp) (Q' : VK) => σ'[0]? = some (some (V.ref f)) ∧ H' c' = some (LamX.CodeO c' (X.env.qual ++ "<lambda>")) ∧ tb (fun cls d H2 => W cls d σ' H2) σ H' Q') ?_) fun D s H h => h)
      exact pe_actN (i := 0) (tb := tb) I L obf hfn hfr hbind tk hr2 hbody rfl hva had hac
    · refine ⟨fun pz sz σz Hz D Iz ⟨c, e1, e2, hc', h⟩ => ?_⟩
      subst e1; subst e2
      have hot : Hot1 ((Xt.suite b ((b, oe) :: pn)).A) (b, oe) := by
        obtain ⟨vs, dv⟩ := dat
        exact ⟨rfl, vs, dv, zn.2.2 vs dv⟩
      have rh : RoomH (k + 1) ((Xt.suite b ((b, oe) :: pn)).A) := ⟨hr2.dp, hr2.un⟩
      have der := hH (Xt.suite b ((b, oe) :: pn)) (b, oe) c ⟨cdv, X.A, X.stack, s, H, pn, rh, by show Cx.suite (cxOf (L2N.CX X.prog X.w) X.prog X.w X.K X.mg X.base [a, en] x sc ga cdv X.A X.stack s H E0) b ((b, oe) :: pn) = _; rw [eP, ew, eK, em, eb] <;> rfl⟩ ⟨eP, ew, eK, em, eb, takesN, Nat.lt_of_le_of_lt (show (X.A.deeper (envOfC x sc s.heap.objs.size ga cdv)).units + 66 ≤ (X.A.deeper (envOfC x sc s.heap.objs.size ga cdv)).units + 16 * (k + 1) + 200 by omega) hr2.un⟩ hot List.mem_cons_self zn.zc dat hc'
      exact der.run.run pz sz σz Hz D Iz h
  have conv : ∀ cls d H', toldE g ks WT WO Q cls d H' → wAs Xt.K (.ref cs) 1 ts (fun _ _ _ _ => False) { nx := fun _ H' => Q .non H', rt := Q } cls d (L2.start [a, en] [.ref f]) H' := by
    rintro cls d H' ⟨c, ro, S', rfl, rfl, hc', hS, post⟩
    refine ⟨true, by show PySem.W.exmOne X.K _ _ = _; rw [eK]; exact hex c hc', fun _ b _ => ⟨c, rfl, rfl, hc', ro, [some (.exn f []), some (.exn b [])], S', ?_, hS, ?_⟩, fun z => by cases z⟩
    · exact .cons (show RelD _ _ _ _ from .exn_mk) (.cons (show RelD _ _ _ _ from .exn_mk) .nil)
    · rw [hw f b c S' hc']
      exact post
  exact ⟨_, pss_one body2, rfl, hco, mono _ _ σ H Q conv ht⟩
end
/-- what the making of lambdas asks of the def they are made in -/
structure LamAt (X : Cx) (g : G) : Prop where
  at_ : ∃ c P : Addr, X.env.code = .ref c ∧ LamX.TabB X.base X.mg c P ∧ (P, X.env.qual ++ "<lambda>") ∈ g.T ∧ ∀ p ∈ g.T, p.1 = P → p.2 = X.env.qual ++ "<lambda>"
section
variable {X : Cx} {g : G} {E : XK}
/-- told(lambda: e) -/
theorem se_told {k : Nat} {x : Str} {ks : List Nat} {WT : Nat → D} {WO : Nat → List Ob} {params : Arguments} {body : Expr} {scope : Scope} {p lpos pos : Pos} {m : EM} (cx : Ctx g E X) (T : ToldFn g k x ks WT WO) (lam : LamAt X g) (hr : Room (k + 2) X.A) (hg : Gl X x)
    (L : LamX.LamS X.env.scope scope) (hdef : defaultsOf params X.env = ([], [])) (hbind : ∀ (q : Str) (cl : List (Str × Addr)) (pm cv ctv : Value), bindArgs (PySem.W.kla_fn "<lambda>" q params body scope cl pm cv ctv) ⟨[], []⟩ = pure [])
    (hbody : ∀ (A : Around) (outer : List Env) (s : Shared) (H : Hp) (E : XK) (f c' : Addr), Room k (A.deeper (LamX.lamEnv X scope s.heap.objs.size f c')) → Ctx g E (lamN X A outer s H E scope f c') → SE (lamN X A outer s H E scope f c') g E body m)
    (hdb : (x == ("__debug__" : Str)) = false := by decide) : SE X g E (.Call (.Name x p) [.Lambda params body scope lpos] [] pos) (eTold ks WT WO m) := by
  obtain ⟨ga, fd, a, hm, hk, hb, run⟩ := T
  obtain ⟨c, P, hcode, TB, hmT, hu⟩ := lam.at_
  refine ⟨⟨fun pins s σ H Q I ⟨ro, Lc, S, hL, hS, h⟩ => ?_⟩⟩
  refine wpAny_Call_Name_kw (ld_glob I hg (by rw [cx.mg]; exact hm) ?_ hdb)
  refine PySem.W.callWith_K (h₀ := X.base) I.ok.mod.kin (by rw [cx.K]; exact hk) ?_ (by rfl) (by rfl)
  show wpAny _ _ (spliced ((false, eval (.Lambda params body scope lpos) X.env) :: backTo pos (starEach [] X.env))) _ _ s
  refine Calls.spliced_cons (LamX.lam_make2 I TB hcode hmT hu hS.tabs hdef (L.has I.ok) fun f c' pm ctv H1 s1 I1 eN T1 obf hfn hfr hco => ?_)
  refine Calls.spliced_nil ⟨I1.kIn, ?_⟩
  have ex := Ext.ofN eN
  have code := run X pins σ H1 s1 f c' pm ctv params body scope Q (fun E' => rdE g E' m) cx.P cx.w cx.K cx.mg cx.base hr I1 L obf hfn hfr hco (hbind _ _ _ _ _)
    (fun A outer s' H' E' hr' => (hbody A outer s' H' E' f c' hr' (ctx_lam cx hr')).run)
    (fun E1 E2 σ' H' Q' hE ⟨ro', L', S', a1, a2, a3⟩ => ⟨ro', L', S', a1, a2, by
      cases z : m L' S' with
      | ok d S1 => rw [z] at a3; exact a3
      | exc y S1 => rw [z] at a3; exact fun r1 h1 c1 d1 b1 b2 b3 b4 => hE _ _ _ (a3 r1 h1 c1 d1 b1 b2 b3 b4)
      | err => rw [z] at a3; exact a3⟩)
    ⟨ro, Lc, S, hL.mono (.refl _) ex.tup, hS.extN eN T1, by
      unfold eTold at h
      cases z : m Lc S with
      | ok d S1 =>
        rw [z] at h
        exact Post.mono (.refl _) ex h
      | exc y S1 =>
        rw [z] at h
        simp only at h
        split at h
        · rename_i hy
          intro ro' H' cc dd gr e' hS' rx
          obtain ⟨yc, yp⟩ := y
          obtain ⟨rfl, hks⟩ := hy
          obtain ⟨rfl, rfl⟩ := (show cc = .ref (g.ecls yc) ∧ dd = none from rx)
          exact ⟨yc, ro', S1, rfl, rfl, hks, hS', Post.mono (g := g) (E := E0) gr (ex.trans e') (show Post RelD g E0 ro H Q (.ok (WT yc) (S1 ++ WO yc)) from h)⟩
        · exact h.elim
      | err => rw [z] at h; exact h.elim⟩
  refine wpAny_call (codeAny_mono code fun r s2 hq => ?_)
  cases r with
  | error e =>
    obtain ⟨_, _, _, _, _, _, _, _, _, _, _, _, z⟩ := hq
    exact z.elim
  | ok fl =>
    cases fl with
    | ret u => exact I1.after hq
    | next => exact False.elim hq
    | brk => exact False.elim hq
    | cont => exact False.elim hq
end
theorem lamAt_of {g : G} {E : XK} {cdv : Value} {A : Around} {outer : List Env} {s : Shared} {H : Hp} {N : List Str} {qual : Str} {sc : Scope} {f c P : Addr} (ec : cdv = .ref c) (t1 : LamX.TabB g.base g.mg c P) (t2 : (P, (qual ++ ".<locals>.") ++ "<lambda>") ∈ g.T) (t3 : ∀ p ∈ g.T, p.1 = P → p.2 = (qual ++ ".<locals>.") ++ "<lambda>") :
    LamAt (cxOf (L2N.CX g.P g.w) g.P g.w g.K g.mg g.base N qual sc f cdv A outer s H E) g := by
  refine ⟨⟨c, P, ?_, ?_, ?_, ?_⟩⟩
  · exact ec
  · exact t1
  · exact t2
  · exact t3
/-- a def in which lambdas are made, by its body -/
theorem df_bodyT {g : G} {k : Nat} {y qual : Str} {params : Arguments} {bd : List Stmt} {sc : Scope} {dvs : List V} {kws : List (Str × V)} {f : Addr} {fd : FuncData} {N ps : List Str} {body : SM} (fn : FunD g.K y qual params bd sc dvs kws f fd) (S : FnScope N ps sc)
    (tb : ∀ (oc : Value) (od : Option Addr) (osl : Array (Option Value)) (c : Addr), g.K.lookup f = some ⟨oc, od, .func fd, osl⟩ → fd.code = .ref c → ∃ P : Addr, LamX.TabB g.base g.mg c P ∧ (P, (qual ++ ".<locals>.") ++ "<lambda>") ∈ g.T ∧ ∀ p ∈ g.T, p.1 = P → p.2 = (qual ++ ".<locals>.") ++ "<lambda>")
    (hb : ∀ (X : Cx) (E : XK), (∃ (cdv : Value) (A : Around) (outer : List Env) (s : Shared) (H : Hp), Room k (A.deeper (PyProof.Rows.envOfC qual sc s.heap.objs.size f cdv)) ∧ X = cxOf (L2N.CX g.P g.w) g.P g.w g.K g.mg g.base N qual sc f cdv A outer s H E) → LamAt X g → SSs X g E bd body) :
    FOk g (k + 1) f fd ps (MP.fn ps.length N.length body) := by
  obtain ⟨oc, od, dV, kV, doc, pm, an, cdv, ct, osl, rfl, lk, hcd, _, _⟩ := fn.ex
  obtain ⟨c, ec⟩ := He.codeIn_ref hcd
  obtain ⟨P, t1, t2, t3⟩ := tb oc od osl c lk ec
  refine fn_of lk hcd S (fun vs H Q E ⟨ro, S, ds, hS, rv, h⟩ => ?_) fun A outer s H vs Q E hr ⟨ro, S', ds, hS, rv, h⟩ => ⟨_, (hb _ E ⟨cdv, A, outer, s, H, hr, rfl⟩ (lamAt_of ec t1 t2 t3)).run, ?_⟩
  · unfold MP.fn at h
    split at h
    · rename_i e
      rw [← rv.length, e]
    · exact h.elim
  · unfold MP.fn at h
    split at h
    · rename_i e
      rw [← e] at h
      refine ⟨ro, _, S', RelL.start N rv, hS, ?_⟩
      cases z : body (ds.map some ++ List.replicate (N.length - ds.length) none) S' with
      | nx L1 S1 => rw [z] at h; exact fun ro' H' s' gr ex R r => h ro' H' _ gr ex R .non_mk
      | rt d S1 => rw [z] at h; exact h
      | exc x L1 S1 => rw [z] at h; exact h
      | bk L1 S1 => rw [z] at h; exact h.elim
      | ct L1 S1 => rw [z] at h; exact h.elim
      | err => rw [z] at h; exact h.elim
    · exact h.elim
end MP

namespace MP
open PySem L2
/-- how what tells nothing ends -/
def PostU (g : G) (ro : List Addr) (H : Hp) (Q : Hp → Prop) : R Unit → Prop
  | .ok _ S => ∀ (ro' : List Addr) (H' : Hp), Gr ro ro' → Ext H H' → RelS g ro' S H' → Q H'
  | _ => False
theorem PostU.mono {g : G} {ro ro' : List Addr} {H H' : Hp} {Q : Hp → Prop} {r : R Unit} (gr : Gr ro ro') (ex : Ext H H') (h : PostU g ro H Q r) : PostU g ro' H' Q r := by
  cases r with
  | ok u S => exact fun ro1 H1 a b => h ro1 H1 (gr.trans a) (ex.trans b)
  | exc x S => exact h
  | err => exact h
/-- what is done with each item, told of the place n -/
def ActOk (g : G) (D : Addr) (n : Nat) (act : MP.Loc → Sto → R Unit) (Inn : St → Hp → (Hp → Prop) → Prop) : Prop :=
  ∀ (ro : List Addr) (L : MP.Loc) (S : Sto) (s : St) (H : Hp) (Nx : Hp → Prop), RelL ro H L s → RelS g ro S H → ro[n]? = some D → PostU g ro H Nx (act L S) → Inn s H Nx
section
variable {X : Cx} {g : G} {E : XK} {act : MP.Loc → Sto → R Unit} {Inn : St → Hp → (Hp → Prop) → Prop} {D : Addr} {n : Nat} {t t1 : TM} {vs vs1 : List Nat}
theorem yes_rd {ro : List Addr} {L : MP.Loc} {S : Sto} {s : St} {H : Hp} {Q : Bool → Hp → Prop} (hL : RelL ro H L s) (hS : RelS g ro S H) (q : ∀ (ro' : List Addr) (H' : Hp), Gr ro ro' → Ext H H' → RelS g ro' S H' → Q true H') : rdT g E0 MP.tYes s H Q :=
  ⟨ro, L, S, hL, hS, fun ro' H' v gr ex hS' rv => by
    obtain rfl : true = v := rv
    exact q ro' H' gr ex hS'⟩
theorem in_rd [pt : PureT t1] (ha : ActOk g D n act Inn) {k : Wk} {J : It} {ro : List Addr} {H : Hp} {L : MP.Loc} {S : Sto} {s : St} {Nx : Hp → Prop} (wk : WkOk g ro H k J) (hL : RelL ro H L s) (hS : RelS g ro S H) (hD : ro[n]? = some D)
    (h : PostU g ro H Nx (n2in k.chk t1 act (MP.wipe L vs1) k.items S)) :
    ∃ W : Nat → Nat → Hp → Prop, (∃ m, W 0 m H) ∧ ∀ j m H1, W j m H1 → (J.stop j H1 ∧ Nx H1) ∨ (J.go j H1 ∧ ∃ N1 : Hp → Prop, (∀ H2, N1 H2 → ∃ m', m' < m ∧ W (j + 1) m' H2) ∧
      ∀ x H2, J.yld j H1 x H2 → rdGw g vs1 t1 x (L2.wipe s vs1) H2 fun s3 H5 => L2.wipe s3 vs1 = L2.wipe s vs1 ∧ rdT g E0 MP.tYes s3 H5 fun b H6 => if b = true then Inn s3 H6 N1 else N1 H6) := by
  have hLw := hL.wipe vs1
  refine ⟨fun j m H1 => m = k.items.length - j ∧ j ≤ k.items.length ∧ ∃ (ro1 : List Addr) (S1 : Sto), Gr ro ro1 ∧ Ext H H1 ∧ RelS g ro1 S1 H1 ∧ PostU g ro1 H1 Nx (n2in k.chk t1 act (MP.wipe L vs1) (k.items.drop j) S1), ⟨_, rfl, Nat.zero_le _, ro, S, .refl _, .refl _, hS, h⟩, ?_⟩
  rintro j m H1 ⟨rfl, hj, ro1, S1, gr1, ex1, hS1, h1⟩
  by_cases hlt : j < k.items.length
  · obtain ⟨d, hd, e⟩ := drop_at hlt
    rw [e] at h1
    unfold n2in at h1
    split at h1
    · rename_i hk
      obtain ⟨go, yl⟩ := (wk j ro1 S1 H1 gr1 ex1 hS1 hk).1 d hd
      refine .inr ⟨go, fun H2 => ∃ (ro2 : List Addr) (S2 : Sto), Gr ro ro2 ∧ Ext H H2 ∧ RelS g ro2 S2 H2 ∧ PostU g ro2 H2 Nx (n2in k.chk t1 act (MP.wipe L vs1) (k.items.drop (j + 1)) S2), fun H2 nx => ⟨_, by omega, rfl, hlt, nx⟩, fun x H2 hy => ?_⟩
      obtain ⟨ex2, hS2, rv⟩ := yl x H2 hy
      cases q : t1 d (MP.wipe L vs1) S1 with
      | ok L1 S3 =>
        rw [q] at h1
        obtain rfl : S3 = S1 := pt.same _ _ _ _ _ q
        simp only at h1
        refine ⟨ro1, _, S3, d, RelL.mono gr1 (ex1.trans ex2).tup hLw, hS2, rv, L1, q, fun H3 s3 ex3 hS3 hL3 hw => ⟨hw.trans wipe_wipe, yes_rd hL3 hS3 fun ro4 H4 gr4 ex4 hS4 => ?_⟩⟩
        rw [if_pos rfl]
        refine ha ro4 L1 S3 s3 H4 _ (RelL.mono gr4 ex4.tup hL3) hS4 (gr4 _ _ (gr1 _ _ hD)) ?_
        cases z : act L1 S3 with
        | ok u S5 =>
          rw [z] at h1
          intro ro5 H5 gr5 ex5 hS5
          exact ⟨ro5, S5, gr1.trans (gr4.trans gr5), ex1.trans (ex2.trans (ex3.trans (ex4.trans ex5))), hS5, h1.mono (gr4.trans gr5) (ex2.trans (ex3.trans (ex4.trans ex5)))⟩
        | exc x5 S5 => rw [z] at h1; exact h1.elim
        | err => rw [z] at h1; exact h1.elim
      | exc x3 S3 => rw [q] at h1; exact h1.elim
      | err => rw [q] at h1; exact h1.elim
    · exact h1.elim
  · have e : j = k.items.length := by omega
    subst e
    rw [List.drop_length] at h1
    unfold n2in at h1
    split at h1
    · rename_i hk
      exact .inl ⟨(wk _ ro1 S1 H1 gr1 ex1 hS1 hk).2 rfl, h1 ro1 H1 (.refl _) (.refl _) hS1⟩
    · exact h1.elim
theorem out_rd [pt : PureT t] [pt1 : PureT t1] (ha : ActOk g D n act Inn) {w1 : WM} {k : Wk} {J : It} {ro : List Addr} {H : Hp} {L : MP.Loc} {S : Sto} {s : St} {Nx : Hp → Prop} (wk : WkOk g ro H k J) (hL : RelL ro H L s) (hS : RelS g ro S H) (hD : ro[n]? = some D)
    (h : PostU g ro H Nx (n2out k.chk t w1 t1 vs1 act (MP.wipe L vs) k.items S)) :
    ∃ W : Nat → Nat → Hp → Prop, (∃ m, W 0 m H) ∧ ∀ i m H1, W i m H1 → (J.stop i H1 ∧ Nx H1) ∨ (J.go i H1 ∧ ∃ N1 : Hp → Prop, (∀ H2, N1 H2 → ∃ m', m' < m ∧ W (i + 1) m' H2) ∧
      ∀ x H2, J.yld i H1 x H2 → rdGw g vs t x (L2.wipe s vs) H2 fun s3 H5 => L2.wipe s3 vs = L2.wipe s vs ∧ rdT g E0 MP.tYes s3 H5 fun b H6 => if b = true then rd (WkOk g) g E0 w1 s3 H6 (fun J1 H7 => ∃ W1 : Nat → Nat → Hp → Prop, (∃ m, W1 0 m H7) ∧ ∀ j m H8, W1 j m H8 →
        (J1.stop j H8 ∧ N1 H8) ∨ (J1.go j H8 ∧ ∃ N2 : Hp → Prop, (∀ H9, N2 H9 → ∃ m', m' < m ∧ W1 (j + 1) m' H9) ∧
          ∀ x H9, J1.yld j H8 x H9 → rdGw g vs1 t1 x (L2.wipe s3 vs1) H9 fun s4 H10 => L2.wipe s4 vs1 = L2.wipe s3 vs1 ∧ rdT g E0 MP.tYes s4 H10 fun b H11 => if b = true then Inn s4 H11 N2 else N2 H11)) else N1 H6) := by
  have hLw := hL.wipe vs
  refine ⟨fun j m H1 => m = k.items.length - j ∧ j ≤ k.items.length ∧ ∃ (ro1 : List Addr) (S1 : Sto), Gr ro ro1 ∧ Ext H H1 ∧ RelS g ro1 S1 H1 ∧ PostU g ro1 H1 Nx (n2out k.chk t w1 t1 vs1 act (MP.wipe L vs) (k.items.drop j) S1), ⟨_, rfl, Nat.zero_le _, ro, S, .refl _, .refl _, hS, h⟩, ?_⟩
  rintro j m H1 ⟨rfl, hj, ro1, S1, gr1, ex1, hS1, h1⟩
  by_cases hlt : j < k.items.length
  · obtain ⟨d, hd, e⟩ := drop_at hlt
    rw [e] at h1
    unfold n2out at h1
    split at h1
    · rename_i hk
      obtain ⟨go, yl⟩ := (wk j ro1 S1 H1 gr1 ex1 hS1 hk).1 d hd
      refine .inr ⟨go, fun H2 => ∃ (ro2 : List Addr) (S2 : Sto), Gr ro ro2 ∧ Ext H H2 ∧ RelS g ro2 S2 H2 ∧ PostU g ro2 H2 Nx (n2out k.chk t w1 t1 vs1 act (MP.wipe L vs) (k.items.drop (j + 1)) S2), fun H2 nx => ⟨_, by omega, rfl, hlt, nx⟩, fun x H2 hy => ?_⟩
      obtain ⟨ex2, hS2, rv⟩ := yl x H2 hy
      cases q : t d (MP.wipe L vs) S1 with
      | ok L1 S3 =>
        rw [q] at h1
        obtain rfl : S3 = S1 := pt.same _ _ _ _ _ q
        simp only at h1
        refine ⟨ro1, _, S3, d, RelL.mono gr1 (ex1.trans ex2).tup hLw, hS2, rv, L1, q, fun H3 s3 ex3 hS3 hL3 hw => ⟨hw.trans wipe_wipe, yes_rd hL3 hS3 fun ro4 H4 gr4 ex4 hS4 => ?_⟩⟩
        rw [if_pos rfl]
        refine ⟨ro4, L1, S3, RelL.mono gr4 ex4.tup hL3, hS4, ?_⟩
        cases z : w1 L1 S3 with
        | ok k1 S5 =>
          rw [z] at h1
          simp only at h1
          intro ro5 H5 J1 gr5 ex5 hS5 wk1
          refine in_rd ha wk1 (RelL.mono (gr4.trans gr5) (ex4.trans ex5).tup hL3) hS5 (gr5 _ _ (gr4 _ _ (gr1 _ _ hD))) ?_
          cases y : n2in k1.chk t1 act (MP.wipe L1 vs1) k1.items S5 with
          | ok u S6 =>
            rw [y] at h1
            intro ro6 H6 gr6 ex6 hS6
            exact ⟨ro6, S6, gr1.trans (gr4.trans (gr5.trans gr6)), ex1.trans (ex2.trans (ex3.trans (ex4.trans (ex5.trans ex6)))), hS6, h1.mono (gr4.trans (gr5.trans gr6)) (ex2.trans (ex3.trans (ex4.trans (ex5.trans ex6))))⟩
          | exc x6 S6 => rw [y] at h1; exact h1.elim
          | err => rw [y] at h1; exact h1.elim
        | exc x5 S5 => rw [z] at h1; exact h1.elim
        | err => rw [z] at h1; exact h1.elim
      | exc x3 S3 => rw [q] at h1; exact h1.elim
      | err => rw [q] at h1; exact h1.elim
    · exact h1.elim
  · have e : j = k.items.length := by omega
    subst e
    rw [List.drop_length] at h1
    unfold n2out at h1
    split at h1
    · rename_i hk
      exact .inl ⟨(wk _ ro1 S1 H1 gr1 ex1 hS1 hk).2 rfl, h1 ro1 H1 (.refl _) (.refl _) hS1⟩
    · exact h1.elim
theorem n2in_exc {chk : Sto → Bool} {x : Exc} {S' : Sto} : ∀ {xs : List MP.D} {L : MP.Loc} {S : Sto}, n2in chk t1 act L xs S ≠ .exc x S'
  | [], L, S => by
    unfold n2in
    split <;> simp
  | y :: ys, L, S => by
    unfold n2in
    split
    · cases t1 y L S with
      | ok L1 S1 =>
        simp only
        cases act L1 S1 with
        | ok u S2 => exact n2in_exc
        | exc a b => simp
        | err => simp
      | exc a b => simp
      | err => simp
    · simp
theorem n2out_exc {chk : Sto → Bool} {w1 : WM} {x : Exc} {S' : Sto} : ∀ {xs : List MP.D} {L : MP.Loc} {S : Sto}, n2out chk t w1 t1 vs1 act L xs S ≠ .exc x S'
  | [], L, S => by
    unfold n2out
    split <;> simp
  | y :: ys, L, S => by
    unfold n2out
    split
    · cases t y L S with
      | ok L1 S1 =>
        simp only
        cases w1 L1 S1 with
        | ok k S2 =>
          simp only
          cases n2in k.chk t1 act (MP.wipe L1 vs1) k.items S2 with
          | ok u S3 => exact n2out_exc
          | exc a b => simp
          | err => simp
        | exc a b => simp
        | err => simp
      | exc a b => simp
      | err => simp
    · simp
theorem actL_ok {em : EM} : ActOk g D n (actL n em) fun s H N => rdE g E0 em s H fun y H1 => ∃ acc, H1 D = some (.lst acc) ∧ acc.length < sizeLine ∧ N (upd H1 D (.lst (acc ++ [y]))) := by
  intro ro L S s H Nx hL hS hD h
  refine ⟨ro, L, S, hL, hS, ?_⟩
  unfold actL at h
  cases y : em L S with
  | ok d1 S1 =>
    rw [y] at h
    intro ro1 H1 v1 gr1 ex1 hS1 rv1
    simp only at h
    split at h
    · rename_i acc ha
      have hD1 := gr1 _ _ hD
      obtain ⟨us, r1, q1⟩ := hS1.at hD1 ha
      split at h
      · rename_i hz
        refine ⟨us, q1, by rw [← r1.length, ← sz_eq]; exact hz, h ro1 _ gr1 (ex1.trans (.put q1 lst_tup lst_frz)) ?_⟩
        exact hS1.put hD1 ha (fun z => z.elim) (fun z => z.elim) q1 ⟨us ++ [v1], RelDs.mono (.refl _) (.put q1 lst_tup) _ _ (r1.append (.cons rv1 .nil)), upd_same⟩ nu_lst
      · exact h.elim
    · exact h.elim
  | exc x1 S1 => rw [y] at h; exact h.elim
  | err => rw [y] at h; exact h.elim
theorem lc2_rd [pt : PureT t] [pt1 : PureT t1] {w w1 : WM} {em : EM} {s : St} {H : Hp} {Q : VK} (h : rdE g E (eLc2 w t w1 t1 em vs vs1) s H Q) :
    tLc2 (rd (WkOk g) g E w) (rdGw g vs t) (rdT g E0 MP.tYes) (rd (WkOk g) g E0 w1) (rdGw g vs1 t1) (rdT g E0 MP.tYes) (rdE g E0 em) vs vs1 s H Q := by
  obtain ⟨ro, L, S, hL, hS, h⟩ := h
  refine ⟨ro, L, S, hL, hS, Post.bind h fun k S1 ro1 H1 J gr ex hS1 wk h => ?_⟩
  intro D hD
  have hS2 : RelS g (ro1 ++ [D]) (S1 ++ [.lst []]) (upd H1 D (.lst [])) := hS1.push hD ⟨[], .nil, upd_same⟩
  have hDn : (ro1 ++ [D])[S1.length]? = some D := by rw [← hS1.len, List.getElem?_append_right (Nat.le_refl _), Nat.sub_self] <;> rfl
  refine out_rd (D := D) (n := S1.length) (act := actL S1.length em) actL_ok (wk.mono (.snoc _ _) (.new hD)) (RelL.mono (gr.trans (.snoc _ _)) (ex.trans (.new hD)).tup hL) hS2 hDn ?_
  cases y : n2out k.chk t w1 t1 vs1 (actL S1.length em) (MP.wipe L vs) k.items (S1 ++ [.lst []]) with
  | ok u S3 =>
    rw [y] at h
    intro ro3 H3 gr3 ex3 hS3
    exact h ro3 H3 _ ((Gr.snoc ro1 D).trans gr3) ((Ext.new hD).trans ex3) hS3 (.ref_mk (gr3 _ _ hDn))
  | exc x3 S3 => exact absurd y n2out_exc
  | err => rw [y] at h; exact h.elim
theorem se_lc2 {elt tg iter tg1 iter1 : Expr} {scope : Scope} {pos : Pos} {own : List (Str × Nat)} {w w1 : WM} {em : EM} [pt : PureT t] [pt1 : PureT t1] (hc : X.calm = true) (hN : X.N.Nodup) (hi : SI X g E tg iter w) (ok : BlkOk X.N X.env.scope scope own) (hv : ∀ i ∈ vs1, i ∈ own.map (·.2))
    (hg : ∀ (s : Shared) (H : Hp) (C : Addr) (cl : List (Str × Addr)) (fp : List Addr), SGw (X.blk s H scope (compEnvC scope cl C X.env) fp) g (own.map (·.2)) tg t) (hi1 : ∀ (s : Shared) (H : Hp) (C : Addr) (cl : List (Str × Addr)) (fp : List Addr), SI (X.blk s H scope (compEnvC scope cl C X.env) fp) g E0 tg1 iter1 w1)
    (hg1 : ∀ (s : Shared) (H : Hp) (C : Addr) (cl : List (Str × Addr)) (fp : List Addr), SGw (X.blk s H scope (compEnvC scope cl C X.env) fp) g vs1 tg1 t1) (he : ∀ (s : Shared) (H : Hp) (C : Addr) (cl : List (Str × Addr)) (fp : List Addr), SE (X.blk s H scope (compEnvC scope cl C X.env) fp) g E0 elt em)
    (hs : ∀ x, foldedSetIterable iter X.env x = pure x := by intro _; rfl) (hs1 : ∀ env x, foldedSetIterable iter1 env x = pure x := by intro _ _; rfl) :
    SE X g E (.ListComp elt [⟨tg, iter, [], 0⟩, ⟨tg1, iter1, [], 0⟩] scope pos) (eLc2 w t w1 t1 em (own.map (·.2)) vs1) :=
  ⟨pe_imp (pe_lc2 hc hN hi.run ok hv (fun s H C cl fp => (hg s H C cl fp).run) (fun s H C cl fp => (sts_nil (E := E0)).run) (fun s H C cl fp => (hi1 s H C cl fp).run) (fun s H C cl fp => (hg1 s H C cl fp).run) (fun s H C cl fp => (sts_nil (E := E0)).run) (fun s H C cl fp => (he s H C cl fp).run) hs hs1) fun s H Q h => lc2_rd h⟩
end
end MP

namespace MP
open PySem L2
section
variable {kx vx t0 i0 t1 i1 : Expr} {scope : Scope} {pos : Pos} {it acc : Value} {env : Env}
abbrev DC2 (kx vx t0 i0 t1 i1 : Expr) (scope : Scope) (pos : Pos) : Expr := .DictComp kx vx [⟨t0, i0, [], 0⟩, ⟨t1, i1, [], 0⟩] scope pos
theorem dc2_t0 : compTurn (DC2 kx vx t0 i0 t1 i1 scope pos) 0 it acc env = (do
    standAt i0.pos
    let r ← pyNext it
    match r with
    | none => pure (.done .next)
    | some v => do
      letOwnedTupleGo t0 it v
      assign t0 env v
      let y ← eval i1 env
      standAt i1.pos
      let y ← foldedSetIterable i1 env y
      let z ← holding [y] (pyIter y)
      let _ ← runOwn (.compStart (DC2 kx vx t0 i0 t1 i1 scope pos) 1 z acc env) env
      again (.compLoop (DC2 kx vx t0 i0 t1 i1 scope pos) 0 it acc env)) := by rfl
abbrev bothAt (p q : Pos) : Pos := { p with endLine := q.endLine, endCol := q.endCol }
abbrev putOne (kx vx : Expr) (D : Addr) (env : Env) : Sem Unit := do
  let a ← eval kx env
  let b ← holding [a] (eval vx env)
  standAt (bothAt kx.pos vx.pos)
  holding [a, b] (dictSet D a b)
theorem dc2_t1 {D : Addr} : compTurn (DC2 kx vx t0 i0 t1 i1 scope pos) 1 it (.ref D) env = (do
    standAt i1.pos
    let r ← pyNext it
    match r with
    | none => pure (.done .next)
    | some v => do
      letOwnedTupleGo t1 it v
      assign t1 env v
      putOne kx vx D env
      again (.compLoop (DC2 kx vx t0 i0 t1 i1 scope pos) 1 it (.ref D) env)) := by rfl
abbrev NoX : Value → Shared → Prop := fun _ _ => False
theorem noX {α : Type} {m : Sem α} {M : Model} {A : Around} {s : Shared} {Q Q' : α → Shared → Prop} {E : Value → Shared → Prop} (h : wpAny M A m Q NoX s) (q : ∀ a s', Q a s' → Q' a s') : wpAny M A m Q' E s := wpAny_mono h q fun _ _ z => z.elim
variable {P : Program} {w : World} {A : Around} {R : Result → Shared → Prop} {s : Shared}
/-- the first for's loop -/
theorem dc2_l0 (hf : ∀ x, foldedSetIterable i1 env x = pure x) (I : Nat → Shared → Prop)
    (turn : ∀ n s, I n s → wpAny (model P w) A (pyNext it) (fun r s1 => match r with
      | none => R (.ok .next) s1
      | some v => wpAny (model P w) A (letOwnedTupleGo t0 it v) (fun _ s2 => wpAny (model P w) A (assign t0 env v) (fun _ s3 => wpAny (model P w) A (eval i1 env) (fun x s4 =>
          wpAny (model P w) A (pyIter x) (fun z s5 => codeAny (model P w) A (.compStart (DC2 kx vx t0 i0 t1 i1 scope pos) 1 z acc env) (fun r s6 => ∃ f, r = .ok f ∧ ∃ m, m < n ∧ I m s6) s5) NoX s4) NoX s3) NoX s2) NoX s1) NoX s)
    (n : Nat) (h : I n s) : codeAny (model P w) A (.compLoop (DC2 kx vx t0 i0 t1 i1 scope pos) 0 it acc env) R s := by
  refine codeAny_loop rfl I (fun k u hu => ?_) n h
  show wpAny _ A (Sem.onRaise (compTurn (DC2 kx vx t0 i0 t1 i1 scope pos) 0 it acc env) _) _ _ u
  refine wpAny_noted ?_
  rw [dc2_t0]
  refine wpAny_bind (wpAny_standAt (wpAny_bind (noX (turn k u hu) fun r s1 h1 => ?_)))
  cases r with
  | none => exact wpAny_pure h1
  | some v =>
    refine wpAny_bind (noX h1 fun _ s2 h2 => wpAny_bind (noX h2 fun _ s3 h3 => wpAny_bind (noX h3 fun x s4 h4 => ?_)))
    refine wpAny_bind (wpAny_standAt (wpAny_bind (wpAny_of_eq (hf x) (wpAny_bind (wpAny_holding (noX h4 fun z s5 h5 => ?_))))))
    refine wpAny_bind (wpAny_runOwn ?_); rw [Around.mark_none]
    refine codeAny_mono h5 fun r s6 hr => ?_
    obtain ⟨f, rfl, hm⟩ := hr
    first
      | exact wpAny_pure ⟨rfl, hm⟩
      | exact wpAny_bind (wpAny_pure (wpAny_pure ⟨rfl, hm⟩))
/-- the second for's loop -/
theorem dc2_l1 {D : Addr} (I : Nat → Shared → Prop)
    (turn : ∀ n s, I n s → wpAny (model P w) A (pyNext it) (fun r s1 => match r with
      | none => R (.ok .next) s1
      | some v => wpAny (model P w) A (letOwnedTupleGo t1 it v) (fun _ s2 => wpAny (model P w) A (assign t1 env v) (fun _ s3 => wpAny (model P w) A (eval kx env) (fun a s4 => wpAny (model P w) A (eval vx env) (fun b s5 =>
          wpAny (model P w) A (dictSet D a b) (fun _ s6 => ∃ m, m < n ∧ I m s6) NoX s5) NoX s4) NoX s3) NoX s2) NoX s1) NoX s)
    (n : Nat) (h : I n s) : codeAny (model P w) A (.compLoop (DC2 kx vx t0 i0 t1 i1 scope pos) 1 it (.ref D) env) R s := by
  refine codeAny_loop rfl I (fun k u hu => ?_) n h
  show wpAny _ A (Sem.onRaise (compTurn (DC2 kx vx t0 i0 t1 i1 scope pos) 1 it (.ref D) env) _) _ _ u
  refine wpAny_noted ?_
  rw [dc2_t1]
  refine wpAny_bind (wpAny_standAt (wpAny_bind (noX (turn k u hu) fun r s1 h1 => ?_)))
  cases r with
  | none => exact wpAny_pure h1
  | some v =>
    refine wpAny_bind (noX h1 fun _ s2 h2 => wpAny_bind (noX h2 fun _ s3 h3 => wpAny_bind ?_))
    refine wpAny_bind (noX h3 fun a s4 h4 => wpAny_bind (wpAny_holding (noX h4 fun b s5 h5 => ?_)))
    refine wpAny_bind (wpAny_standAt (wpAny_holding (noX h5 fun _ s6 h6 => ?_)))
    exact wpAny_pure ⟨rfl, h6⟩
/-- the second for's start -/
theorem dc2_s1 (h0 : codeAny (model P w) A (.compLoop (DC2 kx vx t0 i0 t1 i1 scope pos) 1 it acc env) R s) (h : wpAny (model P w) A (pyIter it) (fun z s1 => codeAny (model P w) A (.compLoop (DC2 kx vx t0 i0 t1 i1 scope pos) 1 z acc env) R s1) NoX s) :
    codeAny (model P w) A (.compStart (DC2 kx vx t0 i0 t1 i1 scope pos) 1 it acc env) R s := by
  refine codeAny_of_tree ?_
  show wpAny _ _ (Sem.onRaise (compStart (DC2 kx vx t0 i0 t1 i1 scope pos) 1 it acc env) _) _ _ s
  refine wpAny_notedAt ?_; unfold compStart; show wpAny _ _ (ask >>= _) _ _ s
  refine wpAny_bind (wpAny_askSetting (wpAny_ite ?_)); split
  · first
      | exact wpAny_bind (wpAny_pure (wpAny_pure ⟨rfl, h0⟩))
      | exact wpAny_pure ⟨rfl, h0⟩
  · refine wpAny_bind (wpAny_rule (show wpAny _ _ (standAt i1.pos >>= _) _ _ s from ?_))
    exact wpAny_bind (wpAny_standAt (wpAny_bind (noX h fun z s1 h1 => wpAny_pure ⟨rfl, h1⟩)))
end
section
variable {X : Cx} {pins : List (Addr × Obj)} {σ : St} {H : Hp} {s : Shared}
/-- a new entry under a tuple -/
theorem put_tup {b C : Addr} {kvs : List (List L2.Key × V)} {k : List L2.Key} {v : V} {r : Value} {Q : Unit → Shared → Prop} {E : Value → Shared → Prop} (hu : X.A.units + 1 < cLine) (I : Inv X pins σ H s) (e : H C = some (.dT kvs)) (eb : H b = some (.tup (k.map kV))) (l : kvs.length < sizeLine) (rv : RelV v r)
    (q : ∀ s', Inv X pins σ (upd H C (.dT (putK kvs k v))) s' → Q () s') : wpAny (model X.prog X.w) X.A (dictSet C (.ref b) r) Q E s := by
  obtain ⟨z, hd, xs, rel, dd⟩ := dt_of I.hok e
  have h1 : xs.length ≤ sizeLine := by rw [← Paired.length rel]; exact z
  have h2 : (putK kvs k v).length ≤ sizeLine := by have := length_putK kvs k v; omega
  refine wpAny_dictSet_heap (hsz := h1) (show (tupleKind _).room X.A from Nat.lt_of_succ_lt hu) (key_of I.hok eb) dd fun h' d2 hs => q _ ?_
  obtain ⟨o, es, ep, ho, g2, g3, g4, _, g5⟩ := d2
  refine d_write I (by rw [e]; exact True.intro) hs ⟨o, ho⟩ ⟨h2, hd, _, (rel.put k eb rv).keeps fun c ys ec => ?_, o, es, ep, ho, g2, g3, g4, g5⟩
  rw [upd_ne (ne_of ec e (fun z => nomatch z))]; exact ec
/-- one item of a walk is stored: what the walk leans on stays behind whatever comes -/
theorem walk_item {Y : Cx} {tg : Expr} {g : TG} {J : It} {fp : List Addr} {it : Addr} {tn : Nat → Heap → Prop} {pins : List (Addr × Obj)} {σ : St} {H : Hp} {s : Shared} {i : Nat} {Q : St → Hp → Prop} (T : Turn Y.prog Y.w Y.K tg J fp it tn) (hc : Y.calm = true) (hx : Y.xe = NoX)
    (ff : ∀ H' : Hp, (∀ b ∈ fp, H' b = none) → ∀ b ∈ fp, FpOk Y pins H' b) (pg : PG Y tg g) (I : Inv Y pins σ H s) (nf : ∀ b ∈ fp, H b = none) (st : tn i s.heap) (go : J.go i H) (step : ∀ x H', J.yld i H x H' → g x σ H' Q) :
    wpAny (model Y.prog Y.w) Y.A (pyNext (.ref it)) (fun r s1 => ∃ u, r = some u ∧ wpAny (model Y.prog Y.w) Y.A (letOwnedTupleGo tg (.ref it) u) (fun _ s2 => wpAny (model Y.prog Y.w) Y.A (assign tg Y.env u) (fun _ s3 => ∃ (pl : List (Addr × Obj)) (σ1 : St) (H1 : Hp), Inv Y (pins ++ pl) σ1 H1 s3 ∧ Q σ1 H1 ∧
      ∀ (σ2 : St) (H2 : Hp) (s4 : Shared), Inv Y (pins ++ pl) σ2 H2 s4 → Inv Y pins σ2 H2 s4 ∧ tn (i + 1) s4.heap ∧ ∀ b ∈ fp, H2 b = none) NoX s2) NoX s1) NoX s := by
  refine noX (T.item Y rfl rfl rfl hc i pins s σ H NoX I (ff H nf) st go) fun r s1 ⟨u, hr, h1⟩ => ⟨u, hr, noX h1 fun _ s2 ⟨x, H2, I2, r2, y2, st2, n2⟩ => ?_⟩
  have I3 := I2.pinned (ff H2 n2) (T.obj _ _ st2)
  have := pg.run _ s2 σ H2 x u _ I3 r2 (step x H2 y2)
  rw [hx] at this
  refine noX this fun _ s3 ⟨σ1, H1, I1, q1⟩ => ⟨pinsAt fp s2.heap, σ1, H1, I1, q1, fun σ4 H4 s4 I4 => ?_⟩
  have there : ∀ b ∈ fp, ∀ o, s2.heap.get? b = some o → s4.heap.get? b = some o ∧ H4 b = none := fun b hb o e =>
    have z := I4.pin (b, o) (List.mem_append_right _ (List.mem_append_right _ (mem_pinsAt hb e)))
    ⟨z.1, z.2.1⟩
  refine ⟨I4.unpinned, T.keep _ _ _ st2 fun b hb o e => (there b hb o e).1, fun b hb => ?_⟩
  obtain ⟨o, e, _⟩ := T.obj _ _ st2 b hb
  exact (there b hb o e).2
/-- {kx: vx for t0 in i0 for t1 in i1}, the keys tuples: C the new dict -/
def tDc2 (wi : TI) (g : TG) (wi1 : TI) (g1 : TG) (tk tv : TE) (vs vs1 : List Nat) : TE := fun σ H Q => wi σ H fun J H1 => ∀ C, H1 C = none → ∃ W : Nat → Nat → Hp → Prop, (∃ m, W 0 m (upd H1 C (.dT []))) ∧ ∀ i m H2, W i m H2 →
  (J.stop i H2 ∧ Q (.ref C) H2) ∨ (J.go i H2 ∧ ∃ N1 : Hp → Prop, (∀ H3, N1 H3 → ∃ m', m' < m ∧ W (i + 1) m' H3) ∧ ∀ x H3, J.yld i H2 x H3 → g x (L2.wipe σ vs) H3 fun σ1 H4 => L2.wipe σ1 vs = L2.wipe σ vs ∧ wi1 σ1 H4 fun J1 H5 =>
    ∃ W1 : Nat → Nat → Hp → Prop, (∃ m, W1 0 m H5) ∧ ∀ j k H6, W1 j k H6 → (J1.stop j H6 ∧ N1 H6) ∨ (J1.go j H6 ∧ ∃ N2 : Hp → Prop, (∀ H7, N2 H7 → ∃ k', k' < k ∧ W1 (j + 1) k' H7) ∧
      ∀ y H7, J1.yld j H6 y H7 → g1 y (L2.wipe σ1 vs1) H7 fun σ2 H8 => L2.wipe σ2 vs1 = L2.wipe σ1 vs1 ∧ tk σ2 H8 fun u H9 => tv σ2 H9 fun z H10 => ∃ kvs k b, u = .ref b ∧ H10 C = some (.dT kvs) ∧ H10 b = some (.tup (k.map kV)) ∧ kvs.length < sizeLine ∧ N2 (upd H10 C (.dT (putK kvs k z)))))
theorem pe_dc2 {kx vx t0 i0 t1 i1 : Expr} {scope : Scope} {pos : Pos} {own : List (Str × Nat)} {vs1 : List Nat} {wi wi1 : TI} {g g1 : TG} {tk tv : TE} (hc : X.calm = true) (hN : X.N.Nodup) (hu : X.A.units + 1 < cLine) (hi : PI X t0 i0 wi) (ok : BlkOk X.N X.env.scope scope own) (hv : ∀ i ∈ vs1, i ∈ own.map (·.2))
    (hg : ∀ (s : Shared) (H : Hp) (C : Addr) (cl : List (Str × Addr)) (fp : List Addr), PG (X.blk s H scope (compEnvC scope cl C X.env) fp) t0 g)
    (hi1 : ∀ (s : Shared) (H : Hp) (C : Addr) (cl : List (Str × Addr)) (fp : List Addr), PI (X.blk s H scope (compEnvC scope cl C X.env) fp) t1 i1 wi1)
    (hg1 : ∀ (s : Shared) (H : Hp) (C : Addr) (cl : List (Str × Addr)) (fp : List Addr), PG (X.blk s H scope (compEnvC scope cl C X.env) fp) t1 g1)
    (hk : ∀ (s : Shared) (H : Hp) (C : Addr) (cl : List (Str × Addr)) (fp : List Addr), PE (X.blk s H scope (compEnvC scope cl C X.env) fp) kx tk)
    (he : ∀ (s : Shared) (H : Hp) (C : Addr) (cl : List (Str × Addr)) (fp : List Addr), PE (X.blk s H scope (compEnvC scope cl C X.env) fp) vx tv)
    (hf : ∀ x, foldedSetIterable i0 X.env x = pure x := by intro _; rfl) (hf1 : ∀ env x, foldedSetIterable i1 env x = pure x := by intro _ _; rfl) :
    PE X (DC2 kx vx t0 i0 t1 i1 scope pos) (tDc2 wi g wi1 g1 tk tv (own.map (·.2)) vs1) := by
  refine ⟨fun pins s σ H Q I h => ?_⟩
  rw [arm_eval_DictComp]
  have frees : ∀ y ∈ scope.names, y.2 = .free → ∃ c, X.env.cells.lookup y.1 = some c := fun y hy e => (ok.free y hy e).elim (fun z => I.ok.has _ (.inl z)) fun z => I.ok.has _ (.inr z)
  refine wpAny_comprehension_free rfl hf (closure_ok frees) ok.kind (fun y hy e => by rw [ok.uniq y hy, e]) (thn (hi.run pins s σ H _ I h) fun _ _ hx => thn hx fun _ s2 h2 => ?_)
  obtain ⟨it, fp, tn, J, H2, rfl, I2, T, st2, f2, q⟩ := h2
  refine wpAny_newObj_type (newEnv_comp ?_)
  generalize hC : s2.heap.objs.size = C
  have hCn : H2 C = none := I2.hok.fresh (Nat.le_of_eq hC)
  obtain ⟨W, ⟨m0, w0⟩, turn⟩ := q C hCn
  -- the new dict
  generalize hs3 : ({ s2 with heap := s2.heap.push { cls := .type "dict", data := .dict #[] } } : Shared) = s3
  have I3 : Inv X pins σ (upd H2 C (.dT [])) s3 := by
    rw [← hs3]
    refine I2.laid (t' := s2.toks) (fun b o e => Heap.get?_push_of_some _ e) (Nat.le_of_eq hC) ?_
    rw [← hC]; exact dt_empty s2.heap I2.big
  have up3 : ∀ {b : Addr} {o : Obj}, s2.heap.get? b = some o → s3.heap.get? b = some o := fun {b o} e => by rw [← hs3]; exact Heap.get?_push_of_some _ e
  have sz3 : s3.heap.objs.size = s2.heap.objs.size + 1 := by rw [← hs3]; exact Heap.size_push ..
  have f3 : ∀ b ∈ fp, FpOk X pins (upd H2 C (.dT [])) b ∧ b < s3.heap.objs.size := fun b hb => by
    obtain ⟨o, e, _⟩ := T.obj _ _ st2 b hb
    have lt := Heap.lt_size e
    exact ⟨⟨by rw [upd_ne (by rw [← hC]; exact Nat.ne_of_lt lt)]; exact (f2 b hb).1, (f2 b hb).2⟩, by rw [sz3]; exact Nat.lt_succ_of_lt lt⟩
  have st3 : tn 0 s3.heap := T.keep _ _ _ st2 fun b _ o e => up3 e
  have I4 := block_start I3 ok hN f3
  have nfp : ∀ b ∈ fp, (upd H2 C (.dT [])) b = none := fun b hb => (f3 b hb).1.1
  have pg := hg s3 (upd H2 C (.dT [])) s3.heap.objs.size (cellsFrom (s3.heap.objs.size + 1) scope.names (cloFrom X.env.cells scope.names [])) fp
  have pj := hi1 s3 (upd H2 C (.dT [])) s3.heap.objs.size (cellsFrom (s3.heap.objs.size + 1) scope.names (cloFrom X.env.cells scope.names [])) fp
  have ph := hg1 s3 (upd H2 C (.dT [])) s3.heap.objs.size (cellsFrom (s3.heap.objs.size + 1) scope.names (cloFrom X.env.cells scope.names [])) fp
  have pk := hk s3 (upd H2 C (.dT [])) s3.heap.objs.size (cellsFrom (s3.heap.objs.size + 1) scope.names (cloFrom X.env.cells scope.names [])) fp
  have pv := he s3 (upd H2 C (.dT [])) s3.heap.objs.size (cellsFrom (s3.heap.objs.size + 1) scope.names (cloFrom X.env.cells scope.names [])) fp
  show codeAny _ _ (.compStart (DC2 kx vx t0 i0 t1 i1 scope pos) 0 (.ref it) (.ref C) (compEnvC scope (cellsFrom (s3.heap.objs.size + 1) scope.names (cloFrom X.env.cells scope.names [])) s3.heap.objs.size X.env)) _ _
  generalize hce : compEnvC scope (cellsFrom (s3.heap.objs.size + 1) scope.names (cloFrom X.env.cells scope.names [])) s3.heap.objs.size X.env = ce at I4 pg pj ph pk pv ⊢
  have lce : ce.locals = s3.heap.objs.size := by rw [← hce]; rfl
  generalize hH3 : upd H2 C (.dT []) = H3 at I3 I4 pg pj ph pk pv w0 nfp f3
  generalize hs4 : ({ s3 with heap := pushCells (s3.heap.push { cls := .type "dict", data := .dict #[] }) scope.names } : Shared) = s4 at I4 ⊢
  have st4 : tn 0 s4.heap := by
    rw [← hs4]; exact T.keep _ _ _ st3 fun b _ o e => pushCells_keeps _ _ _ _ (Heap.get?_push_of_some _ e)
  have fpOk : ∀ H' : Hp, (∀ b ∈ fp, H' b = none) → ∀ b ∈ fp, FpOk (X.blk s3 H3 scope ce fp) [] H' b := fun H' hn b hb =>
    ⟨hn b hb, (I4.ok.exf b hb).1, I4.ok.exfs b hb, .inl hb, (I4.ok.exf b hb).2, fun p hp => by cases (show p ∈ ([] : List (Addr × Obj)) ++ [] from hp)⟩
  have loop : codeAny (model X.prog X.w) X.A (.compLoop (DC2 kx vx t0 i0 t1 i1 scope pos) 0 (.ref it) (.ref C) ce) (compPost (model X.prog X.w) X.A X.xe none (EP X pins σ Q) (.ref C) s3.heap.objs.size) s4 := by
    refine dc2_l0 (hf1 ce) (fun n u => ∃ i H', L2.Inv (X.blk s3 H3 scope ce fp) [] (L2.wipe σ (own.map (·.2))) H' u ∧ tn i u.heap ∧ (∀ b ∈ fp, H' b = none) ∧ W i n H') ?_ m0 ⟨0, H3, I4, st4, nfp, w0⟩
    rintro n s5 ⟨i, H5, I5, st5, n5, w5⟩
    rcases turn i n H5 w5 with ⟨stop, qq⟩ | ⟨go, N1, hN1, step⟩
    · refine noX (T.done (X.blk s3 H3 scope ce fp) rfl rfl rfl hc i [] s5 _ H5 NoX I5 (fpOk H5 n5) st5 stop) fun r s6 ⟨hr, I6⟩ => ?_
      subst hr
      have I7 : L2.Inv X pins σ H5 s6 := I3.call' (ch := fp) I6.os I6.base I6.hok I6.bare fun b hb => let ⟨_, q1, _, q3, q4, q5⟩ := (f3 b hb).1; ⟨q3, q1, q4, q5⟩
      have nL : H5 s3.heap.objs.size = none := by rw [← lce]; exact I6.free
      obtain ⟨m, hn, _⟩ := I6.loc
      obtain ⟨g0, g1, _, g3, g4, g5⟩ := I3.fpOk (Nat.le_refl _) nL
      have hn : s6.heap.Ns s3.heap.objs.size m := by rw [← lce]; exact hn
      exact ⟨m, hn, fun h1 sb => ⟨.ref C, H5, I7.turned (t' := s6.toks) (fun b o hb e => (sb.2 b hb).trans e) g0 g1 g3 g4 g5, rfl, qq⟩⟩
    · refine noX (walk_item (Y := X.blk s3 H3 scope ce fp) T hc rfl fpOk pg I5 n5 st5 go step) fun r s6 ⟨u, hr, h6⟩ => ?_
      subst hr
      refine noX h6 fun _ s7 h7 => noX h7 fun _ s8 ⟨pl, σ8, H8, I8, ⟨hw8, q8⟩, back⟩ => ?_
      refine noX (pj.run _ s8 σ8 H8 _ I8 q8) fun xv s9 hx => noX hx fun itv s10 h10 => ?_
      obtain ⟨it1, fp1, tn1, J1, H10, rfl, I10, T1, st10, f10, W1, ⟨m1, w1⟩, turn1⟩ := h10
      have fpOk1 : ∀ H' : Hp, (∀ b ∈ fp1, H' b = none) → ∀ b ∈ fp1, FpOk (X.blk s3 H3 scope ce fp) ([] ++ pl) H' b := fun H' hn b hb => ⟨hn b hb, (f10 b hb).2⟩
      have loop1 : codeAny (model X.prog X.w) X.A (.compLoop (DC2 kx vx t0 i0 t1 i1 scope pos) 1 (.ref it1) (.ref C) ce) (fun r u => ∃ f, r = .ok f ∧ ∃ m, m < n ∧ ∃ i H', L2.Inv (X.blk s3 H3 scope ce fp) [] (L2.wipe σ (own.map (·.2))) H' u ∧ tn i u.heap ∧ (∀ b ∈ fp, H' b = none) ∧ W i m H') s10 := by
        refine dc2_l1 (fun k u => ∃ j H', L2.Inv (X.blk s3 H3 scope ce fp) ([] ++ pl) (L2.wipe σ8 vs1) H' u ∧ tn1 j u.heap ∧ (∀ b ∈ fp1, H' b = none) ∧ W1 j k H') ?_ m1 ⟨0, H10, I10.weak (wipe_length _ _) (fun _ _ e => (wipe_some e).1), st10, fun b hb => (f10 b hb).1, w1⟩
        rintro k s11 ⟨j, H11, I11, st11, n11, w11⟩
        rcases turn1 j k H11 w11 with ⟨stop1, nx1⟩ | ⟨go1, N2, hN2, step1⟩
        · refine noX (T1.done (X.blk s3 H3 scope ce fp) rfl rfl rfl hc j _ s11 _ H11 NoX I11 (fpOk1 H11 n11) st11 stop1) fun r s12 ⟨hr, I12⟩ => ?_
          subst hr
          obtain ⟨m', hm, w'⟩ := hN1 H11 nx1
          obtain ⟨b1, b2, b3⟩ := back _ _ _ I12
          refine ⟨.next, rfl, m', hm, i + 1, H11, b1.weak (by rw [← hw8, wipe_length, wipe_length]) (fun j v e => ?_), b2, b3, w'⟩
          rw [← hw8] at e
          obtain ⟨e1, e2⟩ := wipe_some e
          rw [wipe_out fun z => e2 (hv j z)]; exact e1
        · refine noX (walk_item (Y := X.blk s3 H3 scope ce fp) T1 hc rfl fpOk1 ph I11 n11 st11 go1 step1) fun r s12 ⟨u1, hr, h12⟩ => ?_
          subst hr
          refine noX h12 fun _ s13 h13 => noX h13 fun _ s14 ⟨pl1, σ14, H14, I14, ⟨hw14, q14⟩, back1⟩ => ?_
          refine noX (pk.run _ s14 σ14 H14 _ I14 q14) fun a s15 ⟨ya, H15, I15, r15, q15⟩ => noX (pv.run _ s15 σ14 H15 _ I15 q15) fun b s16 ⟨yb, H16, I16, r16, kvs, kk, bb, ea, hC16, hb16, hl16, nx⟩ => ?_
          subst ea
          cases (show a = Value.ref bb from r15)
          refine put_tup (X := X.blk s3 H3 scope ce fp) hu I16 hC16 hb16 hl16 r16 fun s17 I17 => ?_
          obtain ⟨k', hk', w'⟩ := hN2 _ nx
          obtain ⟨c1, c2, c3⟩ := back1 _ _ _ I17
          exact ⟨k', hk', j + 1, _, c1.weak (by rw [← hw14, wipe_length]) (fun j v e => by rw [← hw14] at e; exact (wipe_some e).1), c2, c3, w'⟩
      exact dc2_s1 loop1 (T1.self X.A 0 _ _ _ st10 loop1)
  exact codeAny_compStart_dict loop (T.self X.A 0 _ _ _ st4 loop)
end
end MP

namespace MP
open PySem L2
theorem Post.imp {α β : Type} {RA : List Addr → Hp → α → β → Prop} {g : G} {E : XK} {ro : List Addr} {H : Hp} {Q Q' : β → Hp → Prop} {r : R α} (h : Post RA g E ro H Q r) (i : ∀ v H', Q v H' → Q' v H') : Post RA g E ro H Q' r := by
  cases r with
  | ok d S => exact fun ro1 H1 v a b c e => i _ _ (h ro1 H1 v a b c e)
  | exc x S => exact h
  | err => exact h
section
variable {X : Cx} {g : G} {E : XK} {n : Nat} {t t1 : TM} {vs vs1 : List Nat} {mk mv : EM}
theorem yes_of {s : L2.St} {H : Hp} {Q : Bool → Hp → Prop} (h : rdT g E0 MP.tYes s H Q) : Q true H := by
  obtain ⟨ro, L, S, hL, hS, h⟩ := h
  exact h ro H true (.refl _) (.refl _) hS rfl
theorem actD_ok {C : Addr} : ActOk g C n (actD n mk mv) fun s H N => rdE g E0 mk s H fun u H1 => rdE g E0 mv s H1 fun z H2 => ∃ kvs k b, u = .ref b ∧ H2 C = some (.dT kvs) ∧ H2 b = some (.tup (k.map kV)) ∧ kvs.length < sizeLine ∧ N (upd H2 C (.dT (putK kvs k z))) := by
  intro ro L S s H Nx hL hS hD h
  refine ⟨ro, L, S, hL, hS, ?_⟩
  unfold actD at h
  cases y : mk L S with
  | ok d1 S1 =>
    rw [y] at h
    simp only at h
    intro ro1 H1 v1 gr1 ex1 hS1 rv1
    refine ⟨ro1, L, S1, hL.mono gr1 ex1, hS1, ?_⟩
    cases y2 : mv L S1 with
    | ok d2 S2 =>
      rw [y2] at h
      simp only at h
      intro ro2 H2 v2 gr2 ex2 hS2 rv2
      split at h
      · rename_i kvs z3
        split at h
        · rename_i hk
          have h2 := gr2 _ _ (gr1 _ _ hD)
          obtain ⟨H', g1, ex3, hS3⟩ := dput_rel hS2 h2 z3 (RelD.mono gr2 ex2.tup _ _ rv1) hk.1 rv2 hk.2
          obtain ⟨ws, _, q⟩ := (show ∃ ws, RelTV ro2 H2 kvs ws ∧ AtL H2 C false (.dT ws) from hS2.at h2 z3)
          have q : H2 C = some (.dT ws) := q
          rcases g1 with ⟨kv, k, e, _⟩ | ⟨kv, k, b, e, ey, eb, l, eH⟩
          · rw [q] at e; cases e
          · subst eH
            exact ⟨kv, k, b, ey, e, eb, l, h ro2 _ (gr1.trans gr2) (ex1.trans (ex2.trans ex3)) hS3⟩
        · exact h.elim
      · exact h.elim
    | exc x S2 => rw [y2] at h; exact h.elim
    | err => rw [y2] at h; exact h.elim
  | exc x S1 => rw [y] at h; exact h.elim
  | err => rw [y] at h; exact h.elim
theorem dc2_rd [pt : PureT t] [pt1 : PureT t1] {w w1 : WM} {s : L2.St} {H : Hp} {Q : VK} (h : rdE g E (eDc2 w t w1 t1 mk mv vs vs1) s H Q) :
    tDc2 (rd (WkOk g) g E w) (rdGw g vs t) (rd (WkOk g) g E0 w1) (rdGw g vs1 t1) (rdE g E0 mk) (rdE g E0 mv) vs vs1 s H Q := by
  obtain ⟨ro, L, S, hL, hS, h⟩ := h
  refine ⟨ro, L, S, hL, hS, Post.bind h fun k S1 ro1 H1 J gr ex hS1 wk h => ?_⟩
  intro C hC
  have hS2 : RelS g (ro1 ++ [C]) (S1 ++ [.dic true false []]) (upd H1 C (.dT [])) := hS1.push hC (show ∃ ws, RelTV _ _ [] ws ∧ AtL _ C false (.dT ws) from ⟨[], .nil, upd_same⟩)
  have hDn : (ro1 ++ [C])[S1.length]? = some C := by rw [← hS1.len, List.getElem?_append_right (Nat.le_refl _), Nat.sub_self] <;> rfl
  have hW := out_rd (D := C) (n := S1.length) (act := actD S1.length mk mv) (Nx := Q (.ref C)) actD_ok (wk.mono (.snoc _ _) (.new hC)) (RelL.mono (gr.trans (.snoc _ _)) (ex.trans (.new hC)).tup hL) hS2 hDn (t := t) (t1 := t1) (vs := vs) (vs1 := vs1) (w1 := w1) (by
    cases y : n2out k.chk t w1 t1 vs1 (actD S1.length mk mv) (MP.wipe L vs) k.items (S1 ++ [.dic true false []]) with
    | ok u S3 =>
      rw [y] at h
      intro ro3 H3 gr3 ex3 hS3
      exact h ro3 H3 _ ((Gr.snoc ro1 C).trans gr3) ((Ext.new hC).trans ex3) hS3 (.ref_mk (gr3 _ _ hDn))
    | exc x3 S3 => exact absurd y n2out_exc
    | err => rw [y] at h; exact h.elim)
  obtain ⟨W, hm, turn⟩ := hW
  refine ⟨W, hm, fun i m H2 w2 => ?_⟩
  rcases turn i m H2 w2 with ⟨a, b⟩ | ⟨go, N1, hN, step⟩
  · exact .inl ⟨a, b⟩
  · refine .inr ⟨go, N1, hN, fun x H3 hy => ?_⟩
    obtain ⟨ro3, L3, S3, d3, a1, a2, a3, L4, a4, a5⟩ := step x H3 hy
    refine ⟨ro3, L3, S3, d3, a1, a2, a3, L4, a4, fun H4 s4 b1 b2 b3 b4 => ?_⟩
    obtain ⟨c1, c2⟩ := a5 H4 s4 b1 b2 b3 b4
    refine ⟨c1, ?_⟩
    have c3 := yes_of c2
    rw [if_pos rfl] at c3
    obtain ⟨ro5, L5, S5, e1, e2, e3⟩ := c3
    refine ⟨ro5, L5, S5, e1, e2, Post.imp e3 fun J1 H7 ⟨W1, hm1, turn1⟩ => ⟨W1, hm1, fun j k8 H8 w8 => ?_⟩⟩
    rcases turn1 j k8 H8 w8 with ⟨a, b⟩ | ⟨go1, N2, hN2, step1⟩
    · exact .inl ⟨a, b⟩
    · refine .inr ⟨go1, N2, hN2, fun y H9 hy1 => ?_⟩
      obtain ⟨ro9, L9, S9, d9, f1, f2, f3, L10, f4, f5⟩ := step1 y H9 hy1
      refine ⟨ro9, L9, S9, d9, f1, f2, f3, L10, f4, fun H10 s10 g1 g2 g3 g4 => ?_⟩
      obtain ⟨h1, h2⟩ := f5 H10 s10 g1 g2 g3 g4
      have h3 := yes_of h2
      rw [if_pos rfl] at h3
      exact ⟨h1, h3⟩
theorem se_dc2 {kx vx tg iter tg1 iter1 : Expr} {scope : Scope} {pos : Pos} {own : List (Str × Nat)} {w w1 : WM} [pt : PureT t] [pt1 : PureT t1] (cx : Ctx g E X) (hc : X.calm = true) (hN : X.N.Nodup) (hi : SI X g E tg iter w) (ok : BlkOk X.N X.env.scope scope own) (hv : ∀ i ∈ vs1, i ∈ own.map (·.2))
    (hg : ∀ (s : Shared) (H : Hp) (C : Addr) (cl : List (Str × Addr)) (fp : List Addr), SGw (X.blk s H scope (compEnvC scope cl C X.env) fp) g (own.map (·.2)) tg t) (hi1 : ∀ (s : Shared) (H : Hp) (C : Addr) (cl : List (Str × Addr)) (fp : List Addr), SI (X.blk s H scope (compEnvC scope cl C X.env) fp) g E0 tg1 iter1 w1)
    (hg1 : ∀ (s : Shared) (H : Hp) (C : Addr) (cl : List (Str × Addr)) (fp : List Addr), SGw (X.blk s H scope (compEnvC scope cl C X.env) fp) g vs1 tg1 t1) (hk : ∀ (s : Shared) (H : Hp) (C : Addr) (cl : List (Str × Addr)) (fp : List Addr), SE (X.blk s H scope (compEnvC scope cl C X.env) fp) g E0 kx mk)
    (he : ∀ (s : Shared) (H : Hp) (C : Addr) (cl : List (Str × Addr)) (fp : List Addr), SE (X.blk s H scope (compEnvC scope cl C X.env) fp) g E0 vx mv)
    (hs : ∀ x, foldedSetIterable iter X.env x = pure x := by intro _; rfl) (hs1 : ∀ env x, foldedSetIterable iter1 env x = pure x := by intro _ _; rfl) :
    SE X g E (.DictComp kx vx [⟨tg, iter, [], 0⟩, ⟨tg1, iter1, [], 0⟩] scope pos) (eDc2 w t w1 t1 mk mv (own.map (·.2)) vs1) :=
  ⟨pe_imp (pe_dc2 hc hN (by have := cx.units; omega) hi.run ok hv (fun s H C cl fp => (hg s H C cl fp).run) (fun s H C cl fp => (hi1 s H C cl fp).run) (fun s H C cl fp => (hg1 s H C cl fp).run) (fun s H C cl fp => (hk s H C cl fp).run) (fun s H C cl fp => (he s H C cl fp).run) hs hs1) fun s H Q h => dc2_rd h⟩
end
end MP

namespace MP
open PySem PySem.Spec PyProof.Rows L2
section
variable {X : Cx} {e : Expr} {es : List Expr} {ta : TA} {p1 p2 pos : Pos} {name : Str} {W : Addr} {mc : Value}
/-- B.__init__(self, ..), B an own class that has ValueError's -/
theorem pe_baseinit {pl : Sem Bool} (hg : Gl X name) (hm : X.mg name = some (.ref W)) (rd : PySem.W.readsIn X.K W mc = true) (ga : PySem.W.specialIn X.K (.ref W) "__getattribute__" = some (some (.builtin "type.__getattribute__"))) (at_ : PySem.W.findCls X.K (.ref W) mc "__init__" = some (.val (.builtin "ValueError.__init__"))) (ha : PA X (e :: es) ta)
    (hdb : (name == ("__debug__" : Str)) = false := by decide)
    (hc : eval (.Call (.Attribute (.Name name p1) "__init__" p2) (e :: es) [] pos) X.env = (do let ov ← eval (.Name name p1) X.env; standAt p2.atName; let (f, first) ← holding [ov] (getMethod ov "__init__" pl); callWith pos f first (backTo pos (starEach (e :: es) X.env)) (backToKw pos (keywordEach [] X.env))) := by rfl)
    (he : starEach (e :: es) X.env = (false, eval e X.env) :: starEach es X.env := by rfl) (hpl : (backTo pos (starEach es X.env)).any (·.1) = false := by rfl) :
    PE X (.Call (.Attribute (.Name name p1) "__init__" p2) (e :: es) [] pos) (tVeI X.K ta) := by
  refine ⟨fun pins s σ H Q I h => PySem.W.methodCall_KW (ld_glob I hg hm ?_ hdb) hc⟩
  refine PySem.W.method_cls I.kIn ga (PySem.W.cls_value I.kIn rd at_ rfl ?_)
  show wpAny _ _ (callWith pos (.builtin "ValueError.__init__") [] (backTo pos (starEach (e :: es) X.env)) []) _ _ _
  refine PyProof.Rows.callWith_method1 (thn (ha.run pos pins _ σ H _ (I.tok _) h) fun us s1 ⟨vs, H1, I1, r1, a, C, ws, ev, hl, T, ea, q⟩ => ?_) he hpl
  subst ev
  cases r1 with
  | @cons _ u0 _ ur ra rw' =>
    obtain rfl : u0 = Value.ref a := ra
    exact oinit_ok T I1 ea (by rw [← Paired.length rw', sizeLine_eq]; omega) fun s' J => ⟨.non, H1, J, rfl, q⟩
end
/-- what such an __init__ does: self gets the one field -/
def initSp (C : Addr) (f : Str) : Sp := fun vs H Q _ => ∃ (a : Addr) (v : V), vs = [.ref a, v] ∧ H a = some (exo a C none) ∧ ∀ dx, H dx = none → dx ≠ a → Q .non (upd (upd H dx (exd dx [(f, v)])) a (exo a C (some dx)))
/-- the facts of such a class -/
structure ExI (g : G) (x : Str) (c : Nat) (f : Str) (fI : Addr) : Prop where
  mgx : g.mg x = some (.ref (g.ecls c))
  T : OexC g.K (g.ecls c)
  iC : PySem.W.findIn g.K (.ref (g.ecls c)) "__init__" = some (some (.ref fI))
  tI : PySem.W.typeIn g.K (.ref fI) = some (.type "function")
  no : PySem.W.findIn g.K (.ref (g.ecls c)) f = some none
theorem init_ok {g : G} {k c : Nat} {x f b y z : Str} {msg : Str} {qual : Str} {params : Arguments} {sc : Scope} {fI W : Addr} {fd : FuncData} {mc : Value} {j : Nat} {pa pb pc pd pe pf pg ph pi pj pk : Pos} {pl : Sem Bool}
    (h : ExI g x c f fI) (F : FunD g.K "__init__" qual params [.Expr (.Call (.Attribute (.Name b pa) "__init__" pb) [.Name y pc, .Constant (.str msg) j pd] [] pe) pf, .Assign [.Attribute (.Name y pg) f ph] (.Name z pi) pj] sc [] [] fI fd) (S : FnScope [y, z] [y, z] sc)
    (hb : sc.names.lookup b = some .globalImplicit) (hbm : g.mg b = some (.ref W)) (rd : PySem.W.readsIn g.K W mc = true) (ga : PySem.W.specialIn g.K (.ref W) "__getattribute__" = some (some (.builtin "type.__getattribute__"))) (at_ : PySem.W.findCls g.K (.ref W) mc "__init__" = some (.val (.builtin "ValueError.__init__")))
    (hy : Vis sc y) (hz : Vis sc z) (d1 : (b == ("__debug__" : Str)) = false) (d2 : (y == ("__debug__" : Str)) = false) (d3 : (z == ("__debug__" : Str)) = false) (d4 : (y == ("__classdict__" : Str)) = false) (d5 : (z == ("__classdict__" : Str)) = false)
    (hc : ∀ env, eval (.Call (.Attribute (.Name b pa) "__init__" pb) [.Name y pc, .Constant (.str msg) j pd] [] pe) env = (do let ov ← eval (.Name b pa) env; standAt pb.atName; let (fn, first) ← holding [ov] (getMethod ov "__init__" pl); callWith pe fn first (backTo pe (starEach [.Name y pc, .Constant (.str msg) j pd] env)) (backToKw pe (keywordEach [] env))) := by intro _; rfl)
    (hs : ∀ env, swapsWith (.Name z pi) (some (.Attribute (.Name y pg) f ph)) pj.line env = pure false := by intro _; rfl) (hs2 : ∀ env, swapsWith (.Call (.Attribute (.Name b pa) "__init__" pb) [.Name y pc, .Constant (.str msg) j pd] [] pe) none pf.line env = pure false := by intro _; rfl)
    (h1 : ∀ env, starEach [.Name y pc, .Constant (.str msg) j pd] env = (false, eval (.Name y pc) env) :: starEach [.Constant (.str msg) j pd] env := by intro _; rfl) (h2 : ∀ env, starEach [.Constant (.str msg) j pd] env = (false, eval (.Constant (.str msg) j pd) env) :: starEach [] env := by intro _; rfl)
    (h3 : ∀ env, (backTo pe (starEach [.Constant (.str msg) j pd] env)).any (·.1) = false := by intro _; rfl) :
    FnOk g.P g.w g.K g.mg g.base (L2N.CX g.P g.w) (k + 1) fI fd [y, z] (initSp (g.ecls c) f) := by
  refine F.ok S (fun vs H Q E ⟨a, v, e, _⟩ => by rw [e]; rfl) fun cdv A outer s H vs Q E hr ⟨a, v, e, ha, q⟩ => ?_
  subst e
  refine ⟨_, pss_cons (ps_expr (pe_baseinit (mc := mc) ?_ hbm rd ga at_ (pa_cons (pe_var (i := 0) rfl hy d2 d4) (pa_cons pe_str pa_nil (h2 _)) (h1 _)) d1 (hc _) (h1 _) (h3 _)) (hs2 _)) (pss_one (ps_ost (pe_var (i := 0) rfl hy d2 d4) (pe_var (i := 1) rfl hz d3 d5) (hs _))), ?_⟩
  · exact hb
  · refine ⟨_, rfl, a, g.ecls c, _, rfl, by simp, h.T, ha, _, rfl, _, rfl, a, g.ecls c, rfl, h.T, h.no, .inl ⟨ha, fun dx n ne => q dx n ne⟩⟩
section
variable {X : Cx} {e : Expr} {p p2 pos pos2 : Pos} {x f : Str} {g : G} {E : XK} {me : EM} {c k : Nat} {fI : Addr}
/-- C(e), C such a class -/
theorem pmk_init {ta : TA} {fd : FuncData} {ps : List Str} (h : ExI g x c f fI) (hK : X.K = g.K) (hM : X.mg = g.mg) (F1 : FnOk X.prog X.w X.K X.mg X.base (L2N.CX X.prog X.w) k fI fd ps (initSp (g.ecls c) f)) (hr : Room (k + 1) X.A) (hb : Binds X.K fd ps []) (hx : Passes (L2N.CX X.prog X.w) X (fun _ _ _ => False)) (hg : Gl X x) (ha : PA X [e] ta)
    (hdb : (x == ("__debug__" : Str)) = false := by decide) (he : starEach [e] X.env = (false, eval e X.env) :: starEach [] X.env := by rfl) (hpl : (backTo pos (starEach [] X.env)).any (·.1) = false := by rfl) :
    L2N.PMk X (.Call (.Name x p) [e] [] pos) (fun σ H Q => ta σ H fun vs H1 => ∃ v, vs = [v] ∧ ∀ d, H1 d = none → Q (.ref (g.ecls c)) (some d) (upd H1 d (.xd [(f, v)]))) := by
  intro pins s σ H Q I w
  have T := h.T
  rw [← hK] at T
  obtain ⟨nm, qn, N, bs, bm, sn, sub, ab, col, dd, k0, k1, k2, k3, k5, hC, hbm⟩ := T.cls
  refine wpAny_Call_Name_kw (ld_glob I hg (by rw [hM]; exact h.mgx) ?_ hdb)
  refine PySem.W.callWith_K (h₀ := X.base) I.ok.mod.kin T.kC (thn (ha.run pos pins s σ H _ I w) fun us s1 ⟨vs, H1, I1, r1, v, ev, q1⟩ => ⟨I1.kIn, ?_⟩) he hpl
  subst ev
  show wpAny _ _ (call (.ref (g.ecls c)) us) _ _ _
  obtain ⟨hp, gs, dr, tk, os⟩ := s1
  have up : ∀ b o, hp.get? b = some o → ((hp.push (PySem.W.kdv_tup us)).push (PySem.HandSPX.excO (g.ecls c) hp.objs.size)).get? b = some o := fun b o z => Heap.get?_push_of_some _ (Heap.get?_push_of_some _ z)
  have got : ((hp.push (PySem.W.kdv_tup us)).push (PySem.HandSPX.excO (g.ecls c) hp.objs.size)).get? (hp.objs.size + 1) = some (PySem.HandSPX.excO (g.ecls c) hp.objs.size) := by heap_get
  have lo : hp.objs.size ≤ hp.objs.size + 1 := Nat.le_succ _
  have none1 : H1 (hp.objs.size + 1) = none := I1.hok.fresh lo
  have I2 : Inv X pins σ (upd H1 (hp.objs.size + 1) (exo (hp.objs.size + 1) (g.ecls c) none)) ⟨(hp.push (PySem.W.kdv_tup us)).push (PySem.HandSPX.excO (g.ecls c) hp.objs.size), gs, dr, tk, os⟩ := I1.laid (t' := tk) up lo (exo_ok got)
  have r2 : Vals [V.ref (hp.objs.size + 1), v] (Value.ref (hp.objs.size + 1) :: us) := .cons rfl r1
  have sp : initSp (g.ecls c) f [.ref (hp.objs.size + 1), v] (upd H1 (hp.objs.size + 1) (exo (hp.objs.size + 1) (g.ecls c) none)) (fun u H2 => u = .non ∧ ∃ d, H2 = upd (upd (upd H1 (hp.objs.size + 1) (exo (hp.objs.size + 1) (g.ecls c) none)) d (exd d [(f, v)])) (hp.objs.size + 1) (exo (hp.objs.size + 1) (g.ecls c) (some d)) ∧ H1 d = none ∧ d ≠ hp.objs.size + 1) (fun _ _ _ => False) :=
    ⟨_, v, rfl, upd_same, fun d nd ne => ⟨rfl, d, rfl, by rwa [upd_ne ne] at nd, ne⟩⟩
  have len1 : (Value.ref (hp.objs.size + 1) :: us ++ []).length = ps.length := by
    have z := r2.length
    rw [F1.len _ _ _ _ sp] at z
    rw [List.append_nil]; exact z.symm
  have bnd := hb _ (Value.ref (hp.objs.size + 1) :: us) I2.kIn len1
  rw [List.append_nil] at bnd
  have lus : us.length ≤ sizeLine := by rw [← Paired.length r1, sizeLine_eq]; simp
  refine wpAny_call (PySem.HandSPX.call_own F.excBase_ValueError (fun Y => PySem.HandSPX.refsVE_contains Y bm hbm) (I1.kIn _ _ hC) (PySem.W.looks_findIn I1.kIn (by rw [hK]; exact h.iC)) (fun self => PySem.W.bind_fn I1.kIn self (by rw [hK]; exact h.tI)) lus
    (codeAny_mono (F1.run _ X.stack _ _ ⟨Value.ref (hp.objs.size + 1) :: us, []⟩ (Value.ref (hp.objs.size + 1) :: us) _ _ (fun _ _ _ => False) (hr.make _ us []) (I2.env0.make _ us []) bnd r2 sp) fun r s' hq => ?_))
  cases r with
  | error er => exact hx pins σ _ _ er s' I2 hq
  | ok fl =>
    cases fl with
    | ret u =>
      obtain ⟨y, H2, os2, bare2, un2, hok2, rv, ey, d, eH, nd, ned⟩ := hq
      subst ey
      obtain ⟨h2, g2, d2, t2, os'⟩ := s'
      have a1 : H2 (hp.objs.size + 1) = some (exo (hp.objs.size + 1) (g.ecls c) (some d)) := by rw [eH]; exact upd_same
      have a2 : H2 d = some (exd d [(f, v)]) := by rw [eH, upd_ne ned]; exact upd_same
      obtain ⟨t0, G1, J, kG, ge, hoe, na⟩ := mk_end0 (d2 := d2) (t2 := t2) I1 lo up un2 hok2 os2 bare2 a1 a2 nd
      have eF : upd (del H2 (hp.objs.size + 1)) d (.xd [(f, v)]) = upd H1 d (.xd [(f, v)]) := by
        funext b
        by_cases e1 : b = d
        · rw [e1, upd_same, upd_same]
        · rw [upd_ne e1, upd_ne e1]
          by_cases e2 : b = hp.objs.size + 1
          · rw [e2, del_same, none1]
          · rw [del_ne e2, eH, upd_ne e2, upd_ne e1, upd_ne e2]
      refine ⟨rv, ⟨hp.objs.size + 1, _, _, ⟨G1, g2, d2, t2, os'⟩, _, .ref (g.ecls c), some d, rfl, J, kG, ge, hoe, ⟨rfl, rfl, fun vs hv => by cases hv; rfl⟩, rfl, rfl, na, rfl, bare2, raises_own T.exC T.tyC, ?_⟩⟩
      rw [eF]
      exact q1 d nd
    | next => exact False.elim hq
    | brk => exact False.elim hq
    | cont => exact False.elim hq
end
end MP

namespace MP
open PySem L2 PySem.Spec PyProof.Rows
section
variable {prog : Program} {w : World} {A : Around} {E : Value → Shared → Prop} {s : Shared} {K : PySem.W.Frag} {x C L f : Addr} {h₀ : Heap} {m : Str → Option Value} {ox : Obj} {od : Option Obj} {b tb : Value}
/-- o != b, by the own == -/
theorem ne_K {Q : Value → Shared → Prop} (hu : A.units + 1 < cLine) (Fm : Fr h₀ L s.heap m) (X₀ : K.In h₀) (I : PySem.W.InstAt s.heap x ox C od) (hb : PySem.W.Looks (model prog w) s.heap (typeOf b) tb) (hn : PySem.W.notFirst K C tb = true)
    (hs : PySem.W.findIn K (.ref C) "__ne__" = some (some (.builtin "object.__ne__"))) (he : PySem.W.findIn K (.ref C) "__eq__" = some (some (.ref f))) (hf : PySem.W.isFn K (.ref f) = true) (hm : PySem.W.mroIn K C (.type "object") = some true)
    (h : wpAny (model prog w) A.in1 (call (.ref f) [.ref x, b]) (fun v s' => ∃ r, v = .bool r ∧ Q (.bool (!r)) s') E s) : wpAny (model prog w) A (richCompare .NotEq (.ref x) b) Q E s := by
  have Xk := X₀.keeps Fm.keep
  have hu0 : A.units < cLine := Nat.lt_of_succ_lt hu
  have isObj : PySem.W.Looks (model prog w) s.heap (isInstance (.ref x) (.type "object")) true := I.type.andThen (PySem.W.looks_mroIn Xk hm)
  have body : wpAny (model prog w) A.in1 (Builtin.«object.__ne__» ⟨[.ref x, b], []⟩) (fun fin s' => match fin with
      | .done fl => (match (Except.ok fl : Result) with | .ok (.ret v) => ∃ r, v = .bool r ∧ Q v s' | _ => False)
      | .again c' => False) E s := by
    unfold Builtin.«object.__ne__»
    repeat (first
      | with_reducible refine wpAny_cRoomFor (show A.in1.units < cLine from hu) ?_
      | (refine wpAny_bind (m := callSpecialIfBound? (.ref x) (Str.ofString "__eq__") [b])
          (PySem.W.ifBound_K Xk I he hf (wpAny_mono h (fun r s' hr => by
            obtain ⟨q, rfl, hq⟩ := hr
            repeat (first | exact wpAny_pure ⟨_, rfl, hq⟩ | exact wpAny_truthy_bool hq | (refine wpAny_bind (m := truthy (.bool _)) (wpAny_truthy_bool ?_)) | wp_step)) fun _ _ e => e)))
      | wp_step)
  have one : wpAny (model prog w) A (call (.builtin "object.__ne__") [.ref x, b]) (fun v s' => ∃ r, v = .bool r ∧ Q v s') E s := by
    refine wpAny_call (codeAny_call_builtin PySem.F.cmp_object.ne.plain PySem.F.cmpEntry_ne (@PySem.W.check_slot (model prog w) _ _ _ "object.__ne__" "object" "__ne__" (.ref x) [b] [] _ PySem.F.cmpKind_ne PySem.F.cmpSplit_ne isObj (PySem.F.cmpArgs_ne _ _) ?_))
    refine wpAny_mono body (fun fin s' z => ?_) fun _ _ e => e
    cases fin with
    | done fl =>
      cases fl with
      | ret v => exact z
      | _ => exact z.elim
    | again c => exact z.elim
  have two : wpAny (model prog w) A (tryCompare (.ref x) "__ne__" b) (fun r s' => ∃ v, r = some v ∧ Q v s') E s := by
    unfold tryCompare
    refine wpAny_bind ?_
    simp only [callSpecialIfBound?, bindSpecialIfBound?]
    refine wpAny_holding (wpAny_bind (wpAny_bind (wpAny_bind (I.type.here ((PySem.W.looks_findIn Xk hs).here ?_)))))
    have fin : wpAny (model prog w) A (call (.builtin "object.__ne__") ([.ref x] ++ [b]) >>= fun v => pure (some v)) (fun r s' => wpAny (model prog w) A (match r with | some .notImplemented | none => pure none | some v => pure (some v)) (fun r s' => ∃ v, r = some v ∧ Q v s') E s') E s := by
      refine wpAny_bind (wpAny_mono one (fun v s' z => ?_) fun _ _ e => e)
      obtain ⟨r, rfl, hq⟩ := z
      exact wpAny_pure (wpAny_pure ⟨_, rfl, hq⟩)
    simp only [PySem.F.cmp_object.ne.bind]
    refine wpAny_bind (wpAny_askSetting (wpAny_ite ?_))
    split
    · exact wpAny_bind (wpAny_pure (wpAny_pure (by exact fin)))
    · exact wpAny_tryCatch (wpAny_bind (wpAny_pure (wpAny_pure (by exact fin))))
  unfold richCompare
  simp only [oneThing_ref]
  refine wpAny_holding (wpAny_bind (wpAny_cRoomFor hu0 ?_))
  rw [cmpInfo_NotEq]
  dsimp only
  refine wpAny_bind (I.type.here (wpAny_bind (hb.here ?_)))
  split
  · rename_i q
    have e : PySem.W.subIn K tb (.ref C) = some false := by
      rcases Bool.or_eq_true_iff.mp hn with e | e
      · rw [beq_iff_eq.mp e] at q; simp at q
      · exact beq_iff_eq.mp e
    refine wpAny_bind ((PySem.W.looks_subIn Xk e).here ?_)
    simp only [Bool.false_eq_true, if_false]
    refine wpAny_bind (wpAny_mono two (fun r s' z => ?_) fun _ _ e => e)
    obtain ⟨v, rfl, hq⟩ := z
    exact wpAny_pure hq
  · refine wpAny_bind (wpAny_pure ?_)
    simp only [Bool.false_eq_true, if_false]
    refine wpAny_bind (wpAny_mono two (fun r s' z => ?_) fun _ _ e => e)
    obtain ⟨v, rfl, hq⟩ := z
    exact wpAny_pure hq
end
/-- what of the text a class with an own ==, or one that is asked for, must have -/
structure OwnC (K : PySem.W.Frag) (C : Addr) : Prop where
  ne : PySem.W.findIn K (.ref C) "__ne__" = some (some (.builtin "object.__ne__"))
  at' : PySem.W.findIn K (.ref C) "__class__" = some (some (.builtin "object.__class__"))
  hn : PySem.W.specialIn K (.builtin "object.__class__") "__get__" = some (some (.builtin "getset_descriptor.__get__"))
  htk : PySem.W.takesIn K (.builtin "object.__class__") = some true
  ob : PySem.W.mroIn K C (.type "object") = some true
  dc : PySem.W.kitOne K (.type "dict") (.ref C) = some false
def ownCB (K : PySem.W.Frag) (C : Addr) : Bool :=
  decide (PySem.W.findIn K (.ref C) "__ne__" = some (some (.builtin "object.__ne__"))) && (decide (PySem.W.findIn K (.ref C) "__class__" = some (some (.builtin "object.__class__"))) &&
  (decide (PySem.W.specialIn K (.builtin "object.__class__") "__get__" = some (some (.builtin "getset_descriptor.__get__"))) && (decide (PySem.W.takesIn K (.builtin "object.__class__") = some true) &&
  (decide (PySem.W.mroIn K C (.type "object") = some true) && decide (PySem.W.kitOne K (.type "dict") (.ref C) = some false)))))
theorem ownCB_ok {K : PySem.W.Frag} {C : Addr} (h : ownCB K C = true) : OwnC K C := by
  unfold ownCB at h
  simp only [Bool.and_eq_true, decide_eq_true_eq] at h
  obtain ⟨h1, h2, h3, h4, h5, h6⟩ := h
  exact ⟨h1, h2, h3, h4, h5, h6⟩
/-- a class whose own == computes F -/
def Eqf (g : G) (k : Nat) (c : Nat) (F : Fn) : Prop := OwnC g.K (g.cls c) ∧ ∃ (f : Addr) (fd : FuncData) (ps : List Str), FOk g k f fd ps F ∧ Meth g.K (g.cls c) "__eq__" f ∧ Binds g.K fd ps []
theorem Eqf.of {g : G} {k c : Nat} {F : Fn} (h : Me g k c "__eq__" F) (o : OwnC g.K (g.cls c)) : Eqf g k c F := by
  obtain ⟨f, fd, ps, h1, _, h2, h3⟩ := h
  exact ⟨o, f, fd, ps, h1, h2, h3⟩
section
variable {X : Cx} {g : G} {E : XK} {a : Expr} {ma : EM} {pos p p2 : Pos}
/-- the own == runs -/
theorem eq_run {k : Nat} {F : Fn} {f : Addr} {fd : FuncData} {ps : List Str} (cx : Ctx g E X) (h : FOk g k f fd ps F) (hb : Binds g.K fd ps []) {A : Around} (hr : Room k A) (hA : A.frames = X.A.frames) {pins : List (Addr × Obj)} {σ : L2.St} {H : Hp} {s : Shared} (I : Inv X pins σ H s)
    {ro : List Addr} {S S1 : Sto} {n m : Nat} (hS : RelS g ro S H) {b1 b2 : Addr} (h1 : ro[n]? = some b1) (h2 : ro[m]? = some b2) {bo : Bool} (e : F [.ref n, .ref m] S = .ok (.bl bo) S1) {Q : Value → Shared → Prop} {Er : Value → Shared → Prop}
    (q : ∀ s' (ro' : List Addr) (H' : Hp), Inv X pins σ H' s' → Gr ro ro' → MP.Ext H H' → RelS g ro' S1 H' → Q (.bool bo) s') : wpAny (model X.prog X.w) A (call (.ref f) [.ref b1, .ref b2]) Q Er s := by
  have e0 : Env0 X.prog X.w X.K X.mg X.base A X.stack s H := by
    have e := I.env0
    exact ⟨by rw [hA]; exact e.frames, e.mod, e.bs, e.bsz, e.funs, e.frf, e.hok, e.bare⟩
  have sp : spM g F [.ref b1, .ref b2] H (fun v H' => v = .bl bo ∧ ∃ ro', Gr ro ro' ∧ MP.Ext H H' ∧ RelS g ro' S1 H') E0 := ⟨ro, S, [.ref n, .ref m], hS, .cons (.ref_mk h1) (.cons (.ref_mk h2) .nil), by
    rw [e]
    exact fun ro' H' v gr ex R rv => ⟨rv.bl_inv, ro', gr, ex, R⟩⟩
  have h := h.at cx
  have hl := h.len _ _ _ _ sp
  have r2 : Vals [V.ref b1, V.ref b2] [Value.ref b1, Value.ref b2] := .cons rfl (.cons rfl .nil)
  have hb : Binds X.K fd ps [] := by rw [cx.K]; exact hb
  refine wpAny_call (codeAny_mono (h.run A X.stack s H ⟨[.ref b1, .ref b2], []⟩ [.ref b1, .ref b2] [.ref b1, .ref b2] _ E0 hr e0 (by
    have := hb s [.ref b1, .ref b2] I.kIn (by simpa using hl)
    simpa using this) r2 sp) fun r s' hq => ?_)
  cases r with
  | error e =>
    obtain ⟨_, _, _, _, _, _, _, _, _, _, _, _, z⟩ := (show L2N.CX X.prog X.w X.stack H s E0 e s' from hq)
    exact z.elim
  | ok fl =>
    cases fl with
    | ret w =>
      obtain ⟨z, H', I', rz, ez, ro', gr, ex, R⟩ := I.after hq
      subst ez
      cases rz
      exact q s' ro' H' I' gr ex R
    | next => exact False.elim hq
    | brk => exact False.elim hq
    | cont => exact False.elim hq
/-- the right side's type -/
theorem right_ty {c m : Nat} {ro : List Addr} {S : Sto} {H : Hp} {pins : List (Addr × Obj)} {σ : L2.St} {s : Shared} (cx : Ctx g E X) (I : Inv X pins σ H s) (hS : RelS g ro S H) {b : Addr} {o : Ob} (h : ro[m]? = some b) (e : S[m]? = some o) (ok : okE c o = true) :
    ∃ tb, PySem.W.Looks (model X.prog X.w) s.heap (typeOf (.ref b)) tb ∧ PySem.W.notFirst X.K (g.cls c) tb = true := by
  have q := hS.at h e
  cases o with
  | ins c2 fs =>
    obtain rfl : c2 = c := of_decide_eq_true ok
    obtain ⟨dx, ws, _, q⟩ := q
    obtain ⟨mB, J, _⟩ := ins_get I.hok q
    obtain ⟨od, J, _⟩ := J.look
    exact ⟨_, J.type, by simp [PySem.W.notFirst]⟩
  | dic t lk kvs =>
    cases lk with
    | true => cases ok
    | false =>
      have nf : PySem.W.notFirst X.K (g.cls c) (.type "dict") = true := by
        have z : PySem.W.subIn X.K (.type "dict") (.ref (g.cls c)) = some false := by
          have : fastBuiltinMro "dict" = some [.type "dict", .type "object"] := by first | rfl | decide +kernel
          simp [PySem.W.subIn, this]
        simp [PySem.W.notFirst, z]
      cases t with
      | true =>
        obtain ⟨ws, _, q⟩ := (show ∃ ws, RelTV ro H kvs ws ∧ AtL H b false (.dT ws) from q)
        have q : H b = some (.dT ws) := q
        obtain ⟨_, _, xs, _, o, es, ep, h1, h2, _⟩ := (show ObjOk X.prog X.w H s.heap b (.dT ws) from I.hok b _ q)
        exact ⟨.type "dict", by have z := PySem.W.Looks.ld (M := model X.prog X.w) (part := none) h1; refine z.andThen ?_; rw [h2.1]; exact .now, nf⟩
      | false =>
        obtain ⟨ws, _, q⟩ := (show ∃ ws, RelKV ro H kvs ws ∧ AtL H b false (.dK ws) from q)
        have q : H b = some (.dK ws) := q
        obtain ⟨_, _, vs, _, o, es, ep, h1, h2, _⟩ := (show ObjOk X.prog X.w H s.heap b (.dK ws) from I.hok b _ q)
        exact ⟨.type "dict", by have z := PySem.W.Looks.ld (M := model X.prog X.w) (part := none) h1; refine z.andThen ?_; rw [h2.1]; exact .now, nf⟩
  | _ => cases ok
theorem eqO_inv {c : Nat} {F : Fn} {kf : Bool → Bool} {x y : D} {S : Sto} {ro : List Addr} {H : Hp} {Q : VK} (w : Post RelD g E ro H Q (eqO c F kf x y S)) :
    ∃ n m fs o bo S1, x = .ref n ∧ y = .ref m ∧ S[n]? = some (.ins c fs) ∧ S[m]? = some o ∧ okE c o = true ∧ F [.ref n, .ref m] S = .ok (.bl bo) S1 ∧ Post RelD g E ro H Q (.ok (.bl (kf bo)) S1) := by
  unfold eqO at w
  split at w
  · rename_i n m
    split at w
    · rename_i c' fs o e1 e2
      split at w
      · rename_i hc
        obtain ⟨rfl, ok⟩ := hc
        split at w
        · rename_i bo S1 e3
          exact ⟨n, m, fs, o, bo, S1, rfl, rfl, e1, e2, ok, e3, w⟩
        · exact w.elim
      · exact w.elim
    · exact w.elim
  · exact w.elim
theorem o_eqO {k c : Nat} {F : Fn} (cx : Ctx g E X) (d : Eqf g k c F) (hr : Room k X.A) : O2 X g E (compareOp .Eq) (eqO c F id) := by
  intro pins s σ H x y v u Q I rx ry ⟨ro, S, dx, dy, hS, r1, r2, w⟩
  obtain ⟨oc, f, fd, ps, h, ce, hb⟩ := d
  obtain ⟨n, m, fs, o, bo, S1, rfl, rfl, e1, e2, ok, e3, w⟩ := eqO_inv w
  obtain ⟨b1, h1, rfl⟩ := r1.ref_inv
  obtain ⟨b2, h2, rfl⟩ := r2.ref_inv
  cases rx
  cases ry
  obtain ⟨dx, ws, _, q⟩ := hS.at h1 e1
  obtain ⟨mA, J, _⟩ := ins_get I.hok q
  obtain ⟨od, J, _⟩ := J.look
  obtain ⟨tb, t1, t2⟩ := right_ty cx I hS h2 e2 ok
  obtain ⟨mm, hF⟩ := I.fr
  show wpAny (model X.prog X.w) X.A (richCompare .Eq (.ref b1) (.ref b2)) (EP X pins σ Q) X.xe s
  refine PySem.W.cmp_K (op := .Eq) (tb := tb) (by have := cx.units; omega) hF I.ok.mod.kin J t1 t2 (by rw [cx.K]; exact ce.at_) (by rw [cx.K]; exact ce.fn) ?_
  refine eq_run cx h hb hr rfl I hS h1 h2 e3 fun s' ro' H' I' gr ex R => ?_
  exact ⟨.bl bo, H', I', rfl, w ro' H' _ gr ex R .bl_mk⟩
theorem o_neO {k c : Nat} {F : Fn} (cx : Ctx g E X) (d : Eqf g k c F) (hr : Room (k + 1) X.A) : O2 X g E (compareOp .NotEq) (eqO c F Bool.not) := by
  intro pins s σ H x y v u Q I rx ry ⟨ro, S, dx, dy, hS, r1, r2, w⟩
  obtain ⟨oc, f, fd, ps, h, ce, hb⟩ := d
  obtain ⟨n, m, fs, o, bo, S1, rfl, rfl, e1, e2, ok, e3, w⟩ := eqO_inv w
  obtain ⟨b1, h1, rfl⟩ := r1.ref_inv
  obtain ⟨b2, h2, rfl⟩ := r2.ref_inv
  cases rx
  cases ry
  obtain ⟨dx, ws, _, q⟩ := hS.at h1 e1
  obtain ⟨mA, J, _⟩ := ins_get I.hok q
  obtain ⟨od, J, _⟩ := J.look
  obtain ⟨tb, t1, t2⟩ := right_ty cx I hS h2 e2 ok
  obtain ⟨mm, hF⟩ := I.fr
  show wpAny (model X.prog X.w) X.A (richCompare .NotEq (.ref b1) (.ref b2)) (EP X pins σ Q) X.xe s
  refine ne_K (tb := tb) (by have := cx.units; omega) hF I.ok.mod.kin J t1 t2 (by rw [cx.K]; exact oc.ne) (by rw [cx.K]; exact ce.at_) (by rw [cx.K]; exact ce.fn) (by rw [cx.K]; exact oc.ob) ?_
  refine eq_run cx h hb hr.in1 rfl I hS h1 h2 e3 fun s' ro' H' I' gr ex R => ?_
  exact ⟨bo, rfl, .bl (!bo), H', I', rfl, w ro' H' _ gr ex R .bl_mk⟩
/-- isinstance(x, C), C an own class -/
theorem se_isiO {x : Str} {c : Nat} (cx : Ctx g E X) (hc : X.calm = true) (hg : Gl X "isinstance") (hm : X.mg "isinstance" = none) (hx : Gl X x) (mx : g.mg x = some (.ref (g.cls c))) (cl : Cls g.K (g.cls c)) (ic : OwnC g.K (g.cls c)) (ha : SE X g E a ma) (hdb : (x == ("__debug__" : Str)) = false := by decide)
    (h1 : starEach [a, .Name x p2] X.env = (false, eval a X.env) :: starEach [.Name x p2] X.env := by rfl) (h2 : starEach [.Name x p2] X.env = (false, eval (.Name x p2) X.env) :: starEach [] X.env := by rfl) (hpl : (backTo pos (starEach [.Name x p2] X.env)).any (·.1) = false := by rfl) :
    SE X g E (.Call (.Name "isinstance" p) [a, .Name x p2] [] pos) (eUn (opIsO c) ma) := by
  have ht : PE X (.Name x p2) fun s H Q => Q (.ref (g.cls c)) H := pe_glob hx (by rw [cx.mg]; exact mx) (show RelV (.ref (g.cls c)) _ from rfl) hdb
  refine ⟨pe_imp (pe_callB call_isi hg hm (by decide +kernel) (pa_cons ha.run (pa_cons ht pa_nil h2) h1) (by decide) (by decide) h1 hpl) fun s H Q ⟨ro, L, S, hL, hS, h⟩ => ?_⟩
  refine ⟨ro, L, S, hL, hS, Post.bind h fun d S1 ro1 H1 v gr ex hS1 rv w => ?_⟩
  unfold opIsO at w
  split at w
  · rename_i n
    obtain ⟨b1, h1, rfl⟩ := rv.ref_inv
    split at w
    · rename_i c' fs z
      split at w
      · rename_i hc
        subst hc
        obtain ⟨dx, ws, _, q⟩ := hS1.at h1 z
        exact ⟨.ref b1, .ref (g.cls c'), .ref (g.cls c'), .ref (g.cls c'), true, rfl, .own _, .base (by rw [cx.K]; exact .ins q cl ic.at' ic.hn ic.htk ic.ob), by simp [PySem.W.kitOne], w ro1 H1 _ (.refl _) (.refl _) hS1 .bl_mk⟩
      · exact w.elim
    · rename_i t kvs z
      have q := hS1.at h1 z
      have ty : TyX X.K H1 (.ref b1) (.type "dict") := by
        cases t with
        | true =>
          obtain ⟨ws, _, q⟩ := (show ∃ ws, RelTV ro1 H1 kvs ws ∧ AtL H1 b1 false (.dT ws) from q)
          exact .base (.dT q)
        | false =>
          obtain ⟨ws, _, q⟩ := (show ∃ ws, RelKV ro1 H1 kvs ws ∧ AtL H1 b1 false (.dK ws) from q)
          exact .base (.dK q)
      exact ⟨.ref b1, .ref (g.cls c), .type "dict", .ref (g.cls c), false, rfl, .own _, ty, by rw [cx.K]; exact ic.dc, w ro1 H1 _ (.refl _) (.refl _) hS1 .bl_mk⟩
    · exact w.elim
  · exact w.elim
end
end MP

namespace MP
open PySem L2
section
variable {prog : Program} {w : World} {K : Type} [DecidableEq K] {knd : HeapKind prog w K} {A : Around} {E : Value → Shared → Prop} {s : Shared}
/-- how the entries of one are met in the other -/
inductive HitT (A : Around) (s : Shared) (zs : List (K × Addr × Value)) : List (K × Addr × Value) → Bool → Prop
  | nil : HitT A s zs [] true
  | miss {y : K × Addr × Value} {r : List (K × Addr × Value)} : atKey zs y.1 = none → HitT A s zs (y :: r) false
  | hit {y : K × Addr × Value} {q : Addr × Value} {r : List (K × Addr × Value)} {e c : Bool} : atKey zs y.1 = some q → SeqAt.EqAt A s y.2.2 q.2 e → HitT A s zs r c → HitT A s zs (y :: r) (e && c)
theorem HitT.inv {zs : List (K × Addr × Value)} {y : K × Addr × Value} {r : List (K × Addr × Value)} {c : Bool} (h : HitT A s zs (y :: r) c) :
    (atKey zs y.1 = none ∧ c = false) ∨ ∃ q e c', atKey zs y.1 = some q ∧ SeqAt.EqAt A s y.2.2 q.2 e ∧ HitT A s zs r c' ∧ c = (e && c') := by
  cases h with
  | miss hn => exact .inl ⟨hn, rfl⟩
  | hit h1 h2 h3 => exact .inr ⟨_, _, _, h1, h2, h3, rfl⟩
theorem pairsT {nm : String} {d1 d2 : Addr} {ys zs : List (K × Addr × Value)} {r : Bool} {Q : Bool → Shared → Prop} (hu : knd.room A) (n1 : (d1 == sysModules) = false) (n2 : (d2 == sysModules) = false)
    (m1 : s.heap.DictOfH knd d1 ys) (m2 : s.heap.DictOfH knd d2 zs) (hits : HitT A s zs ys r) (h : Q (decide (ys.length = zs.length) && r) s) :
    wpAny (model prog w) A (Builtin.Dict.samePairs nm d1 d2) Q E s := by
  obtain ⟨o1, es, ep, g1, _, t1, e1, k1, nd1⟩ := m1
  obtain ⟨o2, fs, ep', g2, _, t2, e2, k2, nd2⟩ := m2
  have z1 : es.size = ys.length := size_of_entries e1
  have z2 : fs.size = zs.length := size_of_entries e2
  unfold Builtin.Dict.samePairs Builtin.Dict.showsAll
  rw [if_neg (fun q : (d1 == sysModules) = true => by rw [n1] at q; cases q), if_neg (fun q : (d2 == sysModules) = true => by rw [n2] at q; cases q)]
  refine wpAny_bind (wpAny_pure (wpAny_bind (wpAny_pure ?_)))
  refine wpAny_bind (wpAny_dictEntries g1 t1 ?_)
  dsimp only
  refine wpAny_bind (wpAny_dictEntries g2 t2 ?_)
  by_cases hsz : es.size = fs.size
  case neg =>
    rw [if_pos (by simpa using hsz)]
    have nl : decide (ys.length = zs.length) = false := decide_eq_false (by rw [← z1, ← z2]; exact hsz)
    rw [nl, Bool.false_and] at h
    exact wpAny_bind (wpAny_rule (wpAny_pure h))
  case pos =>
    have h' : Q r s := by
      have yl : decide (ys.length = zs.length) = true := decide_eq_true (by rw [← z1, ← z2]; exact hsz)
      rw [yl, Bool.true_and] at h
      exact h
    rw [if_neg (by rw [hsz]; simp)]
    refine wpAny_bind (wpAny_dictEpoch g1 t1 ?_)
    refine wpAny_bind ?_
    rw [Std.Legacy.Range.forIn_eq_forIn_range']
    simp only [Std.Legacy.Range.size, Nat.sub_zero, Nat.add_sub_cancel, Nat.div_one]
    refine wpAny_forIn_list _
      (fun todo q t' => t' = s ∧ q = (none, ()) ∧ ∃ j, todo = List.range' j (es.size - j) ∧ j ≤ es.size ∧ HitT A s zs (ys.drop j) r)
      _ ?_ ?_ _ _ ⟨rfl, rfl, 0, by simp, Nat.zero_le _, by simpa using hits⟩
    · rintro j todo q t' ⟨rfl, rfl, i, hr, hi, pre⟩
      have hlt : i < es.size := by
        rcases Nat.lt_or_ge i es.size with l | l
        · exact l
        · rw [Nat.sub_eq_zero_of_le l] at hr; simp at hr
      obtain ⟨rfl, more⟩ : j = i ∧ todo = List.range' (i + 1) (es.size - (i + 1)) := by
        have e : es.size - i = (es.size - (i + 1)) + 1 := by omega
        rw [e, List.range'_succ] at hr
        injection hr with q1 q2
        exact ⟨q1, q2⟩
      have hly : j < ys.length := by rw [← z1]; exact hlt
      have ey : es[j]? = some (entryOfKey knd ys[j]) := by rw [entry_at e1 j, List.getElem?_eq_getElem hly] <;> rfl
      refine wpAny_bind (wpAny_dictEntries g1 t1 ?_)
      rw [ey]
      rw [List.drop_eq_getElem_cons hly] at pre
      have ky := k1 ys[j] (List.getElem_mem hly)
      show wpAny _ _ (holding [(Value.ref ys[j].2.1), ys[j].2.2] _ >>= _) _ _ _
      refine wpAny_bind (wpAny_holding (wpAny_bind (wpAny_dictFind_heap hu ky g2 t2 e2 k2 nd2 (fun no => ?_) fun m p hm => ?_)))
      · have nk := atKey_none_of_get no
        rcases pre.inv with ⟨_, er⟩ | ⟨q, _, _, h1, _⟩
        · rw [er] at h'
          refine wpAny_pure ?_
          show wpAny _ _ (if (!false) = true then _ else _) _ _ _
          rw [if_pos (by decide)]
          exact wpAny_pure (wpAny_pure h')
        · rw [nk] at h1; cases h1
      · have sk := atKey_of_get nd2 hm
        have ef : fs[m]? = some (entryOfKey knd (ys[j].1, p)) := by rw [entry_at e2 m, hm] <;> rfl
        refine wpAny_bind (wpAny_dictEntries g2 t2 ?_)
        rw [ef]
        rcases pre.inv with ⟨no, _⟩ | ⟨q, e, c', h1, h2, h3, er⟩
        · rw [sk] at no; cases no
        · rw [sk] at h1
          cases h1
          refine wpAny_holding (h2 _ _ _ _ ?_)
          cases e with
          | false =>
            rw [er, Bool.false_and] at h'
            show wpAny _ _ (if (!false) = true then _ else _) _ _ _
            rw [if_pos (by decide)]
            exact wpAny_pure (wpAny_pure h')
          | true =>
            rw [Bool.true_and] at er
            rw [← er] at h3
            show wpAny _ _ (if (!true) = true then _ else _) _ _ _
            rw [if_neg (by decide)]
            refine wpAny_bind (wpAny_dictEpoch g1 t1 ?_)
            rw [if_neg (by simp)]
            exact wpAny_pure ⟨rfl, rfl, j + 1, more, hlt, h3⟩
    · rintro q t' ⟨rfl, rfl, i, hr, hi, pre⟩
      have hin : i = es.size := by
        rcases Nat.lt_or_ge i es.size with l | l
        · have e : es.size - i = (es.size - (i + 1)) + 1 := by omega
          rw [e, List.range'_succ] at hr; cases hr
        · exact Nat.le_antisymm hi l
      refine wpAny_pure ?_
      rw [hin, z1, List.drop_length] at pre
      cases pre
      exact h'
theorem eqT_run {d1 d2 : Addr} {ys zs : List (K × Addr × Value)} {r : Bool} {Q : Value → Shared → Prop} (hu : A.units < cLine) (hr : knd.room A.in1) (n1 : (d1 == sysModules) = false) (n2 : (d2 == sysModules) = false)
    (m1 : s.heap.DictOfH knd d1 ys) (m2 : s.heap.DictOfH knd d2 zs) (hits : HitT A.in1 s zs ys r) (h : Q (.bool (decide (ys.length = zs.length) && r)) s) :
    wpAny (model prog w) A (compareOp .Eq (.ref d1) (.ref d2)) Q E s := by
  refine wpAny_richCompare_same_room (op := .Eq) m1.typeIs m2.typeIs PySem.F.slot_dict_eq (wpAny_call_entry PySem.F.slot_dict_eq m1.typeIs PySem.F.entry_dict_eq ?_ (PySem.F.args_dict_eq_2 _ _)) hu
  show wpAny _ _ (Builtin.Dict.dictSlotArgs "__eq__" ⟨[.ref d1, .ref d2], []⟩ >>= _) _ _ s
  refine wpAny_bind ?_
  unfold Builtin.Dict.dictSlotArgs
  refine wpAny_bind (wpAny_notOrdered_dict m1.typeIs ?_)
  show wpAny _ _ (pure (Value.ref d1, Value.ref d2)) _ _ s
  refine wpAny_pure ?_
  refine wpAny_bind (wpAny_isInstance (T := "dict") m2.typeIs PySem.F.sub_dict_dict ?_)
  simp only [Bool.not_true, Bool.false_eq_true, if_false]
  refine wpAny_bind (wpAny_pure (wpAny_bind (wpAny_pure ?_)))
  refine wpAny_bind (pairsT hr n1 n2 m1 m2 hits ?_)
  refine wpAny_pure ⟨_, rfl, ?_, ?_⟩
  · exact fun x => nomatch x
  · simpa using h
end
section
variable {X : Cx} {g : G} {E : XK}
theorem hits_of (cx : Ctx g E X) {pins : List (Addr × Obj)} {σ : L2.St} {H : Hp} {s : Shared} (I : Inv X pins σ H s) {ro : List Addr} {S : Sto} (hS : RelS g ro S H) {A : Around} (hA : A.units + 50 < cLine) {kb : List (D × D)} {wb : List (List L2.Key × V)} {zs : List (List L2.Key × Addr × Value)}
    (rb : RelTV ro H kb wb) (tb : KT H wb zs) : ∀ {ka : List (D × D)} {wa : List (List L2.Key × V)} {ys : List (List L2.Key × Addr × Value)} {b : Bool}, RelTV ro H ka wa → KT H wa ys → eqKv S kb ka = some b → HitT A s zs ys b
  | _, _, _, b, .nil, .nil, e => by cases e; exact .nil
  | (k, v) :: ka, (k', v') :: wa, (k2, a2, u) :: ys, b, .cons ⟨h1, h2⟩ t1, .cons ⟨q1, q2, q3⟩ t2, e => by
    have h1 : tkey k = some k' := h1
    have q1 : k' = k2 := q1
    subst q1
    have rv := tb.val k'
    unfold eqKv at e
    cases z : kget k kb with
    | none =>
      rw [z] at e
      have n := (kget_rel tkey_inj h1 rb).2 z
      rw [n] at rv
      have n2 : atKey zs k' = none := by
        cases y : atKey zs k' with
        | none => rfl
        | some p => rw [y] at rv; exact rv.elim
      cases q : eqKv S kb ka with
      | none => rw [q] at e; cases e
      | some c => rw [q] at e; cases e; exact .miss n2
    | some d =>
      rw [z] at e
      obtain ⟨v2, n, rd⟩ := (kget_rel tkey_inj h1 rb).1 d z
      rw [n] at rv
      obtain ⟨w2, hw, rw2⟩ := RelO.some_of (v := v2) (o := (atKey zs k').map (·.2)) rv
      obtain ⟨p, hp, hp2⟩ := Option.map_eq_some_iff.mp hw
      simp only at e
      cases r1 : reify 50 S v with
      | none => rw [r1] at e; cases e
      | some p1 =>
        cases r2 : reify 50 S d with
        | none => rw [r1, r2] at e; cases e
        | some p2 =>
          rw [r1, r2] at e
          cases q : eqKv S kb ka with
          | none => rw [q] at e; cases e
          | some c =>
            rw [q] at e
            cases e
            obtain ⟨a1, b1, c1⟩ := reify_dp hS 50 v v' p1 h2 r1
            obtain ⟨a2', b2, c2⟩ := reify_dp hS 50 d v2 p2 rd r2
            obtain ⟨as, rr1⟩ := Dp.reads I p1 v' u (by rw [cx.K]; exact a1) q3
            obtain ⟨bs, rr2⟩ := Dp.reads I p2 v2 p.2 (by rw [cx.K]; exact a2') (by rw [hp2]; exact rw2)
            exact .hit hp (SeqAt.eqAt_reads p1 p2 A s u p.2 as bs rr1 rr2 b1 b2 (by omega)) (hits_of cx I hS hA rb tb t1 t2 q)
theorem o_eqT (cx : Ctx g E X) : O2 X g E (compareOp .Eq) opEqT := by
  intro pins s σ H x y v u Q I rx ry ⟨ro, S, dx, dy, hS, r1, r2, w⟩
  unfold opEqT at w
  split at w
  · rename_i n m
    obtain ⟨p1, h1, rfl⟩ := r1.ref_inv
    obtain ⟨p2, h2, rfl⟩ := r2.ref_inv
    cases rx
    cases ry
    split at w
    · rename_i ka kb z1 z2
      · split at w
        · rename_i b hb
          obtain ⟨wa, ra, qa⟩ := (show ∃ ws, RelTV ro H ka ws ∧ AtL H p1 false (.dT ws) from hS.at h1 z1)
          obtain ⟨wb, rb, qb⟩ := (show ∃ ws, RelTV ro H kb ws ∧ AtL H p2 false (.dT ws) from hS.at h2 z2)
          have qa : H p1 = some (.dT wa) := qa
          have qb : H p2 = some (.dT wb) := qb
          obtain ⟨_, d1, ys, t1, m1⟩ := dt_of I.hok qa
          obtain ⟨_, d2, zs, t2, m2⟩ := dt_of I.hok qb
          refine eqT_run (by have := cx.units; omega) (tupleKind_room_in1 (by have := cx.units; omega)) d1 d2 m1 m2 (hits_of cx I hS (by have := cx.units; show X.A.units + 1 + 50 < cLine; omega) rb t2 ra t1 hb) ?_
          refine ⟨.bl _, H, I, rfl, ?_⟩
          have l1 : ys.length = ka.length := by rw [← Paired.length t1, ← Paired.length ra]
          have l2 : zs.length = kb.length := by rw [← Paired.length t2, ← Paired.length rb]
          rw [l1, l2]
          exact w ro H _ (.refl _) (.refl _) hS .bl_mk
        · exact w.elim
    · exact w.elim
  · exact w.elim
end
end MP

namespace MP
open PySem L2
def KeepH (h h' : Heap) : Prop := ∀ b o, h.get? b = some o → h'.get? b = some o
/-- all of a state is there in another one -/
structure KeepS (s s' : Shared) : Prop where
  heap : KeepH s.heap s'.heap
  gens : s'.gens = s.gens
  drawn : s'.drawn = s.drawn
  os : s'.os = s.os
theorem KeepS.refl (s : Shared) : KeepS s s := ⟨fun _ _ e => e, rfl, rfl, rfl⟩
theorem KeepS.trans {a b c : Shared} (x : KeepS a b) (y : KeepS b c) : KeepS a c := ⟨fun q o e => y.heap q o (x.heap q o e), y.gens.trans x.gens, y.drawn.trans x.drawn, y.os.trans x.os⟩
theorem KeepS.eq {s s' : Shared} (x : KeepS s s') : s' = { s with heap := s'.heap, toks := s'.toks } := by
  obtain ⟨h, g, d, t, o⟩ := s
  obtain ⟨h', g', d', t', o'⟩ := s'
  obtain ⟨_, x1, x2, x3⟩ := x
  simp only at x1 x2 x3
  subst x1; subst x2; subst x3
  rfl
section
variable {prog : Program} {w : World} {A : Around} {E : Value → Shared → Prop} {s : Shared}
theorem max_run {l q : Addr} {vs : List Value} {Q : Value → Shared → Prop} (kf : Nat → Int) (hh : A.handled = none) (hl : s.heap.IsList l vs.toArray) (hne : 0 < vs.length)
    (turn : ∀ (i : Nat) (v : Value), vs[i]? = some v → ∀ s1, KeepS s s1 → wpAny (model prog w) A.in1 (call (.ref q) [v]) (fun u s2 => (∃ t, u = .int (kf i) t) ∧ KeepS s1 s2) (fun _ _ => False) s1)
    (hQ : ∀ v s', vs[argBest (fun i j => decide (kf i > kf j)) (vs.length - 1)]? = some v → KeepS s s' → Q v s') :
    wpAny (model prog w) A (call (.builtin "max") [.ref l] [(Str.ofString "key", .ref q)]) Q E s := by
  obtain ⟨ol, gl, _⟩ := id hl
  have ll : l < s.heap.objs.size := Heap.lt_size gl
  refine call_max_walkK (wpAny_pyIter_list hl ?_)
  have nI : l ≠ s.heap.objs.size := Nat.ne_of_lt ll
  have up : (s.heap.push { cls := .type "list_iterator", data := .fields #[.ref l, .int 0 0] }).objs.size = s.heap.objs.size + 1 := Heap.size_push _ _
  have old : ∀ {b : Addr} {o : Obj}, s.heap.get? b = some o → b ∉ (s.heap.push { cls := .type "list_iterator", data := .fields #[.ref l, .int 0 0] }).objs.size :: [s.heap.objs.size] := fun {b o} e hm => by
    have lt := Heap.lt_size e
    rw [up] at hm
    simp only [List.mem_cons, List.not_mem_nil, or_false] at hm
    rcases hm with h | h
    · rw [h] at lt
      exact Nat.lt_irrefl _ (Nat.lt_of_succ_lt lt)
    · rw [h] at lt
      exact Nat.lt_irrefl _ lt
  refine ⟨s.heap.objs.size, [s.heap.objs.size, l], [s.heap.objs.size], _, vs.toArray.size, _, _, fun s' => KeepS s s', fun i u _ => ∃ t, u = .int (kf i) t, fun i j => decide (kf i > kf j), rfl,
    (Walks.list (A := A.in1) hh s.heap.objs.size l nI vs.toArray).toS, ⟨⟨_, Heap.get?_push_size _ rfl, rfl, rfl⟩, hl.push _⟩, fun b hb => ?_, by simpa using hne, ⟨?_, fun i k a b x _ => x, ?_, ?_⟩, ⟨fun b o e => Heap.get?_push_of_some _ e, rfl, rfl, rfl⟩, ?_⟩
  · show b < (s.heap.push _).objs.size
    rw [up]
    simp only [List.mem_cons, List.not_mem_nil, or_false] at hb
    rcases hb with h | h
    · rw [h]
      exact Nat.lt_succ_self _
    · rw [h]
      exact Nat.lt_succ_of_lt ll
  · intro s1 s2 x m
    exact ⟨fun b o e => m.heap b o (old e) (x.heap b o e), m.gens.trans x.gens, m.drawn.trans x.drawn, m.os.trans x.os⟩
  · intro i v s1 o Q' E' hi hP hJ hst hS hQ'
    refine wpAny_mono (turn i v (by simpa using hP) s1 hJ) (fun u s2 hu => ?_) fun _ _ z => z.elim
    exact hQ' u s2 (hJ.trans hu.2) ⟨hst.1.at fun o e => hu.2.heap _ _ e, hst.2.at fun o e => hu.2.heap _ _ e⟩ (hu.2.heap _ _ hS) hu.1 fun j k' z => z
  · rintro i j ki kj s1 Q' E' hJ ⟨t1, rfl⟩ ⟨t2, rfl⟩ hq
    exact CmpOf.ints_gt (prog := prog) (w := w) (A := A.in1) (P := fun i v => ∃ t, v = .int (kf i) t) kf (fun i v h => h) i j _ _ _ _ _ ⟨t1, rfl⟩ ⟨t2, rfl⟩ hq
  · intro v s' hP hJ
    exact hQ v s' (by simpa using hP) hJ
/-- what the names of such a lambda must be -/
structure LenS (scope : Scope) (x : Str) : Prop where
  kind : scope.kind = .function
  co : scope.isCoroutine = false
  gen : scope.isGenerator = false
  cell : ∀ y ∈ scope.names, y.2 ≠ .cell
  free : ∀ y ∈ scope.names, y.2 ≠ .free
  own : scope.names.lookup x = some .local
  len : scope.names.lookup ("len" : Str) = some .globalImplicit
def lenSB (scope : Scope) (x : Str) : Bool := decide (scope.kind = .function) && !scope.isCoroutine && !scope.isGenerator && (scope.names.all fun y => !decide (y.2 = .cell) && !decide (y.2 = .free)) && decide (scope.names.lookup x = some .local) && decide (scope.names.lookup ("len" : Str) = some .globalImplicit)
theorem lenS_by {scope : Scope} {x : Str} (h : lenSB scope x = true) : LenS scope x := by
  unfold lenSB at h
  simp only [Bool.and_eq_true, Bool.not_eq_true', decide_eq_true_eq, decide_eq_false_iff_not, List.all_eq_true] at h
  obtain ⟨⟨⟨⟨⟨h1, h2⟩, h3⟩, h4⟩, h5⟩, h6⟩ := h
  exact ⟨h1, h2, h3, fun y hy => (h4 y hy).1, fun y hy => (h4 y hy).2, h5, h6⟩
/-- lambda x: len(x), called -/
theorem lamlen_run {f c' a : Addr} {q x : Str} {params : Arguments} {scope : Scope} {pm ctv : Value} {pl px pc : Pos} {items : Array Value} {mg mb : Str → Option Value} (L : LenS scope x) (hroom : A.depth < recursionLimit) (hd : (x == ("__debug__" : Str)) = false)
    (obf : s.heap.get? f = some (PySem.W.kla_obj "<lambda>" q params (.Call (.Name "len" pl) [.Name x px] [] pc) scope [] pm c' ctv)) (hcr : s.heap.CodeRec (.ref c') q) (nl : s.heap.NoLimit)
    (hbind : bindArgs (PySem.W.kla_fn "<lambda>" q params (.Call (.Name "len" pl) [.Name x px] [] pc) scope [] pm (.ref c') ctv) ⟨[.ref a], []⟩ = pure [(x, .ref a)])
    (glob : s.heap.Ns mainGlobals mg) (hmg : mg "len" = none) (blt : s.heap.Ns builtinsNs mb) (hmb : mb "len" = some (.builtin "len")) (tup : s.heap.IsTuple a items) (hz : (items.size : Int) < 2 ^ 63) :
    wpAny (model prog w) A (call (.ref f) [.ref a]) (fun u s2 => (∃ t, u = .int items.size t) ∧ KeepS s s2) (fun _ _ => False) s := by
  refine wpAny_call (PySem.W.kla_callFunE hroom obf rfl L.co L.gen rfl hcr ?_)
  rw [hbind]
  refine wpAny_pure (wpAny_newFunctionEnv L.cell (fun y hy => by rw [List.mem_singleton.mp hy]; exact L.own) (fun h2 ns sb => ⟨nl.fresh _ sb, ?_⟩) L.kind)
  have kp : KeepH s.heap h2 := fun b o e => sb.extBut b o (Nat.ne_of_lt (Heap.lt_size e)) (Heap.get?_push_of_some _ e)
  refine PySem.W.kla_codeExpr ?_
  refine wpAny_Call_Name_kw (Calls.Name_function_global L.kind L.len (Calls.loadGlobal_builtin (glob.keeps kp) hmg (blt.keeps kp) hmb ?_) (by decide))
  refine PyProof.Rows.callWith_builtin1 ?_ (by rfl) (by rfl)
  refine Calls.spliced_cons (wpAny_Name (wpAny_loadName_local L.kind L.own ns (v := .ref a) (by simp) ?_) hd)
  refine Calls.spliced_nil (PyProof.Rows.len_tuple (tup.at fun o e => kp _ _ e) hz ?_)
  exact ⟨⟨_, rfl⟩, kp, rfl, rfl, rfl⟩
end
section
variable {X : Cx} {g : G} {E : XK} {a : Expr} {ma : EM} {p pos lpos pl px pc kpos : Pos}
theorem tup_all {ro : List Addr} {H : Hp} {pins : List (Addr × Obj)} {σ : L2.St} {s : Shared} (I : Inv X pins σ H s) : ∀ {ds : List D} {vs : List V} {us : List Value}, RelDs ro H ds vs → Vals vs us → ds.all isTup = true →
    ∀ (i : Nat) (u : Value), us[i]? = some u → ∃ (b : Addr) (its : Array Value), u = .ref b ∧ s.heap.IsTuple b its ∧ its.size = tlen (ds.getD i .non) ∧ (its.size : Int) < 2 ^ 63
  | [], vs, us, r, v, h, i, u, e => by rw [r.inv0] at v; cases v; simp at e
  | d :: ds, vs, us, r, v, h, i, u, e => by
    obtain ⟨y, ys, rfl, r1, r2⟩ := r.inv
    cases v with
    | cons v1 v2 =>
      rw [List.all_cons, Bool.and_eq_true] at h
      cases i with
      | zero =>
        simp at e
        subst e
        cases d with
        | tup xs =>
          obtain ⟨b, ws, rfl, hb, rr⟩ := r1.tup_inv
          cases v1
          obtain ⟨its, r', pl, hz⟩ := I.tuple (SqT.of hb)
          refine ⟨b, its.toArray, rfl, pl, ?_, ?_⟩
          · simp [tlen, ← r'.length, rr.length]
          · have hn := line63
            have hlen := r'.length
            simp only [List.size_toArray]
            omega
        | _ => cases h.1
      | succ i =>
        obtain ⟨b, its, q1, q2, q3, q4⟩ := tup_all I r2 v2 h.2 i u (by simpa using e)
        exact ⟨b, its, q1, q2, by simpa using q3, q4⟩
theorem best_eq (bt : Nat → Nat → Bool) : ∀ k, bestAt bt k = argBest bt k
  | 0 => rfl
  | k + 1 => by unfold bestAt argBest; rw [best_eq bt k]
/-- max(a, key=lambda x: len(x)) -/
theorem se_maxLen {x : Str} {params : Arguments} {scope : Scope} (cx : Ctx g E X) (hc : X.calm = true) (lam : LamAt X g) (L : LenS scope x) (hr : Room 1 X.A) (hg : Gl X "max") (hm : g.mg "max" = none) (hm2 : g.mg "len" = none) (ha : SE X g E a ma)
    (hdef : defaultsOf params X.env = ([], [])) (hbind : ∀ (q : Str) (pm cv ctv v : Value), bindArgs (PySem.W.kla_fn "<lambda>" q params (.Call (.Name "len" pl) [.Name x px] [] pc) scope [] pm cv ctv) ⟨[v], []⟩ = pure [(x, v)]) (hclo : cloFrom X.env.cells scope.names [] = [])
    (hdb : (x == ("__debug__" : Str)) = false := by decide)
    (h1 : starEach [a] X.env = (false, eval a X.env) :: starEach [] X.env := by rfl) (he : backTo pos (starEach [a] X.env) = (false, eval a X.env) :: backTo pos (starEach [] X.env) := by rfl) (hpl : (backTo pos (starEach [a] X.env)).any (·.1) = false := by rfl) :
    SE X g E (.Call (.Name "max" p) [a] [⟨some "key", .Lambda params (.Call (.Name "len" pl) [.Name x px] [] pc) scope lpos, kpos⟩] pos) (eUn opMaxLen ma) := by
  obtain ⟨c, P, hcode, TB, hmT, hu⟩ := lam.at_
  refine ⟨⟨fun pins s σ H Q I ⟨ro, Lc, S, hL, hS, h⟩ => ?_⟩⟩
  refine wpAny_Call_Name_kw (ld_blt I hg (by rw [cx.mg]; exact hm) (show bootBuiltins "max" = some (.builtin "max") by decide +kernel) ?_ (by decide) (by decide))
  refine PyProof.Rows.callWith_kw (thn ((sa_cons ha sa_nil h1).run.run pos pins s σ H (fun vs H1 => ∃ (ro1 : List Addr) (S1 : Sto) (d : D), RelS g ro1 S1 H1 ∧ RelDs ro1 H1 [d] vs ∧ Post RelD g E ro1 H1 Q (opMaxLen d S1)) I ⟨ro, Lc, S, hL, hS, ?_⟩) fun us s1 ⟨vs, H1, I1, r1, q1⟩ => ?_) he hpl (by rfl) (by rfl)
  · unfold eUn at h
    unfold aCons
    cases z : ma Lc S with
    | ok d S1 =>
      rw [z] at h
      simp only [R.bind_ok, aNil] at h ⊢
      exact fun ro1 H1 vs gr ex hS1 rv => ⟨ro1, S1, d, hS1, rv, Post.mono gr ex h⟩
    | exc y S1 => rw [z] at h; exact h
    | err => rw [z] at h; exact h
  · obtain ⟨ro1, S1, d, hS1, rv, w⟩ := q1
    obtain ⟨v1, r, rfl, rd, rr⟩ := rv.inv
    cases rr.inv0
    show wpAny _ _ (evalAll [(do let v ← eval (.Lambda params (.Call (.Name "len" pl) [.Name x px] [] pc) scope lpos) X.env; standAt pos; pure v)]) _ _ s1
    refine wpAny_evalAll_cons (wpAny_bind (LamX.lam_make2 I1 TB hcode hmT hu hS1.tabs hdef (fun y hy e => absurd e (L.free y hy)) fun f c' pm ctv H2 s2 I2 eN T2 obf hfn hfr hco => wpAny_bind (wpAny_standAt (wpAny_pure (wpAny_evalAll_nil ?_)))))
    have ex := Ext.ofN eN
    have hS2 := hS1.extN eN T2
    have rd2 := RelD.mono (.refl _) ex.tup _ _ rd
    have w2 := Post.mono (.refl _) ex w
    rw [hclo] at obf
    unfold opMaxLen at w2
    split at w2
    · rename_i n
      obtain ⟨l, hn, rfl⟩ := rd2.ref_inv
      split at w2
      · rename_i xs z
        obtain ⟨ws, rx, qx⟩ := hS2.at hn z
        split at w2
        · rename_i ht
          split at w2
          · rename_i d hd
            rw [best_eq] at hd
            have ru := Vals.ref1 r1
            subst ru
            obtain ⟨its, ri, hl, hz⟩ := I2.list (SqL.of qx)
            have len1 : its.length = xs.length := by rw [← ri.length, rx.length]
            have hne : 0 < its.length := by
              rcases Nat.eq_zero_or_pos its.length with e | e
              · rw [e] at len1
                rw [List.eq_nil_of_length_eq_zero len1.symm] at hd
                simp at hd
              · exact e
            obtain ⟨⟨oc, vs', t, hoc, hdc, hvc⟩, _, _⟩ := I2.hok c' _ hco
            obtain ⟨mb, b1, b2⟩ := I2.mod.blt
            have bk : ∀ b o, X.base.get? b = some o → s2.heap.get? b = some o := fun b o e => I2.bk b o e
            have T := tup_all I2 rx ri ht
            show wpAny (model X.prog X.w) X.A (call (.builtin "max") [.ref l] [(Str.ofString "key", .ref f)]) _ _ s2
            refine max_run (fun i => (tlen (xs.getD i .non) : Int)) (I2.ok.hd hc) hl.isList hne (fun i v hv s3 k3 => ?_) fun v s3 hv k3 => ?_
            · obtain ⟨b, tt, rfl, q2, q3, q4⟩ := T i v hv
              refine wpAny_mono (lamlen_run L hr.in1.depth hdb (k3.heap _ _ obf) ⟨c', oc, vs', t, rfl, k3.heap _ _ hoc, hdc, hvc⟩ (I2.nolimit.keeps k3.heap) (hbind _ _ _ _ _) ((I2.mod.glob.keeps bk).keeps k3.heap) (by rw [cx.mg]; exact hm2) ((b1.keeps bk).keeps k3.heap) (b2 "len" (by decide)) (q2.at fun o e => k3.heap _ _ e) q4) (fun u s4 hu => ?_) fun _ _ z => z
              obtain ⟨⟨t5, e5⟩, k5⟩ := hu
              exact ⟨⟨t5, by rw [e5, q3]⟩, k5⟩
            · rw [len1] at hv
              obtain ⟨y, hy, ry⟩ := rx.get hd
              obtain ⟨u2, hu2, ru2⟩ := ri.get hy
              have e2 : v = u2 := Option.some.inj (hv.symm.trans hu2)
              subst e2
              rw [k3.eq]
              exact ⟨y, H2, I2.kept (t' := s3.toks) k3.heap, ru2, w2 ro1 H2 y (.refl _) (.refl _) hS2 ry⟩
          · exact w2.elim
        · exact w2.elim
      · exact w2.elim
    · exact w2.elim
end
end MP

namespace MP
open PySem L2
def fnames : List Str := ([Str.ofString "__eq__", Str.ofString "__init__", Str.ofString "__len__", Str.ofString "aged", Str.ofString "alive", Str.ofString "all_houses", Str.ofString "all_ways", Str.ofString "append", Str.ofString "ask", Str.ofString "asked", Str.ofString "asked_by", Str.ofString "at_house", Str.ofString "clock", Str.ofString "come", Str.ofString "count", Str.ofString "cut", Str.ofString "cuts", Str.ofString "disown", Str.ofString "drop", Str.ofString "end", Str.ofString "ends", Str.ofString "find", Str.ofString "forget", Str.ofString "found", Str.ofString "fresh", Str.ofString "get", Str.ofString "got", Str.ofString "house", Str.ofString "index", Str.ofString "insert", Str.ofString "is_cut", Str.ofString "join", Str.ofString "joined", Str.ofString "keep", Str.ofString "keeps", Str.ofString "leads", Str.ofString "lean", Str.ofString "leave", Str.ofString "lines", Str.ofString "longest", Str.ofString "lose", Str.ofString "me", Str.ofString "mend", Str.ofString "most", Str.ofString "near", Str.ofString "need_house", Str.ofString "need_in", Str.ofString "need_way", Str.ofString "next_houses", Str.ofString "no_from", Str.ofString "noes", Str.ofString "now", Str.ofString "oldest", Str.ofString "on_way", Str.ofString "out", Str.ofString "own", Str.ofString "owns", Str.ofString "parted", Str.ofString "pending", Str.ofString "pop", Str.ofString "posts", Str.ofString "put", Str.ofString "remove", Str.ofString "roads", Str.ofString "room", Str.ofString "rows", Str.ofString "send", Str.ofString "settle", Str.ofString "shelf", Str.ofString "sides", Str.ofString "since", Str.ofString "size", Str.ofString "split", Str.ofString "table", Str.ofString "table_sides", Str.ofString "take_out", Str.ofString "teach", Str.ofString "tell", Str.ofString "tell_all", Str.ofString "thing_from", Str.ofString "things", Str.ofString "tick", Str.ofString "waits", Str.ofString "way", Str.ofString "ways", Str.ofString "who"] : List Str)
def FN (i : Nat) : Str := fnames.getD i ⟨(List.replicate (100 + i) 97).toArray⟩
theorem FN_inj : ∀ i j, FN i = FN j → i = j := by
  have nd : fnames.Nodup := by decide +kernel
  have sh : ∀ x ∈ fnames, x.cps.size < 100 := by decide +kernel
  have lg : ∀ i, fnames.length ≤ i → (FN i).cps.size = 100 + i := fun i h => by
    unfold FN
    rw [List.getD_eq_getElem?_getD, List.getElem?_eq_none h]
    simp
  have st : ∀ i, (h : i < fnames.length) → FN i = fnames[i] := fun i h => by
    unfold FN
    rw [List.getD_eq_getElem?_getD, List.getElem?_eq_getElem h]
    rfl
  intro i j e
  rcases Nat.lt_or_ge i fnames.length with hi | hi <;> rcases Nat.lt_or_ge j fnames.length with hj | hj
  · rw [st i hi, st j hj] at e
    exact (List.getElem_inj nd).mp e
  · have h1 := sh _ (List.getElem_mem hi)
    rw [← st i hi, e, lg j hj] at h1
    omega
  · have h1 := sh _ (List.getElem_mem hj)
    rw [← st j hj, ← e, lg i hi] at h1
    omega
  · have h1 := lg i hi
    rw [e, lg j hj] at h1
    omega
def lamQ (x : Str) : Str := (x ++ ".<locals>.") ++ "<lambda>"
def clsN : List Str := ([Str.ofString "House", Str.ofString "Keeps", Str.ofString "Net", Str.ofString "Table", Str.ofString "Wait"] : List Str)
def excN : List Str := ([Str.ofString "BadLetter", Str.ofString "BadName", Str.ofString "BadNumber", Str.ofString "BadSides", Str.ofString "BadStory", Str.ofString "Gone", Str.ofString "NoHouse", Str.ofString "NoLetter", Str.ofString "NoWay", Str.ofString "WantError"] : List Str)
end MP

namespace MP
open PySem L2
theorem cx_no {P : Program} {w : World} (H : Hp) (s : Shared) (e : Value) (s' : Shared) (h : L2N.CX P w [] H s (fun _ _ _ => False) e s') : False := by
  obtain ⟨_, _, _, _, _, _, _, _, _, _, _, _, z⟩ := h
  exact z
/-- what is promised of a law: it answers True -/
def spL (K : PySem.W.Frag) (T : List (Addr × Str)) : Sp := fun vs H Q _ => ∃ (a : Addr) (ns : List Int), vs = [.ref a] ∧ ns.length ≤ 63 ∧ SqL K H a (ns.map V.int) ∧ LamX.Tabs T H ∧ ∀ H', Q (.bl true) H'
theorem rel_ints {ro : List Addr} {H : Hp} : ∀ ns : List Int, RelDs ro H (ns.map D.int) (ns.map V.int)
  | [] => .nil
  | n :: ns => .cons .int_mk (rel_ints ns)
theorem law_sp {g : G} {F : Fn} (h : ∀ {S : Sto} {n : Nat} {ns : List Int}, isL S n (ns.map .int) → ns.length ≤ 63 → wR (F [.ref n] S) (fun d _ => d = .bl true) Fl) (vs : List V) (H : Hp) (Q : VK) (E : XK) (q : spL g.K g.T vs H Q E) : spM g F vs H Q E := by
  obtain ⟨a, ns, rfl, hz, hS, hT, q⟩ := q
  have key : ∀ ob : Ob, RelOb g [a] H a ob → isL [ob] 0 (ns.map .int) → spM g F [.ref a] H Q E := fun ob ho hl => by
    refine ⟨[a], [ob], [.ref 0], ⟨rfl, fun n o e => ?_, fun n m b ne e1 e2 => ?_, hT⟩, .cons (.ref_mk rfl) .nil, ?_⟩
    · cases n with
      | zero => cases e; exact ⟨a, rfl, ho⟩
      | succ n => cases e
    · cases n with
      | zero =>
        cases m with
        | zero => exact absurd rfl ne
        | succ m => cases e2
      | succ n => cases e1
    · have w := h hl hz
      cases z : F [.ref 0] [ob] with
      | ok d S' =>
        rw [z] at w
        have w : d = .bl true := w
        subst w
        intro ro' H' v _ _ _ rv
        rw [rv.bl_inv]
        exact q H'
      | exc x S' => rw [z] at w; exact w.elim
      | err => rw [z] at w; exact w.elim
  rcases hS with (hS | hS) | hS
  · exact key (.lst (ns.map .int)) ⟨_, rel_ints ns, hS⟩ (.inl rfl)
  · exact key (.frz (ns.map .int)) ⟨_, rel_ints ns, .inl hS⟩ (.inr rfl)
  · exact key (.frz (ns.map .int)) ⟨_, rel_ints ns, .inr hS⟩ (.inr rfl)
theorem FOk.law {g : G} {k : Nat} {f : Addr} {fd : FuncData} {ps : List Str} {F : Fn} (o : FOk g k f fd ps F) (h : ∀ {S : Sto} {n : Nat} {ns : List Int}, isL S n (ns.map .int) → ns.length ≤ 63 → wR (F [.ref n] S) (fun d _ => d = .bl true) Fl) :
    FnOk g.P g.w g.K g.mg g.base (L2N.CX g.P g.w) k f fd ps (spL g.K g.T) :=
  FnOk.imp o fun vs H Q E q => law_sp h vs H Q E q
end MP

namespace MP
open PySem L2
def excAt (K : PySem.W.Frag) (i : Nat) : Addr := He.ga K (excN.getD i "object")
def excCB (K : PySem.W.Frag) (C : Addr) : Bool :=
  decide (PySem.W.findIn K (.ref C) "__getattribute__" = some (some (.builtin "BaseException.__getattribute__"))) && (decide (PySem.W.findIn K (.ref C) "__getattr__" = some none) && (decide (PySem.W.subIn K (.ref C) (.type "BaseException") = some true) &&
  (PySem.W.hasDictIn K C && (decide (PySem.W.findIn K (.ref C) "__class__" = some (some (.builtin "object.__class__"))) && (decide (PySem.W.specialIn K (.builtin "object.__class__") "__get__" = some (some (.builtin "getset_descriptor.__get__"))) &&
  (decide (PySem.W.takesIn K (.builtin "object.__class__") = some true) && decide (PySem.W.mroIn K C (.type "object") = some true)))))))
theorem excCB_ok {K : PySem.W.Frag} {C : Addr} (h : excCB K C = true) : ExcC K C := by
  unfold excCB at h
  simp only [Bool.and_eq_true, decide_eq_true_eq] at h
  obtain ⟨h1, h2, h3, h4, h5, h6, h7, h8⟩ := h
  exact ⟨h1, h2, h3, h4, h5, h6, h7, h8⟩
/-- all that the told def asks of the classes; W: the number of WantError -/
def exB (W : Nat) (K : PySem.W.Frag) : Bool := exKs.all fun c => excCB K (excAt K c) && ((exAll.all fun j => decide (PySem.W.kitOne K (.ref (excAt K c)) (.ref (excAt K j)) = some (decide (c = j)))) &&
  (decide (PySem.W.kitOne K (.ref (excAt K c)) (.type "ValueError") = some true) && decide (PySem.W.exmOne K (.ref (excAt K c)) (.ref (excAt K W)) = some true)))
theorem exB_ok {W : Nat} {K : PySem.W.Frag} (h : exB W K = true) {c : Nat} (hc : c ∈ exKs) : ExcC K (excAt K c) ∧ (∀ j ∈ exAll, PySem.W.kitOne K (.ref (excAt K c)) (.ref (excAt K j)) = some (decide (c = j))) ∧
    PySem.W.kitOne K (.ref (excAt K c)) (.type "ValueError") = some true ∧ PySem.W.exmOne K (.ref (excAt K c)) (.ref (excAt K W)) = some true := by
  have q := List.all_eq_true.mp h c hc
  simp only [Bool.and_eq_true, decide_eq_true_eq, List.all_eq_true] at q
  exact ⟨excCB_ok q.1, q.2.1, q.2.2.1, q.2.2.2⟩
/-- .. and the tables of the lambdas are apart; os: the classes with an own == -/
def exN (W : Nat) (tfs : List He.Defn) (os : List Str) (K : PySem.W.Frag) : Bool := exB W K && (decide ((tfs.map fun p => (He.cT K p).2).Nodup) && os.all fun c => ownCB K (He.ga K c))
theorem exN_ok {W : Nat} {tfs : List He.Defn} {os : List Str} {K : PySem.W.Frag} (h : exN W tfs os K = true) : exB W K = true := (Bool.and_eq_true _ _ |>.mp h).1
theorem exN_nodup {W : Nat} {tfs : List He.Defn} {os : List Str} {K : PySem.W.Frag} (h : exN W tfs os K = true) : (tfs.map fun p => (He.cT K p).2).Nodup := of_decide_eq_true (Bool.and_eq_true _ _ |>.mp (Bool.and_eq_true _ _ |>.mp h).2).1
theorem exN_own {W : Nat} {tfs : List He.Defn} {os : List Str} {K : PySem.W.Frag} (h : exN W tfs os K = true) {c : Str} (hc : c ∈ os) : OwnC K (He.ga K c) := ownCB_ok (List.all_eq_true.mp (Bool.and_eq_true _ _ |>.mp (Bool.and_eq_true _ _ |>.mp h).2).2 c hc)
theorem nodup_map_inj {α β : Type} {f : α → β} : ∀ {l : List α} {a b : α}, (l.map f).Nodup → a ∈ l → b ∈ l → f a = f b → a = b
  | x :: l, a, b, h, ha, hb, e => by
    rw [List.map_cons, List.nodup_cons] at h
    rcases List.mem_cons.mp ha with ea | ha <;> rcases List.mem_cons.mp hb with eb | hb
    · rw [ea, eb]
    · exact absurd (List.mem_map.mpr ⟨b, hb, by rw [← e, ea]⟩) h.1
    · exact absurd (List.mem_map.mpr ⟨a, ha, by rw [e, eb]⟩) h.1
    · exact nodup_map_inj h.2 ha hb e
/-- a law's promise where tables of lambdas are tracked -/
theorem tabs_of {T : List (Addr × Str)} {cs : List (Addr × Addr)} {H : Hp} (h : ∀ p ∈ cs, H p.2 = some (.tbl #[])) (e : ∀ q ∈ T, ∃ p ∈ cs, p.2 = q.1) : LamX.Tabs T H := fun q hq => by
  obtain ⟨p, hp, e⟩ := e q hq
  exact LamX.TabS.nil (by rw [← e]; exact h p hp)
end MP

namespace MP
open PySem L2
def top (i : Nat) : Stmt := PySem.Challenge.pw_namewants_k20_whole_tables.main.body.getD i (.Pass ⟨0, 0, 0, 0⟩)
def inCls : Stmt → List Stmt
  | .ClassDef _ _ _ b _ _ _ _ _ _ _ => b
  | _ => []
def mth (i j : Nat) : Stmt := (inCls (top i)).getD j (.Pass ⟨0, 0, 0, 0⟩)
abbrev st_is_number : Stmt := top 16
abbrev st_Table___len__ : Stmt := mth 25 1
abbrev st_is_part : Stmt := top 17
abbrev st_is_beginning : Stmt := top 18
abbrev st_is_name : Stmt := top 19
abbrev st_need_beginning : Stmt := top 20
abbrev st_need_name : Stmt := top 21
abbrev st_is_side : Stmt := top 22
abbrev st_need_sides : Stmt := top 23
abbrev st_Table___init__ : Stmt := mth 25 0
abbrev st_Table___eq__ : Stmt := mth 25 2
abbrev st_Table_put : Stmt := mth 25 3
abbrev st_Table_drop : Stmt := mth 25 4
abbrev st_Table_longest : Stmt := mth 25 5
abbrev st_Table_found : Stmt := mth 25 6
abbrev st_Table_way : Stmt := mth 25 7
abbrev st_Table_sides : Stmt := mth 25 8
abbrev st_Table_rows : Stmt := mth 25 9
abbrev st__law_cell : Stmt := top 27
abbrev st__law_drawn : Stmt := top 28
abbrev st__law_roll : Stmt := top 29
abbrev st__law_rounds : Stmt := top 30
abbrev st__law_word : Stmt := top 31
abbrev st__law_told : Stmt := top 32
abbrev st__law_head : Stmt := top 33
abbrev st__law_any_name : Stmt := top 34
abbrev st__law_some_sides : Stmt := top 35
abbrev st__law_longest : Stmt := top 36
abbrev st__law_found : Stmt := top 37
abbrev st_law : Stmt := top 38
structure Tx (g : G) : Prop where
  fn : g.fname = FN
  b_isinstance : g.mg "isinstance" = none
  b_int : g.mg "int" = none
  b_bool : g.mg "bool" = none
  b_len : g.mg "len" = none
  k_Table : Cls g.K (g.cls 3)
  n_Table_lines : NoAttr g.K (g.cls 3) "lines"
  b_str : g.mg "str" = none
  b_all : g.mg "all" = none
  c_SIGNS : ∃ t, g.mg "SIGNS" = some (.str "abcdefghijklmnopqrstuvwxyz0123456789" t)
  b_tuple : g.mg "tuple" = none
  c_MOST_PARTS : ∃ t, g.mg "MOST_PARTS" = some (.int 5 t)
  x_BadName : Xc g "BadName" 1
  c_HOUSES : ∃ t, g.mg "HOUSES" = some (.int 8 t)
  b_list : g.mg "list" = none
  b_set : g.mg "set" = none
  x_BadSides : Xc g "BadSides" 3
  mg_Table : g.mg "Table" = some (.ref (g.cls 3))
  o_Table : OwnC g.K (g.cls 3)
  b_range : g.mg "range" = none
  b_sorted : g.mg "sorted" = none
  b_max : g.mg "max" = none
  b_min : g.mg "min" = none
  gx_BadName : g.mg "BadName" = some (.ref (g.ecls 1))
  gx_BadSides : g.mg "BadSides" = some (.ref (g.ecls 3))
  gx_BadNumber : g.mg "BadNumber" = some (.ref (g.ecls 2))
  gx_BadLetter : g.mg "BadLetter" = some (.ref (g.ecls 0))
  gx_NoHouse : g.mg "NoHouse" = some (.ref (g.ecls 6))
  gx_NoWay : g.mg "NoWay" = some (.ref (g.ecls 8))
  gx_NoLetter : g.mg "NoLetter" = some (.ref (g.ecls 7))
  gx_Gone : g.mg "Gone" = some (.ref (g.ecls 5))
  gx_BadStory : g.mg "BadStory" = some (.ref (g.ecls 4))
  b_sum : g.mg "sum" = none
  b_ValueError : g.mg "ValueError" = none
  gx_WantError : g.mg "WantError" = some (.ref (g.ecls 9))
  d_is_number : ∃ f fd, FunD g.K "is_number" "is_number" (defArgs st_is_number) (defBody st_is_number) (defScope st_is_number) [.non] [] f fd ∧ g.mg "is_number" = some (.ref f)
  d_Table___len__ : ∃ f fd, FunD g.K "__len__" "Table.__len__" (defArgs st_Table___len__) (defBody st_Table___len__) (defScope st_Table___len__) [] [] f fd ∧ Cls g.K (g.cls 3) ∧ Meth g.K (g.cls 3) "__len__" f
  d_is_part : ∃ f fd, FunD g.K "is_part" "is_part" (defArgs st_is_part) (defBody st_is_part) (defScope st_is_part) [] [] f fd ∧ g.mg "is_part" = some (.ref f)
  d_is_beginning : ∃ f fd, FunD g.K "is_beginning" "is_beginning" (defArgs st_is_beginning) (defBody st_is_beginning) (defScope st_is_beginning) [] [] f fd ∧ g.mg "is_beginning" = some (.ref f)
  d_is_name : ∃ f fd, FunD g.K "is_name" "is_name" (defArgs st_is_name) (defBody st_is_name) (defScope st_is_name) [] [] f fd ∧ g.mg "is_name" = some (.ref f)
  d_need_beginning : ∃ f fd, FunD g.K "need_beginning" "need_beginning" (defArgs st_need_beginning) (defBody st_need_beginning) (defScope st_need_beginning) [] [] f fd ∧ g.mg "need_beginning" = some (.ref f)
  d_need_name : ∃ f fd, FunD g.K "need_name" "need_name" (defArgs st_need_name) (defBody st_need_name) (defScope st_need_name) [] [] f fd ∧ g.mg "need_name" = some (.ref f)
  d_is_side : ∃ f fd, FunD g.K "is_side" "is_side" (defArgs st_is_side) (defBody st_is_side) (defScope st_is_side) [] [] f fd ∧ g.mg "is_side" = some (.ref f)
  d_need_sides : ∃ f fd, FunD g.K "need_sides" "need_sides" (defArgs st_need_sides) (defBody st_need_sides) (defScope st_need_sides) [] [] f fd ∧ g.mg "need_sides" = some (.ref f)
  d_Table___init__ : ∃ f fd, FunD g.K "__init__" "Table.__init__" (defArgs st_Table___init__) (defBody st_Table___init__) (defScope st_Table___init__) [] [] f fd ∧ g.mg "Table" = some (.ref (g.cls 3)) ∧ Mk g.K (g.cls 3) f
  d_Table___eq__ : ∃ f fd, FunD g.K "__eq__" "Table.__eq__" (defArgs st_Table___eq__) (defBody st_Table___eq__) (defScope st_Table___eq__) [] [] f fd ∧ Cls g.K (g.cls 3) ∧ Meth g.K (g.cls 3) "__eq__" f
  d_Table_put : ∃ f fd, FunD g.K "put" "Table.put" (defArgs st_Table_put) (defBody st_Table_put) (defScope st_Table_put) [] [] f fd ∧ Cls g.K (g.cls 3) ∧ Meth g.K (g.cls 3) "put" f
  d_Table_drop : ∃ f fd, FunD g.K "drop" "Table.drop" (defArgs st_Table_drop) (defBody st_Table_drop) (defScope st_Table_drop) [] [] f fd ∧ Cls g.K (g.cls 3) ∧ Meth g.K (g.cls 3) "drop" f
  d_Table_longest : ∃ f fd, FunD g.K "longest" "Table.longest" (defArgs st_Table_longest) (defBody st_Table_longest) (defScope st_Table_longest) [] [] f fd ∧ Cls g.K (g.cls 3) ∧ Meth g.K (g.cls 3) "longest" f
  d_Table_found : ∃ f fd, FunD g.K "found" "Table.found" (defArgs st_Table_found) (defBody st_Table_found) (defScope st_Table_found) [] [] f fd ∧ Cls g.K (g.cls 3) ∧ Meth g.K (g.cls 3) "found" f
  d_Table_way : ∃ f fd, FunD g.K "way" "Table.way" (defArgs st_Table_way) (defBody st_Table_way) (defScope st_Table_way) [] [] f fd ∧ Cls g.K (g.cls 3) ∧ Meth g.K (g.cls 3) "way" f
  d_Table_sides : ∃ f fd, FunD g.K "sides" "Table.sides" (defArgs st_Table_sides) (defBody st_Table_sides) (defScope st_Table_sides) [] [] f fd ∧ Cls g.K (g.cls 3) ∧ Meth g.K (g.cls 3) "sides" f
  d_Table_rows : ∃ f fd, FunD g.K "rows" "Table.rows" (defArgs st_Table_rows) (defBody st_Table_rows) (defScope st_Table_rows) [] [] f fd ∧ Cls g.K (g.cls 3) ∧ Meth g.K (g.cls 3) "rows" f
  d__law_cell : ∃ f fd, FunD g.K "_law_cell" "_law_cell" (defArgs st__law_cell) (defBody st__law_cell) (defScope st__law_cell) [] [] f fd ∧ g.mg "_law_cell" = some (.ref f)
  d__law_drawn : ∃ f fd, FunD g.K "_law_drawn" "_law_drawn" (defArgs st__law_drawn) (defBody st__law_drawn) (defScope st__law_drawn) [] [] f fd ∧ g.mg "_law_drawn" = some (.ref f)
  d__law_roll : ∃ f fd, FunD g.K "_law_roll" "_law_roll" (defArgs st__law_roll) (defBody st__law_roll) (defScope st__law_roll) [] [] f fd ∧ g.mg "_law_roll" = some (.ref f)
  d__law_rounds : ∃ f fd, FunD g.K "_law_rounds" "_law_rounds" (defArgs st__law_rounds) (defBody st__law_rounds) (defScope st__law_rounds) [] [] f fd ∧ g.mg "_law_rounds" = some (.ref f)
  d__law_word : ∃ f fd, FunD g.K "_law_word" "_law_word" (defArgs st__law_word) (defBody st__law_word) (defScope st__law_word) [] [] f fd ∧ g.mg "_law_word" = some (.ref f)
  d__law_told : ∃ f fd, FunD g.K "_law_told" "_law_told" (defArgs st__law_told) (defBody st__law_told) (defScope st__law_told) [] [] f fd ∧ g.mg "_law_told" = some (.ref f)
  d__law_head : ∃ f fd, FunD g.K "_law_head" "_law_head" (defArgs st__law_head) (defBody st__law_head) (defScope st__law_head) [] [] f fd ∧ g.mg "_law_head" = some (.ref f)
  d__law_any_name : ∃ f fd, FunD g.K "_law_any_name" "_law_any_name" (defArgs st__law_any_name) (defBody st__law_any_name) (defScope st__law_any_name) [] [] f fd ∧ g.mg "_law_any_name" = some (.ref f)
  d__law_some_sides : ∃ f fd, FunD g.K "_law_some_sides" "_law_some_sides" (defArgs st__law_some_sides) (defBody st__law_some_sides) (defScope st__law_some_sides) [] [] f fd ∧ g.mg "_law_some_sides" = some (.ref f)
  d__law_longest : ∃ f fd, FunD g.K "_law_longest" "_law_longest" (defArgs st__law_longest) (defBody st__law_longest) (defScope st__law_longest) [] [] f fd ∧ g.mg "_law_longest" = some (.ref f) ∧ ∀ (oc : Value) (od : Option Addr) (osl : Array (Option Value)) (c : Addr), g.K.lookup f = some ⟨oc, od, .func fd, osl⟩ → fd.code = .ref c → ∃ P : Addr, LamX.TabB g.base g.mg c P ∧ (P, lamQ "_law_longest") ∈ g.T ∧ ∀ p ∈ g.T, p.1 = P → p.2 = lamQ "_law_longest"
  d__law_found : ∃ f fd, FunD g.K "_law_found" "_law_found" (defArgs st__law_found) (defBody st__law_found) (defScope st__law_found) [] [] f fd ∧ g.mg "_law_found" = some (.ref f)
  d_law : ∃ f fd, FunD g.K "law" "law" (defArgs st_law) (defBody st_law) (defScope st_law) [] [] f fd ∧ g.mg "law" = some (.ref f) ∧ ∀ (oc : Value) (od : Option Addr) (osl : Array (Option Value)) (c : Addr), g.K.lookup f = some ⟨oc, od, .func fd, osl⟩ → fd.code = .ref c → ∃ P : Addr, LamX.TabB g.base g.mg c P ∧ (P, lamQ "law") ∈ g.T ∧ ∀ p ∈ g.T, p.1 = P → p.2 = lamQ "law"
  w_exc : ∀ c ∈ exKs, ExcC g.K (g.ecls c)
  w_kit : ∀ c ∈ exKs, ∀ j ∈ exAll, PySem.W.kitOne g.K (.ref (g.ecls c)) (.ref (g.ecls j)) = some (decide (c = j))
  w_ve : ∀ c ∈ exKs, PySem.W.kitOne g.K (.ref (g.ecls c)) (.type "ValueError") = some true
  w_exm : ∀ c ∈ exKs, PySem.W.exmOne g.K (.ref (g.ecls c)) (.ref (g.ecls 9)) = some true
theorem Tx.nm {g : G} (t : Tx g) (i : Nat) {x : Str} (h : x = FN i := by rfl) : x = g.fname i := by rw [t.fn]; exact h
section
variable {g : G}
def N_is_number : List Str := ["thing", "low", "high"]
theorem sc_is_number : FnScope N_is_number ["thing", "low", "high"] (defScope st_is_number) := ⟨rfl, rfl, rfl, by decide +kernel, rfl, by decide +kernel, by decide +kernel⟩
theorem fk_is_number (t : Tx g) {f : Addr} {fd : FuncData} (F : FunD g.K "is_number" "is_number" (defArgs st_is_number) (defBody st_is_number) (defScope st_is_number) [.non] [] f fd) : FOk g 1 f fd ["thing", "low", "high"] f_is_number := by
  refine df_bodyD F sc_is_number fun X E ⟨cdv, A, outer, s, H, hr, hX⟩ => ?_
  have cx : Ctx g E X := by rw [hX]; exact ctx_of hr
  subst hX
  exact (ss_cons (ss_if (st_bool (sw_or (st_not (st_val (se_isi cx (by decide) (se_var 0) (Ctx.free cx t.b_isinstance) (Ctx.free cx t.b_int) (by first | rfl | decide +kernel)))) (sw_or (st_val (se_isi cx (by decide) (se_var 0) (Ctx.free cx t.b_isinstance) (Ctx.free cx t.b_bool) (by first | rfl | decide +kernel))) (sw_one (st_cmp o_lt (se_var 0) (se_var 1) rfl))))) (ss_one (ss_ret se_bl)) ss_nil)
    (ss_one (ss_ret (se_or (se_isN (se_var 2)) (se_one (se_cmp o_le (se_var 0) (se_var 2) rfl))))))
theorem ok_is_number (t : Tx g) : Df g 1 "is_number" f_is_number := by
  obtain ⟨f, fd, F, hm⟩ := t.d_is_number
  exact ⟨f, fd, _, fk_is_number t F, hm, F.kp, binds_full F 3 (by decide) rfl fun _ _ _ _ _ _ _ us its h1 h2 => match us, its, h1, h2 with | [_, _, _], [_], _, _ => ⟨_, rfl, rfl⟩⟩
def N_Table___len__ : List Str := ["self"]
theorem sc_Table___len__ : FnScope N_Table___len__ ["self"] (defScope st_Table___len__) := ⟨rfl, rfl, rfl, by decide +kernel, rfl, by decide +kernel, by decide +kernel⟩
theorem fk_Table___len__ (t : Tx g) {f : Addr} {fd : FuncData} (F : FunD g.K "__len__" "Table.__len__" (defArgs st_Table___len__) (defBody st_Table___len__) (defScope st_Table___len__) [] [] f fd) : FOk g 1 f fd ["self"] f_Table___len__ := by
  refine df_bodyD F sc_Table___len__ fun X E ⟨cdv, A, outer, s, H, hr, hX⟩ => ?_
  have cx : Ctx g E X := by rw [hX]; exact ctx_of hr
  subst hX
  exact (ss_one (ss_ret (se_callB (c_lenD cx) rfl (Ctx.free cx t.b_len) boot_len (sa_cons (se_fld cx (t.nm 38) t.k_Table t.n_Table_lines (se_var 0)) sa_nil))))
theorem ok_Table___len__ (t : Tx g) : Me g 1 3 "__len__" f_Table___len__ := by
  obtain ⟨f, fd, F, hk, hm⟩ := t.d_Table___len__
  exact ⟨f, fd, _, fk_Table___len__ t F, hk, hm, F.bindsN fun _ _ _ _ _ _ us hl => match us, hl with | [_], _ => rfl⟩
def N_is_part : List Str := ["thing", "sign"]
theorem sc_is_part : FnScope N_is_part ["thing"] (defScope st_is_part) := ⟨rfl, rfl, rfl, by decide +kernel, rfl, by decide +kernel, by decide +kernel⟩
theorem fk_is_part (t : Tx g) {f : Addr} {fd : FuncData} (F : FunD g.K "is_part" "is_part" (defArgs st_is_part) (defBody st_is_part) (defScope st_is_part) [] [] f fd) : FOk g 1 f fd ["thing"] f_is_part := by
  refine df_bodyD F sc_is_part fun X E ⟨cdv, A, outer, s, H, hr, hX⟩ => ?_
  have cx : Ctx g E X := by rw [hX]; exact ctx_of hr
  subst hX
  exact (ss_one (ss_ret (se_and (se_isi cx (by decide) (se_var 0) (Ctx.free cx t.b_isinstance) (Ctx.free cx t.b_str) (by first | rfl | decide +kernel)) (se_and (se_chain o_le o_le se_int (se_callB (c_len cx) rfl (Ctx.free cx t.b_len) (by first | rfl | decide +kernel) (sa_cons (se_var 0) sa_nil)) se_int) (se_one (se_callB (c_all rfl) rfl (Ctx.free cx t.b_all) (by first | rfl | decide +kernel) (sa_cons (se_lc rfl sc_is_part.nd (si_str cx (se_var 0)) (own := [("sign", 1)]) (blkOk_by (N := N_is_part) (sc := defScope st_is_part) (by decide +kernel)) (fun s H C cl fp => (sgw_name 1 (by decide) sc_is_part.nd)) (fun s H C cl fp => sts_nil) (fun s H C cl fp => (se_cmp o_inS (se_var 1) (se_globS rfl (Ctx.gs (ctx_blk cx) t.c_SIGNS)) rfl))) sa_nil)))))))
theorem ok_is_part (t : Tx g) : Df g 1 "is_part" f_is_part := by
  obtain ⟨f, fd, F, hm⟩ := t.d_is_part
  exact ⟨f, fd, _, fk_is_part t F, hm, F.kp, F.bindsN fun _ _ _ _ _ _ us hl => match us, hl with | [_], _ => rfl⟩
def N_is_beginning : List Str := ["thing", "one"]
theorem sc_is_beginning : FnScope N_is_beginning ["thing"] (defScope st_is_beginning) := ⟨rfl, rfl, rfl, by decide +kernel, rfl, by decide +kernel, by decide +kernel⟩
theorem fk_is_beginning (t : Tx g) {f : Addr} {fd : FuncData} (F : FunD g.K "is_beginning" "is_beginning" (defArgs st_is_beginning) (defBody st_is_beginning) (defScope st_is_beginning) [] [] f fd) : FOk g 2 f fd ["thing"] f_is_beginning := by
  refine df_bodyD F sc_is_beginning fun X E ⟨cdv, A, outer, s, H, hr, hX⟩ => ?_
  have cx : Ctx g E X := by rw [hX]; exact ctx_of hr
  subst hX
  exact (ss_one (ss_ret (se_and (se_isi cx (by decide) (se_var 0) (Ctx.free cx t.b_isinstance) (Ctx.free cx t.b_tuple) (by first | rfl | decide +kernel)) (se_and (se_cmp o_le (se_callB (c_len cx) rfl (Ctx.free cx t.b_len) (by first | rfl | decide +kernel) (sa_cons (se_var 0) sa_nil)) (se_globI rfl (Ctx.gi cx t.c_MOST_PARTS)) rfl) (se_one (se_callB (c_all rfl) rfl (Ctx.free cx t.b_all) (by first | rfl | decide +kernel) (sa_cons (se_lc rfl sc_is_beginning.nd (si_tup cx.K (se_var 0)) (own := [("one", 1)]) (blkOk_by (N := N_is_beginning) (sc := defScope st_is_beginning) (by decide +kernel)) (fun s H C cl fp => (sgw_name 1 (by decide) sc_is_beginning.nd)) (fun s H C cl fp => sts_nil) (fun s H C cl fp => (se_call (ctx_blk cx) (ok_is_part t) (hr.mono (by decide)) rfl (sa_cons (se_var 1) sa_nil)))) sa_nil)))))))
theorem ok_is_beginning (t : Tx g) : Df g 2 "is_beginning" f_is_beginning := by
  obtain ⟨f, fd, F, hm⟩ := t.d_is_beginning
  exact ⟨f, fd, _, fk_is_beginning t F, hm, F.kp, F.bindsN fun _ _ _ _ _ _ us hl => match us, hl with | [_], _ => rfl⟩
def N_is_name : List Str := ["thing"]
theorem sc_is_name : FnScope N_is_name ["thing"] (defScope st_is_name) := ⟨rfl, rfl, rfl, by decide +kernel, rfl, by decide +kernel, by decide +kernel⟩
theorem fk_is_name (t : Tx g) {f : Addr} {fd : FuncData} (F : FunD g.K "is_name" "is_name" (defArgs st_is_name) (defBody st_is_name) (defScope st_is_name) [] [] f fd) : FOk g 3 f fd ["thing"] f_is_name := by
  refine df_bodyD F sc_is_name fun X E ⟨cdv, A, outer, s, H, hr, hX⟩ => ?_
  have cx : Ctx g E X := by rw [hX]; exact ctx_of hr
  subst hX
  exact (ss_one (ss_ret (se_and (se_call cx (ok_is_beginning t) (hr.mono (by decide)) rfl (sa_cons (se_var 0) sa_nil)) (se_one (se_cmp (o_ne cx) (se_var 0) (se_tup sa_nil) rfl)))))
theorem ok_is_name (t : Tx g) : Df g 3 "is_name" f_is_name := by
  obtain ⟨f, fd, F, hm⟩ := t.d_is_name
  exact ⟨f, fd, _, fk_is_name t F, hm, F.kp, F.bindsN fun _ _ _ _ _ _ us hl => match us, hl with | [_], _ => rfl⟩
def N_need_beginning : List Str := ["thing"]
theorem sc_need_beginning : FnScope N_need_beginning ["thing"] (defScope st_need_beginning) := ⟨rfl, rfl, rfl, by decide +kernel, rfl, by decide +kernel, by decide +kernel⟩
theorem fk_need_beginning (t : Tx g) {f : Addr} {fd : FuncData} (F : FunD g.K "need_beginning" "need_beginning" (defArgs st_need_beginning) (defBody st_need_beginning) (defScope st_need_beginning) [] [] f fd) : FOk g 3 f fd ["thing"] f_need_beginning := by
  refine df_bodyD F sc_need_beginning fun X E ⟨cdv, A, outer, s, H, hr, hX⟩ => ?_
  have cx : Ctx g E X := by rw [hX]; exact ctx_of hr
  subst hX
  exact (ss_one (ss_if (st_not (st_val (se_call cx (ok_is_beginning t) (hr.mono (by decide)) rfl (sa_cons (se_var 0) sa_nil)))) (ss_one (ss_raise cx t.x_BadName rfl rfl)) ss_nil))
theorem ok_need_beginning (t : Tx g) : Df g 3 "need_beginning" f_need_beginning := by
  obtain ⟨f, fd, F, hm⟩ := t.d_need_beginning
  exact ⟨f, fd, _, fk_need_beginning t F, hm, F.kp, F.bindsN fun _ _ _ _ _ _ us hl => match us, hl with | [_], _ => rfl⟩
def N_need_name : List Str := ["thing"]
theorem sc_need_name : FnScope N_need_name ["thing"] (defScope st_need_name) := ⟨rfl, rfl, rfl, by decide +kernel, rfl, by decide +kernel, by decide +kernel⟩
theorem fk_need_name (t : Tx g) {f : Addr} {fd : FuncData} (F : FunD g.K "need_name" "need_name" (defArgs st_need_name) (defBody st_need_name) (defScope st_need_name) [] [] f fd) : FOk g 4 f fd ["thing"] f_need_name := by
  refine df_bodyD F sc_need_name fun X E ⟨cdv, A, outer, s, H, hr, hX⟩ => ?_
  have cx : Ctx g E X := by rw [hX]; exact ctx_of hr
  subst hX
  exact (ss_one (ss_if (st_not (st_val (se_call cx (ok_is_name t) (hr.mono (by decide)) rfl (sa_cons (se_var 0) sa_nil)))) (ss_one (ss_raise cx t.x_BadName rfl rfl)) ss_nil))
theorem ok_need_name (t : Tx g) : Df g 4 "need_name" f_need_name := by
  obtain ⟨f, fd, F, hm⟩ := t.d_need_name
  exact ⟨f, fd, _, fk_need_name t F, hm, F.kp, F.bindsN fun _ _ _ _ _ _ us hl => match us, hl with | [_], _ => rfl⟩
def N_is_side : List Str := ["thing"]
theorem sc_is_side : FnScope N_is_side ["thing"] (defScope st_is_side) := ⟨rfl, rfl, rfl, by decide +kernel, rfl, by decide +kernel, by decide +kernel⟩
theorem fk_is_side (t : Tx g) {f : Addr} {fd : FuncData} (F : FunD g.K "is_side" "is_side" (defArgs st_is_side) (defBody st_is_side) (defScope st_is_side) [] [] f fd) : FOk g 2 f fd ["thing"] f_is_side := by
  refine df_bodyD F sc_is_side fun X E ⟨cdv, A, outer, s, H, hr, hX⟩ => ?_
  have cx : Ctx g E X := by rw [hX]; exact ctx_of hr
  subst hX
  exact (ss_one (ss_ret (se_call cx (ok_is_number t) (hr.mono (by decide)) rfl (sa_cons (se_var 0) (sa_cons se_int (sa_cons (se_bin o_sub (se_globI rfl (Ctx.gi cx t.c_HOUSES)) se_int) sa_nil))))))
theorem ok_is_side (t : Tx g) : Df g 2 "is_side" f_is_side := by
  obtain ⟨f, fd, F, hm⟩ := t.d_is_side
  exact ⟨f, fd, _, fk_is_side t F, hm, F.kp, F.bindsN fun _ _ _ _ _ _ us hl => match us, hl with | [_], _ => rfl⟩
def N_need_sides : List Str := ["thing", "one"]
theorem sc_need_sides : FnScope N_need_sides ["thing"] (defScope st_need_sides) := ⟨rfl, rfl, rfl, by decide +kernel, rfl, by decide +kernel, by decide +kernel⟩
theorem fk_need_sides (t : Tx g) {f : Addr} {fd : FuncData} (F : FunD g.K "need_sides" "need_sides" (defArgs st_need_sides) (defBody st_need_sides) (defScope st_need_sides) [] [] f fd) : FOk g 3 f fd ["thing"] f_need_sides := by
  refine df_bodyD F sc_need_sides fun X E ⟨cdv, A, outer, s, H, hr, hX⟩ => ?_
  have cx : Ctx g E X := by rw [hX]; exact ctx_of hr
  subst hX
  exact (ss_one (ss_if (st_bool (sw_or (st_not (st_val (se_isi cx (by decide) (se_var 0) (Ctx.free cx t.b_isinstance) (Ctx.free cx t.b_list) (by first | rfl | decide +kernel)))) (sw_or (st_not (st_val (se_callB (c_all rfl) rfl (Ctx.free cx t.b_all) (by first | rfl | decide +kernel) (sa_cons (se_lc rfl sc_need_sides.nd (si_lst cx.K (se_var 0)) (own := [("one", 1)]) (blkOk_by (N := N_need_sides) (sc := defScope st_need_sides) (by decide +kernel)) (fun s H C cl fp => (sgw_name 1 (by decide) sc_need_sides.nd)) (fun s H C cl fp => sts_nil) (fun s H C cl fp => (se_call (ctx_blk cx) (ok_is_side t) (hr.mono (by decide)) rfl (sa_cons (se_var 1) sa_nil)))) sa_nil)))) (sw_one (st_cmp o_lt (se_lenSet rfl cx.K rfl (Ctx.free cx t.b_len) rfl (Ctx.free cx t.b_set) (se_var 0)) (se_callB (c_len cx) rfl (Ctx.free cx t.b_len) (by first | rfl | decide +kernel) (sa_cons (se_var 0) sa_nil)) rfl))))) (ss_one (ss_raise cx t.x_BadSides rfl rfl)) ss_nil))
theorem ok_need_sides (t : Tx g) : Df g 3 "need_sides" f_need_sides := by
  obtain ⟨f, fd, F, hm⟩ := t.d_need_sides
  exact ⟨f, fd, _, fk_need_sides t F, hm, F.kp, F.bindsN fun _ _ _ _ _ _ us hl => match us, hl with | [_], _ => rfl⟩
def N_Table___init__ : List Str := ["self"]
theorem sc_Table___init__ : FnScope N_Table___init__ ["self"] (defScope st_Table___init__) := ⟨rfl, rfl, rfl, by decide +kernel, rfl, by decide +kernel, by decide +kernel⟩
theorem fk_Table___init__ (t : Tx g) {f : Addr} {fd : FuncData} (F : FunD g.K "__init__" "Table.__init__" (defArgs st_Table___init__) (defBody st_Table___init__) (defScope st_Table___init__) [] [] f fd) : FOk g 1 f fd ["self"] f_Table___init__ := by
  refine df_bodyD F sc_Table___init__ fun X E ⟨cdv, A, outer, s, H, hr, hX⟩ => ?_
  have cx : Ctx g E X := by rw [hX]; exact ctx_of hr
  subst hX
  exact (ss_one (ss_fld cx (t.nm 38) t.k_Table t.n_Table_lines (se_var 0) se_dicT))
theorem ok_Table___init__ (t : Tx g) : Mi g 1 "Table" 3 f_Table___init__ := by
  obtain ⟨f, fd, F, hm, hk⟩ := t.d_Table___init__
  exact ⟨f, fd, _, fk_Table___init__ t F, hm, hk, F.bindsN fun _ _ _ _ _ _ us hl => match us, hl with | [_], _ => rfl⟩
def N_Table___eq__ : List Str := ["self", "other"]
theorem sc_Table___eq__ : FnScope N_Table___eq__ ["self", "other"] (defScope st_Table___eq__) := ⟨rfl, rfl, rfl, by decide +kernel, rfl, by decide +kernel, by decide +kernel⟩
theorem fk_Table___eq__ (t : Tx g) {f : Addr} {fd : FuncData} (F : FunD g.K "__eq__" "Table.__eq__" (defArgs st_Table___eq__) (defBody st_Table___eq__) (defScope st_Table___eq__) [] [] f fd) : FOk g 1 f fd ["self", "other"] f_Table___eq__ := by
  refine df_bodyD F sc_Table___eq__ fun X E ⟨cdv, A, outer, s, H, hr, hX⟩ => ?_
  have cx : Ctx g E X := by rw [hX]; exact ctx_of hr
  subst hX
  exact (ss_one (ss_ret (se_and (se_isiO cx rfl rfl (Ctx.free cx t.b_isinstance) rfl t.mg_Table t.k_Table t.o_Table (se_var 1)) (se_one (se_cmp (o_eqT cx) (se_fld cx (t.nm 38) t.k_Table t.n_Table_lines (se_var 0)) (se_fld cx (t.nm 38) t.k_Table t.n_Table_lines (se_var 1)) rfl)))))
theorem ok_Table___eq__ (t : Tx g) : Me g 1 3 "__eq__" f_Table___eq__ := by
  obtain ⟨f, fd, F, hk, hm⟩ := t.d_Table___eq__
  exact ⟨f, fd, _, fk_Table___eq__ t F, hk, hm, F.bindsN fun _ _ _ _ _ _ us hl => match us, hl with | [_, _], _ => rfl⟩
def N_Table_put : List Str := ["self", "beginning", "sides"]
theorem sc_Table_put : FnScope N_Table_put ["self", "beginning", "sides"] (defScope st_Table_put) := ⟨rfl, rfl, rfl, by decide +kernel, rfl, by decide +kernel, by decide +kernel⟩
theorem fk_Table_put (t : Tx g) {f : Addr} {fd : FuncData} (F : FunD g.K "put" "Table.put" (defArgs st_Table_put) (defBody st_Table_put) (defScope st_Table_put) [] [] f fd) : FOk g 4 f fd ["self", "beginning", "sides"] f_Table_put := by
  refine df_bodyD F sc_Table_put fun X E ⟨cdv, A, outer, s, H, hr, hX⟩ => ?_
  have cx : Ctx g E X := by rw [hX]; exact ctx_of hr
  subst hX
  exact (ss_cons (ss_expr (se_call cx (ok_need_beginning t) (hr.mono (by decide)) rfl (sa_cons (se_var 1) sa_nil)))
    (ss_cons (ss_expr (se_call cx (ok_need_sides t) (hr.mono (by decide)) rfl (sa_cons (se_var 2) sa_nil)))
    (ss_one (ss_asg (se_callT (c_list) rfl (Ctx.free cx t.b_list) (by first | rfl | decide +kernel) (sa_cons (se_var 2) sa_nil)) (sg_setD cx (se_fld cx (t.nm 38) t.k_Table t.n_Table_lines (se_var 0)) (se_var 1))))))
theorem ok_Table_put (t : Tx g) : Me g 4 3 "put" f_Table_put := by
  obtain ⟨f, fd, F, hk, hm⟩ := t.d_Table_put
  exact ⟨f, fd, _, fk_Table_put t F, hk, hm, F.bindsN fun _ _ _ _ _ _ us hl => match us, hl with | [_, _, _], _ => rfl⟩
def N_Table_drop : List Str := ["self", "beginning"]
theorem sc_Table_drop : FnScope N_Table_drop ["self", "beginning"] (defScope st_Table_drop) := ⟨rfl, rfl, rfl, by decide +kernel, rfl, by decide +kernel, by decide +kernel⟩
theorem fk_Table_drop (t : Tx g) {f : Addr} {fd : FuncData} (F : FunD g.K "drop" "Table.drop" (defArgs st_Table_drop) (defBody st_Table_drop) (defScope st_Table_drop) [] [] f fd) : FOk g 4 f fd ["self", "beginning"] f_Table_drop := by
  refine df_bodyD F sc_Table_drop fun X E ⟨cdv, A, outer, s, H, hr, hX⟩ => ?_
  have cx : Ctx g E X := by rw [hX]; exact ctx_of hr
  subst hX
  exact (ss_cons (ss_expr (se_call cx (ok_need_beginning t) (hr.mono (by decide)) rfl (sa_cons (se_var 1) sa_nil)))
    (ss_cons (ss_if (st_cmp (o_notInD cx) (se_var 1) (se_fld cx (t.nm 38) t.k_Table t.n_Table_lines (se_var 0)) rfl) (ss_one (ss_raise cx t.x_BadName rfl rfl)) ss_nil)
    (ss_one (ss_expr (se_bmD cx PySem.F.slot_dict_pop PySem.F.type_dict_pop (m_pop1 cx) (se_fld cx (t.nm 38) t.k_Table t.n_Table_lines (se_var 0)) (sa_cons (se_var 1) sa_nil))))))
theorem ok_Table_drop (t : Tx g) : Me g 4 3 "drop" f_Table_drop := by
  obtain ⟨f, fd, F, hk, hm⟩ := t.d_Table_drop
  exact ⟨f, fd, _, fk_Table_drop t F, hk, hm, F.bindsN fun _ _ _ _ _ _ us hl => match us, hl with | [_, _], _ => rfl⟩
def N_Table_longest : List Str := ["self", "name", "many"]
theorem sc_Table_longest : FnScope N_Table_longest ["self", "name"] (defScope st_Table_longest) := ⟨rfl, rfl, rfl, by decide +kernel, rfl, by decide +kernel, by decide +kernel⟩
theorem fk_Table_longest (t : Tx g) {f : Addr} {fd : FuncData} (F : FunD g.K "longest" "Table.longest" (defArgs st_Table_longest) (defBody st_Table_longest) (defScope st_Table_longest) [] [] f fd) : FOk g 1 f fd ["self", "name"] f_Table_longest := by
  refine df_bodyD F sc_Table_longest fun X E ⟨cdv, A, outer, s, H, hr, hX⟩ => ?_
  have cx : Ctx g E X := by rw [hX]; exact ctx_of hr
  subst hX
  exact (ss_cons (ss_for own_of rfl (si_rngDn rfl (Ctx.free cx t.b_range) (se_callB (c_len cx) rfl (Ctx.free cx t.b_len) (by first | rfl | decide +kernel) (sa_cons (se_var 1) sa_nil)) (se_neg se_int) (se_neg se_int)) (sg_name 2 sc_Table_longest.nd) (ss_one (ss_if (st_cmp (o_inD cx) (se_sl cx (se_var 1) sp_no (sp_some (se_var 2))) (se_fld cx (t.nm 38) t.k_Table t.n_Table_lines (se_var 0)) rfl) (ss_one (ss_ret (se_sl cx (se_var 1) sp_no (sp_some (se_var 2))))) ss_nil)))
    (ss_one (ss_ret se_non)))
theorem ok_Table_longest (t : Tx g) : Me g 1 3 "longest" f_Table_longest := by
  obtain ⟨f, fd, F, hk, hm⟩ := t.d_Table_longest
  exact ⟨f, fd, _, fk_Table_longest t F, hk, hm, F.bindsN fun _ _ _ _ _ _ us hl => match us, hl with | [_, _], _ => rfl⟩
def N_Table_found : List Str := ["self", "name", "beginning"]
theorem sc_Table_found : FnScope N_Table_found ["self", "name"] (defScope st_Table_found) := ⟨rfl, rfl, rfl, by decide +kernel, rfl, by decide +kernel, by decide +kernel⟩
theorem fk_Table_found (t : Tx g) {f : Addr} {fd : FuncData} (F : FunD g.K "found" "Table.found" (defArgs st_Table_found) (defBody st_Table_found) (defScope st_Table_found) [] [] f fd) : FOk g 2 f fd ["self", "name"] f_Table_found := by
  refine df_bodyD F sc_Table_found fun X E ⟨cdv, A, outer, s, H, hr, hX⟩ => ?_
  have cx : Ctx g E X := by rw [hX]; exact ctx_of hr
  subst hX
  exact (ss_cons (ss_set 2 sc_Table_found.nd (se_meth cx (ok_Table_longest t) (hr.mono (by decide)) (t.nm 39) (se_var 0) (sa_cons (se_var 1) sa_nil)))
    (ss_one (ss_ret (se_if (st_isN (se_var 2)) (se_lst sa_nil) (se_callT (c_list) rfl (Ctx.free cx t.b_list) (by first | rfl | decide +kernel) (sa_cons (se_dget cx (se_fld cx (t.nm 38) t.k_Table t.n_Table_lines (se_var 0)) (se_var 2)) sa_nil))))))
theorem ok_Table_found (t : Tx g) : Me g 2 3 "found" f_Table_found := by
  obtain ⟨f, fd, F, hk, hm⟩ := t.d_Table_found
  exact ⟨f, fd, _, fk_Table_found t F, hk, hm, F.bindsN fun _ _ _ _ _ _ us hl => match us, hl with | [_, _], _ => rfl⟩
def N_Table_way : List Str := ["self", "name", "beginning"]
theorem sc_Table_way : FnScope N_Table_way ["self", "name"] (defScope st_Table_way) := ⟨rfl, rfl, rfl, by decide +kernel, rfl, by decide +kernel, by decide +kernel⟩
theorem fk_Table_way (t : Tx g) {f : Addr} {fd : FuncData} (F : FunD g.K "way" "Table.way" (defArgs st_Table_way) (defBody st_Table_way) (defScope st_Table_way) [] [] f fd) : FOk g 5 f fd ["self", "name"] f_Table_way := by
  refine df_bodyD F sc_Table_way fun X E ⟨cdv, A, outer, s, H, hr, hX⟩ => ?_
  have cx : Ctx g E X := by rw [hX]; exact ctx_of hr
  subst hX
  exact (ss_cons (ss_expr (se_call cx (ok_need_name t) (hr.mono (by decide)) rfl (sa_cons (se_var 1) sa_nil)))
    (ss_cons (ss_set 2 sc_Table_way.nd (se_meth cx (ok_Table_longest t) (hr.mono (by decide)) (t.nm 39) (se_var 0) (sa_cons (se_var 1) sa_nil)))
    (ss_one (ss_ret (se_if (st_isN (se_var 2)) se_non (se_tup (sa_cons (se_var 2) (sa_cons (se_callT (c_list) rfl (Ctx.free cx t.b_list) (by first | rfl | decide +kernel) (sa_cons (se_dget cx (se_fld cx (t.nm 38) t.k_Table t.n_Table_lines (se_var 0)) (se_var 2)) sa_nil)) sa_nil))))))))
theorem ok_Table_way (t : Tx g) : Me g 5 3 "way" f_Table_way := by
  obtain ⟨f, fd, F, hk, hm⟩ := t.d_Table_way
  exact ⟨f, fd, _, fk_Table_way t F, hk, hm, F.bindsN fun _ _ _ _ _ _ us hl => match us, hl with | [_, _], _ => rfl⟩
def N_Table_sides : List Str := ["self", "name"]
theorem sc_Table_sides : FnScope N_Table_sides ["self", "name"] (defScope st_Table_sides) := ⟨rfl, rfl, rfl, by decide +kernel, rfl, by decide +kernel, by decide +kernel⟩
theorem fk_Table_sides (t : Tx g) {f : Addr} {fd : FuncData} (F : FunD g.K "sides" "Table.sides" (defArgs st_Table_sides) (defBody st_Table_sides) (defScope st_Table_sides) [] [] f fd) : FOk g 5 f fd ["self", "name"] f_Table_sides := by
  refine df_bodyD F sc_Table_sides fun X E ⟨cdv, A, outer, s, H, hr, hX⟩ => ?_
  have cx : Ctx g E X := by rw [hX]; exact ctx_of hr
  subst hX
  exact (ss_cons (ss_expr (se_call cx (ok_need_name t) (hr.mono (by decide)) rfl (sa_cons (se_var 1) sa_nil)))
    (ss_one (ss_ret (se_meth cx (ok_Table_found t) (hr.mono (by decide)) (t.nm 23) (se_var 0) (sa_cons (se_var 1) sa_nil)))))
theorem ok_Table_sides (t : Tx g) : Me g 5 3 "sides" f_Table_sides := by
  obtain ⟨f, fd, F, hk, hm⟩ := t.d_Table_sides
  exact ⟨f, fd, _, fk_Table_sides t F, hk, hm, F.bindsN fun _ _ _ _ _ _ us hl => match us, hl with | [_, _], _ => rfl⟩
def N_Table_rows : List Str := ["self", "beginning"]
theorem sc_Table_rows : FnScope N_Table_rows ["self"] (defScope st_Table_rows) := ⟨rfl, rfl, rfl, by decide +kernel, rfl, by decide +kernel, by decide +kernel⟩
theorem fk_Table_rows (t : Tx g) {f : Addr} {fd : FuncData} (F : FunD g.K "rows" "Table.rows" (defArgs st_Table_rows) (defBody st_Table_rows) (defScope st_Table_rows) [] [] f fd) : FOk g 1 f fd ["self"] f_Table_rows := by
  refine df_bodyD F sc_Table_rows fun X E ⟨cdv, A, outer, s, H, hr, hX⟩ => ?_
  have cx : Ctx g E X := by rw [hX]; exact ctx_of hr
  subst hX
  exact (ss_one (ss_ret (se_lc rfl sc_Table_rows.nd (si_lst cx.K (se_callB (c_sorted cx rfl) rfl (Ctx.free cx t.b_sorted) (by first | rfl | decide +kernel) (sa_cons (se_fld cx (t.nm 38) t.k_Table t.n_Table_lines (se_var 0)) sa_nil))) (own := [("beginning", 1)]) (blkOk_by (N := N_Table_rows) (sc := defScope st_Table_rows) (by decide +kernel)) (fun s H C cl fp => (sgw_name 1 (by decide) sc_Table_rows.nd)) (fun s H C cl fp => sts_nil) (fun s H C cl fp => (se_tup (sa_cons (se_var 1) (sa_cons (se_callT (c_list) rfl (Ctx.free (ctx_blk cx) t.b_list) (by first | rfl | decide +kernel) (sa_cons (se_dget (ctx_blk cx) (se_fld (ctx_blk cx) (t.nm 38) t.k_Table t.n_Table_lines (se_var 0)) (se_var 1)) sa_nil)) sa_nil)))))))
theorem ok_Table_rows (t : Tx g) : Me g 1 3 "rows" f_Table_rows := by
  obtain ⟨f, fd, F, hk, hm⟩ := t.d_Table_rows
  exact ⟨f, fd, _, fk_Table_rows t F, hk, hm, F.bindsN fun _ _ _ _ _ _ us hl => match us, hl with | [_], _ => rfl⟩
def N__law_cell : List Str := ["_law_script", "_law_k"]
theorem sc__law_cell : FnScope N__law_cell ["_law_script", "_law_k"] (defScope st__law_cell) := ⟨rfl, rfl, rfl, by decide +kernel, rfl, by decide +kernel, by decide +kernel⟩
theorem fk__law_cell (t : Tx g) {f : Addr} {fd : FuncData} (F : FunD g.K "_law_cell" "_law_cell" (defArgs st__law_cell) (defBody st__law_cell) (defScope st__law_cell) [] [] f fd) : FOk g 1 f fd ["_law_script", "_law_k"] f__law_cell := by
  refine df_bodyD F sc__law_cell fun X E ⟨cdv, A, outer, s, H, hr, hX⟩ => ?_
  have cx : Ctx g E X := by rw [hX]; exact ctx_of hr
  subst hX
  exact (ss_cons (ss_if (st_cmp (o_eq cx) (se_var 0) (se_lst sa_nil) rfl) (ss_one (ss_ret (se_bin (o_mul cx) (se_var 1) se_int))) ss_nil)
    (ss_one (ss_ret (se_bin (o_add cx) (se_ix cx (se_var 0) (se_bin o_mod (se_var 1) (se_callB (c_len cx) rfl (Ctx.free cx t.b_len) (by first | rfl | decide +kernel) (sa_cons (se_var 0) sa_nil)))) (se_bin (o_mul cx) (se_bin o_div (se_var 1) (se_callB (c_len cx) rfl (Ctx.free cx t.b_len) (by first | rfl | decide +kernel) (sa_cons (se_var 0) sa_nil))) se_int)))))
theorem ok__law_cell (t : Tx g) : Df g 1 "_law_cell" f__law_cell := by
  obtain ⟨f, fd, F, hm⟩ := t.d__law_cell
  exact ⟨f, fd, _, fk__law_cell t F, hm, F.kp, F.bindsN fun _ _ _ _ _ _ us hl => match us, hl with | [_, _], _ => rfl⟩
def N__law_drawn : List Str := ["_law_cell_here", "_law_k", "_law_more"]
theorem sc__law_drawn : FnScope N__law_drawn ["_law_cell_here", "_law_k"] (defScope st__law_drawn) := ⟨rfl, rfl, rfl, by decide +kernel, rfl, by decide +kernel, by decide +kernel⟩
theorem fk__law_drawn (t : Tx g) {f : Addr} {fd : FuncData} (F : FunD g.K "_law_drawn" "_law_drawn" (defArgs st__law_drawn) (defBody st__law_drawn) (defScope st__law_drawn) [] [] f fd) : FOk g 1 f fd ["_law_cell_here", "_law_k"] f__law_drawn := by
  refine df_bodyD F sc__law_drawn fun X E ⟨cdv, A, outer, s, H, hr, hX⟩ => ?_
  have cx : Ctx g E X := by rw [hX]; exact ctx_of hr
  subst hX
  exact (ss_cons (ss_set 2 sc__law_drawn.nd (se_bin o_mod (se_bin (o_add cx) (se_bin (o_mul cx) (se_var 0) se_int) (se_bin (o_mul cx) (se_bin (o_add cx) (se_var 1) se_int) se_int)) se_int))
    (ss_cons (ss_set 2 sc__law_drawn.nd (se_bin o_mod (se_bin (o_mul cx) (se_var 2) (se_var 2)) se_int))
    (ss_cons (ss_set 2 sc__law_drawn.nd (se_bin (o_mul cx) (se_bin (o_mul cx) (se_bin (o_add cx) (se_bin o_mod (se_var 2) se_int) se_int) (se_bin (o_add cx) (se_bin o_div (se_var 2) se_int) se_int)) (se_var 2)))
    (ss_one (ss_ret (se_bin o_mod (se_var 2) se_int))))))
theorem ok__law_drawn (t : Tx g) : Df g 1 "_law_drawn" f__law_drawn := by
  obtain ⟨f, fd, F, hm⟩ := t.d__law_drawn
  exact ⟨f, fd, _, fk__law_drawn t F, hm, F.kp, F.bindsN fun _ _ _ _ _ _ us hl => match us, hl with | [_, _], _ => rfl⟩
def N__law_roll : List Str := ["_law_dice", "_law_many", "_law_told_here"]
theorem sc__law_roll : FnScope N__law_roll ["_law_dice", "_law_many"] (defScope st__law_roll) := ⟨rfl, rfl, rfl, by decide +kernel, rfl, by decide +kernel, by decide +kernel⟩
theorem fk__law_roll (t : Tx g) {f : Addr} {fd : FuncData} (F : FunD g.K "_law_roll" "_law_roll" (defArgs st__law_roll) (defBody st__law_roll) (defScope st__law_roll) [] [] f fd) : FOk g 2 f fd ["_law_dice", "_law_many"] f__law_roll := by
  refine df_bodyD F sc__law_roll fun X E ⟨cdv, A, outer, s, H, hr, hX⟩ => ?_
  have cx : Ctx g E X := by rw [hX]; exact ctx_of hr
  subst hX
  exact (ss_cons (ss_if (st_cmp o_ge (se_ix cx (se_var 0) se_int) (se_bin o_pow se_int se_int) rfl) (ss_cons (ss_set 2 sc__law_roll.nd (se_bin o_mod (se_ix cx (se_var 0) se_int) (se_var 1)))
    (ss_cons (ss_asg (se_bin o_div (se_ix cx (se_var 0) se_int) (se_var 1)) (sg_setL cx (se_var 0) se_int))
    (ss_one (ss_ret (se_var 2))))) ss_nil)
    (ss_cons (ss_asg (se_bin (o_add cx) (se_ix cx (se_var 0) se_int) se_int) (sg_setL cx (se_var 0) se_int))
    (ss_one (ss_ret (se_bin o_mod (se_bin o_div (se_call cx (ok__law_drawn t) (hr.mono (by decide)) rfl (sa_cons (se_ix cx (se_var 0) se_int) (sa_cons (se_ix cx (se_var 0) se_int) sa_nil))) se_int) (se_var 1))))))
theorem ok__law_roll (t : Tx g) : Df g 2 "_law_roll" f__law_roll := by
  obtain ⟨f, fd, F, hm⟩ := t.d__law_roll
  exact ⟨f, fd, _, fk__law_roll t F, hm, F.kp, F.bindsN fun _ _ _ _ _ _ us hl => match us, hl with | [_, _], _ => rfl⟩
def N__law_rounds : List Str := ["_law_script", "_law_most", "_law_k"]
theorem sc__law_rounds : FnScope N__law_rounds ["_law_script", "_law_most"] (defScope st__law_rounds) := ⟨rfl, rfl, rfl, by decide +kernel, rfl, by decide +kernel, by decide +kernel⟩
theorem fk__law_rounds (t : Tx g) {f : Addr} {fd : FuncData} (F : FunD g.K "_law_rounds" "_law_rounds" (defArgs st__law_rounds) (defBody st__law_rounds) (defScope st__law_rounds) [] [] f fd) : FOk g 2 f fd ["_law_script", "_law_most"] f__law_rounds := by
  refine df_bodyD F sc__law_rounds fun X E ⟨cdv, A, outer, s, H, hr, hX⟩ => ?_
  have cx : Ctx g E X := by rw [hX]; exact ctx_of hr
  subst hX
  exact (ss_one (ss_ret (se_lc rfl sc__law_rounds.nd (si_rng1 rfl (Ctx.free cx t.b_range) (se_callB (c_max2 rfl) rfl (Ctx.free cx t.b_max) (by first | rfl | decide +kernel) (sa_cons se_int (sa_cons (se_callB (c_min2 rfl) rfl (Ctx.free cx t.b_min) (by first | rfl | decide +kernel) (sa_cons (se_var 1) (sa_cons (se_callB (c_len cx) rfl (Ctx.free cx t.b_len) (by first | rfl | decide +kernel) (sa_cons (se_var 0) sa_nil)) sa_nil))) sa_nil)))) (own := [("_law_k", 2)]) (blkOk_by (N := N__law_rounds) (sc := defScope st__law_rounds) (by decide +kernel)) (fun s H C cl fp => (sgw_name 2 (by decide) sc__law_rounds.nd)) (fun s H C cl fp => sts_nil) (fun s H C cl fp => (se_lst (sa_cons (se_call (ctx_blk cx) (ok__law_cell t) (hr.mono (by decide)) rfl (sa_cons (se_var 0) (sa_cons (se_var 2) sa_nil))) (sa_cons se_int sa_nil)))))))
theorem ok__law_rounds (t : Tx g) : Df g 2 "_law_rounds" f__law_rounds := by
  obtain ⟨f, fd, F, hm⟩ := t.d__law_rounds
  exact ⟨f, fd, _, fk__law_rounds t F, hm, F.kp, F.bindsN fun _ _ _ _ _ _ us hl => match us, hl with | [_, _], _ => rfl⟩
def N__law_word : List Str := ["_law_e", "_law_flags", "_law_words", "_law_flag"]
theorem sc__law_word : FnScope N__law_word ["_law_e"] (defScope st__law_word) := ⟨rfl, rfl, rfl, by decide +kernel, rfl, by decide +kernel, by decide +kernel⟩
theorem hk_word (t : Tx g) : HDf g 1 "_law_word" exKs (fun a x => f__law_word a x) := by
  obtain ⟨f, fd, F, hm⟩ := t.d__law_word
  refine ⟨f, fd, _, hf_body (body := c__law_word) F sc__law_word (fun X p c ⟨cdv, A, outer, s, H, hot, hr, hX⟩ hz dat hc => ?_), hm, F.kp, F.bindsN fun _ _ _ _ _ _ us hl => match us, hl with | [_], _ => rfl⟩
  have cx : Ctx g E0 X := by rw [hX]; exact ctx_hot hr
  have hin : L2H.HotC X := by rw [hX]; exact hot_in hot
  have hp : (p.1, p.2) ∈ X.pn := by rw [hX]; exact List.mem_singleton_self _
  subst hX
  exact (ss_cons (ss_set 1 sc__law_word.nd (se_lst (sa_cons (se_isE cx hp (t.w_exc _ hc) hz dat t.b_isinstance (se_var 0) (pe_glob (v := .ref (g.ecls 1)) rfl (by rw [cx.mg]; exact t.gx_BadName) rfl) (fun u h => h) (t.w_kit _ hc 1 (by decide))) (sa_cons (se_isE cx hp (t.w_exc _ hc) hz dat t.b_isinstance (se_var 0) (pe_glob (v := .ref (g.ecls 3)) rfl (by rw [cx.mg]; exact t.gx_BadSides) rfl) (fun u h => h) (t.w_kit _ hc 3 (by decide))) (sa_cons (se_isE cx hp (t.w_exc _ hc) hz dat t.b_isinstance (se_var 0) (pe_glob (v := .ref (g.ecls 2)) rfl (by rw [cx.mg]; exact t.gx_BadNumber) rfl) (fun u h => h) (t.w_kit _ hc 2 (by decide))) (sa_cons (se_isE cx hp (t.w_exc _ hc) hz dat t.b_isinstance (se_var 0) (pe_glob (v := .ref (g.ecls 0)) rfl (by rw [cx.mg]; exact t.gx_BadLetter) rfl) (fun u h => h) (t.w_kit _ hc 0 (by decide))) sa_nil))))))
    (ss_cons (ss_set 1 sc__law_word.nd (se_bin (o_add cx) (se_var 1) (se_lst (sa_cons (se_isE cx hp (t.w_exc _ hc) hz dat t.b_isinstance (se_var 0) (pe_glob (v := .ref (g.ecls 6)) rfl (by rw [cx.mg]; exact t.gx_NoHouse) rfl) (fun u h => h) (t.w_kit _ hc 6 (by decide))) (sa_cons (se_isE cx hp (t.w_exc _ hc) hz dat t.b_isinstance (se_var 0) (pe_glob (v := .ref (g.ecls 8)) rfl (by rw [cx.mg]; exact t.gx_NoWay) rfl) (fun u h => h) (t.w_kit _ hc 8 (by decide))) (sa_cons (se_isE cx hp (t.w_exc _ hc) hz dat t.b_isinstance (se_var 0) (pe_glob (v := .ref (g.ecls 7)) rfl (by rw [cx.mg]; exact t.gx_NoLetter) rfl) (fun u h => h) (t.w_kit _ hc 7 (by decide))) (sa_cons (se_isE cx hp (t.w_exc _ hc) hz dat t.b_isinstance (se_var 0) (pe_glob (v := .ref (g.ecls 5)) rfl (by rw [cx.mg]; exact t.gx_Gone) rfl) (fun u h => h) (t.w_kit _ hc 5 (by decide))) sa_nil)))))))
    (ss_cons (ss_expr (se_bm cx PySem.F.plainAttrs_list PySem.F.slot_list_append PySem.F.type_list_append m_append (.inl rfl) (se_var 1) (sa_cons (se_isE cx hp (t.w_exc _ hc) hz dat t.b_isinstance (se_var 0) (pe_glob (v := .ref (g.ecls 4)) rfl (by rw [cx.mg]; exact t.gx_BadStory) rfl) (fun u h => h) (t.w_kit _ hc 4 (by decide))) sa_nil)))
    (ss_cons (ss_set 2 sc__law_word.nd (se_lst (sa_cons (se_str (x := [66, 97, 100, 78, 97, 109, 101])) (sa_cons (se_str (x := [66, 97, 100, 83, 105, 100, 101, 115])) (sa_cons (se_str (x := [66, 97, 100, 78, 117, 109, 98, 101, 114])) (sa_cons (se_str (x := [66, 97, 100, 76, 101, 116, 116, 101, 114])) (sa_cons (se_str (x := [78, 111, 72, 111, 117, 115, 101])) (sa_cons (se_str (x := [78, 111, 87, 97, 121])) (sa_cons (se_str (x := [78, 111, 76, 101, 116, 116, 101, 114])) (sa_cons (se_str (x := [71, 111, 110, 101])) (sa_cons (se_str (x := [66, 97, 100, 83, 116, 111, 114, 121])) sa_nil)))))))))))
    (ss_cons (ss_if (st_bool (sw_or (st_cmp (o_ne cx) (se_callB (c_sumH hin) rfl (Ctx.free cx t.b_sum) (by first | rfl | decide +kernel) (sa_cons (se_intsH cx hin (se_var 1) t.b_int (by decide +kernel) (by decide +kernel) rfl (by decide +kernel) rfl rfl (by decide)) sa_nil)) se_int rfl) (sw_one (st_not (st_val (se_isE cx hp (t.w_exc _ hc) hz dat t.b_isinstance (se_var 0) (pe_bltn (v := .ty "ValueError") rfl (Ctx.free cx t.b_ValueError) (by first | rfl | decide +kernel) rfl) (fun u h => h) (t.w_ve _ hc))))))) (ss_one (ss_ret (se_tup (sa_cons (se_str (x := [114, 101, 102, 117, 115, 101, 100])) (sa_cons (se_str (x := [111, 116, 104, 101, 114])) sa_nil))))) ss_nil)
    (ss_one (ss_ret (se_tup (sa_cons (se_str (x := [114, 101, 102, 117, 115, 101, 100])) (sa_cons (se_ix cx (se_var 2) (se_bm cx PySem.F.plainAttrs_list PySem.F.slot_list_index PySem.F.type_list_index (m_index cx) (.inl rfl) (se_var 1) (sa_cons se_bl sa_nil))) sa_nil))))))))))
def N__law_told : List Str := ["_law_deed", "_law_e"]
theorem sc__law_told : FnScope N__law_told ["_law_deed"] (defScope st__law_told) := ⟨rfl, rfl, rfl, by decide +kernel, rfl, by decide +kernel, by decide +kernel⟩
theorem told_ok (t : Tx g) {k : Nat} (hk : 1 ≤ k + 1) : ToldFn g k "_law_told" exKs wT wO := by
  obtain ⟨f, fd, F, hm⟩ := t.d__law_told
  refine told_fn (hc := c__law_told) F hm (F.bindsN fun _ _ _ _ _ _ us hl => match us, hl with | [_], _ => rfl) sc__law_told rfl rfl t.gx_WantError (by decide) (by first | exact Or.inl rfl | exact Or.inr (Or.inl rfl) | exact Or.inr (Or.inr rfl)) (by decide) (by decide) t.w_exm (fun X p c ⟨cdv, A, outer, s, H, pn, rh, hX⟩ cx hot hp hz dat hc => ?_) toldW
  have hp : (p.1, p.2) ∈ X.pn := hp
  subst hX
  exact ss_one (ss_ret (se_bin (o_add cx) (se_callH cx (hk_word t) hot hp hz hc (rh.mono hk) rfl (sa_cons (se_var 1) sa_nil)) (se_if (st_val (se_isE cx hp (t.w_exc _ hc) hz dat t.b_isinstance (se_var 1) (pe_glob (v := .ref (g.ecls 5)) rfl (by rw [cx.mg]; exact t.gx_Gone) rfl) (fun u h => h) (t.w_kit _ hc 5 (by decide)))) (se_tup (sa_cons se_err sa_nil)) (se_tup sa_nil))))
def N__law_head : List Str := ["_law_dice", "_law_parts", "_law_turn"]
theorem sc__law_head : FnScope N__law_head ["_law_dice"] (defScope st__law_head) := ⟨rfl, rfl, rfl, by decide +kernel, rfl, by decide +kernel, by decide +kernel⟩
theorem fk__law_head (t : Tx g) {f : Addr} {fd : FuncData} (F : FunD g.K "_law_head" "_law_head" (defArgs st__law_head) (defBody st__law_head) (defScope st__law_head) [] [] f fd) : FOk g 3 f fd ["_law_dice"] f__law_head := by
  refine df_bodyD F sc__law_head fun X E ⟨cdv, A, outer, s, H, hr, hX⟩ => ?_
  have cx : Ctx g E X := by rw [hX]; exact ctx_of hr
  subst hX
  exact (ss_cons (ss_set 1 sc__law_head.nd (se_lst (sa_cons (se_str (x := [97])) (sa_cons (se_str (x := [98])) (sa_cons (se_str (x := [99])) (sa_cons (se_str (x := [120, 57])) (sa_cons (se_str (x := [108, 111, 110, 103])) sa_nil)))))))
    (ss_one (ss_ret (se_callT (c_tuple) rfl (Ctx.free cx t.b_tuple) (by first | rfl | decide +kernel) (sa_cons (se_lc rfl sc__law_head.nd (si_rng1 rfl (Ctx.free cx t.b_range) (se_call cx (ok__law_roll t) (hr.mono (by decide)) rfl (sa_cons (se_var 0) (sa_cons se_int sa_nil)))) (own := [("_law_turn", 2)]) (blkOk_by (N := N__law_head) (sc := defScope st__law_head) (by decide +kernel)) (fun s H C cl fp => (sgw_name 2 (by decide) sc__law_head.nd)) (fun s H C cl fp => sts_nil) (fun s H C cl fp => (se_ix (ctx_blk cx) (se_var 1) (se_bin (o_mul (ctx_blk cx)) (se_call (ctx_blk cx) (ok__law_roll t) (hr.mono (by decide)) rfl (sa_cons (se_var 0) (sa_cons se_int sa_nil))) (se_call (ctx_blk cx) (ok__law_roll t) (hr.mono (by decide)) rfl (sa_cons (se_var 0) (sa_cons se_int sa_nil))))))) sa_nil)))))
theorem ok__law_head (t : Tx g) : Df g 3 "_law_head" f__law_head := by
  obtain ⟨f, fd, F, hm⟩ := t.d__law_head
  exact ⟨f, fd, _, fk__law_head t F, hm, F.kp, F.bindsN fun _ _ _ _ _ _ us hl => match us, hl with | [_], _ => rfl⟩
def N__law_any_name : List Str := ["_law_dice"]
theorem sc__law_any_name : FnScope N__law_any_name ["_law_dice"] (defScope st__law_any_name) := ⟨rfl, rfl, rfl, by decide +kernel, rfl, by decide +kernel, by decide +kernel⟩
theorem fk__law_any_name (t : Tx g) {f : Addr} {fd : FuncData} (F : FunD g.K "_law_any_name" "_law_any_name" (defArgs st__law_any_name) (defBody st__law_any_name) (defScope st__law_any_name) [] [] f fd) : FOk g 4 f fd ["_law_dice"] f__law_any_name := by
  refine df_bodyD F sc__law_any_name fun X E ⟨cdv, A, outer, s, H, hr, hX⟩ => ?_
  have cx : Ctx g E X := by rw [hX]; exact ctx_of hr
  subst hX
  exact (ss_one (ss_ret (se_if (st_cmp (o_eq cx) (se_call cx (ok__law_roll t) (hr.mono (by decide)) rfl (sa_cons (se_var 0) (sa_cons se_int sa_nil))) se_int rfl) (se_tup (sa_cons (se_str (x := [97])) sa_nil)) (se_bin (o_add cx) (se_call cx (ok__law_head t) (hr.mono (by decide)) rfl (sa_cons (se_var 0) sa_nil)) (se_tup (sa_cons (se_ix cx (se_lst (sa_cons (se_str (x := [97])) (sa_cons (se_str (x := [98])) sa_nil))) (se_call cx (ok__law_roll t) (hr.mono (by decide)) rfl (sa_cons (se_var 0) (sa_cons se_int sa_nil)))) sa_nil))))))
theorem ok__law_any_name (t : Tx g) : Df g 4 "_law_any_name" f__law_any_name := by
  obtain ⟨f, fd, F, hm⟩ := t.d__law_any_name
  exact ⟨f, fd, _, fk__law_any_name t F, hm, F.kp, F.bindsN fun _ _ _ _ _ _ us hl => match us, hl with | [_], _ => rfl⟩
def N__law_some_sides : List Str := ["_law_dice", "_law_near", "_law_found_here", "_law_side"]
theorem sc__law_some_sides : FnScope N__law_some_sides ["_law_dice", "_law_near"] (defScope st__law_some_sides) := ⟨rfl, rfl, rfl, by decide +kernel, rfl, by decide +kernel, by decide +kernel⟩
theorem fk__law_some_sides (t : Tx g) {f : Addr} {fd : FuncData} (F : FunD g.K "_law_some_sides" "_law_some_sides" (defArgs st__law_some_sides) (defBody st__law_some_sides) (defScope st__law_some_sides) [] [] f fd) : FOk g 3 f fd ["_law_dice", "_law_near"] f__law_some_sides := by
  refine df_bodyD F sc__law_some_sides fun X E ⟨cdv, A, outer, s, H, hr, hX⟩ => ?_
  have cx : Ctx g E X := by rw [hX]; exact ctx_of hr
  subst hX
  exact (ss_cons (ss_set 2 sc__law_some_sides.nd (se_lst sa_nil))
    (ss_cons (ss_for own_of rfl (si_lst cx.K (se_var 1)) (sg_name 3 sc__law_some_sides.nd) (ss_one (ss_if (st_cmp (o_eq cx) (se_call cx (ok__law_roll t) (hr.mono (by decide)) rfl (sa_cons (se_var 0) (sa_cons se_int sa_nil))) se_int rfl) (ss_one (ss_expr (se_bm cx PySem.F.plainAttrs_list PySem.F.slot_list_insert PySem.F.type_list_insert m_insert (.inl rfl) (se_var 2) (sa_cons (se_call cx (ok__law_roll t) (hr.mono (by decide)) rfl (sa_cons (se_var 0) (sa_cons (se_bin (o_add cx) (se_callB (c_len cx) rfl (Ctx.free cx t.b_len) (by first | rfl | decide +kernel) (sa_cons (se_var 2) sa_nil)) se_int) sa_nil))) (sa_cons (se_var 3) sa_nil))))) ss_nil)))
    (ss_one (ss_ret (se_var 2)))))
theorem ok__law_some_sides (t : Tx g) : Df g 3 "_law_some_sides" f__law_some_sides := by
  obtain ⟨f, fd, F, hm⟩ := t.d__law_some_sides
  exact ⟨f, fd, _, fk__law_some_sides t F, hm, F.kp, F.bindsN fun _ _ _ _ _ _ us hl => match us, hl with | [_, _], _ => rfl⟩
def N__law_longest : List Str := ["_law_lines", "_law_name", "_law_some", "_law_one"]
theorem sc__law_longest : FnScope N__law_longest ["_law_lines", "_law_name"] (defScope st__law_longest) := ⟨rfl, rfl, rfl, by decide +kernel, rfl, by decide +kernel, by decide +kernel⟩
theorem fk__law_longest (t : Tx g) {f : Addr} {fd : FuncData} (F : FunD g.K "_law_longest" "_law_longest" (defArgs st__law_longest) (defBody st__law_longest) (defScope st__law_longest) [] [] f fd) (tb : ∀ (oc : Value) (od : Option Addr) (osl : Array (Option Value)) (c : Addr), g.K.lookup f = some ⟨oc, od, .func fd, osl⟩ → fd.code = .ref c → ∃ P : Addr, LamX.TabB g.base g.mg c P ∧ (P, lamQ "_law_longest") ∈ g.T ∧ ∀ p ∈ g.T, p.1 = P → p.2 = lamQ "_law_longest") : FOk g 2 f fd ["_law_lines", "_law_name"] f__law_longest := by
  refine df_bodyT F sc__law_longest tb fun X E ⟨cdv, A, outer, s, H, hr, hX⟩ lam => ?_
  have cx : Ctx g E X := by rw [hX]; exact ctx_of hr
  subst hX
  exact (ss_cons (ss_lock (ma := (eV 0)) (ss_setLc 2 rfl sc__law_longest.nd (si_dic (se_var 0)) (own := [("_law_one", 3)]) (blkOk_by (N := N__law_longest) (sc := defScope st__law_longest) (by decide +kernel)) (fun s H C cl fp => (sgw_name 3 (by decide) sc__law_longest.nd)) (fun s H C cl fp => (sts_one (st_cmp (o_eq (ctx_blk cx)) (se_sl (ctx_blk cx) (se_var 1) sp_no (sp_some (se_callB (c_len (ctx_blk cx)) rfl (Ctx.free (ctx_blk cx) t.b_len) (by first | rfl | decide +kernel) (sa_cons (se_var 3) sa_nil)))) (se_var 3) rfl))) (fun s H C cl fp => (se_var 3))))
    (ss_one (ss_ret (se_if (st_cmp (o_ne cx) (se_var 2) (se_lst sa_nil) rfl) (se_maxLen cx rfl lam (lenS_by (by decide +kernel)) (hr.mono (by decide)) rfl t.b_max t.b_len (se_var 2) rfl (fun q pm cv ctv v => rfl) rfl) se_non))))
theorem ok__law_longest (t : Tx g) : Df g 2 "_law_longest" f__law_longest := by
  obtain ⟨f, fd, F, hm, tb⟩ := t.d__law_longest
  exact ⟨f, fd, _, fk__law_longest t F tb, hm, F.kp, F.bindsN fun _ _ _ _ _ _ us hl => match us, hl with | [_, _], _ => rfl⟩
def N__law_found : List Str := ["_law_lines", "_law_name", "_law_one"]
theorem sc__law_found : FnScope N__law_found ["_law_lines", "_law_name"] (defScope st__law_found) := ⟨rfl, rfl, rfl, by decide +kernel, rfl, by decide +kernel, by decide +kernel⟩
theorem fk__law_found (t : Tx g) {f : Addr} {fd : FuncData} (F : FunD g.K "_law_found" "_law_found" (defArgs st__law_found) (defBody st__law_found) (defScope st__law_found) [] [] f fd) : FOk g 3 f fd ["_law_lines", "_law_name"] f__law_found := by
  refine df_bodyD F sc__law_found fun X E ⟨cdv, A, outer, s, H, hr, hX⟩ => ?_
  have cx : Ctx g E X := by rw [hX]; exact ctx_of hr
  subst hX
  exact (ss_cons (ss_set 2 sc__law_found.nd (se_call cx (ok__law_longest t) (hr.mono (by decide)) rfl (sa_cons (se_var 0) (sa_cons (se_var 1) sa_nil))))
    (ss_one (ss_ret (se_if (st_isN (se_var 2)) (se_lst sa_nil) (se_callT (c_list) rfl (Ctx.free cx t.b_list) (by first | rfl | decide +kernel) (sa_cons (se_dget cx (se_var 0) (se_var 2)) sa_nil))))))
theorem ok__law_found (t : Tx g) : Df g 3 "_law_found" f__law_found := by
  obtain ⟨f, fd, F, hm⟩ := t.d__law_found
  exact ⟨f, fd, _, fk__law_found t F, hm, F.kp, F.bindsN fun _ _ _ _ _ _ us hl => match us, hl with | [_, _], _ => rfl⟩
def N_law : List Str := ["_law_script", "_law_dice", "_law_turn", "_law_other", "_law_one", "_law_table", "_law_lines", "_law_name", "_law_some", "_law_due"]
theorem sc_law : FnScope N_law ["_law_script"] (defScope st_law) := ⟨rfl, rfl, rfl, by decide +kernel, rfl, by decide +kernel, by decide +kernel⟩
theorem fk_law (t : Tx g) {f : Addr} {fd : FuncData} (F : FunD g.K "law" "law" (defArgs st_law) (defBody st_law) (defScope st_law) [] [] f fd) (tb : ∀ (oc : Value) (od : Option Addr) (osl : Array (Option Value)) (c : Addr), g.K.lookup f = some ⟨oc, od, .func fd, osl⟩ → fd.code = .ref c → ∃ P : Addr, LamX.TabB g.base g.mg c P ∧ (P, lamQ "law") ∈ g.T ∧ ∀ p ∈ g.T, p.1 = P → p.2 = lamQ "law") : FOk g 7 f fd ["_law_script"] f_law := by
  refine df_bodyT F sc_law tb fun X E ⟨cdv, A, outer, s, H, hr, hX⟩ lam => ?_
  have cx : Ctx g E X := by rw [hX]; exact ctx_of hr
  subst hX
  exact (ss_cons (ss_for own_of rfl (si_lst cx.K (se_call cx (ok__law_rounds t) (hr.mono (by decide)) rfl (sa_cons (se_var 0) (sa_cons se_int sa_nil)))) (sg_name 1 sc_law.nd) (ss_cons (ss_asg (se_tup (sa_cons (se_make0 cx (ok_Table___init__ t) (hr.mono (by decide)) rfl) (sa_cons se_dicT sa_nil))) (sg_tup rfl (sgs_cons (sg_name 5 sc_law.nd) (sgs_cons (sg_name 6 sc_law.nd) sgs_nil))))
    (ss_cons (ss_for own_of rfl (si_rng1 rfl (Ctx.free cx t.b_range) (se_call cx (ok__law_roll t) (hr.mono (by decide)) rfl (sa_cons (se_var 1) (sa_cons se_int sa_nil)))) (sg_name 2 sc_law.nd) (ss_cons (ss_set 4 sc_law.nd (se_call cx (ok__law_head t) (hr.mono (by decide)) rfl (sa_cons (se_var 1) sa_nil)))
    (ss_one (ss_if (st_cmp o_gt (se_call cx (ok__law_roll t) (hr.mono (by decide)) rfl (sa_cons (se_var 1) (sa_cons se_int sa_nil))) se_int rfl) (ss_cons (ss_set 8 sc_law.nd (se_call cx (ok__law_some_sides t) (hr.mono (by decide)) rfl (sa_cons (se_var 1) (sa_cons (se_lst (sa_cons se_int (sa_cons se_int (sa_cons se_int (sa_cons se_int sa_nil))))) sa_nil))))
    (ss_cons (ss_if (st_notN (se_meth cx (ok_Table_put t) (hr.mono (by decide)) (t.nm 61) (se_var 5) (sa_cons (se_var 4) (sa_cons (se_var 8) sa_nil)))) (ss_one (ss_ret se_bl)) ss_nil)
    (ss_cons (ss_asg (se_callT (c_list) rfl (Ctx.free cx t.b_list) (by first | rfl | decide +kernel) (sa_cons (se_var 8) sa_nil)) (sg_setD cx (se_var 6) (se_var 4)))
    (ss_one (ss_expr (se_bm cx PySem.F.plainAttrs_list PySem.F.slot_list_append PySem.F.type_list_append m_append (.inl rfl) (se_var 8) (sa_cons se_int sa_nil))))))) (ss_cons (ss_set 9 sc_law.nd (se_if (st_cmp (o_inD cx) (se_var 4) (se_var 6) rfl) se_non (se_tup (sa_cons (se_str (x := [114, 101, 102, 117, 115, 101, 100])) (sa_cons (se_str (x := [66, 97, 100, 78, 97, 109, 101])) sa_nil)))))
    (ss_cons (ss_if (st_cmp (o_ne cx) (se_told cx (told_ok t (k := 4) (by decide)) lam (hr.mono (by decide)) rfl (LamX.lamS_by (sc := defScope st_law) (by decide +kernel)) rfl (fun q cl pm cv ctv => rfl) (fun A outer s H E f c' hr cx => (se_meth cx (ok_Table_drop t) (hr.mono (by decide)) (t.nm 18) (se_var 5) (sa_cons (se_var 4) sa_nil)))) (se_var 9) rfl) (ss_one (ss_ret se_bl)) ss_nil)
    (ss_one (ss_if (st_cmp (o_inD cx) (se_var 4) (se_var 6) rfl) (ss_one (ss_expr (se_bmD cx PySem.F.slot_dict_pop PySem.F.type_dict_pop (m_pop1 cx) (se_var 6) (sa_cons (se_var 4) sa_nil)))) ss_nil))))))))
    (ss_cons (ss_if (st_bool (sw_or (st_cmp (o_ne cx) (se_meth0 cx (ok_Table_rows t) (hr.mono (by decide)) (t.nm 65) (se_var 5)) (se_lc rfl sc_law.nd (si_lst cx.K (se_callB (c_sorted cx rfl) rfl (Ctx.free cx t.b_sorted) (by first | rfl | decide +kernel) (sa_cons (se_var 6) sa_nil))) (own := [("_law_one", 4)]) (blkOk_by (N := N_law) (sc := defScope st_law) (by decide +kernel)) (fun s H C cl fp => (sgw_name 4 (by decide) sc_law.nd)) (fun s H C cl fp => sts_nil) (fun s H C cl fp => (se_tup (sa_cons (se_var 4) (sa_cons (se_dget (ctx_blk cx) (se_var 6) (se_var 4)) sa_nil))))) rfl) (sw_one (st_cmp (o_ne cx) (se_callB (c_lenOwn cx (ok_Table___len__ t) (hr.mono (by decide))) rfl (Ctx.free cx t.b_len) boot_len (sa_cons (se_var 5) sa_nil)) (se_callB (c_lenD cx) rfl (Ctx.free cx t.b_len) boot_len (sa_cons (se_var 6) sa_nil)) rfl)))) (ss_one (ss_ret se_bl)) ss_nil)
    (ss_cons (ss_for own_of rfl (si_rng1 rfl (Ctx.free cx t.b_range) se_int) (sg_name 2 sc_law.nd) (ss_cons (ss_set 7 sc_law.nd (se_call cx (ok__law_any_name t) (hr.mono (by decide)) rfl (sa_cons (se_var 1) sa_nil)))
    (ss_cons (ss_set 4 sc_law.nd (se_call cx (ok__law_longest t) (hr.mono (by decide)) rfl (sa_cons (se_var 6) (sa_cons (se_var 7) sa_nil))))
    (ss_cons (ss_if (st_cmp (o_ne cx) (se_meth cx (ok_Table_way t) (hr.mono (by decide)) (t.nm 83) (se_var 5) (sa_cons (se_var 7) sa_nil)) (se_if (st_notN (se_var 4)) (se_tup (sa_cons (se_var 4) (sa_cons (se_dget cx (se_var 6) (se_var 4)) sa_nil))) se_non) rfl) (ss_one (ss_ret se_bl)) ss_nil)
    (ss_one (ss_if (st_cmp (o_ne cx) (se_meth cx (ok_Table_sides t) (hr.mono (by decide)) (t.nm 69) (se_var 5) (sa_cons (se_var 7) sa_nil)) (se_call cx (ok__law_found t) (hr.mono (by decide)) rfl (sa_cons (se_var 6) (sa_cons (se_var 7) sa_nil))) rfl) (ss_one (ss_ret se_bl)) ss_nil))))))
    (ss_cons (ss_set 3 sc_law.nd (se_make0 cx (ok_Table___init__ t) (hr.mono (by decide)) rfl))
    (ss_cons (ss_lock (ma := (eV 6)) (ss_for own_of rfl (si_dic (se_var 6)) (sg_name 4 sc_law.nd) (ss_one (ss_expr (se_meth cx (ok_Table_put t) (hr.mono (by decide)) (t.nm 61) (se_var 3) (sa_cons (se_var 4) (sa_cons (se_dget cx (se_var 6) (se_var 4)) sa_nil)))))))
    (ss_cons (ss_if (st_bool (sw_or (st_not (st_cmp (o_eqO cx (Eqf.of (ok_Table___eq__ t) t.o_Table) (hr.mono (by decide))) (se_var 5) (se_var 3) rfl)) (sw_or (st_cmp (o_neO cx (Eqf.of (ok_Table___eq__ t) t.o_Table) (hr.mono (by decide))) (se_var 5) (se_var 3) rfl) (sw_one (st_cmp (o_eqO cx (Eqf.of (ok_Table___eq__ t) t.o_Table) (hr.mono (by decide))) (se_var 5) (se_var 6) rfl))))) (ss_one (ss_ret se_bl)) ss_nil)
    (ss_cons (ss_expr (se_meth cx (ok_Table_put t) (hr.mono (by decide)) (t.nm 61) (se_var 3) (sa_cons (se_tup (sa_cons (se_str (x := [122, 122])) sa_nil)) (sa_cons (se_lst (sa_cons se_int sa_nil)) sa_nil))))
    (ss_one (ss_if (st_bool (sw_or (st_cmp (o_eqO cx (Eqf.of (ok_Table___eq__ t) t.o_Table) (hr.mono (by decide))) (se_var 5) (se_var 3) rfl) (sw_one (st_cmp (o_neO cx (Eqf.of (ok_Table___eq__ t) t.o_Table) (hr.mono (by decide))) (se_make0 cx (ok_Table___init__ t) (hr.mono (by decide)) rfl) (se_make0 cx (ok_Table___init__ t) (hr.mono (by decide)) rfl) rfl)))) (ss_one (ss_ret se_bl)) ss_nil)))))))))))
    (ss_one (ss_ret se_bl)))
theorem ok_law (t : Tx g) : Df g 7 "law" f_law := by
  obtain ⟨f, fd, F, hm, tb⟩ := t.d_law
  exact ⟨f, fd, _, fk_law t F tb, hm, F.kp, F.bindsN fun _ _ _ _ _ _ us hl => match us, hl with | [_], _ => rfl⟩
end
end MP

namespace MP
open PySem (PyData)
abbrev Hp := Nat → Option Ob
def Asn := Hp → Prop
def Hsub (a b : Hp) : Prop := ∀ n o, a n = some o → b n = some o
def Hdis (a b : Hp) : Prop := ∀ n, a n = none ∨ b n = none
def Hun (a b : Hp) : Hp := fun n => match a n with
  | some o => some o
  | none => b n
theorem Hsub.refl (a : Hp) : Hsub a a := fun _ _ h => h
theorem Hsub.trans {a b c : Hp} (h : Hsub a b) (k : Hsub b c) : Hsub a c := fun n o e => k n o (h n o e)
theorem Hdis.symm {a b : Hp} (h : Hdis a b) : Hdis b a := fun n => (h n).symm
theorem Hdis.subl {a b c : Hp} (h : Hdis b c) (s : Hsub a b) : Hdis a c := fun n => by
  rcases h n with z | z
  · left
    cases e : a n with
    | none => rfl
    | some o => rw [s n o e] at z; cases z
  · exact .inr z
theorem Hun_l (a b : Hp) : Hsub a (Hun a b) := fun n o e => by simp [Hun, e]
theorem Hun_r {a b : Hp} (h : Hdis a b) : Hsub b (Hun a b) := fun n o e => by
  rcases h n with z | z
  · simp [Hun, z, e]
  · rw [z] at e; cases e
theorem Hun_sub {a b c : Hp} (h : Hsub a c) (k : Hsub b c) : Hsub (Hun a b) c := fun n o e => by
  unfold Hun at e
  cases q : a n with
  | some u => rw [q] at e; cases e; exact h n _ q
  | none => rw [q] at e; exact k n o e
theorem Hun_dis {a b c : Hp} (h : Hdis a c) (k : Hdis b c) : Hdis (Hun a b) c := fun n => by
  rcases h n with z | z
  · rcases k n with y | y
    · left; simp [Hun, z, y]
    · exact .inr y
  · exact .inr z
/-- these pieces, apart, within h -/
def sats : List Asn → Hp → Prop
  | [], _ => True
  | A :: l, h => ∃ a b, Hdis a b ∧ Hsub a h ∧ Hsub b h ∧ A a ∧ sats l b
theorem sats.mono : ∀ {l : List Asn} {a b : Hp}, sats l a → Hsub a b → sats l b
  | [], _, _, _, _ => trivial
  | A :: l, a, b, ⟨x, y, h1, h2, h3, h4, h5⟩, s => ⟨x, y, h1, h2.trans s, h3.trans s, h4, h5⟩
theorem sats.swap {A B : Asn} {l : List Asn} {h : Hp} : sats (A :: B :: l) h → sats (B :: A :: l) h
  | ⟨a, b, d, sa, sb, ha, c, e, d2, sc, se, hc, he⟩ => by
    refine ⟨c, Hun a e, ?_, sc.trans sb, Hun_sub sa (se.trans sb), hc, a, e, d.symm.subl se |>.symm, Hun_l _ _, Hun_r (d.symm.subl se).symm, ha, he⟩
    exact (Hun_dis (d.symm.subl sc).symm d2.symm).symm
theorem sats.tl {A : Asn} {l : List Asn} {h : Hp} : sats (A :: l) h → sats l h
  | ⟨_, _, _, _, sb, _, hb⟩ => hb.mono sb
theorem sats.cons {A : Asn} {l l' : List Asn} {h : Hp} (i : ∀ b, sats l b → sats l' b) : sats (A :: l) h → sats (A :: l') h
  | ⟨a, b, d, sa, sb, ha, hb⟩ => ⟨a, b, d, sa, sb, ha, i b hb⟩
theorem sats.app : ∀ {l l' : List Asn} {h : Hp}, sats (l ++ l') h ↔ ∃ a b, Hdis a b ∧ Hsub a h ∧ Hsub b h ∧ sats l a ∧ sats l' b
  | [], l', h => ⟨fun q => ⟨fun _ => none, h, (fun _ => .inl rfl), (fun _ _ z => by cases z), Hsub.refl h, trivial, q⟩, fun ⟨_, _, _, _, s, _, q⟩ => q.mono s⟩
  | A :: l, l', h => by
    constructor
    · rintro ⟨a, b, d, sa, sb, ha, hb⟩
      obtain ⟨x, y, d2, sx, sy, hx, hy⟩ := sats.app.mp hb
      refine ⟨Hun a x, y, Hun_dis (d.symm.subl sy).symm d2, Hun_sub sa (sx.trans sb), sy.trans sb, ⟨a, x, (d.symm.subl sx).symm, Hun_l _ _, Hun_r (d.symm.subl sx).symm, ha, hx⟩, hy⟩
    · rintro ⟨u, y, d, su, sy, ⟨a, x, d2, sa, sx, ha, hx⟩, hy⟩
      refine ⟨a, Hun x y, ?_, sa.trans su, Hun_sub (sx.trans su) sy, ha, sats.app.mpr ⟨x, y, d.subl sx, Hun_l _ _, Hun_r (d.subl sx), hx, hy⟩⟩
      exact (Hun_dis d2.symm (d.symm.subl (Hsub.refl y) |>.symm.subl sa |>.symm)).symm
/-- a place and what stands there -/
def pt (n : Nat) (o : Ob) : Asn := fun h => h n = some o
def bun (l : List Asn) : Asn := fun h => sats l h
def ex {α : Type} (A : α → Asn) : Asn := fun h => ∃ x, A x h
def pu (p : Prop) : Asn := fun _ => p
theorem sats.bun {l l' : List Asn} {h : Hp} : sats (bun l :: l') h ↔ sats (l ++ l') h := by
  rw [sats.app]
  rfl
theorem sats.ex {α : Type} {B : α → Asn} {l : List Asn} {h : Hp} : sats (MP.ex B :: l) h ↔ ∃ x, sats (B x :: l) h := by
  constructor
  · rintro ⟨a, b, d, sa, sb, ⟨x, ha⟩, hb⟩
    exact ⟨x, a, b, d, sa, sb, ha, hb⟩
  · rintro ⟨x, a, b, d, sa, sb, ha, hb⟩
    exact ⟨a, b, d, sa, sb, ⟨x, ha⟩, hb⟩
theorem sats.pu {p : Prop} {l : List Asn} {h : Hp} : sats (MP.pu p :: l) h ↔ p ∧ sats l h := by
  constructor
  · rintro ⟨a, b, d, sa, sb, ha, hb⟩
    exact ⟨ha, hb.mono sb⟩
  · rintro ⟨hp, q⟩
    exact ⟨fun _ => none, h, (fun _ => .inl rfl), (fun _ _ z => by cases z), Hsub.refl _, hp, q⟩
theorem sats.appb {xs ys l : List Asn} {h : Hp} : sats (xs ++ MP.bun ys :: l) h ↔ sats (xs ++ (ys ++ l)) h := by
  constructor
  · intro q
    obtain ⟨a, b, d, sa, sb, ha, hb⟩ := sats.app.mp q
    exact sats.app.mpr ⟨a, b, d, sa, sb, ha, sats.bun.mp hb⟩
  · intro q
    obtain ⟨a, b, d, sa, sb, ha, hb⟩ := sats.app.mp q
    exact sats.app.mpr ⟨a, b, d, sa, sb, ha, sats.bun.mpr hb⟩
/-- the store has these pieces -/
def St (l : List Asn) (S : Sto) : Prop := sats l fun n => S[n]?
/-- x is one of them, the others are r -/
inductive Pick : Asn → List Asn → List Asn → Prop
  | here {x : Asn} {r : List Asn} : Pick x (x :: r) r
  | there {x y : Asn} {l r : List Asn} : Pick x l r → Pick x (y :: l) (y :: r)
theorem Pick.sats {x : Asn} {l r : List Asn} (p : Pick x l r) : ∀ {h : Hp}, MP.sats l h → MP.sats (x :: r) h := by
  induction p with
  | here => exact fun q => q
  | there _ ih => exact fun q => sats.swap (sats.cons (fun b k => ih k) q)
inductive Picks : List Asn → List Asn → List Asn → Prop
  | nil {l : List Asn} : Picks [] l l
  | cons {x : Asn} {xs l m r : List Asn} : Pick x l m → Picks xs m r → Picks (x :: xs) l r
theorem Picks.sats {xs l r : List Asn} (p : Picks xs l r) : ∀ {h : Hp}, MP.sats l h → MP.sats (xs ++ r) h := by
  induction p with
  | nil => exact fun q => q
  | cons p _ ih => exact fun q => sats.cons (fun b k => ih k) (p.sats q)
section
variable {l r : List Asn} {S : Sto} {A : Asn} {n : Nat} {o o' : Ob}
theorem St.pk {x : Asn} (H : St l S) (p : Pick x l r) : St (x :: r) S := p.sats H
theorem St.pks {xs : List Asn} (H : St l S) (p : Picks xs l r) : St (xs ++ r) S := p.sats H
theorem St.at (H : St (pt n o :: r) S) : S[n]? = some o := by
  obtain ⟨a, b, _, sa, _, ha, _⟩ := H
  exact sa n o ha
theorem St.rd (H : St l S) (p : Pick (pt n o) l r) : S[n]? = some o := (H.pk p).at
theorem St.tl (H : St (A :: l) S) : St l S := sats.tl H
theorem St.nil (S : Sto) : St [] S := trivial
theorem St.bun {xs : List Asn} : St (bun xs :: l) S ↔ St (xs ++ l) S := sats.bun
theorem St.app {xs ys : List Asn} : St (xs ++ MP.bun ys :: l) S ↔ St (xs ++ (ys ++ l)) S := by
  constructor
  · intro h
    obtain ⟨a, b, d, sa, sb, ha, hb⟩ := sats.app.mp h
    exact sats.app.mpr ⟨a, b, d, sa, sb, ha, sats.bun.mp hb⟩
  · intro h
    obtain ⟨a, b, d, sa, sb, ha, hb⟩ := sats.app.mp h
    exact sats.app.mpr ⟨a, b, d, sa, sb, ha, sats.bun.mpr hb⟩
theorem St.ex {α : Type} {B : α → Asn} : St (ex B :: l) S ↔ ∃ x, St (B x :: l) S := by
  constructor
  · rintro ⟨a, b, d, sa, sb, ⟨x, ha⟩, hb⟩
    exact ⟨x, a, b, d, sa, sb, ha, hb⟩
  · rintro ⟨x, a, b, d, sa, sb, ha, hb⟩
    exact ⟨a, b, d, sa, sb, ⟨x, ha⟩, hb⟩
theorem St.pu {p : Prop} : St (pu p :: l) S ↔ p ∧ St l S := by
  constructor
  · rintro ⟨a, b, d, sa, sb, ha, hb⟩
    exact ⟨ha, hb.mono sb⟩
  · rintro ⟨hp, q⟩
    exact ⟨fun _ => none, fun n => S[n]?, (fun _ => .inl rfl), (fun _ _ z => by cases z), Hsub.refl _, hp, q⟩
theorem St.imp {B : Asn} (H : St (A :: l) S) (i : ∀ h, A h → B h) : St (B :: l) S := by
  obtain ⟨a, b, d, sa, sb, ha, hb⟩ := H
  exact ⟨a, b, d, sa, sb, i _ ha, hb⟩
/-- all that is owned stays as it was -/
theorem sats.St_of {l : List Asn} {h : Hp} {S : Sto} (q : sats l h) (s : Hsub h fun n => S[n]?) : St l S := q.mono s
theorem St.push (H : St l S) (o : Ob) : St l (S ++ [o]) := H.mono fun n u e => at_push e
theorem St.alloc (H : St l S) (o : Ob) : St (pt S.length o :: l) (S ++ [o]) := by
  refine ⟨fun m => if m = S.length then some o else none, fun n => S[n]?, fun m => ?_, fun m u e => ?_, fun m u e => at_push e, by simp [pt], H⟩
  · by_cases e : m = S.length
    · right; simp [e]
    · left; simp [e]
  · by_cases q : m = S.length
    · subst q; simp at e; subst e; simp
    · simp [q] at e
theorem St.set (H : St (pt n o :: l) S) (o' : Ob) : St (pt n o' :: l) (S.set n o') := by
  have hn := lt_of_at H.at
  obtain ⟨a, b, d, sa, sb, ha, hb⟩ := H
  have bn : b n = none := by
    rcases d n with z | z
    · rw [ha] at z; cases z
    · exact z
  refine ⟨fun m => if m = n then some o' else none, b, fun m => ?_, fun m u e => ?_, fun m u e => ?_, by simp [pt], hb⟩
  · by_cases e : m = n
    · right; rw [e]; exact bn
    · left; simp [e]
  · by_cases q : m = n
    · subst q; simp at e; subst e; simp [hn]
    · simp [q] at e
  · have : m ≠ n := fun z => by rw [z, bn] at e; cases e
    simp only
    rw [List.getElem?_set_ne this.symm]
    exact sb m u e
theorem St.fm0 {S' : Sto} (H : St l S) (f : Fm [] S S') : St l S' := H.mono fun n u e => f.at e (by simp)
theorem St.fm1 {S' : Sto} (H : St (pt n o :: l) S) (f : Fm [n] S S') (h : S'[n]? = some o') : St (pt n o' :: l) S' := by
  obtain ⟨a, b, d, sa, sb, ha, hb⟩ := H
  have bn : b n = none := by
    rcases d n with z | z
    · rw [ha] at z; cases z
    · exact z
  refine ⟨fun m => if m = n then some o' else none, b, fun m => ?_, fun m u e => ?_, fun m u e => ?_, by simp [pt], hb⟩
  · by_cases e : m = n
    · right; rw [e]; exact bn
    · left; simp [e]
  · by_cases q : m = n
    · subst q; simp at e; subst e; exact h
    · simp [q] at e
  · have ne : m ≠ n := fun z => by rw [z, bn] at e; cases e
    exact f.at (sb m u e) (by simp [ne])
/-- two pieces that are places are not the same place -/
theorem St.ne {m : Nat} {u : Ob} (H : St (pt n o :: pt m u :: l) S) : n ≠ m := by
  obtain ⟨a, b, d, sa, sb, ha, c, e, d2, sc, se, hc, he⟩ := H
  intro z
  subst z
  rcases d n with q | q
  · rw [ha] at q; cases q
  · rw [sc n u hc] at q; cases q
end
end MP

namespace MP
open PySem (PyData)
abbrev Fl2 : Exc → Sto → Prop := fun _ _ => False
section
variable {L L' : Loc} {S : Sto} {Q : D → Sto → Prop} {QB : Bool → Sto → Prop} {QA : List D → Sto → Prop} {QL : Loc → Sto → Prop} {QP : Option Int → Sto → Prop} {QU : Unit → Sto → Prop} {E : Exc → Sto → Prop} {K : En}
/-! statements -/
variable {nx bk ct : Loc → Sto → Prop} {rt : D → Sto → Prop} {ex : Exc → Loc → Sto → Prop}
theorem x_seq {a b : SM} (h : wS (a L S) ⟨fun L1 S1 => wS (b L1 S1) ⟨nx, rt, bk, ct, ex⟩, rt, bk, ct, ex⟩) : wS (sSeq a b L S) ⟨nx, rt, bk, ct, ex⟩ := by rw [wS_sSeq]; exact h
theorem x_nx (h : nx L S) : wS (sNx L S) ⟨nx, rt, bk, ct, ex⟩ := h
theorem x_expr {a : EM} (h : wR (a L S) (fun _ S1 => nx L S1) (fun x S => ex x L S)) : wS (sExpr a L S) ⟨nx, rt, bk, ct, ex⟩ := by rw [wS_sExpr]; exact h
theorem x_ret {a : EM} (h : wR (a L S) rt (fun x S => ex x L S)) : wS (sRet a L S) ⟨nx, rt, bk, ct, ex⟩ := by rw [wS_sRet]; exact h
theorem x_retN (h : rt .non S) : wS (sRetN L S) ⟨nx, rt, bk, ct, ex⟩ := h
theorem x_brk (h : bk L S) : wS (sBrk L S) ⟨nx, rt, bk, ct, ex⟩ := h
theorem x_cnt (h : ct L S) : wS (sCnt L S) ⟨nx, rt, bk, ct, ex⟩ := h
theorem x_if {t : BM} {a b : SM} (h : wR (t L S) (fun c S1 => if c = true then wS (a L S1) ⟨nx, rt, bk, ct, ex⟩ else wS (b L S1) ⟨nx, rt, bk, ct, ex⟩) (fun x S => ex x L S)) : wS (sIf t a b L S) ⟨nx, rt, bk, ct, ex⟩ := by rw [wS_sIf]; exact h
theorem x_asg {a : EM} {t : TM} (h : wR (a L S) (fun d S1 => wR (t d L S1) nx (fun _ _ => False)) (fun x S => ex x L S)) : wS (sAsg a t L S) ⟨nx, rt, bk, ct, ex⟩ := by rw [wS_sAsg]; exact h
theorem x_raise {c : Nat} {as : AM} (h : wR (as L S) (fun xs S1 => ex ⟨c, xs⟩ L S1) (fun x S => ex x L S)) : wS (sRaise c as L S) ⟨nx, rt, bk, ct, ex⟩ := by rw [wS_sRaise]; exact h
theorem x_for {w : WM} {tg : TM} {body : SM} (h : wR (w L S) (fun k S1 => wS (forL k.chk tg body k.items L S1) ⟨nx, rt, bk, ct, ex⟩) (fun x S => ex x L S)) : wS (sFor w tg body L S) ⟨nx, rt, bk, ct, ex⟩ := by rw [wS_sFor]; exact h
theorem x_fn {np nl : Nat} {body : SM} {ds : List D} (hl : ds.length = np) (e : ds.map some ++ List.replicate (nl - np) none = L) (h : wS (body L S) ⟨fun _ S1 => Q .non S1, Q, fun _ _ => False, fun _ _ => False, fun x _ S => E x S⟩) : wR (fn np nl body ds S) Q E := by
  subst e
  exact wR_call hl h
theorem x_exb {k : Bool} {P : Bool → Prop} (h : P k) : ∃ j, D.bl k = .bl j ∧ P j := ⟨k, rfl, h⟩
theorem x_exi {k : Int} {P : Int → Prop} (h : P k) : ∃ j, D.int k = .int j ∧ P j := ⟨k, rfl, h⟩
theorem x_ext {k : List D} {P : List D → Prop} (h : P k) : ∃ j, D.tup k = .tup j ∧ P j := ⟨k, rfl, h⟩
theorem x_exs {k : List Nat} {P : List Nat → Prop} (h : P k) : ∃ j, D.str k = .str j ∧ P j := ⟨k, rfl, h⟩
theorem x_exr {n : Nat} {A P : Nat → Prop} (a : A n) (h : P n) : ∃ j, D.ref n = .ref j ∧ A j ∧ P j := ⟨n, rfl, a, h⟩
theorem x_ble {n m : Nat} {P : Prop} (a : Nat.ble n m = true) (h : P) : Nat.ble n m = true ∧ P := ⟨a, h⟩
theorem x_lens {n m i j : Nat} {P : Prop} (a : n = m) (b : i = j) (h : P) : n = m ∧ i = j ∧ P := ⟨a, b, h⟩
theorem x_ty {S : Sto} {d : D} {t : String} {P : Prop} (a : tyNm S d = some t) (h : P) : tyNm S d = some t ∧ P := ⟨a, h⟩
theorem x_sm {P : Prop} (h : P) : S = S ∧ P := ⟨rfl, h⟩
theorem x_peq {b c : Bool} {P : Prop} (e : b = c) (h : P) : b = c ∧ P := ⟨e, h⟩
def Whn (p : Bool) (q : Prop) : Prop := p = true → q
theorem x_whn {p : Bool} {q : Prop} (h : p = true → q) : Whn p q := h
theorem x_fin {α : Type} {a : α} : S = S ∧ a = a := ⟨rfl, rfl⟩
/-! plain data -/
mutual
theorem pl_mono : ∀ {n m : Nat} {d : D}, pl n d = true → n ≤ m → pl m d = true
  | n, m, .non, _, _ => by cases m <;> rfl
  | n, m, .int _, _, _ => by cases m <;> rfl
  | n, m, .str _, _, _ => by cases m <;> rfl
  | n + 1, m, .tup xs, h, hm => by
    obtain ⟨m, rfl⟩ : ∃ k, m = k + 1 := ⟨m - 1, by omega⟩
    have := pls_mono (n := n) (m := m) (ds := xs) (by simpa [pl] using h) (by omega)
    simpa [pl] using this
  | 0, m, .tup xs, h, _ => by simp [pl] at h
  | n, m, .bl _, h, _ => by cases n <;> simp [pl] at h
  | n, m, .ref _, h, _ => by cases n <;> simp [pl] at h
  | n, m, .exn _ _, h, _ => by cases n <;> simp [pl] at h
theorem pls_mono : ∀ {n m : Nat} {ds : List D}, pls n ds = true → n ≤ m → pls m ds = true
  | n, m, [], _, _ => rfl
  | n, m, x :: xs, h, hm => by
    simp only [pls, Bool.and_eq_true] at h ⊢
    exact ⟨pl_mono h.1 hm, pls_mono h.2 hm⟩
end
theorem pls_map {α : Type} {n : Nat} {f : α → D} {xs : List α} (h : ∀ x, pl n (f x) = true) : pls n (xs.map f) = true := pls_all.mpr fun d hd => by
  obtain ⟨x, _, rfl⟩ := List.mem_map.mp hd
  exact h x
theorem pls_cons {n : Nat} {x : D} {xs : List D} (h : pl n x = true) (h' : pls n xs = true) : pls n (x :: xs) = true := by simp [pls, h, h']
theorem pls_nil {n : Nat} : pls n [] = true := rfl
theorem pls_app {n : Nat} {xs ys : List D} (h : pls n xs = true) (h' : pls n ys = true) : pls n (xs ++ ys) = true := pls_all.mpr fun d hd => by
  rcases List.mem_append.mp hd with z | z
  · exact pls_all.mp h d z
  · exact pls_all.mp h' d z
theorem pl_tup {n : Nat} {xs : List D} (h : pls n xs = true) : pl (n + 1) (.tup xs) = true := by simpa [pl] using h
theorem pl_int {n : Nat} {i : Int} : pl n (.int i) = true := by cases n <;> rfl
theorem pl_str {n : Nat} {i : List Nat} : pl n (.str i) = true := by cases n <;> rfl
theorem pl_non {n : Nat} : pl n .non = true := by cases n <;> rfl
/-! targets -/
theorem x_gV {i : Nat} {d : D} (e : L.set i (some d) = L') (h : QL L' S) : wR (gV i d L S) QL E := by subst e; exact h
theorem x_gTup {n : Nat} {u : List D → Loc → Sto → R Loc} {ds : List D} (e : ds.length = n) (h : wR (u ds L S) QL E) : wR (gTup n u (.tup ds) L S) QL E := by
  rw [gTup_a, if_pos e]; exact h
theorem x_gCons {t : TM} {u : List D → Loc → Sto → R Loc} {d : D} {ds : List D} (h : wR (t d L S) (fun L1 S1 => wR (u ds L1 S1) QL E) E) : wR (gCons t u (d :: ds) L S) QL E := by
  rw [gCons_a, wR_bind]; exact h
theorem x_gNil (h : QL L S) : wR (gNil [] L S) QL E := h
def setFl (c f : Nat) (d x : D) (L : Loc) (S : Sto) : R Loc := match x with
  | .ref n => (match S[n]? with
    | some (.ins c' fs) => if c' = c ∧ fs.length < 1000 then .ok L (S.set n (.ins c' (fput f d fs))) else .err
    | _ => .err)
  | _ => .err
theorem x_gFld {c f : Nat} {o : EM} {d : D} (h : wR (o L S) (fun x S1 => wR (setFl c f d x L S1) QL E) E) : wR (gFld c f o d L S) QL E := by
  unfold gFld
  rw [wR_bind]
  exact h
theorem x_gSub {f : Set2} {o i : EM} {d : D} (h : wR (o L S) (fun x S1 => wR (i L S1) (fun y S2 => wR (f x y d S2) (fun _ S3 => QL L S3) E) E) E) : wR (gSub f o i d L S) QL E := by
  rw [gSub_a]
  simp only [wR_bind, wR_ok]
  exact h
/-! expressions -/
theorem x_C {d : D} (h : Q d S) : wR (eC d L S) Q E := h
theorem x_V {i : Nat} {d : D} (e : L[i]? = some (some d)) (h : Q d S) : wR (eV i L S) Q E := by rw [eV_a, e]; exact h
theorem x_Un {f : Op1} {a : EM} (h : wR (a L S) (fun x S1 => wR (f x S1) Q E) E) : wR (eUn f a L S) Q E := by rw [eUn_a, wR_bind]; exact h
theorem x_Bin {f : Op2} {a b : EM} (h : wR (a L S) (fun x S1 => wR (b L S1) (fun y S2 => wR (f x y S2) Q E) E) E) : wR (eBin f a b L S) Q E := by rw [eBin_a]; simp only [wR_bind]; exact h
theorem x_If {t : BM} {a b : EM} (h : wR (t L S) (fun c S1 => if c = true then wR (a L S1) Q E else wR (b L S1) Q E) E) : wR (eIf t a b L S) Q E := by rw [wR_eIf]; exact h
theorem x_aNil (h : QA [] S) : wR (aNil L S) QA E := h
theorem x_aCons {a : EM} {as : AM} (h : wR (a L S) (fun x S1 => wR (as L S1) (fun xs S2 => QA (x :: xs) S2) E) E) : wR (aCons a as L S) QA E := by
  rw [aCons_a]; simp only [wR_bind, wR_ok]; exact h
theorem x_Tup {as : AM} (h : wR (as L S) (fun xs S1 => Nat.ble xs.length 1000 = true ∧ Q (.tup xs) S1) E) : wR (eTup as L S) Q E := by
  rw [eTup_a]; simp only [wR_bind]
  refine wR_mono h (fun xs S1 ⟨a, b⟩ => ?_) fun _ _ z => z
  rw [if_pos (Nat.le_trans (Nat.le_of_ble_eq_true a) (by decide))]
  exact b
def mkO (o : Ob) (S : Sto) : R D := .ok (.ref S.length) (S ++ [o])
theorem x_Lst {as : AM} (h : wR (as L S) (fun xs S1 => Nat.ble xs.length 1000 = true ∧ wR (mkO (.lst xs) S1) Q E) E) : wR (eLst as L S) Q E := by
  rw [eLst_a]; simp only [wR_bind]
  refine wR_mono h (fun xs S1 ⟨a, b⟩ => ?_) fun _ _ z => z
  rw [if_pos (Nat.le_trans (Nat.le_of_ble_eq_true a) (by decide))]
  exact b
theorem x_Dic {t : Bool} (h : wR (mkO (.dic t false []) S) Q E) : wR (eDic t L S) Q E := h
theorem x_Call {F : Fn} {as : AM} (h : wR (as L S) (fun xs S1 => wR (F xs S1) Q E) E) : wR (eCall F as L S) Q E := by rw [eCall_a, wR_bind]; exact h
/-- an instance of the class c at n, that has no own m -/
def insOk (S : Sto) (n c m : Nat) : Prop := ∃ fs, S[n]? = some (.ins c fs) ∧ fget m fs = none
theorem x_Meth {c mi : Nat} {F : Fn} {o : EM} {as : AM} (h : wR (o L S) (fun x S1 => ∃ n, x = .ref n ∧ insOk S1 n c mi ∧ wR (as L S1) (fun xs S2 => wR (F (.ref n :: xs) S2) Q E) E) E) : wR (eMeth c mi F o as L S) Q E := by
  refine wR_eMeth (wR_mono h (fun x S1 ⟨n, e, ⟨fs, h1, h2⟩, q⟩ => ⟨n, fs, e, h1, h2, q⟩) fun _ _ z => z)
def mkI (c : Nat) (F : Fn) (xs : List D) (S : Sto) : R D := (F (.ref S.length :: xs) (S ++ [.ins c []])).bind fun v S2 => if v = .non then .ok (.ref S.length) S2 else .err
theorem x_Make {c : Nat} {F : Fn} {as : AM} (h : wR (as L S) (fun xs S1 => wR (mkI c F xs S1) Q E) E) : wR (eMake c F as L S) Q E := by
  rw [eMake_a, wR_bind]; exact h
theorem x_MakeK {c n m : Nat} {F : Fn} {gD : List D → List D → List D} {as ks : AM} (h : wR (as L S) (fun xs S1 => wR (ks L S1) (fun zs S2 => xs.length = n ∧ zs.length = m ∧ wR (mkI c F (gD xs zs) S2) Q E) E) E) : wR (eMakeK c n m F gD as ks L S) Q E := by
  unfold eMakeK
  simp only [wR_bind]
  refine wR_mono h (fun xs S1 h => wR_mono h (fun zs S2 ⟨a, b, q⟩ => ?_) fun _ _ z => z) fun _ _ z => z
  rw [if_pos ⟨a, b⟩]
  exact q
theorem x_Sl {a : EM} {lo hi : PM} (h : wR (a L S) (fun x S1 => wR (lo L S1) (fun l S2 => wR (hi L S2) (fun h S3 => wR (opSl x l h S3) Q E) E) E) E) : wR (eSl a lo hi L S) Q E := by
  rw [eSl_a]; simp only [wR_bind]; exact h
theorem x_pNo (h : QP none S) : wR (pNo L S) QP E := h
theorem x_pSome {a : EM} (h : wR (a L S) (fun x S1 => ∃ i, x = .int i ∧ QP (some i) S1) E) : wR (pSome a L S) QP E := by
  rw [wR_pSome]
  exact wR_mono h (fun x S1 ⟨i, e, q⟩ => by subst e; exact q) fun _ _ z => z
theorem x_BM {t : String} {F : Fn} {o : EM} {as : AM} (h : wR (o L S) (fun x S1 => tyNm S1 x = some t ∧ wR (as L S1) (fun xs S2 => wR (F (x :: xs) S2) Q E) E) E) : wR (eBM t F o as L S) Q E := wR_eBM h
theorem x_Lc {w : WM} {tg : TM} {t : BM} {e : EM} {vs : List Nat} (h : wR (w L S) (fun k S1 => wR (lcL k.chk tg t e (wipe L vs) S1.length k.items (S1 ++ [.lst []])) Q E) E) : wR (eLc w tg t e vs L S) Q E := by rw [wR_eLc]; exact h
theorem x_Not {a : EM} (h : wR (a L S) (fun x S1 => ∃ k, x = .bl k ∧ Q (.bl (!k)) S1) E) : wR (eNot a L S) Q E := by
  rw [wR_eNot]
  exact wR_mono h (fun x S1 ⟨i, e, q⟩ => by subst e; exact q) fun _ _ z => z
theorem x_And {a b : EM} (h : wR (a L S) (fun x S1 => ∃ k, x = .bl k ∧ if k = true then wR (b L S1) Q E else Q (.bl false) S1) E) : wR (eAnd a b L S) Q E := by
  rw [wR_eAnd]
  refine wR_mono h (fun x S1 ⟨k, e, q⟩ => ?_) fun _ _ z => z
  subst e
  cases k <;> simpa using q
theorem x_Or {a b : EM} (h : wR (a L S) (fun x S1 => ∃ k, x = .bl k ∧ if k = true then Q (.bl true) S1 else wR (b L S1) Q E) E) : wR (eOr a b L S) Q E := by
  rw [wR_eOr]
  refine wR_mono h (fun x S1 ⟨k, e, q⟩ => ?_) fun _ _ z => z
  subst e
  cases k <;> simpa using q
/-! tests -/
theorem x_tV {a : EM} (h : wR (a L S) (fun x S1 => ∃ k, x = .bl k ∧ QB k S1) E) : wR (tV a L S) QB E := by
  rw [wR_tV]
  exact wR_mono h (fun x S1 ⟨i, e, q⟩ => by subst e; exact q) fun _ _ z => z
theorem x_tNot {a : BM} (h : wR (a L S) (fun c S1 => QB (!c) S1) E) : wR (tNot a L S) QB E := by rw [wR_tNot]; exact h
theorem x_tYes (h : QB true S) : wR (tYes L S) QB E := h
theorem x_tAnd {a b : BM} (h : wR (a L S) (fun c S1 => if c = true then wR (b L S1) QB E else QB false S1) E) : wR (tAnd a b L S) QB E := by rw [wR_tAnd]; exact h
theorem x_tOr {a b : BM} (h : wR (a L S) (fun c S1 => if c = true then QB true S1 else wR (b L S1) QB E) E) : wR (tOr a b L S) QB E := by rw [wR_tOr]; exact h
/-- both are looked at, nothing changes -/
theorem x_tAnd2 {a b : BM} {p q : Bool} (ha : wR (a L S) (fun c S1 => S1 = S ∧ c = p) Fl2) (hb : p = true → wR (b L S) (fun c S1 => S1 = S ∧ c = q) Fl2) (h : QB (p && q) S) : wR (tAnd a b L S) QB E := by
  refine x_tAnd (wR_mono ha (fun c S1 ⟨e1, e2⟩ => ?_) fun _ _ z => z.elim)
  subst e1 e2
  cases c with
  | false => simpa using h
  | true =>
    rw [if_pos rfl]
    refine wR_mono (hb rfl) (fun d S2 ⟨e1, e2⟩ => ?_) fun _ _ z => z.elim
    subst e1 e2
    simpa using h
theorem x_tOr2 {a b : BM} {p q : Bool} (ha : wR (a L S) (fun c S1 => S1 = S ∧ c = p) Fl2) (hb : p = false → wR (b L S) (fun c S1 => S1 = S ∧ c = q) Fl2) (h : QB (p || q) S) : wR (tOr a b L S) QB E := by
  refine x_tOr (wR_mono ha (fun c S1 ⟨e1, e2⟩ => ?_) fun _ _ z => z.elim)
  subst e1 e2
  cases c with
  | true => simpa using h
  | false =>
    rw [if_neg (by simp)]
    refine wR_mono (hb rfl) (fun d S2 ⟨e1, e2⟩ => ?_) fun _ _ z => z.elim
    subst e1 e2
    simpa using h
theorem x_ite {p : Prop} [Decidable p] {A B : Prop} (h1 : p → A) (h2 : ¬ p → B) : if decide p = true then A else B := by
  by_cases h : p
  · simp [h, h1 h]
  · simp [h, h2 h]
theorem x_iteb {b : Bool} {A B : Prop} (h1 : b = true → A) (h2 : b = false → B) : if b = true then A else B := by
  cases b
  · simpa using h2 rfl
  · simpa using h1 rfl
theorem x_itn {p : Prop} [Decidable p] {A B : Prop} (h1 : ¬ p → A) (h2 : p → B) : if (!decide p) = true then A else B := by
  by_cases h : p
  · simp [h, h2 h]
  · simp [h, h1 h]
theorem x_itY {b : Bool} {A B : Prop} (e : b = true) (h : A) : if b = true then A else B := by rw [if_pos e]; exact h
theorem x_itN {b : Bool} {A B : Prop} (e : b = false) (h : B) : if b = true then A else B := by rw [e]; simpa using h
theorem x_itT {A B : Prop} (h : A) : if true = true then A else B := by simpa using h
theorem x_itF {A B : Prop} (h : B) : if false = true then A else B := by simpa using h
/-! operations on plain values -/
theorem x_addI {i j : Int} (h : Q (.int (i + j)) S) : wR (opAdd (.int i) (.int j) S) Q E := h
theorem x_subI {i j : Int} (h : Q (.int (i - j)) S) : wR (opSub (.int i) (.int j) S) Q E := h
theorem x_cmp {f : Int → Int → Bool} {i j : Int} (h : Q (.bl (f i j)) S) : wR (opCmp f (.int i) (.int j) S) Q E := h
theorem x_negI {i : Int} (h : Q (.int (-i)) S) : wR (opNeg (.int i) S) Q E := h
theorem x_addT {a b : List D} (hl : a.length + b.length ≤ sz) (h : Q (.tup (a ++ b)) S) : wR (opAdd (.tup a) (.tup b) S) Q E := by
  rw [opAdd_t, if_pos hl]; exact h
theorem x_mulI {i j : Int} (hl : mulOk i j = true) (h : Q (.int (i * j)) S) : wR (opMul (.int i) (.int j) S) Q E := by
  rw [opMul_i, if_pos hl]; exact h
theorem x_isN {d : D} (h : Q (.bl (decide (d = .non))) S) : wR (opIsN d S) Q E := h
theorem x_notN {d : D} (h : Q (.bl (!decide (d = .non))) S) : wR (opNotN d S) Q E := h
theorem x_eqI {i j : Int} (h : Q (.bl (decide (i = j))) S) : wR (opEq (.int i) (.int j) S) Q E := by rw [opEq_i]; exact h
theorem x_neI {i j : Int} (h : Q (.bl (!decide (i = j))) S) : wR (opNe (.int i) (.int j) S) Q E := by rw [opNe_i]; exact h
theorem x_eqP {x y : D} (hx : pl 20 x = true) (hy : pl 20 y = true) (h : Q (.bl (decide (x = y))) S) : wR (opEq x y S) Q E := by rw [opEq_pl hx hy]; exact h
theorem x_neP {x y : D} (hx : pl 20 x = true) (hy : pl 20 y = true) (h : Q (.bl (!decide (x = y))) S) : wR (opNe x y S) Q E := by rw [opNe_pl hx hy]; exact h
theorem x_ixT {xs : List D} {i : Int} {d : D} (e : atI xs i = some d) (h : Q d S) : wR (opIx (.tup xs) (.int i) S) Q E := by rw [opIx_t, e]; exact h
theorem x_slT {xs : List D} {lo hi : Option Int} (h : Q (.tup (cut xs lo hi)) S) : wR (opSl (.tup xs) lo hi S) Q E := h
theorem x_lenT {xs : List D} (h : Q (.int xs.length) S) : wR (fLen [.tup xs] S) Q E := h
theorem x_lenS {z : List Nat} (hz : z.length ≤ sz) (h : Q (.int z.length) S) : wR (fLen [.str z] S) Q E := by simp only [fLen, if_pos hz]; exact h
theorem x_min2 {i j : Int} (h : Q (.int (if j < i then j else i)) S) : wR (fMin2 [.int i, .int j] S) Q E := h
theorem x_max2 {i j : Int} (h : Q (.int (if j > i then j else i)) S) : wR (fMax2 [.int i, .int j] S) Q E := h
theorem x_isi {T t : String} {x : D} (e : tyNm S x = some t) (h : Q (.bl (decide (t = T) || (decide (t = "bool") && decide (T = "int")))) S) : wR (opIsi T x S) Q E := by
  unfold opIsi
  rw [e]
  exact h
/-! operations on what is owned -/
variable {l r : List Asn}
theorem x_mkO {o : Ob} (H : St l S) (h : ∀ n S', St (pt n o :: l) S' → Q (.ref n) S') : wR (mkO o S) Q E := h _ _ (H.alloc o)
theorem x_mkI {c : Nat} {F : Fn} {xs : List D} (H : St l S) (h : ∀ n S', St (pt n (.ins c []) :: l) S' → wR (F (.ref n :: xs) S') (fun v S3 => v = .non ∧ Q (.ref n) S3) E) : wR (mkI c F xs S) Q E := by
  unfold mkI
  rw [wR_bind]
  refine wR_mono (h _ _ (H.alloc _)) (fun v S3 ⟨e, q⟩ => ?_) fun _ _ z => z
  rw [if_pos e]
  exact q
theorem x_fld {c f n : Nat} {fs : List (Nat × D)} {d : D} (H : St l S) (p : Pick (pt n (.ins c fs)) l r) (e : fget f fs = some d) (h : Q d S) : wR (opFld c f (.ref n) S) Q E := by
  rw [opFld_r (H.rd p) e]; exact h
theorem x_setF {c f n : Nat} {d : D} {fs fs' : List (Nat × D)} (H : St l S) (p : Pick (pt n (.ins c fs)) l r) (e : fput f d fs = fs') (hl : Nat.ble fs.length 999 = true) (h : ∀ S', St (pt n (.ins c fs') :: r) S' → QL L S') : wR (setFl c f d (.ref n) L S) QL E := by
  subst e
  have := Nat.le_of_ble_eq_true hl
  simp only [setFl, H.rd p]
  rw [if_pos (And.intro trivial (by omega))]
  exact h _ ((H.pk p).set _)
theorem x_ins {c m n : Nat} {fs : List (Nat × D)} (H : St l S) (p : Pick (pt n (.ins c fs)) l r) (e : fget m fs = none) : insOk S n c m := ⟨fs, H.rd p, e⟩
theorem x_ixL {n : Nat} {xs : List D} {i : Int} {d : D} (H : St l S) (p : Pick (pt n (.lst xs)) l r) (e : atI xs i = some d) (h : Q d S) : wR (opIx (.ref n) (.int i) S) Q E := by
  rw [opIx_r (H.rd p), e]; exact h
theorem x_lenL {n : Nat} {xs : List D} (H : St l S) (p : Pick (pt n (.lst xs)) l r) (h : Q (.int xs.length) S) : wR (fLen [.ref n] S) Q E := by
  rw [fLen_r (H.rd p)]; exact h
theorem x_listL {n : Nat} {xs : List D} (H : St l S) (p : Pick (pt n (.lst xs)) l r) (h : ∀ m S', St (pt m (.lst xs) :: l) S' → Q (.ref m) S') : wR (fList [.ref n] S) Q E := by
  rw [fList_r (H.rd p)]; exact h _ _ (H.alloc _)
theorem x_listT {xs : List D} (H : St l S) (h : ∀ m S', St (pt m (.lst xs) :: l) S' → Q (.ref m) S') : wR (fList [.tup xs] S) Q E := h _ _ (H.alloc _)
theorem x_tupL {n : Nat} {xs : List D} (H : St l S) (p : Pick (pt n (.lst xs)) l r) (h : Q (.tup xs) S) : wR (fTuple [.ref n] S) Q E := by
  rw [fTuple_r (H.rd p)]; exact h
theorem x_addL {n m : Nat} {xs ys : List D} {r' : List Asn} (H : St l S) (p : Pick (pt n (.lst xs)) l r) (p' : Pick (pt m (.lst ys)) l r') (hl : xs.length + ys.length ≤ sz) (h : ∀ k S', St (pt k (.lst (xs ++ ys)) :: l) S' → Q (.ref k) S') : wR (opAdd (.ref n) (.ref m) S) Q E := by
  rw [opAdd_r (H.rd p) (H.rd p'), if_pos hl]; exact h _ _ (H.alloc _)
theorem x_slL {n : Nat} {xs : List D} {lo hi : Option Int} (H : St l S) (p : Pick (pt n (.lst xs)) l r) (h : ∀ m S', St (pt m (.lst (cut xs lo hi)) :: l) S' → Q (.ref m) S') : wR (opSl (.ref n) lo hi S) Q E := by
  rw [opSl_r (H.rd p)]; exact h _ _ (H.alloc _)
theorem x_tyL {n : Nat} {xs : List D} (H : St l S) (p : Pick (pt n (.lst xs)) l r) : tyNm S (.ref n) = some "list" := by simp only [tyNm, H.rd p]
theorem x_tyD {n : Nat} {t : Bool} {xs : List (D × D)} (H : St l S) (p : Pick (pt n (.dic t false xs)) l r) : tyNm S (.ref n) = some "dict" := by simp only [tyNm, H.rd p]
theorem x_append {n : Nat} {xs : List D} {y : D} (H : St l S) (p : Pick (pt n (.lst xs)) l r) (hl : xs.length < sz) (h : ∀ S', St (pt n (.lst (xs ++ [y])) :: r) S' → Q .non S') : wR (fAppend [.ref n, y] S) Q E := by
  simp only [fAppend, H.rd p, if_pos hl]
  exact h _ ((H.pk p).set _)
theorem x_setL {n j : Nat} {i : Int} {v : D} {xs : List D} (H : St l S) (p : Pick (pt n (.lst xs)) l r) (e : ixN xs.length i = some j) (h : ∀ S', St (pt n (.lst (xs.set j v)) :: r) S' → QU () S') : wR (setL (.ref n) (.int i) v S) QU E := by
  rw [setL_r (H.rd p) e]
  exact h _ ((H.pk p).set _)
theorem x_popAt {n : Nat} {y : D} {xs : List D} (H : St l S) (p : Pick (pt n (.lst (y :: xs))) l r) (h : ∀ S', St (pt n (.lst xs) :: r) S' → Q y S') : wR (fPopAt [.ref n, .int 0] S) Q E := by
  simp only [fPopAt, H.rd p, if_true]
  exact h _ ((H.pk p).set _)
theorem x_eqL {n m : Nat} {xs ys : List D} {r' : List Asn} (H : St l S) (p : Pick (pt n (.lst xs)) l r) (p' : Pick (pt m (.lst ys)) l r') (hx : pls 20 xs = true) (hy : pls 20 ys = true) (h : Q (.bl (decide (xs = ys))) S) : wR (opEq (.ref n) (.ref m) S) Q E := by
  rw [opEq_l (.inl (H.rd p)) (.inl (H.rd p')) hx hy]; exact h
theorem x_neL {n m : Nat} {xs ys : List D} {r' : List Asn} (H : St l S) (p : Pick (pt n (.lst xs)) l r) (p' : Pick (pt m (.lst ys)) l r') (hx : pls 20 xs = true) (hy : pls 20 ys = true) (h : Q (.bl (!decide (xs = ys))) S) : wR (opNe (.ref n) (.ref m) S) Q E := by
  rw [opNe_l (.inl (H.rd p)) (.inl (H.rd p')) hx hy]; exact h
theorem x_dget {n : Nat} {t lk : Bool} {kvs : List (D × D)} {k d : D} (H : St l S) (p : Pick (pt n (.dic t lk kvs)) l r) (hk : keyOk t k = true) (e : kget k kvs = some d) (h : Q d S) : wR (opGet (.ref n) k S) Q E := by
  simp only [opGet, H.rd p, if_pos hk, e]; exact h
theorem x_inD {n : Nat} {t lk : Bool} {kvs : List (D × D)} {k : D} {b : Bool} (H : St l S) (p : Pick (pt n (.dic t lk kvs)) l r) (hk : keyOk t k = true) (e : (kget k kvs).isSome = b) (h : Q (.bl b) S) : wR (inD false k (.ref n) S) Q E := by
  simp only [inD, H.rd p, if_pos hk, e]; exact h
theorem x_ninD {n : Nat} {t lk : Bool} {kvs : List (D × D)} {k : D} {b : Bool} (H : St l S) (p : Pick (pt n (.dic t lk kvs)) l r) (hk : keyOk t k = true) (e : (kget k kvs).isSome = b) (h : Q (.bl (!b)) S) : wR (inD true k (.ref n) S) Q E := by
  simp only [inD, H.rd p, if_pos hk, e]; exact h
theorem x_setD {n : Nat} {t : Bool} {kvs : List (D × D)} {k v : D} (H : St l S) (p : Pick (pt n (.dic t false kvs)) l r) (hk : keyOk t k = true) (hl : kvs.length < sz) (h : ∀ S', St (pt n (.dic t false (kput k v kvs)) :: r) S' → QU () S') : wR (setD (.ref n) k v S) QU E := by
  simp only [setD, H.rd p, if_pos (And.intro hk hl)]
  exact h _ ((H.pk p).set _)
theorem x_popD {n : Nat} {kvs : List (D × D)} {k d : D} (H : St l S) (p : Pick (pt n (.dic true false kvs)) l r) (hk : keyOk true k = true) (e : kget k kvs = some d) (h : ∀ S', St (pt n (.dic true false (kdrop k kvs)) :: r) S' → Q d S') : wR (fPop1 [.ref n, k] S) Q E := by
  simp only [fPop1, H.rd p, if_pos hk, e]
  exact h _ ((H.pk p).set _)
theorem x_lenD {n : Nat} {kvs : List (D × D)} (H : St l S) (p : Pick (pt n (.dic true false kvs)) l r) (h : Q (.int kvs.length) S) : wR (fLenDT [.ref n] S) Q E := by
  simp only [fLenDT, H.rd p]; exact h
/-! what is walked -/
variable {QW : Wk → Sto → Prop}
def wkL (x : D) (S : Sto) : R Wk := match x with
  | .ref n => (match S[n]? with
    | some (.lst xs) => .ok ⟨xs, fun S => decide (S[n]? = some (.lst xs))⟩ S
    | _ => .err)
  | _ => .err
theorem x_wLst {a : EM} (h : wR (a L S) (fun x S1 => wR (wkL x S1) QW E) E) : wR (wLst a L S) QW E := by
  unfold wLst
  rw [wR_bind]
  exact h
theorem x_wkL {n : Nat} {xs : List D} (H : St l S) (p : Pick (pt n (.lst xs)) l r) (h : QW ⟨xs, fun S => decide (S[n]? = some (.lst xs))⟩ S) : wR (wkL (.ref n) S) QW E := by
  simp only [wkL, H.rd p]
  exact h
theorem x_wTup {a : EM} (h : wR (a L S) (fun x S1 => ∃ xs, x = .tup xs ∧ QW ⟨xs, fun _ => true⟩ S1) E) : wR (wTup a L S) QW E := wR_wTup h
theorem x_wStr {a : EM} (h : wR (a L S) (fun x S1 => ∃ z, x = .str z ∧ QW ⟨z.map fun c => .str [c], fun _ => true⟩ S1) E) : wR (wStr a L S) QW E := wR_wStr h
theorem x_wRng1 {a : EM} (h : wR (a L S) (fun x S1 => ∃ j, x = .int j ∧ (-(2 ^ 62) ≤ j ∧ j < 2 ^ 62) ∧ QW ⟨rngD 0 j.toNat, fun _ => true⟩ S1) E) : wR (wRng1 a L S) QW E := wR_wRng1 h
end
/-! loops -/
/-- a loop that folds: what is walked are the g z -/
theorem x_fold {α σ : Type} {chk : Sto → Bool} {tg : TM} {body : SM} {nx bk ct : Loc → Sto → Prop} {rt : D → Sto → Prop} {exx : Exc → Loc → Sto → Prop} {L : Loc} {S : Sto} (g : α → D) (f : σ → α → σ) (I : σ → Loc → Sto → Prop) {zs : List α} {s0 : σ} {its : List D} (hi : its = zs.map g) (hc : ∀ s L S, I s L S → chk S = true)
    (h0 : I s0 L S) (hs : ∀ pre z post L S, zs = pre ++ z :: post → I (pre.foldl f s0) L S → wR (tg (g z) L S) (fun L1 S1 => wS (body L1 S1) ⟨I (f (pre.foldl f s0) z), rt, fun _ _ => False, I (f (pre.foldl f s0) z), exx⟩) Fl2) (q : ∀ L S, I (zs.foldl f s0) L S → nx L S) : wS (forL chk tg body its L S) ⟨nx, rt, bk, ct, exx⟩ := by
  subst hi
  refine forL_inv (I := fun ys L S => ∃ pre us, ys = us.map g ∧ zs = pre ++ us ∧ I (pre.foldl f s0) L S) (fun ys L S ⟨s, us, _, _, h⟩ => hc _ _ _ h) ?_ ?_ ⟨[], zs, rfl, rfl, h0⟩
  · rintro L S ⟨pre, us, e, e2, h⟩
    cases us with
    | nil => rw [List.append_nil] at e2; subst e2; exact q _ _ h
    | cons u us => cases e
  · rintro y ys L S ⟨pre, us, e, e2, h⟩
    cases us with
    | nil => cases e
    | cons u us =>
      rw [List.map_cons] at e
      cases e
      refine wR_mono (hs pre u us L S e2 h) (fun L1 S1 w => ?_) fun _ _ z => z.elim
      have e3 : zs = (pre ++ [u]) ++ us := by rw [e2]; simp
      have e4 : (pre ++ [u]).foldl f s0 = f (pre.foldl f s0) u := by rw [List.foldl_append]; rfl
      exact wS_mono w (fun L2 S2 i => ⟨pre ++ [u], us, rfl, e3, by rw [e4]; exact i⟩) (fun _ _ z => z) (fun _ _ z => z.elim) (fun L2 S2 i => ⟨pre ++ [u], us, rfl, e3, by rw [e4]; exact i⟩) fun _ _ _ z => z
/-- a comprehension that changes nothing -/
theorem x_lc {α : Type} {chk : Sto → Bool} {tg : TM} {t : BM} {e : EM} {L : Loc} {S : Sto} {l : List Asn} {Q : D → Sto → Prop} {E : Exc → Sto → Prop} (H : St l S) (g : α → D) (p : α → Bool) (f : α → D) {zs : List α} {its : List D} (hi : its = zs.map g)
    (hz : zs.length ≤ sz) (hc : ∀ S', St l S' → chk S' = true)
    (hs : ∀ z ∈ zs, ∀ m acc S', St (pt m (.lst acc) :: l) S' → wR (tg (g z) L S') (fun L1 S1 => S1 = S' ∧ wR (t L1 S') (fun b S2 => S2 = S' ∧ b = p z ∧ Whn (p z) (wR (e L1 S') (fun y S3 => S3 = S' ∧ y = f z) Fl2)) Fl2) Fl2)
    (q : ∀ m S', St (pt m (.lst ((zs.filter p).map f)) :: l) S' → Q (.ref m) S') : wR (lcL chk tg t e L S.length its (S ++ [.lst []])) Q E := by
  subst hi
  refine lcL_inv (I := fun ys acc S' => ∃ us ws, ys = us.map g ∧ ws ++ us = zs ∧ acc = (ws.filter p).map f ∧ St (pt S.length (.lst acc) :: l) S') (fun ys acc S' ⟨us, ws, _, _, _, h⟩ => ⟨hc _ h.tl, h.at⟩) ?_ ?_ ⟨zs, [], rfl, rfl, rfl, H.alloc _⟩
  · rintro acc S' ⟨us, ws, e, e2, e3, h⟩
    cases us with
    | nil =>
      rw [List.append_nil] at e2
      subst e2 e3
      exact q _ _ h
    | cons u us => cases e
  · rintro y ys acc S' ⟨us, ws, e, e2, e3, h⟩
    cases us with
    | nil => cases e
    | cons u us =>
      rw [List.map_cons] at e
      cases e
      refine wR_mono (hs u (by rw [← e2]; simp) _ acc S' h) (fun L1 S1 ⟨z1, w⟩ => ?_) fun _ _ z => z
      subst z1
      refine wR_mono w (fun b S2 ⟨z2, z3, w⟩ => ?_) fun _ _ z => z
      subst z2
      have e2' : (ws ++ [u]) ++ us = zs := by rw [← e2]; simp
      cases hb : p u with
      | true =>
        rw [z3, hb, if_pos rfl]
        refine wR_mono (w hb) (fun y S3 ⟨z4, z5⟩ => ?_) fun _ _ z => z
        subst z4
        have ln : acc.length < sz := by
          rw [e3, List.length_map]
          have h1 : (ws.filter p).length ≤ ws.length := List.length_filter_le _ _
          have h2 : ws.length + (us.length + 1) = zs.length := by rw [← e2]; simp
          omega
        exact ⟨acc, h.at, ln, us, ws ++ [u], rfl, e2', by rw [e3, z5, List.filter_append]; simp [List.filter_cons, hb], h.set _⟩
      | false =>
        rw [z3, hb, if_neg (by simp)]
        exact ⟨us, ws ++ [u], rfl, e2', by rw [e3, List.filter_append]; simp [List.filter_cons, hb], h⟩
end MP

namespace MP
open PySem (PyData)
@[irreducible] def xR {α : Type} (r : R α) (Q : α → Sto → Prop) (E : Exc → Sto → Prop) : Prop := wR r Q E
@[irreducible] def xS (r : RS) (K : En) : Prop := wS r K
theorem xR_eq {α : Type} (r : R α) (Q : α → Sto → Prop) (E : Exc → Sto → Prop) : xR r Q E = wR r Q E := by unfold xR; rfl
theorem xS_eq (r : RS) (K : En) : xS r K = wS r K := by unfold xS; rfl
section
variable {L L' : Loc} {S : Sto} {Q : D → Sto → Prop} {QB : Bool → Sto → Prop} {QA : List D → Sto → Prop} {QL : Loc → Sto → Prop} {QP : Option Int → Sto → Prop} {QU : Unit → Sto → Prop} {E : Exc → Sto → Prop} {K : En}
variable {nx bk ct : Loc → Sto → Prop} {rt : D → Sto → Prop} {ex : Exc → Loc → Sto → Prop}
theorem sx_seq {a b : SM} (h : xS (a L S) ⟨fun L1 S1 => xS (b L1 S1) ⟨nx, rt, bk, ct, ex⟩, rt, bk, ct, ex⟩) : xS (sSeq a b L S) ⟨nx, rt, bk, ct, ex⟩ := by
  simp only [xR_eq, xS_eq] at *
  exact x_seq h
theorem sx_nx (h : nx L S) : xS (sNx L S) ⟨nx, rt, bk, ct, ex⟩ := by
  simp only [xR_eq, xS_eq] at *
  exact x_nx h
theorem sx_expr {a : EM} (h : xR (a L S) (fun _ S1 => nx L S1) (fun x S => ex x L S)) : xS (sExpr a L S) ⟨nx, rt, bk, ct, ex⟩ := by
  simp only [xR_eq, xS_eq] at *
  exact x_expr h
theorem sx_ret {a : EM} (h : xR (a L S) rt (fun x S => ex x L S)) : xS (sRet a L S) ⟨nx, rt, bk, ct, ex⟩ := by
  simp only [xR_eq, xS_eq] at *
  exact x_ret h
theorem sx_retN (h : rt .non S) : xS (sRetN L S) ⟨nx, rt, bk, ct, ex⟩ := by
  simp only [xR_eq, xS_eq] at *
  exact x_retN h
theorem sx_brk (h : bk L S) : xS (sBrk L S) ⟨nx, rt, bk, ct, ex⟩ := by
  simp only [xR_eq, xS_eq] at *
  exact x_brk h
theorem sx_cnt (h : ct L S) : xS (sCnt L S) ⟨nx, rt, bk, ct, ex⟩ := by
  simp only [xR_eq, xS_eq] at *
  exact x_cnt h
theorem sx_if {t : BM} {a b : SM} (h : xR (t L S) (fun c S1 => if c = true then xS (a L S1) ⟨nx, rt, bk, ct, ex⟩ else xS (b L S1) ⟨nx, rt, bk, ct, ex⟩) (fun x S => ex x L S)) : xS (sIf t a b L S) ⟨nx, rt, bk, ct, ex⟩ := by
  simp only [xR_eq, xS_eq] at *
  exact x_if h
theorem sx_asg {a : EM} {t : TM} (h : xR (a L S) (fun d S1 => xR (t d L S1) nx (fun _ _ => False)) (fun x S => ex x L S)) : xS (sAsg a t L S) ⟨nx, rt, bk, ct, ex⟩ := by
  simp only [xR_eq, xS_eq] at *
  exact x_asg h
theorem sx_raise {c : Nat} {as : AM} (h : xR (as L S) (fun xs S1 => ex ⟨c, xs⟩ L S1) (fun x S => ex x L S)) : xS (sRaise c as L S) ⟨nx, rt, bk, ct, ex⟩ := by
  simp only [xR_eq, xS_eq] at *
  exact x_raise h
theorem sx_for {w : WM} {tg : TM} {body : SM} (h : xR (w L S) (fun k S1 => xS (forL k.chk tg body k.items L S1) ⟨nx, rt, bk, ct, ex⟩) (fun x S => ex x L S)) : xS (sFor w tg body L S) ⟨nx, rt, bk, ct, ex⟩ := by
  simp only [xR_eq, xS_eq] at *
  exact x_for h
theorem sx_fn {np nl : Nat} {body : SM} {ds : List D} (hl : ds.length = np) (e : ds.map some ++ List.replicate (nl - np) none = L) (h : xS (body L S) ⟨fun _ S1 => Q .non S1, Q, fun _ _ => False, fun _ _ => False, fun x _ S => E x S⟩) : xR (fn np nl body ds S) Q E := by
  simp only [xR_eq, xS_eq] at *
  exact x_fn hl e h
theorem sx_gV {i : Nat} {d : D} (e : L.set i (some d) = L') (h : QL L' S) : xR (gV i d L S) QL E := by
  simp only [xR_eq, xS_eq] at *
  exact x_gV e h
theorem sx_gTup {n : Nat} {u : List D → Loc → Sto → R Loc} {ds : List D} (e : ds.length = n) (h : xR (u ds L S) QL E) : xR (gTup n u (.tup ds) L S) QL E := by
  simp only [xR_eq, xS_eq] at *
  exact x_gTup e h
theorem sx_gCons {t : TM} {u : List D → Loc → Sto → R Loc} {d : D} {ds : List D} (h : xR (t d L S) (fun L1 S1 => xR (u ds L1 S1) QL E) E) : xR (gCons t u (d :: ds) L S) QL E := by
  simp only [xR_eq, xS_eq] at *
  exact x_gCons h
theorem sx_gNil (h : QL L S) : xR (gNil [] L S) QL E := by
  simp only [xR_eq, xS_eq] at *
  exact x_gNil h
theorem sx_gFld {c f : Nat} {o : EM} {d : D} (h : xR (o L S) (fun x S1 => xR (setFl c f d x L S1) QL E) E) : xR (gFld c f o d L S) QL E := by
  simp only [xR_eq, xS_eq] at *
  exact x_gFld h
theorem sx_gSub {f : Set2} {o i : EM} {d : D} (h : xR (o L S) (fun x S1 => xR (i L S1) (fun y S2 => xR (f x y d S2) (fun _ S3 => QL L S3) E) E) E) : xR (gSub f o i d L S) QL E := by
  simp only [xR_eq, xS_eq] at *
  exact x_gSub h
theorem sx_C {d : D} (h : Q d S) : xR (eC d L S) Q E := by
  simp only [xR_eq, xS_eq] at *
  exact x_C h
theorem sx_V {i : Nat} {d : D} (e : L[i]? = some (some d)) (h : Q d S) : xR (eV i L S) Q E := by
  simp only [xR_eq, xS_eq] at *
  exact x_V e h
theorem sx_Un {f : Op1} {a : EM} (h : xR (a L S) (fun x S1 => xR (f x S1) Q E) E) : xR (eUn f a L S) Q E := by
  simp only [xR_eq, xS_eq] at *
  exact x_Un h
theorem sx_Bin {f : Op2} {a b : EM} (h : xR (a L S) (fun x S1 => xR (b L S1) (fun y S2 => xR (f x y S2) Q E) E) E) : xR (eBin f a b L S) Q E := by
  simp only [xR_eq, xS_eq] at *
  exact x_Bin h
theorem sx_If {t : BM} {a b : EM} (h : xR (t L S) (fun c S1 => if c = true then xR (a L S1) Q E else xR (b L S1) Q E) E) : xR (eIf t a b L S) Q E := by
  simp only [xR_eq, xS_eq] at *
  exact x_If h
theorem sx_aNil (h : QA [] S) : xR (aNil L S) QA E := by
  simp only [xR_eq, xS_eq] at *
  exact x_aNil h
theorem sx_aCons {a : EM} {as : AM} (h : xR (a L S) (fun x S1 => xR (as L S1) (fun xs S2 => QA (x :: xs) S2) E) E) : xR (aCons a as L S) QA E := by
  simp only [xR_eq, xS_eq] at *
  exact x_aCons h
theorem sx_Tup {as : AM} (h : xR (as L S) (fun xs S1 => Nat.ble xs.length 1000 = true ∧ Q (.tup xs) S1) E) : xR (eTup as L S) Q E := by
  simp only [xR_eq, xS_eq] at *
  exact x_Tup h
theorem sx_Lst {as : AM} (h : xR (as L S) (fun xs S1 => Nat.ble xs.length 1000 = true ∧ xR (mkO (.lst xs) S1) Q E) E) : xR (eLst as L S) Q E := by
  simp only [xR_eq, xS_eq] at *
  exact x_Lst h
theorem sx_Dic {t : Bool} (h : xR (mkO (.dic t false []) S) Q E) : xR (eDic t L S) Q E := by
  simp only [xR_eq, xS_eq] at *
  exact x_Dic h
theorem sx_Call {F : Fn} {as : AM} (h : xR (as L S) (fun xs S1 => xR (F xs S1) Q E) E) : xR (eCall F as L S) Q E := by
  simp only [xR_eq, xS_eq] at *
  exact x_Call h
theorem sx_Meth {c mi : Nat} {F : Fn} {o : EM} {as : AM} (h : xR (o L S) (fun x S1 => ∃ n, x = .ref n ∧ insOk S1 n c mi ∧ xR (as L S1) (fun xs S2 => xR (F (.ref n :: xs) S2) Q E) E) E) : xR (eMeth c mi F o as L S) Q E := by
  simp only [xR_eq, xS_eq] at *
  exact x_Meth h
theorem sx_Make {c : Nat} {F : Fn} {as : AM} (h : xR (as L S) (fun xs S1 => xR (mkI c F xs S1) Q E) E) : xR (eMake c F as L S) Q E := by
  simp only [xR_eq, xS_eq] at *
  exact x_Make h
theorem sx_MakeK {c n m : Nat} {F : Fn} {gD : List D → List D → List D} {as ks : AM} (h : xR (as L S) (fun xs S1 => xR (ks L S1) (fun zs S2 => xs.length = n ∧ zs.length = m ∧ xR (mkI c F (gD xs zs) S2) Q E) E) E) : xR (eMakeK c n m F gD as ks L S) Q E := by
  simp only [xR_eq, xS_eq] at *
  exact x_MakeK h
theorem sx_Sl {a : EM} {lo hi : PM} (h : xR (a L S) (fun x S1 => xR (lo L S1) (fun l S2 => xR (hi L S2) (fun h S3 => xR (opSl x l h S3) Q E) E) E) E) : xR (eSl a lo hi L S) Q E := by
  simp only [xR_eq, xS_eq] at *
  exact x_Sl h
theorem sx_pNo (h : QP none S) : xR (pNo L S) QP E := by
  simp only [xR_eq, xS_eq] at *
  exact x_pNo h
theorem sx_pSome {a : EM} (h : xR (a L S) (fun x S1 => ∃ i, x = .int i ∧ QP (some i) S1) E) : xR (pSome a L S) QP E := by
  simp only [xR_eq, xS_eq] at *
  exact x_pSome h
theorem sx_BM {t : String} {F : Fn} {o : EM} {as : AM} (h : xR (o L S) (fun x S1 => tyNm S1 x = some t ∧ xR (as L S1) (fun xs S2 => xR (F (x :: xs) S2) Q E) E) E) : xR (eBM t F o as L S) Q E := by
  simp only [xR_eq, xS_eq] at *
  exact x_BM h
theorem sx_Lc {w : WM} {tg : TM} {t : BM} {e : EM} {vs : List Nat} (h : xR (w L S) (fun k S1 => xR (lcL k.chk tg t e (wipe L vs) S1.length k.items (S1 ++ [.lst []])) Q E) E) : xR (eLc w tg t e vs L S) Q E := by
  simp only [xR_eq, xS_eq] at *
  exact x_Lc h
theorem sx_Not {a : EM} (h : xR (a L S) (fun x S1 => ∃ k, x = .bl k ∧ Q (.bl (!k)) S1) E) : xR (eNot a L S) Q E := by
  simp only [xR_eq, xS_eq] at *
  exact x_Not h
theorem sx_And {a b : EM} (h : xR (a L S) (fun x S1 => ∃ k, x = .bl k ∧ if k = true then xR (b L S1) Q E else Q (.bl false) S1) E) : xR (eAnd a b L S) Q E := by
  simp only [xR_eq, xS_eq] at *
  exact x_And h
theorem sx_Or {a b : EM} (h : xR (a L S) (fun x S1 => ∃ k, x = .bl k ∧ if k = true then Q (.bl true) S1 else xR (b L S1) Q E) E) : xR (eOr a b L S) Q E := by
  simp only [xR_eq, xS_eq] at *
  exact x_Or h
theorem sx_tV {a : EM} (h : xR (a L S) (fun x S1 => ∃ k, x = .bl k ∧ QB k S1) E) : xR (tV a L S) QB E := by
  simp only [xR_eq, xS_eq] at *
  exact x_tV h
theorem sx_tNot {a : BM} (h : xR (a L S) (fun c S1 => QB (!c) S1) E) : xR (tNot a L S) QB E := by
  simp only [xR_eq, xS_eq] at *
  exact x_tNot h
theorem sx_tYes (h : QB true S) : xR (tYes L S) QB E := by
  simp only [xR_eq, xS_eq] at *
  exact x_tYes h
theorem sx_tAnd {a b : BM} (h : xR (a L S) (fun c S1 => if c = true then xR (b L S1) QB E else QB false S1) E) : xR (tAnd a b L S) QB E := by
  simp only [xR_eq, xS_eq] at *
  exact x_tAnd h
theorem sx_tOr {a b : BM} (h : xR (a L S) (fun c S1 => if c = true then QB true S1 else xR (b L S1) QB E) E) : xR (tOr a b L S) QB E := by
  simp only [xR_eq, xS_eq] at *
  exact x_tOr h
theorem sx_tAnd2 {a b : BM} {p q : Bool} (ha : xR (a L S) (fun c S1 => S1 = S ∧ c = p) Fl2) (hb : p = true → xR (b L S) (fun c S1 => S1 = S ∧ c = q) Fl2) (h : QB (p && q) S) : xR (tAnd a b L S) QB E := by
  simp only [xR_eq, xS_eq] at *
  exact x_tAnd2 ha hb h
theorem sx_tOr2 {a b : BM} {p q : Bool} (ha : xR (a L S) (fun c S1 => S1 = S ∧ c = p) Fl2) (hb : p = false → xR (b L S) (fun c S1 => S1 = S ∧ c = q) Fl2) (h : QB (p || q) S) : xR (tOr a b L S) QB E := by
  simp only [xR_eq, xS_eq] at *
  exact x_tOr2 ha hb h
theorem sx_addI {i j : Int} (h : Q (.int (i + j)) S) : xR (opAdd (.int i) (.int j) S) Q E := by
  simp only [xR_eq, xS_eq] at *
  exact x_addI h
theorem sx_subI {i j : Int} (h : Q (.int (i - j)) S) : xR (opSub (.int i) (.int j) S) Q E := by
  simp only [xR_eq, xS_eq] at *
  exact x_subI h
theorem sx_cmp {f : Int → Int → Bool} {i j : Int} (h : Q (.bl (f i j)) S) : xR (opCmp f (.int i) (.int j) S) Q E := by
  simp only [xR_eq, xS_eq] at *
  exact x_cmp h
theorem sx_negI {i : Int} (h : Q (.int (-i)) S) : xR (opNeg (.int i) S) Q E := by
  simp only [xR_eq, xS_eq] at *
  exact x_negI h
theorem sx_addT {a b : List D} (hl : a.length + b.length ≤ sz) (h : Q (.tup (a ++ b)) S) : xR (opAdd (.tup a) (.tup b) S) Q E := by
  simp only [xR_eq, xS_eq] at *
  exact x_addT hl h
theorem sx_mulI {i j : Int} (hl : mulOk i j = true) (h : Q (.int (i * j)) S) : xR (opMul (.int i) (.int j) S) Q E := by
  simp only [xR_eq, xS_eq] at *
  exact x_mulI hl h
theorem sx_isN {d : D} (h : Q (.bl (decide (d = .non))) S) : xR (opIsN d S) Q E := by
  simp only [xR_eq, xS_eq] at *
  exact x_isN h
theorem sx_notN {d : D} (h : Q (.bl (!decide (d = .non))) S) : xR (opNotN d S) Q E := by
  simp only [xR_eq, xS_eq] at *
  exact x_notN h
theorem sx_eqI {i j : Int} (h : Q (.bl (decide (i = j))) S) : xR (opEq (.int i) (.int j) S) Q E := by
  simp only [xR_eq, xS_eq] at *
  exact x_eqI h
theorem sx_neI {i j : Int} (h : Q (.bl (!decide (i = j))) S) : xR (opNe (.int i) (.int j) S) Q E := by
  simp only [xR_eq, xS_eq] at *
  exact x_neI h
theorem sx_eqP {x y : D} (hx : pl 20 x = true) (hy : pl 20 y = true) (h : Q (.bl (decide (x = y))) S) : xR (opEq x y S) Q E := by
  simp only [xR_eq, xS_eq] at *
  exact x_eqP hx hy h
theorem sx_neP {x y : D} (hx : pl 20 x = true) (hy : pl 20 y = true) (h : Q (.bl (!decide (x = y))) S) : xR (opNe x y S) Q E := by
  simp only [xR_eq, xS_eq] at *
  exact x_neP hx hy h
theorem sx_ixT {xs : List D} {i : Int} {d : D} (e : atI xs i = some d) (h : Q d S) : xR (opIx (.tup xs) (.int i) S) Q E := by
  simp only [xR_eq, xS_eq] at *
  exact x_ixT e h
theorem sx_slT {xs : List D} {lo hi : Option Int} (h : Q (.tup (cut xs lo hi)) S) : xR (opSl (.tup xs) lo hi S) Q E := by
  simp only [xR_eq, xS_eq] at *
  exact x_slT h
theorem sx_lenT {xs : List D} (h : Q (.int xs.length) S) : xR (fLen [.tup xs] S) Q E := by
  simp only [xR_eq, xS_eq] at *
  exact x_lenT h
theorem sx_lenS {z : List Nat} (hz : z.length ≤ sz) (h : Q (.int z.length) S) : xR (fLen [.str z] S) Q E := by
  simp only [xR_eq, xS_eq] at *
  exact x_lenS hz h
theorem sx_min2 {i j : Int} (h : Q (.int (if j < i then j else i)) S) : xR (fMin2 [.int i, .int j] S) Q E := by
  simp only [xR_eq, xS_eq] at *
  exact x_min2 h
theorem sx_max2 {i j : Int} (h : Q (.int (if j > i then j else i)) S) : xR (fMax2 [.int i, .int j] S) Q E := by
  simp only [xR_eq, xS_eq] at *
  exact x_max2 h
theorem sx_isi {T t : String} {x : D} (e : tyNm S x = some t) (h : Q (.bl (decide (t = T) || (decide (t = "bool") && decide (T = "int")))) S) : xR (opIsi T x S) Q E := by
  simp only [xR_eq, xS_eq] at *
  exact x_isi e h
variable {l r : List Asn}
theorem sx_mkO {o : Ob} (H : St l S) (h : ∀ n S', St (pt n o :: l) S' → Q (.ref n) S') : xR (mkO o S) Q E := by
  simp only [xR_eq, xS_eq] at *
  exact x_mkO H h
theorem sx_mkI {c : Nat} {F : Fn} {xs : List D} (H : St l S) (h : ∀ n S', St (pt n (.ins c []) :: l) S' → xR (F (.ref n :: xs) S') (fun v S3 => v = .non ∧ Q (.ref n) S3) E) : xR (mkI c F xs S) Q E := by
  simp only [xR_eq, xS_eq] at *
  exact x_mkI H h
theorem sx_fld {c f n : Nat} {fs : List (Nat × D)} {d : D} (H : St l S) (p : Pick (pt n (.ins c fs)) l r) (e : fget f fs = some d) (h : Q d S) : xR (opFld c f (.ref n) S) Q E := by
  simp only [xR_eq, xS_eq] at *
  exact x_fld H p e h
theorem sx_setF {c f n : Nat} {d : D} {fs fs' : List (Nat × D)} (H : St l S) (p : Pick (pt n (.ins c fs)) l r) (e : fput f d fs = fs') (hl : Nat.ble fs.length 999 = true) (h : ∀ S', St (pt n (.ins c fs') :: r) S' → QL L S') : xR (setFl c f d (.ref n) L S) QL E := by
  simp only [xR_eq, xS_eq] at *
  exact x_setF H p e hl h
theorem sx_ixL {n : Nat} {xs : List D} {i : Int} {d : D} (H : St l S) (p : Pick (pt n (.lst xs)) l r) (e : atI xs i = some d) (h : Q d S) : xR (opIx (.ref n) (.int i) S) Q E := by
  simp only [xR_eq, xS_eq] at *
  exact x_ixL H p e h
theorem sx_lenL {n : Nat} {xs : List D} (H : St l S) (p : Pick (pt n (.lst xs)) l r) (h : Q (.int xs.length) S) : xR (fLen [.ref n] S) Q E := by
  simp only [xR_eq, xS_eq] at *
  exact x_lenL H p h
theorem sx_listL {n : Nat} {xs : List D} (H : St l S) (p : Pick (pt n (.lst xs)) l r) (h : ∀ m S', St (pt m (.lst xs) :: l) S' → Q (.ref m) S') : xR (fList [.ref n] S) Q E := by
  simp only [xR_eq, xS_eq] at *
  exact x_listL H p h
theorem sx_listT {xs : List D} (H : St l S) (h : ∀ m S', St (pt m (.lst xs) :: l) S' → Q (.ref m) S') : xR (fList [.tup xs] S) Q E := by
  simp only [xR_eq, xS_eq] at *
  exact x_listT H h
theorem sx_tupL {n : Nat} {xs : List D} (H : St l S) (p : Pick (pt n (.lst xs)) l r) (h : Q (.tup xs) S) : xR (fTuple [.ref n] S) Q E := by
  simp only [xR_eq, xS_eq] at *
  exact x_tupL H p h
theorem sx_addL {n m : Nat} {xs ys : List D} {r' : List Asn} (H : St l S) (p : Pick (pt n (.lst xs)) l r) (p' : Pick (pt m (.lst ys)) l r') (hl : xs.length + ys.length ≤ sz) (h : ∀ k S', St (pt k (.lst (xs ++ ys)) :: l) S' → Q (.ref k) S') : xR (opAdd (.ref n) (.ref m) S) Q E := by
  simp only [xR_eq, xS_eq] at *
  exact x_addL H p p' hl h
theorem sx_slL {n : Nat} {xs : List D} {lo hi : Option Int} (H : St l S) (p : Pick (pt n (.lst xs)) l r) (h : ∀ m S', St (pt m (.lst (cut xs lo hi)) :: l) S' → Q (.ref m) S') : xR (opSl (.ref n) lo hi S) Q E := by
  simp only [xR_eq, xS_eq] at *
  exact x_slL H p h
theorem sx_append {n : Nat} {xs : List D} {y : D} (H : St l S) (p : Pick (pt n (.lst xs)) l r) (hl : xs.length < sz) (h : ∀ S', St (pt n (.lst (xs ++ [y])) :: r) S' → Q .non S') : xR (fAppend [.ref n, y] S) Q E := by
  simp only [xR_eq, xS_eq] at *
  exact x_append H p hl h
theorem sx_setL {n j : Nat} {i : Int} {v : D} {xs : List D} (H : St l S) (p : Pick (pt n (.lst xs)) l r) (e : ixN xs.length i = some j) (h : ∀ S', St (pt n (.lst (xs.set j v)) :: r) S' → QU () S') : xR (setL (.ref n) (.int i) v S) QU E := by
  simp only [xR_eq, xS_eq] at *
  exact x_setL H p e h
theorem sx_popAt {n : Nat} {y : D} {xs : List D} (H : St l S) (p : Pick (pt n (.lst (y :: xs))) l r) (h : ∀ S', St (pt n (.lst xs) :: r) S' → Q y S') : xR (fPopAt [.ref n, .int 0] S) Q E := by
  simp only [xR_eq, xS_eq] at *
  exact x_popAt H p h
theorem sx_eqL {n m : Nat} {xs ys : List D} {r' : List Asn} (H : St l S) (p : Pick (pt n (.lst xs)) l r) (p' : Pick (pt m (.lst ys)) l r') (hx : pls 20 xs = true) (hy : pls 20 ys = true) (h : Q (.bl (decide (xs = ys))) S) : xR (opEq (.ref n) (.ref m) S) Q E := by
  simp only [xR_eq, xS_eq] at *
  exact x_eqL H p p' hx hy h
theorem sx_neL {n m : Nat} {xs ys : List D} {r' : List Asn} (H : St l S) (p : Pick (pt n (.lst xs)) l r) (p' : Pick (pt m (.lst ys)) l r') (hx : pls 20 xs = true) (hy : pls 20 ys = true) (h : Q (.bl (!decide (xs = ys))) S) : xR (opNe (.ref n) (.ref m) S) Q E := by
  simp only [xR_eq, xS_eq] at *
  exact x_neL H p p' hx hy h
theorem sx_dget {n : Nat} {t lk : Bool} {kvs : List (D × D)} {k d : D} (H : St l S) (p : Pick (pt n (.dic t lk kvs)) l r) (hk : keyOk t k = true) (e : kget k kvs = some d) (h : Q d S) : xR (opGet (.ref n) k S) Q E := by
  simp only [xR_eq, xS_eq] at *
  exact x_dget H p hk e h
theorem sx_inD {n : Nat} {t lk : Bool} {kvs : List (D × D)} {k : D} {b : Bool} (H : St l S) (p : Pick (pt n (.dic t lk kvs)) l r) (hk : keyOk t k = true) (e : (kget k kvs).isSome = b) (h : Q (.bl b) S) : xR (inD false k (.ref n) S) Q E := by
  simp only [xR_eq, xS_eq] at *
  exact x_inD H p hk e h
theorem sx_ninD {n : Nat} {t lk : Bool} {kvs : List (D × D)} {k : D} {b : Bool} (H : St l S) (p : Pick (pt n (.dic t lk kvs)) l r) (hk : keyOk t k = true) (e : (kget k kvs).isSome = b) (h : Q (.bl (!b)) S) : xR (inD true k (.ref n) S) Q E := by
  simp only [xR_eq, xS_eq] at *
  exact x_ninD H p hk e h
theorem sx_setD {n : Nat} {t : Bool} {kvs : List (D × D)} {k v : D} (H : St l S) (p : Pick (pt n (.dic t false kvs)) l r) (hk : keyOk t k = true) (hl : kvs.length < sz) (h : ∀ S', St (pt n (.dic t false (kput k v kvs)) :: r) S' → QU () S') : xR (setD (.ref n) k v S) QU E := by
  simp only [xR_eq, xS_eq] at *
  exact x_setD H p hk hl h
theorem sx_popD {n : Nat} {kvs : List (D × D)} {k d : D} (H : St l S) (p : Pick (pt n (.dic true false kvs)) l r) (hk : keyOk true k = true) (e : kget k kvs = some d) (h : ∀ S', St (pt n (.dic true false (kdrop k kvs)) :: r) S' → Q d S') : xR (fPop1 [.ref n, k] S) Q E := by
  simp only [xR_eq, xS_eq] at *
  exact x_popD H p hk e h
theorem sx_lenD {n : Nat} {kvs : List (D × D)} (H : St l S) (p : Pick (pt n (.dic true false kvs)) l r) (h : Q (.int kvs.length) S) : xR (fLenDT [.ref n] S) Q E := by
  simp only [xR_eq, xS_eq] at *
  exact x_lenD H p h
variable {QW : Wk → Sto → Prop}
theorem sx_wLst {a : EM} (h : xR (a L S) (fun x S1 => xR (wkL x S1) QW E) E) : xR (wLst a L S) QW E := by
  simp only [xR_eq, xS_eq] at *
  exact x_wLst h
theorem sx_wkL {n : Nat} {xs : List D} (H : St l S) (p : Pick (pt n (.lst xs)) l r) (h : QW ⟨xs, fun S => decide (S[n]? = some (.lst xs))⟩ S) : xR (wkL (.ref n) S) QW E := by
  simp only [xR_eq, xS_eq] at *
  exact x_wkL H p h
theorem sx_wTup {a : EM} (h : xR (a L S) (fun x S1 => ∃ xs, x = .tup xs ∧ QW ⟨xs, fun _ => true⟩ S1) E) : xR (wTup a L S) QW E := by
  simp only [xR_eq, xS_eq] at *
  exact x_wTup h
theorem sx_wStr {a : EM} (h : xR (a L S) (fun x S1 => ∃ z, x = .str z ∧ QW ⟨z.map fun c => .str [c], fun _ => true⟩ S1) E) : xR (wStr a L S) QW E := by
  simp only [xR_eq, xS_eq] at *
  exact x_wStr h
theorem sx_wRng1 {a : EM} (h : xR (a L S) (fun x S1 => ∃ j, x = .int j ∧ (-(2 ^ 62) ≤ j ∧ j < 2 ^ 62) ∧ QW ⟨rngD 0 j.toNat, fun _ => true⟩ S1) E) : xR (wRng1 a L S) QW E := by
  simp only [xR_eq, xS_eq] at *
  exact x_wRng1 h
end
theorem sx_fold {α σ : Type} {chk : Sto → Bool} {tg : TM} {body : SM} {nx bk ct : Loc → Sto → Prop} {rt : D → Sto → Prop} {exx : Exc → Loc → Sto → Prop} {L : Loc} {S : Sto} (g : α → D) (f : σ → α → σ) (I : σ → Loc → Sto → Prop) {zs : List α} {s0 : σ} {its : List D} (hi : its = zs.map g) (hc : ∀ s L S, I s L S → chk S = true)
    (h0 : I s0 L S) (hs : ∀ pre z post L S, zs = pre ++ z :: post → I (pre.foldl f s0) L S → xR (tg (g z) L S) (fun L1 S1 => xS (body L1 S1) ⟨I (f (pre.foldl f s0) z), rt, fun _ _ => False, I (f (pre.foldl f s0) z), exx⟩) Fl2) (q : ∀ L S, I (zs.foldl f s0) L S → nx L S) : xS (forL chk tg body its L S) ⟨nx, rt, bk, ct, exx⟩ := by
  simp only [xR_eq, xS_eq] at *
  exact x_fold g f I hi hc h0 hs q
theorem sx_lc {α : Type} {chk : Sto → Bool} {tg : TM} {t : BM} {e : EM} {L : Loc} {S : Sto} {l : List Asn} {Q : D → Sto → Prop} {E : Exc → Sto → Prop} (H : St l S) (g : α → D) (p : α → Bool) (f : α → D) {zs : List α} {its : List D} (hi : its = zs.map g)
    (hz : zs.length ≤ sz) (hc : ∀ S', St l S' → chk S' = true)
    (hs : ∀ z ∈ zs, ∀ m acc S', St (pt m (.lst acc) :: l) S' → xR (tg (g z) L S') (fun L1 S1 => S1 = S' ∧ xR (t L1 S') (fun b S2 => S2 = S' ∧ b = p z ∧ Whn (p z) (xR (e L1 S') (fun y S3 => S3 = S' ∧ y = f z) Fl2)) Fl2) Fl2)
    (q : ∀ m S', St (pt m (.lst ((zs.filter p).map f)) :: l) S' → Q (.ref m) S') : xR (lcL chk tg t e L S.length its (S ++ [.lst []])) Q E := by
  simp only [xR_eq, xS_eq] at *
  exact x_lc H g p f hi hz hc hs q
theorem sx_inv {chk : Sto → Bool} {tg : TM} {body : SM} {nx bk ct : Loc → Sto → Prop} {rt : D → Sto → Prop} {exx : Exc → Loc → Sto → Prop} (I : List D → Loc → Sto → Prop) {xs : List D} {L : Loc} {S : Sto} (hc : ∀ xs L S, I xs L S → chk S = true) (h0 : I xs L S) (hQ : ∀ L S, I [] L S → nx L S)
    (hs : ∀ x xs L S, I (x :: xs) L S → xR (tg x L S) (fun L1 S1 => xS (body L1 S1) ⟨fun L2 S2 => I xs L2 S2, rt, nx, fun L2 S2 => I xs L2 S2, exx⟩) (fun _ _ => False)) : xS (forL chk tg body xs L S) ⟨nx, rt, bk, ct, exx⟩ := by
  simp only [xR_eq, xS_eq] at *
  exact forL_inv I hc hQ hs h0
theorem xR_mono {α : Type} {r : R α} {Q Q' : α → Sto → Prop} {E E' : Exc → Sto → Prop} (h : xR r Q E) (hq : ∀ a S, Q a S → Q' a S) (he : ∀ x S, E x S → E' x S) : xR r Q' E' := by
  simp only [xR_eq] at *
  exact wR_mono h hq he
theorem xR_of {α : Type} {r : R α} {Q : α → Sto → Prop} {E : Exc → Sto → Prop} (h : wR r Q E) : xR r Q E := by
  rw [xR_eq]
  exact h
theorem wR_of {α : Type} {r : R α} {Q : α → Sto → Prop} {E : Exc → Sto → Prop} (h : xR r Q E) : wR r Q E := by
  rw [← xR_eq]
  exact h
theorem xR_ok {α : Type} {a : α} {S : Sto} {r : R α} {Q : α → Sto → Prop} {E : Exc → Sto → Prop} (e : r = .ok a S) (h : Q a S) : xR r Q E := by
  rw [xR_eq, e]
  exact h
/-- a test is known -/
theorem sx_cut {t : BM} {L : Loc} {S : Sto} {l : List Asn} {QB : Bool → Sto → Prop} {E : Exc → Sto → Prop} (H : St l S) (b : Bool) (h1 : xR (t L S) (fun c S1 => c = b ∧ St l S1) Fl2) (h2 : ∀ S1, St l S1 → QB b S1) : xR (t L S) QB E :=
  xR_mono h1 (fun c S1 ⟨e, h⟩ => by subst e; exact h2 S1 h) fun _ _ z => z.elim

end MP

namespace MP
open PySem (PyData)
section
variable {κ v w : Type} [DecidableEq κ]
def aget (k : κ) : List (κ × v) → Option v
  | [] => none
  | (g, d) :: r => if g = k then some d else aget k r
def aput (k : κ) (x : v) (m : List (κ × v)) : List (κ × v) := if (aget k m).isSome then m.map fun q => if q.1 = k then (q.1, x) else q else m ++ [(k, x)]
def adrop (k : κ) (m : List (κ × v)) : List (κ × v) := m.filter fun q => decide (q.1 ≠ k)
theorem aget_map (f : v → w) (k : κ) : ∀ m : List (κ × v), aget k (m.map fun q => (q.1, f q.2)) = (aget k m).map f
  | [] => rfl
  | (g, d) :: r => by
    simp only [List.map_cons, aget]
    split
    · rfl
    · exact aget_map f k r
theorem aget_none {k : κ} : ∀ {m : List (κ × v)}, aget k m = none ↔ k ∉ m.map (·.1)
  | [] => by simp [aget]
  | (g, d) :: r => by
    simp only [aget, List.map_cons, List.mem_cons, not_or]
    split
    · rename_i h; simp [h]
    · rename_i h
      rw [aget_none]
      exact ⟨fun z => ⟨fun e => h e.symm, z⟩, fun z => z.2⟩
theorem aget_mem {k : κ} {x : v} : ∀ {m : List (κ × v)}, aget k m = some x → (k, x) ∈ m
  | [], h => by cases h
  | (g, d) :: r, h => by
    simp only [aget] at h
    split at h
    · rename_i e; cases h; subst e; simp
    · exact List.mem_cons_of_mem _ (aget_mem h)
theorem aget_split {k : κ} {x : v} : ∀ {m : List (κ × v)}, aget k m = some x → ∃ r1 r2, m = r1 ++ (k, x) :: r2 ∧ k ∉ r1.map (·.1)
  | [], h => by cases h
  | (g, d) :: r, h => by
    simp only [aget] at h
    split at h
    · rename_i e; cases h; subst e; exact ⟨[], r, rfl, by simp⟩
    · rename_i e
      obtain ⟨r1, r2, e1, e2⟩ := aget_split h
      refine ⟨(g, d) :: r1, r2, by rw [e1]; rfl, ?_⟩
      simp only [List.map_cons, List.mem_cons, not_or]
      exact ⟨fun z => e z.symm, e2⟩
theorem aget_of {k : κ} {x : v} : ∀ {r1 : List (κ × v)} {r2 : List (κ × v)}, k ∉ r1.map (·.1) → aget k (r1 ++ (k, x) :: r2) = some x
  | [], r2, _ => by simp [aget]
  | (g, d) :: r, r2, h => by
    simp only [List.map_cons, List.mem_cons, not_or] at h
    simp only [List.cons_append, aget]
    rw [if_neg (fun z => h.1 z.symm)]
    exact aget_of h.2
theorem map_ne {k : κ} {x : v} : ∀ {m : List (κ × v)}, k ∉ m.map (·.1) → (m.map fun q => if q.1 = k then (q.1, x) else q) = m
  | [], _ => rfl
  | (g, d) :: r, h => by
    simp only [List.map_cons, List.mem_cons, not_or] at h
    rw [List.map_cons, map_ne h.2]
    simp only
    rw [if_neg (fun z => h.1 z.symm)]
theorem aput_split {k : κ} {x y : v} {r1 r2 : List (κ × v)} (h1 : k ∉ r1.map (·.1)) (h2 : k ∉ r2.map (·.1)) : aput k y (r1 ++ (k, x) :: r2) = r1 ++ (k, y) :: r2 := by
  unfold aput
  rw [aget_of h1]
  simp only [Option.isSome_some, if_true, List.map_append, List.map_cons]
  rw [map_ne h1, map_ne h2]
theorem aput_new {k : κ} {x : v} {m : List (κ × v)} (h : aget k m = none) : aput k x m = m ++ [(k, x)] := by
  unfold aput
  rw [h]
  rfl
theorem aput_keys {k : κ} {x : v} {m : List (κ × v)} : (aput k x m).map (·.1) = if (aget k m).isSome then m.map (·.1) else m.map (·.1) ++ [k] := by
  unfold aput
  split
  · rw [List.map_map]
    refine List.map_congr_left fun q _ => ?_
    simp only [Function.comp]
    split <;> rfl
  · simp
theorem aput_nodup {k : κ} {x : v} {m : List (κ × v)} (h : (m.map (·.1)).Nodup) : ((aput k x m).map (·.1)).Nodup := by
  rw [aput_keys]
  split
  · exact h
  · rename_i e
    have e : k ∉ m.map (·.1) := aget_none.mp (by simpa using e)
    rw [List.nodup_append]
    exact ⟨h, by simp, fun a ha b hb z => by simp at hb; subst hb; subst z; exact e ha⟩
theorem adrop_nodup {k : κ} {m : List (κ × v)} (h : (m.map (·.1)).Nodup) : ((adrop k m).map (·.1)).Nodup := h.sublist (List.filter_sublist.map _)
theorem filter_ne {k : κ} : ∀ {m : List (κ × v)}, k ∉ m.map (·.1) → (m.filter fun q => decide (q.1 ≠ k)) = m
  | [], _ => rfl
  | (g, d) :: r, h => by
    simp only [List.map_cons, List.mem_cons, not_or] at h
    rw [List.filter_cons, if_pos (by simpa using fun z => h.1 z.symm), filter_ne h.2]
theorem adrop_split {k : κ} {x : v} {r1 r2 : List (κ × v)} (h1 : k ∉ r1.map (·.1)) (h2 : k ∉ r2.map (·.1)) : adrop k (r1 ++ (k, x) :: r2) = r1 ++ r2 := by
  unfold adrop
  rw [List.filter_append, List.filter_cons, filter_ne h1, filter_ne h2, if_neg (by simp)]
theorem aput_get_self {k : κ} {x : v} {m : List (κ × v)} : aget k (aput k x m) = some x := by
  cases e : aget k m with
  | none =>
    rw [aput_new e]
    exact aget_of (aget_none.mp e)
  | some y =>
    unfold aput
    rw [e]
    simp only [Option.isSome_some, if_true]
    induction m with
    | nil => cases e
    | cons q m ih =>
      obtain ⟨g, d⟩ := q
      simp only [aget] at e
      simp only [List.map_cons]
      by_cases h : g = k
      · simp [h, aget]
      · rw [if_neg h] at e
        simp only [if_neg h, aget]
        exact ih e
theorem aput_get_ne {k j : κ} {x : v} (h : j ≠ k) : ∀ {m : List (κ × v)}, aget j (aput k x m) = aget j m := by
  have ap : ∀ m : List (κ × v), aget j (m ++ [(k, x)]) = aget j m := fun m => by
    induction m with
    | nil => simp [aget, h.symm]
    | cons q m ih => simp only [List.cons_append, aget, ih]
  have mp : ∀ m : List (κ × v), aget j (m.map fun q => if q.1 = k then (q.1, x) else q) = aget j m := fun m => by
    induction m with
    | nil => rfl
    | cons q m ih =>
      simp only [List.map_cons]
      split
      · rename_i e
        simp only [aget, ih, e, if_neg h.symm]
      · simp only [aget, ih]
  intro m
  unfold aput
  split
  · exact mp m
  · exact ap m
theorem adrop_get_self {k : κ} {m : List (κ × v)} : aget k (adrop k m) = none := by
  rw [aget_none]
  intro z
  obtain ⟨q, hq, e⟩ := List.mem_map.mp z
  have := (List.mem_filter.mp hq).2
  simp [e] at this
theorem adrop_get_ne {k j : κ} (h : j ≠ k) : ∀ {m : List (κ × v)}, aget j (adrop k m) = aget j m
  | [] => rfl
  | (g, d) :: r => by
    unfold adrop
    rw [List.filter_cons]
    by_cases e : g = k
    · rw [if_neg (by simp [e])]
      simp only [aget]
      rw [if_neg (fun z => h (by rw [← z, e]))]
      exact adrop_get_ne h
    · rw [if_pos (by simpa using e)]
      simp only [aget]
      split
      · rfl
      · exact adrop_get_ne h
theorem map_flt {k : κ} {x : v} : ∀ m : List (κ × v), (m.filter fun q => decide (q.1 ≠ k)).map (fun q => if q.1 = k then (q.1, x) else q) = m.filter fun q => decide (q.1 ≠ k)
  | [] => rfl
  | q :: m => by
    rw [List.filter_cons]
    split
    · rename_i h
      rw [List.map_cons, if_neg (by simpa using h), map_flt m]
    · exact map_flt m
theorem adrop_aput {k : κ} {x : v} {m : List (κ × v)} : adrop k (aput k x m) = adrop k m := by
  unfold adrop aput
  split
  · rw [List.filter_map]
    have e : (fun q : κ × v => decide (q.1 ≠ k)) ∘ (fun q => if q.1 = k then (q.1, x) else q) = fun q => decide (q.1 ≠ k) := by
      funext q
      simp only [Function.comp]
      split <;> rfl
    rw [e]
    exact map_flt m
  · rw [List.filter_append]
    simp
/-! to a dict in the store -/
variable {kf : κ → D} (ki : ∀ a b, kf a = kf b → a = b) (vf : v → D)
include ki
theorem kget_map (k : κ) : ∀ m : List (κ × v), kget (kf k) (m.map fun q => (kf q.1, vf q.2)) = (aget k m).map vf
  | [] => rfl
  | (g, d) :: r => by
    simp only [List.map_cons, kget, aget]
    by_cases e : g = k
    · rw [if_pos (by rw [e]), if_pos e]
      rfl
    · rw [if_neg (fun z => e (ki _ _ z)), if_neg e]
      exact kget_map k r
theorem any_key (k : κ) : ∀ m : List (κ × v), ((m.map fun q => (kf q.1, vf q.2)).any fun q => decide (q.1 = kf k)) = (aget k m).isSome
  | [] => rfl
  | (g, d) :: r => by
    simp only [List.map_cons, List.any_cons, aget, any_key k r]
    by_cases e : g = k
    · simp [e]
    · have : ¬ kf g = kf k := fun z => e (ki _ _ z)
      simp [e, this]
theorem kput_map (k : κ) (x : v) (m : List (κ × v)) : kput (kf k) (vf x) (m.map fun q => (kf q.1, vf q.2)) = (aput k x m).map fun q => (kf q.1, vf q.2) := by
  unfold kput aput
  rw [any_key ki]
  cases (aget k m).isSome with
  | true =>
    simp only [if_true, List.map_map]
    refine List.map_congr_left fun q _ => ?_
    simp only [Function.comp]
    by_cases e : q.1 = k
    · simp [e]
    · have : ¬ kf q.1 = kf k := fun z => e (ki _ _ z)
      simp [e, this]
  | false => simp
theorem kdrop_map (k : κ) (m : List (κ × v)) : kdrop (kf k) (m.map fun q => (kf q.1, vf q.2)) = (adrop k m).map fun q => (kf q.1, vf q.2) := by
  unfold kdrop adrop
  rw [List.filter_map]
  congr 1
  refine List.filter_congr fun q _ => ?_
  simp only [Function.comp]
  rw [Bool.eq_iff_iff]
  simp only [decide_eq_true_eq]
  exact ⟨fun h z => h (by rw [z]), fun h z => h (ki _ _ z)⟩
end
/-! dicts that own -/
section
variable {κ v : Type} [DecidableEq κ]
def rowsD (kf : κ → D) (rows : List (κ × Nat × v)) : List (D × D) := rows.map fun q => (kf q.1, .ref q.2.1)
def strip (rows : List (κ × Nat × v)) : List (κ × v) := rows.map fun q => (q.1, q.2.2)
def own (A : Nat → v → Asn) (rows : List (κ × Nat × v)) : List Asn := rows.map fun q => A q.2.1 q.2.2
/-- the dict at n leads to things, each at a place of its own -/
def dicAt (n : Nat) (lk : Bool) (kf : κ → D) (A : Nat → v → Asn) (m : List (κ × v)) : Asn := ex fun rows : List (κ × Nat × v) => bun [pu (strip rows = m ∧ (m.map (·.1)).Nodup), pt n (.dic true lk (rowsD kf rows)), bun (own A rows)]
/-- .., but for the thing of k, which is at j -/
def dicHole (n : Nat) (lk : Bool) (kf : κ → D) (A : Nat → v → Asn) (m : List (κ × v)) (k : κ) (j : Nat) : Asn := ex fun r1 : List (κ × Nat × v) => ex fun r2 : List (κ × Nat × v) => ex fun v0 : v =>
  bun [pu (strip r1 ++ (k, v0) :: strip r2 = m ∧ (m.map (·.1)).Nodup), pt n (.dic true lk (rowsD kf (r1 ++ (k, j, v0) :: r2))), bun (own A r1), bun (own A r2)]
variable {n : Nat} {lk : Bool} {kf : κ → D} {A : Nat → v → Asn} {m : List (κ × v)} {l : List Asn} {S : Sto} {k : κ} {j : Nat} {x : v}
theorem dicAt_h {h : Hp} : sats (dicAt n lk kf A m :: l) h ↔ ∃ rows : List (κ × Nat × v), strip rows = m ∧ (m.map (·.1)).Nodup ∧ sats (pt n (.dic true lk (rowsD kf rows)) :: (own A rows ++ l)) h := by
  rw [dicAt, sats.ex]
  refine exists_congr fun rows => ?_
  rw [sats.bun]
  simp only [List.cons_append, List.nil_append]
  rw [sats.pu, and_assoc]
  refine and_congr_right fun _ => and_congr_right fun _ => ?_
  exact sats.appb (xs := [_])
theorem dicHole_h {h : Hp} : sats (dicHole n lk kf A m k j :: l) h ↔ ∃ (r1 r2 : List (κ × Nat × v)) (v0 : v), strip r1 ++ (k, v0) :: strip r2 = m ∧ (m.map (·.1)).Nodup ∧ sats (pt n (.dic true lk (rowsD kf (r1 ++ (k, j, v0) :: r2))) :: (own A r1 ++ (own A r2 ++ l))) h := by
  simp only [dicHole, sats.ex]
  refine exists_congr fun r1 => exists_congr fun r2 => exists_congr fun v0 => ?_
  rw [sats.bun]
  simp only [List.cons_append, List.nil_append]
  rw [sats.pu, and_assoc]
  refine and_congr_right fun _ => and_congr_right fun _ => ?_
  have h1 := sats.appb (xs := [pt n (.dic true lk (rowsD kf (r1 ++ (k, j, v0) :: r2)))]) (ys := own A r1) (l := bun (own A r2) :: l) (h := h)
  have h2 := sats.appb (xs := pt n (.dic true lk (rowsD kf (r1 ++ (k, j, v0) :: r2))) :: own A r1) (ys := own A r2) (l := l) (h := h)
  exact h1.trans h2
theorem sats.mid2 {B C : Asn} {xs ys : List Asn} {h : Hp} (H : sats (B :: (xs ++ C :: ys)) h) : sats (B :: C :: (xs ++ ys)) h := by
  refine sats.cons (fun b k => ?_) H
  have gen : ∀ (xs : List Asn) (b : Hp), sats (xs ++ C :: ys) b → sats (C :: (xs ++ ys)) b := fun xs => by
    induction xs with
    | nil => exact fun b h => h
    | cons D xs ih => exact fun b h => sats.swap (sats.cons (fun b k => ih b k) h)
  exact gen xs b k
theorem sats.mid2' {B C : Asn} {xs ys : List Asn} {h : Hp} (H : sats (B :: C :: (xs ++ ys)) h) : sats (B :: (xs ++ C :: ys)) h := by
  refine sats.cons (fun b k => ?_) H
  have gen : ∀ (xs : List Asn) (b : Hp), sats (C :: (xs ++ ys)) b → sats (xs ++ C :: ys) b := fun xs => by
    induction xs with
    | nil => exact fun b h => h
    | cons D xs ih => exact fun b h => sats.cons (fun b k => ih b k) (sats.swap h)
  exact gen xs b k
theorem own_app (A : Nat → v → Asn) (r1 r2 : List (κ × Nat × v)) : own A (r1 ++ r2) = own A r1 ++ own A r2 := by simp [own]
theorem strip_app (r1 r2 : List (κ × Nat × v)) : strip (r1 ++ r2) = strip r1 ++ strip r2 := by simp [strip]
theorem strip_keys (r : List (κ × Nat × v)) : (strip r).map (·.1) = r.map (·.1) := by
  unfold strip
  rw [List.map_map]
  rfl
theorem aget_strip {rows : List (κ × Nat × v)} {k : κ} : aget k (strip rows) = (aget k rows).map (·.2) := aget_map (fun q : Nat × v => q.2) k rows
theorem nodup_mid {r1 r2 : List (κ × v)} {x : v} (h : ((r1 ++ (k, x) :: r2).map (·.1)).Nodup) : k ∉ r1.map (·.1) ∧ k ∉ r2.map (·.1) := by
  rw [List.map_append, List.map_cons, List.nodup_append] at h
  obtain ⟨_, h2, h3⟩ := h
  exact ⟨fun z => h3 k z k (by simp) rfl, (List.nodup_cons.mp h2).1⟩
/-- the thing of k is taken aside -/
theorem dic_open_h {h : Hp} (H : sats (dicAt n lk kf A m :: l) h) (e : aget k m = some x) : ∃ j, sats (A j x :: dicHole n lk kf A m k j :: l) h := by
  obtain ⟨rows, e1, nd, H⟩ := dicAt_h.mp H
  rw [← e1, aget_strip] at e
  obtain ⟨⟨j, y⟩, e2, e3⟩ := Option.map_eq_some_iff.mp e
  obtain ⟨r1, r2, e4, e5⟩ := aget_split e2
  cases e3
  subst e4
  refine ⟨j, ?_⟩
  rw [own_app] at H
  have H2 : sats (pt n (.dic true lk (rowsD kf (r1 ++ (k, j, y) :: r2))) :: (own A r1 ++ A j y :: (own A r2 ++ l))) h := by
    rw [List.append_assoc] at H
    exact H
  have H3 := sats.mid2 H2
  rw [← List.append_assoc] at H3
  have H4 := sats.mid2' H3
  rw [List.append_assoc] at H4
  exact sats.swap (dicHole_h.mpr ⟨r1, r2, y, by rw [← e1, strip_app]; rfl, nd, H4⟩)
theorem dic_close_h {h : Hp} {y : v} (H : sats (A j y :: dicHole n lk kf A m k j :: l) h) : sats (dicAt n lk kf A (aput k y m) :: l) h := by
  obtain ⟨r1, r2, v0, e1, nd, H⟩ := dicHole_h.mp (sats.swap H)
  have nd2 := nd
  rw [← e1] at nd2
  obtain ⟨n1, n2⟩ := nodup_mid nd2
  refine dicAt_h.mpr ⟨r1 ++ (k, j, y) :: r2, ?_, aput_nodup nd, ?_⟩
  · rw [← e1, aput_split n1 n2, strip_app]
    rfl
  · have e2 : rowsD kf (r1 ++ (k, j, y) :: r2) = rowsD kf (r1 ++ (k, j, v0) :: r2) := by simp [rowsD]
    rw [e2, own_app, List.append_assoc]
    have : own A ((k, j, y) :: r2) ++ l = A j y :: (own A r2 ++ l) := rfl
    rw [this]
    have h1 : sats (pt n (.dic true lk (rowsD kf (r1 ++ (k, j, v0) :: r2))) :: (own A r1 ++ (own A r2 ++ A j y :: l))) h := H
    have h2 : sats (pt n (.dic true lk (rowsD kf (r1 ++ (k, j, v0) :: r2))) :: ((own A r1 ++ own A r2) ++ A j y :: l)) h := by rw [List.append_assoc]; exact h1
    have h3 := sats.mid2 h2
    rw [List.append_assoc] at h3
    exact sats.mid2' h3
theorem aput_same (h : aget k m = some x) (nd : (m.map (·.1)).Nodup) : aput k x m = m := by
  obtain ⟨r1, r2, e, h1⟩ := aget_split h
  subst e
  rw [aput_split h1 (nodup_mid nd).2]
theorem dicAt_o : St (dicAt n lk kf A m :: l) S ↔ ∃ rows : List (κ × Nat × v), strip rows = m ∧ (m.map (·.1)).Nodup ∧ St (pt n (.dic true lk (rowsD kf rows)) :: (own A rows ++ l)) S := dicAt_h
theorem dicHole_o : St (dicHole n lk kf A m k j :: l) S ↔ ∃ (r1 r2 : List (κ × Nat × v)) (v0 : v), strip r1 ++ (k, v0) :: strip r2 = m ∧ (m.map (·.1)).Nodup ∧ St (pt n (.dic true lk (rowsD kf (r1 ++ (k, j, v0) :: r2))) :: (own A r1 ++ (own A r2 ++ l))) S := dicHole_h
theorem St.swap {B C : Asn} {l : List Asn} {S : Sto} (H : St (B :: C :: l) S) : St (C :: B :: l) S := sats.swap H
theorem St.mid2 {B C : Asn} {xs ys : List Asn} {S : Sto} (H : St (B :: (xs ++ C :: ys)) S) : St (B :: C :: (xs ++ ys)) S := sats.mid2 H
theorem St.mid2' {B C : Asn} {xs ys : List Asn} {S : Sto} (H : St (B :: C :: (xs ++ ys)) S) : St (B :: (xs ++ C :: ys)) S := sats.mid2' H
theorem dic_open (H : St (dicAt n lk kf A m :: l) S) (e : aget k m = some x) : ∃ j, St (A j x :: dicHole n lk kf A m k j :: l) S := dic_open_h H e
theorem dic_close {y : v} (H : St (A j y :: dicHole n lk kf A m k j :: l) S) : St (dicAt n lk kf A (aput k y m) :: l) S := dic_close_h H
theorem hole_nodup_h {h : Hp} (H : sats (dicHole n lk kf A m k j :: l) h) : (m.map (·.1)).Nodup := by
  obtain ⟨r1, r2, v0, e1, nd, _⟩ := dicHole_h.mp H
  exact nd
theorem dic_nodup (H : St (dicAt n lk kf A m :: l) S) : (m.map (·.1)).Nodup := by
  obtain ⟨rows, e1, nd, _⟩ := dicAt_o.mp H
  exact nd
theorem hole_nodup (H : St (dicHole n lk kf A m k j :: l) S) : (m.map (·.1)).Nodup := by
  obtain ⟨r1, r2, v0, e1, nd, _⟩ := dicHole_o.mp H
  exact nd
/-- .. and put back as it was -/
theorem dic_back_h {h : Hp} (H : sats (A j x :: dicHole n lk kf A m k j :: l) h) (e : aget k m = some x) : sats (dicAt n lk kf A m :: l) h := by
  have nd := hole_nodup_h H.tl
  have := dic_close_h H
  rwa [aput_same e nd] at this
theorem dic_back (H : St (A j x :: dicHole n lk kf A m k j :: l) S) (e : aget k m = some x) : St (dicAt n lk kf A m :: l) S := by
  have nd := hole_nodup H.tl
  have := dic_close H
  rwa [aput_same e nd] at this
variable {Q : D → Sto → Prop} {QU : Unit → Sto → Prop} {E : Exc → Sto → Prop} {r : List Asn} (ki : ∀ a b, kf a = kf b → a = b)
include ki
theorem kget_rows {rows : List (κ × Nat × v)} {k : κ} : kget (kf k) (rowsD kf rows) = (aget k rows).map fun q => .ref q.1 := kget_map ki (fun q : Nat × v => D.ref q.1) k rows
theorem isSome_rows {rows : List (κ × Nat × v)} {k : κ} : (kget (kf k) (rowsD kf rows)).isSome = (aget k (strip rows)).isSome := by
  rw [kget_rows ki, aget_strip]
  cases aget k rows <;> rfl
theorem x_dinO (H : St l S) (p : Pick (dicAt n lk kf A m) l r) (hk : keyOk true (kf k) = true) (h : Q (.bl (aget k m).isSome) S) : wR (inD false (kf k) (.ref n) S) Q E := by
  obtain ⟨rows, e1, nd, H⟩ := dicAt_o.mp (H.pk p)
  refine x_inD H .here hk ?_ h
  rw [isSome_rows ki, e1]
theorem x_dninO (H : St l S) (p : Pick (dicAt n lk kf A m) l r) (hk : keyOk true (kf k) = true) (h : Q (.bl (!(aget k m).isSome)) S) : wR (inD true (kf k) (.ref n) S) Q E := by
  obtain ⟨rows, e1, nd, H⟩ := dicAt_o.mp (H.pk p)
  refine x_ninD H .here hk ?_ h
  rw [isSome_rows ki, e1]
theorem x_dgetO (H : St l S) (p : Pick (dicAt n lk kf A m) l r) (hk : keyOk true (kf k) = true) (e : aget k m = some x) (h : ∀ j, St (A j x :: dicHole n lk kf A m k j :: r) S → Q (.ref j) S) : wR (opGet (.ref n) (kf k) S) Q E := by
  have H := H.pk p
  obtain ⟨j, H2⟩ := dic_open H e
  obtain ⟨r1, r2, v0, e1, nd, H3⟩ := dicHole_o.mp (St.swap H2)
  rw [← e1] at nd
  obtain ⟨n1, n2⟩ := nodup_mid nd
  refine x_dget H3 .here hk (d := .ref j) ?_ (h j H2)
  rw [kget_rows ki, aget_of (by rw [← strip_keys]; exact n1)]
  rfl
/-- .. while it is aside -/
theorem x_dgetH (H : St l S) (p : Pick (dicHole n lk kf A m k j) l r) (hk : keyOk true (kf k) = true) (h : Q (.ref j) S) : wR (opGet (.ref n) (kf k) S) Q E := by
  obtain ⟨r1, r2, v0, e1, nd, H3⟩ := dicHole_o.mp (H.pk p)
  rw [← e1] at nd
  obtain ⟨n1, n2⟩ := nodup_mid nd
  refine x_dget H3 .here hk (d := .ref j) ?_ h
  rw [kget_rows ki, aget_of (by rw [← strip_keys]; exact n1)]
  rfl
theorem x_dpopO (H : St l S) (p : Pick (dicAt n false kf A m) l r) (hk : keyOk true (kf k) = true) (e : aget k m = some x) (h : ∀ j S', St (A j x :: dicAt n false kf A (adrop k m) :: r) S' → Q (.ref j) S') : wR (fPop1 [.ref n, kf k] S) Q E := by
  have H := H.pk p
  obtain ⟨j, H2⟩ := dic_open H e
  obtain ⟨r1, r2, v0, e1, nd, H3⟩ := dicHole_o.mp (St.swap H2)
  have nd2 := nd
  rw [← e1] at nd2
  obtain ⟨n1, n2⟩ := nodup_mid nd2
  refine x_popD H3 .here hk (d := .ref j) ?_ fun S' H4 => h j S' ?_
  · rw [kget_rows ki, aget_of (by rw [← strip_keys]; exact n1)]
    rfl
  · have e3 : kdrop (kf k) (rowsD kf (r1 ++ (k, j, v0) :: r2)) = rowsD kf (r1 ++ r2) := by
      unfold rowsD
      rw [kdrop_map ki (fun q : Nat × v => D.ref q.1) k (r1 ++ (k, j, v0) :: r2), adrop_split (by rw [← strip_keys]; exact n1) (by rw [← strip_keys]; exact n2)]
    rw [e3] at H4
    have h1 : St (pt n (.dic true false (rowsD kf (r1 ++ r2))) :: ((own A r1 ++ own A r2) ++ A j x :: r)) S' := by rw [List.append_assoc]; exact H4
    have h2 := St.swap (St.mid2 h1)
    have h3 : St (pt n (.dic true false (rowsD kf (r1 ++ r2))) :: (own A (r1 ++ r2) ++ (A j x :: r))) S' := by
      have := St.mid2' (St.swap h2)
      rwa [own_app]
    refine St.swap (dicAt_o.mpr ⟨r1 ++ r2, ?_, adrop_nodup nd, h3⟩)
    rw [← e1, adrop_split n1 n2, strip_app]
/-- .., what is aside goes -/
theorem x_dpopH (H : St l S) (p : Pick (dicHole n false kf A m k j) l r) (hk : keyOk true (kf k) = true) (h : ∀ S', St (dicAt n false kf A (adrop k m) :: r) S' → Q (.ref j) S') : wR (fPop1 [.ref n, kf k] S) Q E := by
  obtain ⟨r1, r2, v0, e1, nd, H3⟩ := dicHole_o.mp (H.pk p)
  have nd2 := nd
  rw [← e1] at nd2
  obtain ⟨n1, n2⟩ := nodup_mid nd2
  refine x_popD H3 .here hk (d := .ref j) ?_ fun S' H4 => h S' ?_
  · rw [kget_rows ki, aget_of (by rw [← strip_keys]; exact n1)]
    rfl
  · have e3 : kdrop (kf k) (rowsD kf (r1 ++ (k, j, v0) :: r2)) = rowsD kf (r1 ++ r2) := by
      unfold rowsD
      rw [kdrop_map ki (fun q : Nat × v => D.ref q.1) k (r1 ++ (k, j, v0) :: r2), adrop_split (by rw [← strip_keys]; exact n1) (by rw [← strip_keys]; exact n2)]
    rw [e3] at H4
    refine dicAt_o.mpr ⟨r1 ++ r2, ?_, adrop_nodup nd, ?_⟩
    · rw [← e1, adrop_split n1 n2, strip_app]
    · rw [own_app, List.append_assoc]
      exact H4
theorem x_dsetO (H : St l S) (p : Pick (dicAt n false kf A m) l r) {r' : List Asn} (p' : Pick (A j x) r r') (hk : keyOk true (kf k) = true) (hl : m.length < sz) (h : ∀ S', St (dicAt n false kf A (aput k x m) :: r') S' → QU () S') : wR (setD (.ref n) (kf k) (.ref j) S) QU E := by
  obtain ⟨rows, e1, nd, H⟩ := dicAt_o.mp (H.pks (.cons p (.cons p' .nil)))
  have H : St (pt n (.dic true false (rowsD kf rows)) :: (own A rows ++ A j x :: r')) S := H
  refine x_setD H .here hk ?_ fun S' H2 => h S' ?_
  · rw [← e1] at hl
    simpa [rowsD, strip] using hl
  · have e3 : kput (kf k) (.ref j) (rowsD kf rows) = rowsD kf (aput k (j, x) rows) := kput_map ki (fun q : Nat × v => D.ref q.1) k (j, x) rows
    rw [e3] at H2
    refine dicAt_o.mpr ⟨aput k (j, x) rows, ?_, aput_nodup nd, ?_⟩
    · cases e : aget k rows with
      | none =>
        have e4 : aget k m = none := by rw [← e1, aget_strip, e]; rfl
        rw [aput_new e, aput_new e4, strip_app, e1]
        rfl
      | some q =>
        obtain ⟨r1, r2, e5, e6⟩ := aget_split e
        subst e5
        rw [← e1] at nd
        rw [strip_app] at nd
        have nd' := nd
        obtain ⟨n1, n2⟩ := nodup_mid (r1 := strip r1) (r2 := strip r2) (x := q.2) nd
        rw [aput_split e6 (by rw [← strip_keys]; exact n2), strip_app, ← e1, strip_app]
        exact (aput_split n1 n2).symm
    · cases e : aget k rows with
      | none =>
        rw [aput_new e] at H2 ⊢
        rw [own_app, List.append_assoc]
        exact H2
      | some q =>
        obtain ⟨r1, r2, e5, e6⟩ := aget_split e
        subst e5
        rw [← e1] at nd
        rw [strip_app] at nd
        obtain ⟨n1, n2⟩ := nodup_mid (r1 := strip r1) (r2 := strip r2) (x := q.2) nd
        rw [aput_split e6 (by rw [← strip_keys]; exact n2)] at H2 ⊢
        rw [own_app] at H2 ⊢
        have h1 : St (pt n (.dic true false (rowsD kf (r1 ++ (k, j, x) :: r2))) :: (own A r1 ++ A q.1 q.2 :: (own A r2 ++ A j x :: r'))) S' := by
          rw [List.append_assoc] at H2
          exact H2
        have h2 := (St.swap (St.mid2 h1)).tl
        have h3 : St (pt n (.dic true false (rowsD kf (r1 ++ (k, j, x) :: r2))) :: ((own A r1 ++ own A r2) ++ A j x :: r')) S' := by rw [List.append_assoc]; exact h2
        have h4 := St.mid2 h3
        rw [List.append_assoc] at h4
        have h5 := St.mid2' h4
        have e8 : own A r1 ++ A j x :: (own A r2 ++ r') = (own A r1 ++ own A ((k, j, x) :: r2)) ++ r' := by
          rw [List.append_assoc]
          rfl
        rw [← e8]
        exact h5
omit ki
theorem dic_empty (H : St (pt n (.dic true lk []) :: l) S) : St (dicAt n lk kf A ([] : List (κ × v)) :: l) S := dicAt_o.mpr ⟨[], rfl, by simp, H⟩
theorem x_dlenO (H : St l S) (p : Pick (dicAt n false kf A m) l r) (h : Q (.int m.length) S) : wR (fLenDT [.ref n] S) Q E := by
  obtain ⟨rows, e1, nd, H⟩ := dicAt_o.mp (H.pk p)
  refine x_lenD H .here ?_
  have : (rowsD kf rows).length = m.length := by rw [← e1]; simp [rowsD, strip]
  rw [this]
  exact h
theorem x_tyDH (H : St l S) (p : Pick (dicHole n false kf A m k j) l r) : tyNm S (.ref n) = some "dict" := by
  obtain ⟨r1, r2, v0, e1, nd, H⟩ := dicHole_o.mp (H.pk p)
  exact x_tyD H .here
theorem x_tyDO (H : St l S) (p : Pick (dicAt n false kf A m) l r) : tyNm S (.ref n) = some "dict" := by
  obtain ⟨rows, e1, nd, H⟩ := dicAt_o.mp (H.pk p)
  exact x_tyD H .here
end
theorem Pick.hereE {n : Nat} {o o' : Ob} {r : List Asn} (e : o' = o) : Pick (pt n o) (pt n o' :: r) r := by subst e; exact .here
/-! from some pieces to others -/
def Ent (l l' : List Asn) : Prop := ∀ h, sats l h → sats l' h
theorem Ent.refl {l : List Asn} : Ent l l := fun _ q => q
theorem Ent.nil {l : List Asn} : Ent l [] := fun _ _ => trivial
theorem Ent.pick {x : Asn} {l r l' : List Asn} (p : Pick x l r) (e : Ent r l') : Ent l (x :: l') := fun _ q => sats.cons (fun b k => e b k) (p.sats q)
theorem Ent.drop {x : Asn} {l l' : List Asn} (e : Ent l l') : Ent (x :: l) l' := fun h q => e h (sats.tl q)
theorem Ent.ex {α : Type} {B : α → Asn} {l l' : List Asn} (x : α) (e : Ent l (B x :: l')) : Ent l (MP.ex B :: l') := fun h q => by
  obtain ⟨a, b, d, sa, sb, ha, hb⟩ := e h q
  exact ⟨a, b, d, sa, sb, ⟨x, ha⟩, hb⟩
theorem Ent.bun {xs l l' : List Asn} (e : Ent l (xs ++ l')) : Ent l (MP.bun xs :: l') := fun h q => sats.bun.mpr (e h q)
theorem Ent.pu {p : Prop} {l l' : List Asn} (hp : p) (e : Ent l l') : Ent l (MP.pu p :: l') := fun h q => ⟨fun _ => none, h, fun _ => .inl rfl, (fun _ _ z => by cases z), Hsub.refl _, hp, e h q⟩
theorem St.ent {l l' : List Asn} {S : Sto} (H : St l S) (e : Ent l l') : St l' S := e _ H
theorem Ent.back {κ v : Type} [DecidableEq κ] {n : Nat} {lk : Bool} {kf : κ → D} {A : Nat → v → Asn} {m : List (κ × v)} {k : κ} {j : Nat} {x : v} {l r l' : List Asn} (p : Pick (dicHole n lk kf A m k j) l r) (hx : aget k m = some x) (e : Ent r (A j x :: l')) : Ent l (dicAt n lk kf A m :: l') := fun h q => by
  have q1 := sats.cons (fun b k => e b k) (p.sats q)
  exact dic_back_h (sats.swap q1) hx
theorem Ent.close {κ v : Type} [DecidableEq κ] {n : Nat} {lk : Bool} {kf : κ → D} {A : Nat → v → Asn} {m : List (κ × v)} {k : κ} {j : Nat} {x : v} {l r l' : List Asn} (p : Pick (dicHole n lk kf A m k j) l r) (e : Ent r (A j x :: l')) : Ent l (dicAt n lk kf A (aput k x m) :: l') := fun h q => by
  have q1 := sats.cons (fun b k => e b k) (p.sats q)
  exact dic_close_h (sats.swap q1)
theorem Ent.empty {κ v : Type} [DecidableEq κ] {n : Nat} {lk : Bool} {kf : κ → D} {A : Nat → v → Asn} {l r l' : List Asn} (p : Pick (pt n (.dic true lk [])) l r) (e : Ent r l') : Ent l (dicAt n lk kf A ([] : List (κ × v)) :: l') := fun h q => sats.cons (fun b k => e b k) (dicAt_h.mpr ⟨[], rfl, by simp, p.sats q⟩)
/-! while a dict is walked -/
theorem x_lock {a : EM} {st : SM} {L : Loc} {S : Sto} {n : Nat} {kvs : List (D × D)} {l r : List Asn} {nx bk ct : Loc → Sto → Prop} {rt : D → Sto → Prop} {exx : Exc → Loc → Sto → Prop} (H : St l S) (p : Pick (pt n (.dic true false kvs)) l r) (ha : a L S = .ok (.ref n) S)
    (h : ∀ S', St (pt n (.dic true true kvs) :: r) S' → wS (st L S') ⟨fun L1 S1 => ∃ l2, St (pt n (.dic true true kvs) :: l2) S1 ∧ ∀ S2, St (pt n (.dic true false kvs) :: l2) S2 → nx L1 S2,
      fun d S1 => ∃ l2, St (pt n (.dic true true kvs) :: l2) S1 ∧ ∀ S2, St (pt n (.dic true false kvs) :: l2) S2 → rt d S2, fun _ _ => False, fun _ _ => False, exx⟩) : wS (sLock a st L S) ⟨nx, rt, bk, ct, exx⟩ := by
  have H1 := H.pk p
  have h := h _ (H1.set _)
  unfold sLock
  rw [ha]
  simp only [H1.at]
  cases e : st L (S.set n (.dic true true kvs)) with
  | nx L1 S1 =>
    rw [e] at h
    obtain ⟨l2, h1, h2⟩ := h
    simp only [unlD, h1.at]
    exact h2 _ (h1.set _)
  | rt d S1 =>
    rw [e] at h
    obtain ⟨l2, h1, h2⟩ := h
    simp only [unlD, h1.at]
    exact h2 _ (h1.set _)
  | bk L1 S1 => rw [e] at h; exact h.elim
  | ct L1 S1 => rw [e] at h; exact h.elim
  | exc x L1 S1 => rw [e] at h; exact h
  | err => rw [e] at h; exact h
theorem x_wDic {a : EM} {L : Loc} {S : Sto} {n : Nat} {kvs : List (D × D)} {l r : List Asn} {Q : Wk → Sto → Prop} {E : Exc → Sto → Prop} (H : St l S) (p : Pick (pt n (.dic true true kvs)) l r) (ha : a L S = .ok (.ref n) S) (h : Q ⟨kvs.map (·.1), fun S => decide (S[n]? = some (.dic true true kvs))⟩ S) : wR (wDic a L S) Q E := by
  simp only [wDic, ha, R.bind_ok, (H.pk p).at, wR_ok]
  exact h
end MP

namespace MP
open PySem (PyData)
section
variable {κ v w : Type} [DecidableEq κ]
variable {kf : κ → D} (ki : ∀ a b, kf a = kf b → a = b) (vf : v → D)
include ki
end
section
variable {κ v : Type} [DecidableEq κ]
variable {n : Nat} {lk : Bool} {kf : κ → D} {A : Nat → v → Asn} {m : List (κ × v)} {l : List Asn} {S : Sto} {k : κ} {j : Nat} {x : v}
variable {Q : D → Sto → Prop} {QU : Unit → Sto → Prop} {E : Exc → Sto → Prop} {r : List Asn} (ki : ∀ a b, kf a = kf b → a = b)
include ki
theorem sx_dinO (H : St l S) (p : Pick (dicAt n lk kf A m) l r) (hk : keyOk true (kf k) = true) (h : Q (.bl (aget k m).isSome) S) : xR (inD false (kf k) (.ref n) S) Q E := by
  simp only [xR_eq, xS_eq] at *
  exact x_dinO ki H p hk h
theorem sx_dninO (H : St l S) (p : Pick (dicAt n lk kf A m) l r) (hk : keyOk true (kf k) = true) (h : Q (.bl (!(aget k m).isSome)) S) : xR (inD true (kf k) (.ref n) S) Q E := by
  simp only [xR_eq, xS_eq] at *
  exact x_dninO ki H p hk h
theorem sx_dgetO (H : St l S) (p : Pick (dicAt n lk kf A m) l r) (hk : keyOk true (kf k) = true) (e : aget k m = some x) (h : ∀ j, St (A j x :: dicHole n lk kf A m k j :: r) S → Q (.ref j) S) : xR (opGet (.ref n) (kf k) S) Q E := by
  simp only [xR_eq, xS_eq] at *
  exact x_dgetO ki H p hk e h
theorem sx_dgetH (H : St l S) (p : Pick (dicHole n lk kf A m k j) l r) (hk : keyOk true (kf k) = true) (h : Q (.ref j) S) : xR (opGet (.ref n) (kf k) S) Q E := by
  simp only [xR_eq, xS_eq] at *
  exact x_dgetH ki H p hk h
theorem sx_dpopO (H : St l S) (p : Pick (dicAt n false kf A m) l r) (hk : keyOk true (kf k) = true) (e : aget k m = some x) (h : ∀ j S', St (A j x :: dicAt n false kf A (adrop k m) :: r) S' → Q (.ref j) S') : xR (fPop1 [.ref n, kf k] S) Q E := by
  simp only [xR_eq, xS_eq] at *
  exact x_dpopO ki H p hk e h
theorem sx_dpopH (H : St l S) (p : Pick (dicHole n false kf A m k j) l r) (hk : keyOk true (kf k) = true) (h : ∀ S', St (dicAt n false kf A (adrop k m) :: r) S' → Q (.ref j) S') : xR (fPop1 [.ref n, kf k] S) Q E := by
  simp only [xR_eq, xS_eq] at *
  exact x_dpopH ki H p hk h
theorem sx_dsetO (H : St l S) (p : Pick (dicAt n false kf A m) l r) {r' : List Asn} (p' : Pick (A j x) r r') (hk : keyOk true (kf k) = true) (hl : m.length < sz) (h : ∀ S', St (dicAt n false kf A (aput k x m) :: r') S' → QU () S') : xR (setD (.ref n) (kf k) (.ref j) S) QU E := by
  simp only [xR_eq, xS_eq] at *
  exact x_dsetO ki H p p' hk hl h
omit ki
theorem sx_dlenO (H : St l S) (p : Pick (dicAt n false kf A m) l r) (h : Q (.int m.length) S) : xR (fLenDT [.ref n] S) Q E := by
  simp only [xR_eq, xS_eq] at *
  exact x_dlenO H p h
end
theorem sx_lock {a : EM} {st : SM} {L : Loc} {S : Sto} {n : Nat} {kvs : List (D × D)} {l r : List Asn} {nx bk ct : Loc → Sto → Prop} {rt : D → Sto → Prop} {exx : Exc → Loc → Sto → Prop} (H : St l S) (p : Pick (pt n (.dic true false kvs)) l r) (ha : a L S = .ok (.ref n) S)
    (h : ∀ S', St (pt n (.dic true true kvs) :: r) S' → xS (st L S') ⟨fun L1 S1 => ∃ l2, St (pt n (.dic true true kvs) :: l2) S1 ∧ ∀ S2, St (pt n (.dic true false kvs) :: l2) S2 → nx L1 S2,
      fun d S1 => ∃ l2, St (pt n (.dic true true kvs) :: l2) S1 ∧ ∀ S2, St (pt n (.dic true false kvs) :: l2) S2 → rt d S2, fun _ _ => False, fun _ _ => False, exx⟩) : xS (sLock a st L S) ⟨nx, rt, bk, ct, exx⟩ := by
  simp only [xR_eq, xS_eq] at *
  exact x_lock H p ha h
theorem sx_wDic {a : EM} {L : Loc} {S : Sto} {n : Nat} {kvs : List (D × D)} {l r : List Asn} {Q : Wk → Sto → Prop} {E : Exc → Sto → Prop} (H : St l S) (p : Pick (pt n (.dic true true kvs)) l r) (ha : a L S = .ok (.ref n) S) (h : Q ⟨kvs.map (·.1), fun S => decide (S[n]? = some (.dic true true kvs))⟩ S) : xR (wDic a L S) Q E := by
  simp only [xR_eq, xS_eq] at *
  exact x_wDic H p ha h
end MP

namespace MP
open PySem (PyData)
section
variable {κ v : Type}
/-- a dict that owns, by its rows -/
def dicL (n : Nat) (lk : Bool) (kf : κ → D) (A : Nat → v → Asn) (rows : List (κ × Nat × v)) : Asn := bun (pt n (.dic true lk (rowsD kf rows)) :: own A rows)
variable {n : Nat} {lk : Bool} {kf : κ → D} {A : Nat → v → Asn} {rows : List (κ × Nat × v)} {l r : List Asn} {S : Sto}
theorem dicL_o : St (dicL n lk kf A rows :: l) S ↔ St (pt n (.dic true lk (rowsD kf rows)) :: (own A rows ++ l)) S := by
  rw [dicL, St.bun]
  exact Iff.rfl
theorem dicL_of [DecidableEq κ] {m : List (κ × v)} (H : St (dicAt n lk kf A m :: l) S) : ∃ rows, strip rows = m ∧ (m.map (·.1)).Nodup ∧ St (dicL n lk kf A rows :: l) S := by
  obtain ⟨rows, e1, nd, H⟩ := dicAt_o.mp H
  exact ⟨rows, e1, nd, dicL_o.mpr H⟩
theorem dicL_to [DecidableEq κ] (H : St (dicL n lk kf A rows :: l) S) (nd : ((strip rows).map (·.1)).Nodup) : St (dicAt n lk kf A (strip rows) :: l) S := dicAt_o.mpr ⟨rows, rfl, nd, dicL_o.mp H⟩
theorem dicL_get [DecidableEq κ] {z : κ × Nat × v} (H : St (dicL n lk kf A rows :: l) S) (hz : z ∈ rows) : St (A z.2.1 z.2.2 :: pt n (.dic true lk (rowsD kf rows)) :: l) S := by
  obtain ⟨r1, r2, rfl⟩ := List.append_of_mem hz
  have H := dicL_o.mp H
  rw [own_app] at H
  have H2 : St (pt n (.dic true lk (rowsD kf (r1 ++ z :: r2))) :: (own A r1 ++ A z.2.1 z.2.2 :: (own A r2 ++ l))) S := by
    rw [List.append_assoc] at H
    exact H
  have H3 := St.swap (St.mid2 H2)
  have drop : ∀ (xs ys : List Asn) (b : Hp), sats (xs ++ ys) b → sats ys b := fun xs => by
    induction xs with
    | nil => exact fun ys b h => h
    | cons D xs ih => exact fun ys b h => ih ys b (sats.tl h)
  exact sats.cons (fun b h => sats.cons (fun b h => drop _ _ b (drop _ _ b h)) h) H3
theorem kget_mem [DecidableEq κ] (ki : ∀ a b, kf a = kf b → a = b) {z : κ × Nat × v} (nd : ((strip rows).map (·.1)).Nodup) (hz : z ∈ rows) : kget (kf z.1) (rowsD kf rows) = some (.ref z.2.1) := by
  rw [kget_rows ki]
  obtain ⟨r1, r2, rfl⟩ := List.append_of_mem hz
  rw [strip_app] at nd
  obtain ⟨k, j, x⟩ := z
  have := (nodup_mid (r1 := strip r1) (r2 := strip r2) (x := x) nd).1
  rw [strip_keys] at this
  rw [aget_of this]
  rfl
theorem rows_keys (kf : κ → D) (rows : List (κ × Nat × v)) : (rowsD kf rows).map (·.1) = rows.map fun q => kf q.1 := by
  unfold rowsD
  rw [List.map_map]
  rfl
end
section
variable {l r : List Asn} {S : Sto} {L : Loc} {Q : D → Sto → Prop} {E : Exc → Sto → Prop}
theorem sx_elock {a m : EM} {n : Nat} {kvs : List (D × D)} (H : St l S) (p : Pick (pt n (.dic true false kvs)) l r) (ha : a L S = .ok (.ref n) S)
    (h : ∀ S', St (pt n (.dic true true kvs) :: r) S' → xR (m L S') (fun d S1 => ∃ l2, St (pt n (.dic true true kvs) :: l2) S1 ∧ ∀ S2, St (pt n (.dic true false kvs) :: l2) S2 → Q d S2) E) : xR (eLock a m L S) Q E := by
  simp only [xR_eq] at *
  have H1 := H.pk p
  have h := h _ (H1.set _)
  unfold eLock
  rw [ha]
  simp only [H1.at]
  cases e : m L (S.set n (.dic true true kvs)) with
  | ok d S1 =>
    rw [e] at h
    obtain ⟨l2, h1, h2⟩ := h
    simp only [unlD, h1.at]
    exact h2 _ (h1.set _)
  | exc x S1 => rw [e] at h; exact h
  | err => rw [e] at h; exact h
variable {κ v : Type} {n : Nat} {kf : κ → D} {A : Nat → v → Asn} {rows : List (κ × Nat × v)}
theorem sx_elockL {a m : EM} (H : St l S) (p : Pick (dicL n false kf A rows) l r) (ha : a L S = .ok (.ref n) S)
    (h : ∀ S', St (dicL n true kf A rows :: r) S' → xR (m L S') (fun d S1 => ∃ l2, St (dicL n true kf A rows :: l2) S1 ∧ ∀ S2, St (dicL n false kf A rows :: l2) S2 → Q d S2) E) : xR (eLock a m L S) Q E := by
  refine sx_elock (dicL_o.mp (H.pk p)) .here ha fun S' H' => ?_
  refine xR_mono (h S' (dicL_o.mpr H')) (fun d S1 ⟨l2, h1, h2⟩ => ⟨own A rows ++ l2, dicL_o.mp h1, fun S2 h3 => h2 S2 (dicL_o.mpr h3)⟩) fun _ _ z => z
theorem sx_lockL {a : EM} {st : SM} {nx bk ct : Loc → Sto → Prop} {rt : D → Sto → Prop} {exx : Exc → Loc → Sto → Prop} (H : St l S) (p : Pick (dicL n false kf A rows) l r) (ha : a L S = .ok (.ref n) S)
    (h : ∀ S', St (dicL n true kf A rows :: r) S' → xS (st L S') ⟨fun L1 S1 => ∃ l2, St (dicL n true kf A rows :: l2) S1 ∧ ∀ S2, St (dicL n false kf A rows :: l2) S2 → nx L1 S2,
      fun d S1 => ∃ l2, St (dicL n true kf A rows :: l2) S1 ∧ ∀ S2, St (dicL n false kf A rows :: l2) S2 → rt d S2, fun _ _ => False, fun _ _ => False, exx⟩) : xS (sLock a st L S) ⟨nx, rt, bk, ct, exx⟩ := by
  refine sx_lock (dicL_o.mp (H.pk p)) .here ha fun S' H' => ?_
  have := h S' (dicL_o.mpr H')
  simp only [xS_eq] at *
  exact wS_mono this (fun L1 S1 ⟨l2, h1, h2⟩ => ⟨own A rows ++ l2, dicL_o.mp h1, fun S2 h3 => h2 S2 (dicL_o.mpr h3)⟩) (fun L1 S1 ⟨l2, h1, h2⟩ => ⟨own A rows ++ l2, dicL_o.mp h1, fun S2 h3 => h2 S2 (dicL_o.mpr h3)⟩) (fun _ _ z => z) (fun _ _ z => z) fun _ _ _ z => z
theorem sx_wDicL {a : EM} {Q : Wk → Sto → Prop} (H : St l S) (p : Pick (dicL n true kf A rows) l r) (ha : a L S = .ok (.ref n) S) (h : Q ⟨rows.map fun q => kf q.1, fun S => decide (S[n]? = some (.dic true true (rowsD kf rows)))⟩ S) : xR (wDic a L S) Q E := by
  refine sx_wDic (dicL_o.mp (H.pk p)) .here ha ?_
  rw [rows_keys]
  exact h
theorem dicL_chk {S : Sto} (H : St l S) (p : Pick (dicL n true kf A rows) l r) : decide (S[n]? = some (.dic true true (rowsD kf rows))) = true := decide_eq_true (dicL_o.mp (H.pk p)).at
/-- self.f, where self is the instance at h -/
theorem fld_ok {c f i h : Nat} {fs : List (Nat × D)} {d : D} (H : St l S) (p : Pick (pt h (.ins c fs)) l r) (hL : L[i]? = some (some (.ref h))) (e : fget f fs = some d) : eUn (opFld c f) (eV i) L S = .ok d S := by
  simp only [eUn_a, eV_a, hL, R.bind_ok]
  exact opFld_r (H.rd p) e
end
end MP

namespace MP
open PySem (PyData)
/-- a comprehension whose parts may make new things, and leave all that is owned -/
theorem x_lcS {α : Type} {chk : Sto → Bool} {tg : TM} {t : BM} {e : EM} {L : Loc} {S : Sto} {l : List Asn} {Q : D → Sto → Prop} {E : Exc → Sto → Prop} (H : St l S) (g : α → D) (p : α → Bool) (f : α → D) {zs : List α} {its : List D} (hi : its = zs.map g)
    (hz : zs.length ≤ sz) (hc : ∀ S', St l S' → chk S' = true)
    (hs : ∀ z ∈ zs, ∀ m acc S', St (pt m (.lst acc) :: l) S' → wR (tg (g z) L S') (fun L1 S1 => wR (t L1 S1) (fun b S2 => b = p z ∧ St (pt m (.lst acc) :: l) S2 ∧ Whn (p z) (wR (e L1 S2) (fun y S3 => y = f z ∧ St (pt m (.lst acc) :: l) S3) Fl2)) Fl2) Fl2)
    (q : ∀ m S', St (pt m (.lst ((zs.filter p).map f)) :: l) S' → Q (.ref m) S') : wR (lcL chk tg t e L S.length its (S ++ [.lst []])) Q E := by
  subst hi
  refine lcL_inv (I := fun ys acc S' => ∃ us ws, ys = us.map g ∧ ws ++ us = zs ∧ acc = (ws.filter p).map f ∧ St (pt S.length (.lst acc) :: l) S') (fun ys acc S' ⟨us, ws, _, _, _, h⟩ => ⟨hc _ h.tl, h.at⟩) ?_ ?_ ⟨zs, [], rfl, rfl, rfl, H.alloc _⟩
  · rintro acc S' ⟨us, ws, e, e2, e3, h⟩
    cases us with
    | nil =>
      rw [List.append_nil] at e2
      subst e2 e3
      exact q _ _ h
    | cons u us => cases e
  · rintro y ys acc S' ⟨us, ws, e, e2, e3, h⟩
    cases us with
    | nil => cases e
    | cons u us =>
      rw [List.map_cons] at e
      cases e
      refine wR_mono (hs u (by rw [← e2]; simp) _ acc S' h) (fun L1 S1 w => ?_) fun _ _ z => z
      refine wR_mono w (fun b S2 ⟨z3, z2, w⟩ => ?_) fun _ _ z => z
      have e2' : (ws ++ [u]) ++ us = zs := by rw [← e2]; simp
      cases hb : p u with
      | true =>
        rw [z3, hb, if_pos rfl]
        refine wR_mono (w hb) (fun y S3 ⟨z5, z4⟩ => ?_) fun _ _ z => z
        have ln : acc.length < sz := by
          rw [e3, List.length_map]
          have h1 : (ws.filter p).length ≤ ws.length := List.length_filter_le _ _
          have h2 : ws.length + (us.length + 1) = zs.length := by rw [← e2]; simp
          omega
        exact ⟨acc, z4.at, ln, us, ws ++ [u], rfl, e2', by rw [e3, z5, List.filter_append]; simp [List.filter_cons, hb], z4.set _⟩
      | false =>
        rw [z3, hb, if_neg (by simp)]
        exact ⟨us, ws ++ [u], rfl, e2', by rw [e3, List.filter_append]; simp [List.filter_cons, hb], z2⟩
theorem sx_lcS {α : Type} {chk : Sto → Bool} {tg : TM} {t : BM} {e : EM} {L : Loc} {S : Sto} {l : List Asn} {Q : D → Sto → Prop} {E : Exc → Sto → Prop} (H : St l S) (g : α → D) (p : α → Bool) (f : α → D) {zs : List α} {its : List D} (hi : its = zs.map g)
    (hz : zs.length ≤ sz) (hc : ∀ S', St l S' → chk S' = true)
    (hs : ∀ z ∈ zs, ∀ m acc S', St (pt m (.lst acc) :: l) S' → xR (tg (g z) L S') (fun L1 S1 => xR (t L1 S1) (fun b S2 => b = p z ∧ St (pt m (.lst acc) :: l) S2 ∧ Whn (p z) (xR (e L1 S2) (fun y S3 => y = f z ∧ St (pt m (.lst acc) :: l) S3) Fl2)) Fl2) Fl2)
    (q : ∀ m S', St (pt m (.lst ((zs.filter p).map f)) :: l) S' → Q (.ref m) S') : xR (lcL chk tg t e L S.length its (S ++ [.lst []])) Q E := by
  simp only [xR_eq] at *
  exact x_lcS H g p f hi hz hc hs q
section
variable {l r : List Asn} {S : Sto} {Q : D → Sto → Prop} {E : Exc → Sto → Prop} {n : Nat}
theorem sx_insert {xs : List D} {i : Int} {y : D} (H : St l S) (p : Pick (pt n (.lst xs)) l r) (hl : xs.length < sz) (hi : 0 ≤ i ∧ i < 2 ^ 63) (h : ∀ S', St (pt n (.lst (xs.take i.toNat ++ [y] ++ xs.drop i.toNat)) :: r) S' → Q .non S') : xR (fInsert [.ref n, .int i, y] S) Q E := by
  rw [xR_eq]
  simp only [fInsert, H.rd p, if_pos (And.intro hl hi)]
  exact h _ ((H.pk p).set _)
theorem sx_mulL {xs : List D} {k : Int} (H : St l S) (p : Pick (pt n (.lst xs)) l r) (hk : -(2 ^ 63) ≤ k ∧ k < 2 ^ 63 ∧ xs.length * k.toNat ≤ sz) (h : ∀ m S', St (pt m (.lst (List.replicate k.toNat xs).flatten) :: l) S' → Q (.ref m) S') : xR (opMul (.ref n) (.int k) S) Q E := by
  rw [xR_eq]
  simp only [opMul, H.rd p, if_pos hk]
  exact h _ _ (H.alloc _)
theorem intsOf_mapI : ∀ ns : List Int, intsOf (ns.map .int) = some ns
  | [] => rfl
  | n :: ns => by simp [intsOf, intsOf_mapI ns]
theorem sx_countI {ns : List Int} {k : Int} (H : St l S) (p : Pick (pt n (.lst (ns.map .int))) l r) (h : Q (.int (ns.count k : Nat)) S) : xR (fCount [.ref n, .int k] S) Q E := by
  rw [xR_eq]
  simp only [fCount, H.rd p, intsOf_mapI]
  exact h
end
/-- places of their own -/
theorem St_pts {S : Sto} : ∀ {ps : List (Nat × Ob)}, (ps.map (·.1)).Nodup → (∀ q ∈ ps, S[q.1]? = some q.2) → St (ps.map fun q => pt q.1 q.2) S := by
  suffices h : ∀ (ps : List (Nat × Ob)), (ps.map (·.1)).Nodup → (∀ q ∈ ps, S[q.1]? = some q.2) → sats (ps.map fun q => pt q.1 q.2) (fun n => if n ∈ ps.map (·.1) then S[n]? else none) from fun {ps} nd hp => (h ps nd hp).St_of fun n o e => by
    simp only at e
    split at e
    · exact e
    · cases e
  intro ps
  induction ps with
  | nil => exact fun _ _ => trivial
  | cons q ps ih =>
    intro nd hp
    rw [List.map_cons, List.nodup_cons] at nd
    refine ⟨fun n => if n = q.1 then S[n]? else none, fun n => if n ∈ ps.map (·.1) then S[n]? else none, fun n => ?_, fun n o e => ?_, fun n o e => ?_, ?_, ih nd.2 fun z hz => hp z (List.mem_cons_of_mem _ hz)⟩
    · by_cases e : n = q.1
      · right
        simp only
        rw [e, if_neg nd.1]
      · left
        simp [e]
    · simp only at e ⊢
      split at e
      · rename_i z
        rw [if_pos (by rw [List.map_cons, z]; exact List.mem_cons_self ..)]
        exact e
      · cases e
    · simp only at e ⊢
      split at e
      · rename_i z
        rw [if_pos (by rw [List.map_cons]; exact List.mem_cons_of_mem _ z)]
        exact e
      · cases e
    · simp only [pt, if_true]
      exact hp q (List.mem_cons_self ..)
/-- one of many is taken aside -/
theorem St_aside {α : Type} {A : α → Asn} {zs pre post : List α} {z : α} {l : List Asn} {S : Sto} (e : zs = pre ++ z :: post) : St (bun (zs.map A) :: l) S ↔ St (A z :: bun ((pre ++ post).map A) :: l) S := by
  subst e
  rw [St.bun]
  have up : ∀ {x : Asn} {a b : List Asn}, St (a ++ x :: b) S → St (x :: (a ++ b)) S := fun {x a b} h => by
    have : Pick x (a ++ x :: b) (a ++ b) := by
      induction a with
      | nil => exact .here
      | cons y a ih => exact .there (ih (St.tl h))
    exact h.pk this
  have dn : ∀ {x : Asn} {a b : List Asn} {h : Hp}, sats (x :: (a ++ b)) h → sats (a ++ x :: b) h := fun {x a b} => by
    induction a with
    | nil => exact fun h => h
    | cons y a ih => exact fun h => sats.cons (fun b h => ih h) (sats.swap h)
  rw [List.map_append, List.map_append, List.map_cons, List.append_assoc, List.cons_append]
  constructor
  · intro h
    have := up h
    rw [← List.append_assoc] at this
    exact sats.cons (fun b h => sats.bun.mpr h) this
  · intro h
    have h : St (A z :: ((pre.map A ++ post.map A) ++ l)) S := sats.cons (fun b h => sats.bun.mp h) h
    rw [List.append_assoc] at h
    exact dn h
end MP

namespace MP
open PySem (PyData)
/-! words of tactics -/
set_option hygiene false in
local macro_rules
  | `(tactic| fail "pk") => `(tactic| first | with_reducible exact Pick.here | ((with_reducible apply Pick.hereE); (focus rfl)) | ((with_reducible apply hereH); (focus rfl)) | ((with_reducible apply Pick.there); fail "pk"))
  | `(tactic| fail "pks") => `(tactic| first | with_reducible exact Picks.nil | ((with_reducible apply Picks.cons); (focus (fail "pk")); fail "pks"))
  | `(tactic| fail "st") => `(tactic| with_reducible assumption)
  | `(tactic| fail "sp") => `(tactic| ((focus (fail "st")); (focus (fail "pk"))))
  | `(tactic| fail "fput") => `(tactic| (simp only [fput, reduceIte, Nat.reduceEqDiff, if_false, if_true]; rfl))
  | `(tactic| fail "lset") => `(tactic| (simp only [wipe, List.set_cons_succ, List.set_cons_zero]; rfl))
  | `(tactic| fail "pl") => `(tactic| first
      | (with_reducible exact pl_int) | (with_reducible exact pl_str) | (with_reducible exact pl_non) | (with_reducible exact pl_nm20 _) | (with_reducible exact pl_nm19 _) | (with_reducible exact pl_nm18 _) | (with_reducible exact pl_nm17 _) | (with_reducible exact pl_nm16 _) | (with_reducible exact pls_nil)
      | (with_reducible assumption)
      | ((with_reducible apply pls_map); intro _; fail "pl")
      | ((with_reducible apply pls_cons); (focus (fail "pl")); fail "pl")
      | ((with_reducible apply pls_app); (focus (fail "pl")); fail "pl")
      | (apply pl_tup (n := 19); fail "pl") | (apply pl_tup (n := 18); fail "pl") | (apply pl_tup (n := 17); fail "pl") | (apply pl_tup (n := 16); fail "pl")
      | rfl)
  | `(tactic| fail "ins") => `(tactic| first
      | ((with_reducible apply x_ins); fail "sp"; (focus rfl))
      | ((with_reducible apply tableAt_ins); fail "sp"; (focus decide))
      | ((with_reducible apply keepsAt_ins); fail "sp"; (focus decide))
      | ((with_reducible apply houseAt_ins); fail "sp"; (focus decide)))
  | `(tactic| fail "ty") => `(tactic| first | rfl | ((with_reducible apply x_tyL); fail "sp") | ((with_reducible apply x_tyD); fail "sp") | ((with_reducible apply n_tyDO); fail "sp") | ((with_reducible apply n_tyDH); fail "sp"))
  | `(tactic| fail "fn") => `(tactic| (apply sx_fn; (focus rfl); (focus (simp only [List.map_cons, List.map_nil, Nat.reduceSub, List.replicate_succ, List.replicate_zero, List.cons_append, List.nil_append]; rfl))))
  | `(tactic| fail "e1") => `(tactic| first
      | (with_reducible exact Ent.refl)
      | (with_reducible exact Ent.nil)
      | ((with_reducible apply Ent.pick); (focus (fail "pk")))
      | ((with_reducible apply Ent.back); (focus (fail "pk")); (focus (with_reducible assumption)))
      | ((with_reducible apply Ent.close); (focus (fail "pk")))
      | ((with_reducible apply Ent.empty); (focus (fail "pk")))
      | (with_reducible apply Ent.table)
      | (with_reducible apply Ent.keeps)
      | (with_reducible apply Ent.wait)
      | (with_reducible apply Ent.house)
      | (with_reducible apply Ent.die)
      | (with_reducible apply Ent.drop))
  | `(tactic| fail "ent") => `(tactic| ((repeat fail "e1"); done))
  | `(tactic| fail "u1") => `(tactic| first
      | ((with_reducible apply sx_seq))
      | ((with_reducible apply sx_asg))
      | ((with_reducible apply sx_Bin))
      | ((with_reducible apply sx_V); (focus rfl))
      | ((with_reducible apply sx_C))
      | ((with_reducible apply sx_Un))
      | ((with_reducible apply sx_Call))
      | ((with_reducible apply sx_aCons))
      | ((with_reducible apply sx_aNil))
      | ((with_reducible apply sx_gV); (focus (fail "lset")))
      | ((with_reducible apply sx_if))
      | ((with_reducible apply sx_tV))
      | ((with_reducible apply x_exb))
      | ((with_reducible apply x_exi))
      | ((with_reducible apply x_ext))
      | ((with_reducible apply x_exs))
      | ((with_reducible apply x_ble); (focus rfl))
      | ((with_reducible apply x_lens); (focus rfl); (focus rfl))
      | ((with_reducible apply x_itT))
      | ((with_reducible apply x_itF))
      | ((with_reducible apply x_itY); (focus rfl))
      | ((with_reducible apply x_itN); (focus rfl))
      | ((with_reducible apply sx_nx))
      | ((with_reducible apply sx_expr))
      | ((with_reducible apply sx_ret))
      | ((with_reducible apply sx_retN))
      | ((with_reducible apply sx_Tup))
      | ((with_reducible apply sx_Lst))
      | ((with_reducible apply sx_Meth))
      | ((with_reducible apply sx_BM))
      | ((with_reducible apply sx_Sl))
      | ((with_reducible apply sx_pSome))
      | ((with_reducible apply sx_pNo))
      | ((with_reducible apply sx_If))
      | ((with_reducible apply sx_tNot))
      | ((with_reducible apply sx_tYes))
      | ((with_reducible apply sx_Not))
      | ((with_reducible apply sx_Dic))
      | ((with_reducible apply sx_Make))
      | ((with_reducible apply sx_MakeK))
      | ((with_reducible apply sx_raise))
      | ((with_reducible apply sx_brk))
      | ((with_reducible apply sx_cnt))
      | ((with_reducible apply sx_gFld))
      | ((with_reducible apply sx_gSub))
      | ((with_reducible apply sx_gTup); (focus rfl))
      | ((with_reducible apply sx_gCons))
      | ((with_reducible apply sx_gNil))
      | (with_reducible exact x_fin)
      | (with_reducible apply x_sm)
      | ((with_reducible apply x_peq); (focus rfl))
      | ((with_reducible apply x_whn); intro hp))
  | `(tactic| fail "o1") => `(tactic| first
      | ((with_reducible apply p_din); fail "sp"; (focus (with_reducible assumption)))
      | ((with_reducible apply n_din); fail "sp"; (focus (with_reducible assumption)))
      | ((with_reducible apply p_dnin); fail "sp"; (focus (with_reducible assumption)))
      | ((with_reducible apply n_dnin); fail "sp"; (focus (with_reducible assumption)))
      | ((with_reducible apply p_dget); fail "sp"; (focus (with_reducible assumption)); (focus (with_reducible assumption)))
      | ((with_reducible apply n_dgetH); fail "sp"; (focus (with_reducible assumption)))
      | (with_reducible apply numi_st)
      | ((with_reducible apply needi_st); (focus (first | assumption | omega)))
      | ((with_reducible apply needd_st); (focus (first | assumption | omega)))
      | (with_reducible apply isi_tt)
      | (with_reducible apply isi_ti)
      | ((with_reducible apply in_I); fail "sp")
      | ((with_reducible apply nin_I); fail "sp")
      | ((with_reducible apply nin_W); fail "sp")
      | (with_reducible apply ne_sW)
      | (with_reducible apply ne_Ws)
      | (with_reducible apply eqnm_st)
      | (with_reducible apply nenm_st)
      | ((with_reducible apply sx_addI))
      | ((with_reducible apply sx_subI))
      | ((with_reducible apply sx_negI))
      | ((with_reducible apply sx_cmp))
      | ((with_reducible apply sx_isN))
      | ((with_reducible apply sx_notN))
      | ((with_reducible apply sx_eqI))
      | ((with_reducible apply sx_neI))
      | ((with_reducible apply sx_slT))
      | ((with_reducible apply sx_lenT))
      | ((with_reducible apply sx_min2))
      | ((with_reducible apply sx_max2))
      | ((with_reducible apply sx_ixT); (focus (with_unfolding_all rfl)))
      | ((with_reducible apply sx_mkO); (focus (fail "st")); intro n S H)
      | ((with_reducible apply sx_mkI); (focus (fail "st")); intro n S H)
      | ((with_reducible apply sx_fld); fail "sp"; (focus rfl))
      | ((with_reducible apply x_exr); (focus (fail "ins")))
      | ((with_reducible apply x_ty); (focus (fail "ty")))
      | ((with_reducible apply sx_setF); fail "sp"; (focus (fail "fput")); (focus rfl); intro S H)
      | ((with_reducible apply sx_lenL); fail "sp")
      | ((with_reducible apply sx_listL); fail "sp"; intro n S H)
      | ((with_reducible apply sx_listT); (focus (fail "st")); intro n S H)
      | ((with_reducible apply sx_tupL); fail "sp")
      | ((with_reducible apply sx_slL); fail "sp"; intro n S H)
      | ((with_reducible apply sx_wkL); fail "sp")
      | ((with_reducible apply sx_wLst))
      | ((with_reducible apply sx_wTup))
      | ((with_reducible apply sx_wStr))
      | ((with_reducible apply sx_wRng1))
      | ((with_reducible apply sx_Lc))
      | ((with_reducible apply sx_for))
      | ((with_reducible apply sx_eqP); (focus (fail "pl")); (focus (fail "pl")))
      | ((with_reducible apply sx_neP); (focus (fail "pl")); (focus (fail "pl")))
      | ((with_reducible apply sx_eqL); fail "sp"; (focus (fail "pk")); (focus (fail "pl")); (focus (fail "pl")))
      | ((with_reducible apply sx_neL); fail "sp"; (focus (fail "pk")); (focus (fail "pl")); (focus (fail "pl"))))
  | `(tactic| fail "b2") => `(tactic| first
      | ((with_reducible apply sx_tAnd2); (focus (fail "sx"; first | done | exact rfl)); (focus (intro _; fail "sx"; first | done | exact rfl)))
      | ((with_reducible apply sx_tOr2); (focus (fail "sx"; first | done | exact rfl)); (focus (intro _; fail "sx"; first | done | exact rfl))))
  | `(tactic| fail "sx") => `(tactic| repeat' (first | fail "u1" | fail "o1" | fail "b2"))
/-! end of words -/
/-! ### names, numbers: what is owned stays -/
section
variable {l : List Asn} {S : Sto} {Q : D → Sto → Prop} {E : Exc → Sto → Prop}
theorem nm_ki : ∀ a b : List (List Nat), nmD a = nmD b → a = b := fun _ _ => nmD_inj
theorem sign_lt : ∀ c ∈ signs, c < 0x110000 := by decide
theorem key_ok {nm : List (List Nat)} (h : okBeg nm = true) : keyOk true (nmD nm) = true := by
  unfold okBeg at h
  simp only [Bool.and_eq_true, decide_eq_true_eq, List.all_eq_true] at h
  simp only [keyOk, if_true, List.all_eq_true]
  intro d hd
  obtain ⟨x, hx, rfl⟩ := List.mem_map.mp hd
  have := h.2 x hx
  unfold okPart at this
  simp only [Bool.and_eq_true, decide_eq_true_eq, List.all_eq_true] at this
  simp only [isKey, List.all_eq_true, decide_eq_true_eq]
  exact fun c hc => sign_lt c (this.2.2 c hc)
theorem okNm_beg {nm : List (List Nat)} (h : okNm nm = true) : okBeg nm = true := by
  unfold okNm at h
  simp only [Bool.and_eq_true] at h
  exact h.1
theorem okBeg_len {nm : List (List Nat)} (h : okBeg nm = true) : nm.length ≤ 5 ∧ ∀ x ∈ nm, x.length ≤ sz := by
  unfold okBeg at h
  simp only [Bool.and_eq_true, decide_eq_true_eq, List.all_eq_true] at h
  exact ⟨h.1, fun x hx => okPart_len (h.2 x hx)⟩
theorem okBeg_take {nm : List (List Nat)} (h : okBeg nm = true) (m : Nat) : okBeg (nm.take m) = true := by
  unfold okBeg at h ⊢
  simp only [Bool.and_eq_true, decide_eq_true_eq, List.all_eq_true] at h ⊢
  exact ⟨by rw [List.length_take]; omega, fun x hx => h.2 x (List.mem_of_mem_take hx)⟩
theorem neednm_st {xs : List (List Nat)} (H : St l S) (h : okNm xs = true) (q : ∀ S', St l S' → Q .non S') : xR (f_need_name [nmD xs] S) Q E := by
  simp only [xR_eq] at *
  exact neednm_ok h (fun S' f => q S' (H.fm0 f)) (okBeg_len (okNm_beg h)).2
theorem isnm_st {xs : List (List Nat)} (H : St l S) (hx : ∀ x ∈ xs, x.length ≤ sz) (q : ∀ S', St l S' → Q (.bl (okNm xs)) S') : xR (f_is_name [nmD xs] S) Q E := by
  simp only [xR_eq] at *
  exact name_ok (fun S' f => q S' (H.fm0 f)) hx
theorem numi_st {x lo hi : Int} (q : Q (.bl (decide (lo ≤ x ∧ x ≤ hi))) S) : xR (f_is_number [.int x, .int lo, .int hi] S) Q E := by
  rw [xR_eq, num_i]
  exact q
theorem eqnm_st {a b : List (List Nat)} (h : Q (.bl (decide (a = b))) S) : xR (opEq (nmD a) (nmD b) S) Q E := by rw [xR_eq, opEq_nm]; exact h
theorem nenm_st {a b : List (List Nat)} (h : Q (.bl (!decide (a = b))) S) : xR (opNe (nmD a) (nmD b) S) Q E := by rw [xR_eq, opNe_nm]; exact h
theorem pl_nmn {n : Nat} (xs : List (List Nat)) : pl (n + 1) (nmD xs) = true := pl_mono (pl_nm xs) (by omega)
theorem pl_nm20 (xs : List (List Nat)) : pl 20 (nmD xs) = true := pl_nmn xs
theorem pl_nm19 (xs : List (List Nat)) : pl 19 (nmD xs) = true := pl_nmn xs
theorem pl_nm18 (xs : List (List Nat)) : pl 18 (nmD xs) = true := pl_nmn xs
theorem pl_nm17 (xs : List (List Nat)) : pl 17 (nmD xs) = true := pl_nmn xs
theorem pl_nm16 (xs : List (List Nat)) : pl 16 (nmD xs) = true := pl_nmn xs
/-- the dice -/
def dieAt (j : Nat) : Asn := ex fun a : Int => ex fun b : Int => pt j (.lst [.int a, .int b])
theorem dieAt_is {j : Nat} (H : St (dieAt j :: l) S) : isDie S j := by
  obtain ⟨a, H⟩ := St.ex.mp H
  obtain ⟨b, H⟩ := St.ex.mp H
  exact ⟨a, b, H.at⟩
theorem dieAt_fm {j : Nat} {S' : Sto} (H : St (dieAt j :: l) S) (f : Fm [j] S S') (h : isDie S' j) : St (dieAt j :: l) S' := by
  obtain ⟨a, H⟩ := St.ex.mp H
  obtain ⟨b, H⟩ := St.ex.mp H
  obtain ⟨a', b', h⟩ := h
  exact St.ex.mpr ⟨a', St.ex.mpr ⟨b', H.fm1 f h⟩⟩
theorem roll_st {j : Nat} {m : Int} {r : List Asn} (H : St l S) (p : Pick (dieAt j) l r) (hm : 0 < m) (hm2 : m < 2 ^ 64) (q : ∀ (i : Int) (S' : Sto), 0 ≤ i → i < m → St (dieAt j :: r) S' → Q (.int i) S') : xR (f__law_roll [.ref j, .int m] S) Q E := by
  simp only [xR_eq] at *
  exact roll_ok (dieAt_is (H.pk p)) hm hm2 fun i S' h0 h1 f h _ => q i S' h0 h1 (dieAt_fm (H.pk p) f h)
end
section
variable {v : Type} {n j : Nat} {lk : Bool} {A : Nat → v → Asn} {m : List (List (List Nat) × v)} {l r r' : List Asn} {S : Sto} {k : List (List Nat)} {x : v} {Q : D → Sto → Prop} {QU : Unit → Sto → Prop} {E : Exc → Sto → Prop}
theorem n_din (H : St l S) (p : Pick (dicAt n lk nmD A m) l r) (hk : okBeg k = true) (h : Q (.bl (aget k m).isSome) S) : xR (inD false (nmD k) (.ref n) S) Q E := sx_dinO nm_ki H p (key_ok hk) h
theorem n_dnin (H : St l S) (p : Pick (dicAt n lk nmD A m) l r) (hk : okBeg k = true) (h : Q (.bl (!(aget k m).isSome)) S) : xR (inD true (nmD k) (.ref n) S) Q E := sx_dninO nm_ki H p (key_ok hk) h
theorem n_dget (H : St l S) (p : Pick (dicAt n lk nmD A m) l r) (hk : okBeg k = true) (e : aget k m = some x) (h : ∀ j, St (A j x :: dicHole n lk nmD A m k j :: r) S → Q (.ref j) S) : xR (opGet (.ref n) (nmD k) S) Q E := sx_dgetO nm_ki H p (key_ok hk) e h
theorem n_dgetH (H : St l S) (p : Pick (dicHole n lk nmD A m k j) l r) (hk : okBeg k = true) (h : Q (.ref j) S) : xR (opGet (.ref n) (nmD k) S) Q E := sx_dgetH nm_ki H p (key_ok hk) h
theorem n_dpop (H : St l S) (p : Pick (dicAt n false nmD A m) l r) (hk : okBeg k = true) (e : aget k m = some x) (h : ∀ j S', St (A j x :: dicAt n false nmD A (adrop k m) :: r) S' → Q (.ref j) S') : xR (fPop1 [.ref n, nmD k] S) Q E := sx_dpopO nm_ki H p (key_ok hk) e h
theorem n_dpopH (H : St l S) (p : Pick (dicHole n false nmD A m k j) l r) (hk : okBeg k = true) (h : ∀ S', St (dicAt n false nmD A (adrop k m) :: r) S' → Q (.ref j) S') : xR (fPop1 [.ref n, nmD k] S) Q E := sx_dpopH nm_ki H p (key_ok hk) h
theorem n_dset (H : St l S) (p : Pick (dicAt n false nmD A m) l r) (p' : Pick (A j x) r r') (hk : okBeg k = true) (hl : m.length < sz) (h : ∀ S', St (dicAt n false nmD A (aput k x m) :: r') S' → QU () S') : xR (setD (.ref n) (nmD k) (.ref j) S) QU E := sx_dsetO nm_ki H p p' (key_ok hk) hl h
theorem n_tyDO (H : St l S) (p : Pick (dicAt n false nmD A m) l r) : tyNm S (.ref n) = some "dict" := x_tyDO H p
theorem n_tyDH (H : St l S) (p : Pick (dicHole n false nmD A m k j) l r) : tyNm S (.ref n) = some "dict" := x_tyDH H p
/-- dicts of plain things -/
def plD (vf : v → D) (m : List (List (List Nat) × v)) : List (D × D) := m.map fun q => (nmD q.1, vf q.2)
variable {vf : v → D}
theorem p_din (H : St l S) (p : Pick (pt n (.dic true lk (plD vf m))) l r) (hk : okBeg k = true) (h : Q (.bl (aget k m).isSome) S) : xR (inD false (nmD k) (.ref n) S) Q E := by
  refine sx_inD H p (key_ok hk) ?_ h
  unfold plD
  rw [kget_map nm_ki]
  cases aget k m <;> rfl
theorem p_dnin (H : St l S) (p : Pick (pt n (.dic true lk (plD vf m))) l r) (hk : okBeg k = true) (h : Q (.bl (!(aget k m).isSome)) S) : xR (inD true (nmD k) (.ref n) S) Q E := by
  refine sx_ninD H p (key_ok hk) ?_ h
  unfold plD
  rw [kget_map nm_ki]
  cases aget k m <;> rfl
theorem p_dget (H : St l S) (p : Pick (pt n (.dic true lk (plD vf m))) l r) (hk : okBeg k = true) (e : aget k m = some x) (h : Q (vf x) S) : xR (opGet (.ref n) (nmD k) S) Q E := by
  refine sx_dget H p (key_ok hk) ?_ h
  unfold plD
  rw [kget_map nm_ki, e]
  rfl
theorem p_dpop (H : St l S) (p : Pick (pt n (.dic true false (plD vf m))) l r) (hk : okBeg k = true) (e : aget k m = some x) (h : ∀ S', St (pt n (.dic true false (plD vf (adrop k m))) :: r) S' → Q (vf x) S') : xR (fPop1 [.ref n, nmD k] S) Q E := by
  refine sx_popD H p (key_ok hk) (d := vf x) ?_ fun S' H' => h S' ?_
  · unfold plD
    rw [kget_map nm_ki, e]
    rfl
  · unfold plD at H' ⊢
    rw [kdrop_map nm_ki] at H'
    exact H'
theorem p_dset {d : D} (H : St l S) (p : Pick (pt n (.dic true false (plD vf m))) l r) (hk : okBeg k = true) (hl : m.length < sz) (ed : d = vf x) (h : ∀ S', St (pt n (.dic true false (plD vf (aput k x m))) :: r) S' → QU () S') : xR (setD (.ref n) (nmD k) d S) QU E := by
  subst ed
  refine sx_setD H p (key_ok hk) (by simpa [plD] using hl) fun S' H' => h S' ?_
  unfold plD at H' ⊢
  rw [kput_map nm_ki] at H'
  exact H'
end
/-! ### tables, by their rows -/
abbrev Tab := List (Nm × List Int)
abbrev sdAt (j : Nat) (s : List Int) : Asn := pt j (.lst (s.map .int))
def tableAt (r : Nat) (t : Tab) : Asn := ex fun tl : Nat => bun [pt r (.ins 3 [(38, .ref tl)]), dicAt tl false nmD sdAt t]
theorem tableAt_o {r : Nat} {t : Tab} {l : List Asn} {S : Sto} : St (tableAt r t :: l) S ↔ ∃ tl, St (pt r (.ins 3 [(38, .ref tl)]) :: dicAt tl false nmD sdAt t :: l) S := by
  rw [tableAt, St.ex]
  simp only [St.bun]
  exact Iff.rfl
theorem Ent.table {r tl : Nat} {t : Tab} {l l' : List Asn} (e : Ent l (pt r (.ins 3 [(38, .ref tl)]) :: dicAt tl false nmD sdAt t :: l')) : Ent l (tableAt r t :: l') := Ent.ex tl (Ent.bun e)
theorem tableAt_ins {r m : Nat} {t : Tab} {l l' : List Asn} {S : Sto} (H : St l S) (p : Pick (tableAt r t) l l') (hm : ¬ 38 = m) : insOk S r 3 m := by
  obtain ⟨tl, H⟩ := tableAt_o.mp (H.pk p)
  exact x_ins H .here (by simp only [fget]; rw [if_neg (fun z => hm z.symm)])
def tLongN (t : Tab) (nm : Nm) : Nat → Option Nm
  | 0 => if (aget (nm.take 0) t).isSome = true then some (nm.take 0) else none
  | m + 1 => if (aget (nm.take (m + 1)) t).isSome = true then some (nm.take (m + 1)) else tLongN t nm m
def tLong (t : Tab) (nm : Nm) : Option Nm := tLongN t nm nm.length
def tFound (t : Tab) (nm : Nm) : List Int := match tLong t nm with
  | none => []
  | some b => (aget b t).getD []
theorem tLongN_some {t : Tab} {nm b : Nm} : ∀ {m : Nat}, tLongN t nm m = some b → (∃ k, b = nm.take k) ∧ ∃ s, aget b t = some s
  | 0, h => by
    unfold tLongN at h
    split at h
    · rename_i e
      cases h
      exact ⟨⟨0, rfl⟩, Option.isSome_iff_exists.mp e⟩
    · cases h
  | m + 1, h => by
    unfold tLongN at h
    split at h
    · rename_i e
      cases h
      exact ⟨⟨m + 1, rfl⟩, Option.isSome_iff_exists.mp e⟩
    · exact tLongN_some h
theorem rngDn_cons (m : Nat) : rngDn (m : Int) (m + 1) = .int m :: (if m = 0 then [] else rngDn ((m - 1 : Nat) : Int) m) := by
  unfold rngDn
  rw [List.range_succ_eq_map]
  simp only [List.map_cons, List.map_map]
  congr 1
  cases m with
  | zero => rfl
  | succ m =>
    simp only [Nat.add_one_ne_zero, if_false, Nat.add_sub_cancel]
    refine List.map_congr_left fun k _ => ?_
    simp only [Function.comp, Nat.succ_eq_add_one]
    congr 1
    omega
theorem sx_rngDn {a b : EM} {L : Loc} {S : Sto} {Q : Wk → Sto → Prop} {E : Exc → Sto → Prop} (h : xR (a L S) (fun x S1 => xR (b L S1) (fun y S2 => ∃ i, x = .int i ∧ ∃ j, y = .int j ∧ (-(2 ^ 62) ≤ i ∧ i < 2 ^ 62 ∧ -(2 ^ 62) ≤ j ∧ j < 2 ^ 62) ∧ Q ⟨rngDn i (i - j).toNat, fun _ => true⟩ S2) E) E) : xR (wRngDn a b L S) Q E := by
  simp only [xR_eq] at *
  simp only [wRngDn, wR_bind]
  refine wR_mono h (fun x S1 h => wR_mono h (fun y S2 ⟨i, e1, j, e2, h1, h2⟩ => ?_) fun _ _ z => z) fun _ _ z => z
  subst e1
  subst e2
  simp only [if_pos h1]
  exact h2
theorem cut_take {α : Type} (xs : List α) (n : Nat) : cut xs none (some (n : Int)) = xs.take n := cut_none xs n
def onmD : Option Nm → D
  | none => .non
  | some b => nmD b
section
variable {r : Nat} {t : Tab} {F : List Asn} {S : Sto} {Q : D → Sto → Prop} {E : Exc → Sto → Prop} {nm : Nm}
theorem tlong_st (H : St (tableAt r t :: F) S) (hk : okBeg nm = true) (q : Q (onmD (tLong t nm)) S) : xR (f_Table_longest [.ref r, nmD nm] S) Q E := by
  obtain ⟨tl, H2⟩ := tableAt_o.mp H
  have hl := (okBeg_len hk).1
  fail "fn"
  unfold c_Table_longest
  fail "sx"
  refine sx_rngDn ?_
  fail "sx"
  rw [List.length_map]
  refine ⟨⟨by omega, by omega, by omega, by omega⟩, ?_⟩
  have e0 : ((nm.length : Int) - -1).toNat = nm.length + 1 := by omega
  rw [e0]
  refine sx_inv (fun ys L S' => S' = S ∧ (∃ b, L = [some (.ref r), some (nmD nm), b]) ∧ ((ys = [] ∧ tLong t nm = none) ∨ ∃ m : Nat, m ≤ nm.length ∧ ys = rngDn (m : Int) (m + 1) ∧ tLong t nm = tLongN t nm m)) (fun _ _ _ _ => rfl) ⟨rfl, ⟨_, rfl⟩, .inr ⟨nm.length, Nat.le_refl _, rfl, rfl⟩⟩ ?_ ?_
  · rintro L S' ⟨rfl, ⟨b, rfl⟩, ⟨_, h⟩ | ⟨m, _, e, _⟩⟩
    · rw [h] at q
      fail "sx"
      exact q
    · rw [rngDn_cons] at e
      cases e
  · rintro y ys L S' ⟨rfl, ⟨b, rfl⟩, ⟨e, _⟩ | ⟨m, hm, e, h⟩⟩
    · cases e
    rw [rngDn_cons] at e
    obtain ⟨rfl, e2⟩ := List.cons.inj e
    clear e
    fail "sx"
    rw [cut_take, ← List.map_take]
    refine n_din H2 (by fail "pk") (okBeg_take hk m) ?_
    fail "sx"
    refine x_iteb (fun h1 => ?_) fun h1 => ?_
    · fail "sx"
      rw [cut_take, ← List.map_take]
      have : tLong t nm = some (nm.take m) := by
        rw [h]
        cases m <;> (unfold tLongN; rw [if_pos h1])
      rw [this] at q
      exact q
    · fail "sx"
      refine ⟨⟨_, rfl⟩, ?_⟩
      cases m with
      | zero =>
        refine .inl ⟨e2, ?_⟩
        rw [h]
        unfold tLongN
        rw [if_neg (by rw [h1]; simp)]
      | succ m =>
        refine .inr ⟨m, by omega, e2, ?_⟩
        rw [h]
        show tLongN t nm (m + 1) = _
        unfold tLongN
        rw [if_neg (by rw [h1]; simp)]
        cases m <;> rfl
theorem tfound_st (H : St (tableAt r t :: F) S) (hk : okBeg nm = true) (q : ∀ j S', St (sdAt j (tFound t nm) :: tableAt r t :: F) S' → Q (.ref j) S') : xR (f_Table_found [.ref r, nmD nm] S) Q E := by
  fail "fn"
  unfold c_Table_found
  fail "sx"
  refine tlong_st H hk ?_
  unfold tFound at q
  cases e : tLong t nm with
  | none =>
    rw [e] at q
    simp only [onmD]
    fail "sx"
    exact q _ _ H
  | some b =>
    rw [e] at q
    obtain ⟨⟨k, rfl⟩, s, hs⟩ := tLongN_some e
    simp only [hs, Option.getD_some] at q
    simp only [onmD]
    fail "sx"
    obtain ⟨tl, H⟩ := tableAt_o.mp H
    fail "sx"
    refine n_dget H (by fail "pk") (okBeg_take hk k) hs fun j H => ?_
    fail "sx"
    exact q _ _ (H.ent (by fail "ent"))
end
/-! ### how great a house can grow -/
theorem aput_mem {κ v : Type} [DecidableEq κ] {k : κ} {x : v} {m : List (κ × v)} {q : κ × v} (h : q ∈ aput k x m) : q = (k, x) ∨ q ∈ m := by
  unfold aput at h
  split at h
  · obtain ⟨z, hz, e⟩ := List.mem_map.mp h
    split at e
    · rename_i e2
      left
      rw [← e, e2]
    · right
      rw [← e]
      exact hz
  · rcases List.mem_append.mp h with z | z
    · exact .inr z
    · exact .inl (by simpa using z)
theorem aput_len {κ v : Type} [DecidableEq κ] (k : κ) (x : v) (m : List (κ × v)) : (aput k x m).length ≤ m.length + 1 := by
  unfold aput
  split
  · simp
  · simp
theorem aput_len_same {κ v : Type} [DecidableEq κ] {k : κ} {x y : v} {m : List (κ × v)} (h : aget k m = some y) : (aput k x m).length = m.length := by
  unfold aput
  rw [if_pos (by rw [h]; rfl)]
  simp
/-! a house is made, taught, looked at -/
section
variable {l r : List Asn} {S : Sto} {Q : D → Sto → Prop} {E : Exc → Sto → Prop}
theorem needbeg_st {xs : Nm} (H : St l S) (h : okBeg xs = true) (q : ∀ S', St l S' → Q .non S') : xR (f_need_beginning [nmD xs] S) Q E := by
  simp only [xR_eq] at *
  exact needbeg_ok h (fun S' f => q S' (H.fm0 f)) (okBeg_len h).2
theorem needsd_st {j : Nat} {s : List Int} (H : St l S) (p : Pick (sdAt j s) l r) (h : okSd s) (q : ∀ S', St l S' → Q .non S') : xR (f_need_sides [.ref j] S) Q E := by
  simp only [xR_eq] at *
  exact needsides_ok (H.rd p) h fun S' f => q S' (H.fm0 f)
end
section
variable {k j : Nat} {t : Tab} {F : List Asn} {S : Sto} {Q : D → Sto → Prop} {E : Exc → Sto → Prop} {b : Nm} {s : List Int}
theorem tinit_st (H : St (pt k (.ins 3 []) :: F) S) (q : ∀ S', St (tableAt k [] :: F) S' → Q .non S') : xR (f_Table___init__ [.ref k] S) Q E := by
  fail "fn"
  unfold c_Table___init__
  fail "sx"
  exact q _ (H.ent (by fail "ent"))
theorem tput_st (H : St (tableAt k t :: sdAt j s :: F) S) (hb : okBeg b = true) (hs : okSd s) (hl : t.length < sz) (q : ∀ S', St (tableAt k (aput b s t) :: sdAt j s :: F) S' → Q .non S') : xR (f_Table_put [.ref k, nmD b, .ref j] S) Q E := by
  fail "fn"
  unfold c_Table_put
  fail "sx"
  refine needbeg_st H hb fun S H => ?_
  fail "sx"
  refine needsd_st H (by fail "pk") hs fun S H => ?_
  fail "sx"
  obtain ⟨tl, H⟩ := tableAt_o.mp (H.ent (l' := tableAt k t :: _ :: sdAt j s :: F) (by fail "ent"))
  fail "sx"
  rename_i n _ _
  refine n_dset (A := sdAt) (j := n) (x := s) (H.ent (l' := pt n (.lst (s.map .int)) :: pt k _ :: dicAt tl false nmD sdAt t :: sdAt j s :: F) (by fail "ent")) (by fail "pk") (by fail "pk") hb hl fun S H => ?_
  exact q _ (H.ent (by fail "ent"))
end
/-! ### tables: more of what they do -/
theorem St.apps {l : List Asn} {S : Sto} (H : St l S) (os : List Ob) : St l (S ++ os) := H.mono fun n u e => at_app e os
theorem adrop_mem {κ v : Type} [DecidableEq κ] {k : κ} {m : List (κ × v)} {q : κ × v} (h : q ∈ adrop k m) : q ∈ m := (List.mem_filter.mp h).1
theorem adrop_le {κ v : Type} [DecidableEq κ] (k : κ) (m : List (κ × v)) : (adrop k m).length ≤ m.length := List.length_filter_le _ _
section
variable {r k : Nat} {t : Tab} {F : List Asn} {S : Sto} {Q : D → Sto → Prop} {E : Exc → Sto → Prop} {nm b : Nm}
theorem sx_told {ks : List Nat} {WT : Nat → D} {WO : Nat → List Ob} {m : EM} {L : Loc} (h : xR (m L S) Q (fun x S1 => x.p = [] ∧ x.c ∈ ks ∧ Q (WT x.c) (S1 ++ WO x.c))) : xR (eTold ks WT WO m L S) Q E := by
  simp only [xR_eq] at *
  exact wR_told h
theorem tdrop_st (H : St (tableAt k t :: F) S) (hb : okBeg b = true) (h1 : ∀ s, aget b t = some s → ∀ j S', St (sdAt j s :: tableAt k (adrop b t) :: F) S' → Q .non S') (h2 : aget b t = none → ∀ S', St (tableAt k t :: F) S' → E ⟨1, []⟩ S') : xR (f_Table_drop [.ref k, nmD b] S) Q E := by
  fail "fn"
  unfold c_Table_drop
  fail "sx"
  refine needbeg_st H hb fun S H => ?_
  fail "sx"
  obtain ⟨tl, H⟩ := tableAt_o.mp H
  fail "sx"
  refine x_iteb (fun z => ?_) fun z => ?_
  · fail "sx"
    refine h2 ?_ _ (H.ent (by fail "ent"))
    cases e : aget b t with
    | none => rfl
    | some s => rw [e] at z; simp at z
  · cases e : aget b t with
    | none => rw [e] at z; simp at z
    | some s =>
      fail "sx"
      refine n_dpop H (by fail "pk") hb e fun j S H => ?_
      exact h1 s e j _ (H.ent (by fail "ent"))
theorem tway_st (H : St (tableAt r t :: F) S) (hk : okNm nm = true) (q1 : tLong t nm = none → ∀ S', St (tableAt r t :: F) S' → Q .non S')
    (q2 : ∀ b s, tLong t nm = some b → aget b t = some s → ∀ j S', St (sdAt j s :: tableAt r t :: F) S' → Q (.tup [nmD b, .ref j]) S') : xR (f_Table_way [.ref r, nmD nm] S) Q E := by
  have hb := okNm_beg hk
  fail "fn"
  unfold c_Table_way
  fail "sx"
  refine neednm_st H hk fun S H => ?_
  fail "sx"
  refine tlong_st H hb ?_
  cases e : tLong t nm with
  | none =>
    simp only [onmD]
    fail "sx"
    exact q1 e _ H
  | some b =>
    obtain ⟨⟨k, rfl⟩, s, hs⟩ := tLongN_some e
    simp only [onmD]
    fail "sx"
    obtain ⟨tl, H⟩ := tableAt_o.mp H
    fail "sx"
    refine n_dget H (by fail "pk") (okBeg_take hb k) hs fun j H => ?_
    fail "sx"
    exact q2 _ s e hs _ _ (H.ent (by fail "ent"))
theorem tsides_st (H : St (tableAt r t :: F) S) (hk : okNm nm = true) (q : ∀ j S', St (sdAt j (tFound t nm) :: tableAt r t :: F) S' → Q (.ref j) S') : xR (f_Table_sides [.ref r, nmD nm] S) Q E := by
  have hb := okNm_beg hk
  fail "fn"
  unfold c_Table_sides
  fail "sx"
  refine neednm_st H hk fun S H => ?_
  fail "sx"
  exact tfound_st H hb q
theorem tlen_st (H : St (tableAt r t :: F) S) (q : ∀ S', St (tableAt r t :: F) S' → Q (.int t.length) S') : xR (f_Table___len__ [.ref r] S) Q E := by
  fail "fn"
  unfold c_Table___len__
  fail "sx"
  obtain ⟨tl, H⟩ := tableAt_o.mp H
  fail "sx"
  refine sx_dlenO H (by fail "pk") ?_
  exact q _ (H.ent (by fail "ent"))
end
/-! rows, as told -/
theorem rows_A2 {S : Sto} : ∀ {rows : List (Nm × Nat × List Int)}, (∀ z ∈ rows, S[z.2.1]? = some (.lst (z.2.2.map .int))) → A2 (relR S 0) (strip rows) (rowsD nmD rows)
  | [], _ => .nil
  | z :: rows, h => .cons ⟨rfl, z.2.1, Nat.zero_le _, rfl, h z (List.mem_cons_self ..)⟩ (rows_A2 fun y hy => h y (List.mem_cons_of_mem _ hy))
theorem dicL_at {S : Sto} {n : Nat} {lk : Bool} {rows : List (Nm × Nat × List Int)} {l : List Asn} (H : St (dicL n lk nmD sdAt rows :: l) S) : ∀ z ∈ rows, S[z.2.1]? = some (.lst (z.2.2.map .int)) := fun z hz => (dicL_get H hz).at
theorem dicAt_isR {S : Sto} {n : Nat} {t : Tab} {l : List Asn} (H : St (dicAt n false nmD sdAt t :: l) S) : isR S 0 n t := by
  obtain ⟨rows, rfl, _, H⟩ := dicL_of H
  exact ⟨Nat.zero_le _, _, (dicL_o.mp H).at, rows_A2 (dicL_at H)⟩
theorem tableAt_isT {S : Sto} {k : Nat} {t : Tab} {l : List Asn} (H : St (tableAt k t :: l) S) : ∃ tl, isT S 0 k tl t := by
  obtain ⟨tl, H⟩ := tableAt_o.mp H
  exact ⟨tl, Nat.zero_le _, H.at, dicAt_isR H.tl⟩
theorem okBeg_kk {nm : Nm} (h : okBeg nm = true) : okKey nm := okBeg_key h
theorem opNe_row {S : Sto} {q : TRow} {x y : D} (h : relI S q x) (h' : relI S q y) : opNe x y S = .ok (.bl false) S := by
  simp only [opNe, reify_row h (show 3 ≤ 60 by decide), reify_row h' (show 3 ≤ 60 by decide), eqv_row]
  rfl
/-! ### the law's own tools -/
section
variable {l r : List Asn} {S : Sto} {Q : D → Sto → Prop} {E : Exc → Sto → Prop} {j : Nat}
theorem anyname_st (H : St l S) (p : Pick (dieAt j) l r) (q : ∀ (nm : Nm) (S' : Sto), okNm nm = true → St (dieAt j :: r) S' → Q (nmD nm) S') : xR (f__law_any_name [.ref j] S) Q E := by
  simp only [xR_eq] at *
  exact anyname_ok (dieAt_is (H.pk p)) fun xs S' h1 h2 h3 f h => q xs S' (okNm_words h1 h2 h3) (dieAt_fm (H.pk p) f h)
theorem lawhead_st (H : St l S) (p : Pick (dieAt j) l r) (q : ∀ (nm : Nm) (S' : Sto), okBeg nm = true → St (dieAt j :: r) S' → Q (nmD nm) S') : xR (f__law_head [.ref j] S) Q E := by
  simp only [xR_eq] at *
  exact head_ok (dieAt_is (H.pk p)) fun xs S' h1 h2 f h => q xs S' (okBeg_words (by omega) h2) (dieAt_fm (H.pk p) f h)
theorem ins_mid (s : List Int) (k : Nat) (x : Int) : (s.map D.int).take k ++ [.int x] ++ (s.map D.int).drop k = (s.take k ++ x :: s.drop k).map .int := by simp [List.map_take, List.map_drop]
theorem somesides_st {nr : Nat} {near : List Int} (H : St l S) (p : Picks [dieAt j, sdAt nr near] l r) (hn : near.Nodup) (hl : near.length ≤ 1000)
    (q : ∀ (f : Nat) (s : List Int) (S' : Sto), (∀ x ∈ s, x ∈ near) → s.Nodup → s.length ≤ near.length → St (sdAt f s :: dieAt j :: sdAt nr near :: r) S' → Q (.ref f) S') : xR (f__law_some_sides [.ref j, .ref nr] S) Q E := by
  have H : St (dieAt j :: sdAt nr near :: r) S := H.pks p
  clear p
  fail "fn"
  unfold c__law_some_sides
  fail "sx"
  refine sx_inv (fun ys L S => ∃ (b : Option D) (pre post : List Int) (s : List Int), near = pre ++ post ∧ ys = post.map .int ∧ L = [some (.ref j), some (.ref nr), some (.ref n), b] ∧ (∀ x ∈ s, x ∈ pre) ∧ s.Nodup ∧ s.length ≤ pre.length ∧
    St (sdAt n s :: dieAt j :: sdAt nr near :: r) S) (fun ys L S ⟨_, _, _, _, _, _, _, _, _, _, H⟩ => by simp only [H.rd (n := nr) (o := .lst (near.map .int)) (by fail "pk"), decide_true]) ⟨_, [], near, [], rfl, rfl, rfl, by simp, .nil, by simp, H.ent (by fail "ent")⟩ ?_ ?_
  · rintro L S ⟨b, pre, post, s, e1, e2, rfl, h1, h2, h3, H⟩
    have e3 : post = [] := by simpa using e2.symm
    subst e3
    rw [List.append_nil] at e1
    subst e1
    fail "sx"
    exact q _ _ _ h1 h2 h3 (H.ent (by fail "ent"))
  · rintro y ys L S ⟨b, pre, post, s, e1, e2, rfl, h1, h2, h3, H⟩
    cases post with
    | nil => cases e2
    | cons x post =>
      rw [List.map_cons] at e2
      obtain ⟨rfl, rfl⟩ := List.cons.inj e2
      have hx : x ∉ pre := by
        rw [e1, List.nodup_append] at hn
        exact fun z => hn.2.2 x z x (by simp) rfl
      have hp : pre.length ≤ near.length := by rw [e1]; simp
      have e1' : near = (pre ++ [x]) ++ post := by rw [e1]; simp
      fail "sx"
      refine roll_st H (by fail "pk") (by decide) (by decide) fun i S hi0 hi1 H => ?_
      fail "sx"
      refine x_ite (fun _ => ?_) fun _ => ?_
      · fail "sx"
        refine roll_st H (by fail "pk") (by simp only [List.length_map]; omega) (by simp only [List.length_map]; omega) fun i S hi0 hi1 H => ?_
        fail "sx"
        refine sx_insert H (by fail "pk") (by simp only [List.length_map]; unfold sz; omega) ⟨hi0, by simp only [List.length_map] at hi1; omega⟩ fun S H => ?_
        rw [ins_mid] at H
        refine ⟨_, pre ++ [x], post, s.take i.toNat ++ x :: s.drop i.toNat, e1', rfl, rfl, ?_, ?_, ?_, H.ent (by fail "ent")⟩
        · intro y hy
          rcases List.mem_append.mp hy with z | z
          · exact List.mem_append_left _ (h1 y (List.mem_of_mem_take z))
          · rcases List.mem_cons.mp z with z | z
            · simp [z]
            · exact List.mem_append_left _ (h1 y (List.mem_of_mem_drop z))
        · have hs : x ∉ s := fun z => hx (h1 x z)
          have hd : (s.take i.toNat ++ s.drop i.toNat).Nodup := by rw [List.take_append_drop]; exact h2
          have hs2 : x ∉ s.take i.toNat ++ s.drop i.toNat := by rw [List.take_append_drop]; exact hs
          exact (List.perm_middle.nodup_iff).mpr (List.nodup_cons.mpr ⟨hs2, hd⟩)
        · have : (s.take i.toNat ++ s.drop i.toNat).length = s.length := by rw [List.take_append_drop]
          simp only [List.length_append, List.length_cons] at this ⊢
          simp only [List.length_nil]
          omega
      · fail "sx"
        exact ⟨_, pre ++ [x], post, s, e1', rfl, rfl, fun y hy => List.mem_append_left _ (h1 y hy), h2, by simp only [List.length_append]; omega, H.ent (by fail "ent")⟩
end
/-- the dice of all rounds -/
theorem dice_st {S : Sto} {k : Nat} {ds : List D} (hk : S[k]? = some (.lst ds)) (hd : ∀ d ∈ ds, ∃ j, d = .ref j ∧ isDie S j ∧ j ≠ k) (nd : ds.Nodup) : ∃ js : List Nat, ds = js.map .ref ∧ St [pt k (.lst (js.map .ref)), bun (js.map dieAt)] S := by
  have ex : ∀ ds : List D, (∀ d ∈ ds, ∃ j, d = .ref j ∧ isDie S j ∧ j ≠ k) → ∃ ps : List (Nat × Int × Int), ds = ps.map (fun q => .ref q.1) ∧ ∀ q ∈ ps, S[q.1]? = some (.lst [.int q.2.1, .int q.2.2]) ∧ q.1 ≠ k := fun ds => by
    induction ds with
    | nil => exact fun _ => ⟨[], rfl, fun q hq => by cases hq⟩
    | cons d ds ih =>
      intro h
      obtain ⟨ps, e, hp⟩ := ih fun d hd => h d (List.mem_cons_of_mem _ hd)
      obtain ⟨j, rfl, ⟨a, b, hj⟩, hk⟩ := h d (List.mem_cons_self ..)
      exact ⟨(j, a, b) :: ps, by rw [e]; rfl, fun q hq => (List.mem_cons.mp hq).elim (fun z => by rw [z]; exact ⟨hj, hk⟩) (hp q)⟩
  obtain ⟨ps, e, hp⟩ := ex ds hd
  refine ⟨ps.map (·.1), by rw [e, List.map_map]; rfl, ?_⟩
  have nd2 : (ps.map (·.1)).Nodup := by
    rw [e] at nd
    have : (ps.map fun q => D.ref q.1) = (ps.map (·.1)).map .ref := by rw [List.map_map]; rfl
    rw [this] at nd
    exact (List.pairwise_map.mp nd).imp fun h z => h (by rw [z])
  have h1 := St_pts (S := S) (ps := (k, .lst ds) :: ps.map fun q => (q.1, .lst [.int q.2.1, .int q.2.2])) (by
    rw [List.map_cons, List.map_map, List.nodup_cons]
    refine ⟨fun z => ?_, nd2⟩
    obtain ⟨q, hq, e⟩ := List.mem_map.mp z
    exact (hp q hq).2 e) (fun q hq => by
    rcases List.mem_cons.mp hq with z | z
    · rw [z]; exact hk
    · obtain ⟨p, h1, rfl⟩ := List.mem_map.mp z
      exact (hp p h1).1)
  rw [List.map_cons, List.map_map] at h1
  have e2 : ds = (ps.map (·.1)).map .ref := by rw [e, List.map_map]; rfl
  rw [← e2]
  refine sats.cons (fun b hb => ?_) h1
  refine sats.bun.mpr ?_
  rw [List.append_nil, List.map_map]
  clear h1 nd2 e2 ex hp e
  induction ps generalizing b with
  | nil => trivial
  | cons q ps ih =>
    obtain ⟨x, y, d, sx, sy, hx, hy⟩ := hb
    exact ⟨x, y, d, sx, sy, ⟨q.2.1, q.2.2, hx⟩, ih y hy⟩
theorem law_frame {S : Sto} {n nl : Nat} {ns : List Int} {m : Int} {body : SM} (h : isL S n (ns.map .int)) (hz : ns.length ≤ 63) (hm : 0 ≤ m) (hm2 : m < 1000) (hnl : 2 ≤ nl)
    (hb : ∀ (z : Nat) (F : List Asn) (S : Sto) (rest : List (Option D)), rest.length = nl - 2 → St (dieAt z :: F) S →
      xS (body (some (.ref n) :: some (.ref z) :: rest) S) ⟨fun L' S' => (∃ rest' : List (Option D), rest'.length = nl - 2 ∧ L' = some (.ref n) :: some (.ref z) :: rest') ∧ St (dieAt z :: F) S', fun _ _ => False, fun _ _ => False, fun _ _ => False, fun _ _ _ => False⟩) :
    wR (fn 1 nl (sSeq (sFor (wLst (eCall f__law_rounds (aCons (eV 0) (aCons (eC (.int m)) aNil)))) (gV 1) body) (sRet (eC (.bl true)))) [.ref n] S) (fun d _ => d = .bl true) Fl := by
  rw [← xR_eq]
  refine sx_fn rfl rfl ?_
  fail "sx"
  rw [xR_eq]
  refine rounds_ok h hz hm hm2 fun k ds S1 hk f1 dl hds hnd => ?_
  obtain ⟨js, rfl, H⟩ := dice_st hk (fun d hd => let ⟨j, a, b, _, c⟩ := hds d hd; ⟨j, a, b, c⟩) hnd
  refine sx_wkL H (by fail "pk") ?_
  refine sx_inv (fun ys L S => (∃ pre post : List Nat, js = pre ++ post ∧ ys = post.map .ref) ∧ (∃ (b : Option D) (rest : List (Option D)), rest.length = nl - 2 ∧ L = some (.ref n) :: b :: rest) ∧ St [pt k (.lst (js.map .ref)), bun (js.map dieAt)] S) (fun ys L S ⟨_, _, H⟩ => by simp only [H.rd (n := k) (o := .lst (js.map .ref)) (by fail "pk"), decide_true]) ⟨⟨[], js, rfl, rfl⟩, ⟨none, List.replicate (nl - 2) none, by simp, ?_⟩, H⟩ ?_ ?_
  · have : nl - 1 = (nl - 2) + 1 := by omega
    rw [this, List.replicate_succ]
    rfl
  · rintro L S ⟨_, _, _⟩
    fail "sx"
    rfl
  · rintro y ys L S ⟨⟨pre, post, e1, e2⟩, ⟨b, rest, hr, rfl⟩, H⟩
    cases post with
    | nil => cases e2
    | cons z post =>
      rw [List.map_cons] at e2
      obtain ⟨rfl, rfl⟩ := List.cons.inj e2
      fail "sx"
      have H2 := (St_aside e1).mp (H.pk (.there .here))
      have := hb z _ S rest hr H2
      simp only [xS_eq] at this ⊢
      refine wS_mono this (fun L1 S1 ⟨⟨r1, h1, h2⟩, h3⟩ => ?_) (fun _ _ z => z.elim) (fun _ _ z => z.elim) (fun _ _ z => z.elim) fun _ _ _ z => z.elim
      exact ⟨⟨pre ++ [z], post, by rw [e1]; simp, rfl⟩, ⟨_, r1, h1, h2⟩, St.swap ((St_aside e1).mpr h3)⟩
theorem sx_mid {st : SM} {L : Loc} {S : Sto} {P nx bk ct : Loc → Sto → Prop} {rt : D → Sto → Prop} {exx : Exc → Loc → Sto → Prop} (h : xS (st L S) ⟨P, fun _ _ => False, fun _ _ => False, fun _ _ => False, fun _ _ _ => False⟩) (k : ∀ L S, P L S → nx L S) : xS (st L S) ⟨nx, rt, bk, ct, exx⟩ := by
  simp only [xS_eq] at *
  exact wS_mono h k (fun _ _ z => z.elim) (fun _ _ z => z.elim) (fun _ _ z => z.elim) fun _ _ _ z => z.elim
/-! ### what the law itself asks of its dict -/
def lawSome (t : Tab) (nm : Nm) : List Nm := (t.map (·.1)).filter fun b => decide (nm.take b.length = b)
theorem bestAt_spec (f : Nat → Int) (bt : Nat → Nat → Bool) (hb : ∀ i j, bt i j = decide (f i > f j)) : ∀ n, bestAt bt n ≤ n ∧ ∀ i, i ≤ n → f i ≤ f (bestAt bt n)
  | 0 => ⟨Nat.le_refl _, fun i hi => by
      have : i = 0 := by omega
      rw [this]
      exact Int.le_refl _⟩
  | n + 1 => by
    obtain ⟨h1, h2⟩ := bestAt_spec f bt hb n
    unfold bestAt
    rw [hb]
    by_cases c : f (n + 1) > f (bestAt bt n)
    · rw [if_pos (decide_eq_true c)]
      refine ⟨Nat.le_refl _, fun i hi => ?_⟩
      rcases Nat.lt_or_ge i (n + 1) with z | z
      · have := h2 i (by omega)
        omega
      · have : i = n + 1 := by omega
        rw [this]
        exact Int.le_refl _
    · rw [if_neg (by simpa using c)]
      refine ⟨by omega, fun i hi => ?_⟩
      rcases Nat.lt_or_ge i (n + 1) with z | z
      · exact h2 i (by omega)
      · have : i = n + 1 := by omega
        rw [this]
        omega
theorem tLongN_best {t : Tab} {nm b : Nm} (hb : (aget b t).isSome = true) (hp : nm.take b.length = b) (hm : ∀ c : Nm, (aget c t).isSome = true → nm.take c.length = c → c.length ≤ b.length) : ∀ m, b.length ≤ m → m ≤ nm.length → tLongN t nm m = some b := by
  have key : ∀ m, b.length ≤ m → m ≤ nm.length → (aget (nm.take m) t).isSome = true → nm.take m = b := fun m h1 h2 h3 => by
    have l1 : (nm.take m).length = m := by rw [List.length_take]; omega
    have := hm _ h3 (by rw [l1])
    have : m = b.length := by omega
    rw [this, hp]
  intro m
  induction m with
  | zero =>
    intro h1 h2
    unfold tLongN
    have e : nm.take 0 = b := by
      have : b.length = 0 := by omega
      rw [← this, hp]
    rw [e, if_pos hb]
  | succ m ih =>
    intro h1 h2
    unfold tLongN
    by_cases c : (aget (nm.take (m + 1)) t).isSome = true
    · rw [if_pos c, key _ h1 h2 c]
    · rw [if_neg c]
      refine ih ?_ (by omega)
      rcases Nat.lt_or_ge m b.length with z | z
      · exfalso
        have : b.length = m + 1 := by omega
        rw [← this, hp] at c
        exact c hb
      · exact z
theorem mem_lawSome {t : Tab} {nm b : Nm} : b ∈ lawSome t nm ↔ (aget b t).isSome = true ∧ nm.take b.length = b := by
  unfold lawSome
  rw [List.mem_filter, decide_eq_true_eq]
  refine and_congr ?_ Iff.rfl
  constructor
  · intro h
    cases e : aget b t with
    | none => exact absurd h (aget_none.mp e)
    | some x => rfl
  · intro h
    obtain ⟨x, e⟩ := Option.isSome_iff_exists.mp h
    exact List.mem_map.mpr ⟨_, aget_mem e, rfl⟩
theorem tLong_none {t : Tab} {nm : Nm} (h : lawSome t nm = []) : tLong t nm = none := by
  cases e : tLong t nm with
  | none => rfl
  | some b =>
    obtain ⟨⟨k, rfl⟩, s, hs⟩ := tLongN_some e
    have : nm.take k ∈ lawSome t nm := mem_lawSome.mpr ⟨by rw [hs]; rfl, by
      rw [List.length_take]
      rcases Nat.le_total k nm.length with z | z
      · rw [Nat.min_eq_left z]
      · rw [Nat.min_eq_right z, List.take_length, List.take_of_length_le z]⟩
    rw [h] at this
    cases this
theorem tlen_nm (xs : List Nm) (i : Nat) : (tlen ((xs.map nmD).getD i .non) : Int) = ((xs.getD i []).length : Int) := by
  rw [List.getD_eq_getElem?_getD, List.getD_eq_getElem?_getD, List.getElem?_map]
  cases xs[i]? with
  | none => rfl
  | some b => simp [nmD, tlen]
theorem opMaxLen_nm {S : Sto} {n : Nat} {t : Tab} {nm : Nm} (h : S[n]? = some (.lst ((lawSome t nm).map nmD))) (hne : lawSome t nm ≠ []) : opMaxLen (.ref n) S = .ok (onmD (tLong t nm)) S := by
  generalize hx : lawSome t nm = xs at h hne
  have all : (xs.map nmD).all isTup = true := by
    rw [List.all_map, List.all_eq_true]
    intro b _
    rfl
  simp only [opMaxLen, h, if_pos all]
  have hl : 0 < xs.length := List.length_pos_iff.mpr hne
  obtain ⟨h1, h2⟩ := bestAt_spec (fun i => ((xs.getD i []).length : Int)) (fun i j => decide ((tlen ((xs.map nmD).getD i .non) : Int) > (tlen ((xs.map nmD).getD j .non) : Int))) (fun i j => by simp only [tlen_nm]) ((xs.map nmD).length - 1)
  generalize bestAt (fun i j => decide ((tlen ((xs.map nmD).getD i .non) : Int) > (tlen ((xs.map nmD).getD j .non) : Int))) ((xs.map nmD).length - 1) = p at h1 h2
  rw [List.length_map] at h1 h2
  have hp : p < xs.length := by omega
  rw [List.getElem?_map, List.getElem?_eq_getElem hp, Option.map_some]
  have hb : xs[p] ∈ lawSome t nm := by rw [hx]; exact List.getElem_mem hp
  obtain ⟨hb1, hb2⟩ := mem_lawSome.mp hb
  have lb : xs[p].length ≤ nm.length := by
    have e := congrArg List.length hb2
    rw [List.length_take] at e
    omega
  have : tLong t nm = some xs[p] := by
    refine tLongN_best hb1 hb2 (fun c c1 c2 => ?_) _ lb (Nat.le_refl _)
    have hc : c ∈ xs := by rw [← hx]; exact mem_lawSome.mpr ⟨c1, c2⟩
    obtain ⟨i, hi, rfl⟩ := List.getElem_of_mem hc
    have := h2 i (by omega)
    simp only [List.getD_eq_getElem?_getD, List.getElem?_eq_getElem hi, List.getElem?_eq_getElem hp, Option.getD_some] at this
    omega
  rw [this]
  rfl
section
variable {dl : Nat} {t : Tab} {F : List Asn} {S : Sto} {Q : D → Sto → Prop} {E : Exc → Sto → Prop} {nm : Nm}
theorem rows_some (rows : List (Nm × Nat × List Int)) (nm : Nm) : ((rows.filter fun q => decide (nm.take q.1.length = q.1)).map fun q => nmD q.1) = (lawSome (strip rows) nm).map nmD := by
  unfold lawSome
  rw [strip_keys, List.filter_map, List.map_map]
  rfl
theorem lawlong_st (H : St (dicAt dl false nmD sdAt t :: F) S) (hz : t.length ≤ 1000) (q : ∀ S', St (dicAt dl false nmD sdAt t :: F) S' → Q (onmD (tLong t nm)) S') : xR (f__law_longest [.ref dl, nmD nm] S) Q E := by
  obtain ⟨rows, rfl, nd, H⟩ := dicL_of H
  have hz2 : rows.length ≤ 1000 := by simpa [strip] using hz
  fail "fn"
  unfold c__law_longest
  apply sx_seq
  refine sx_lockL H .here rfl fun S H => ?_
  apply sx_asg
  apply sx_Lc
  refine sx_wDicL H .here rfl ?_
  refine sx_lcS (zs := rows) H (fun z => nmD z.1) (fun q => decide (nm.take q.1.length = q.1)) (fun z => nmD z.1) rfl (by unfold sz; omega) (fun S' H => dicL_chk H .here) (fun z hz m acc S' H => ?_) fun m S H => ?_
  · iterate 11 fail "u1"
    refine sx_lenT (xs := z.1.map .str) ?_
    refine ⟨_, rfl, sx_slT (xs := nm.map .str) ?_⟩
    rw [List.length_map, cut_take, ← List.map_take]
    fail "u1"
    refine sx_eqP (x := nmD (nm.take z.1.length)) (y := nmD z.1) (pl_nm20 _) (pl_nm20 _) ?_
    refine ⟨_, rfl, ?_, H, fun _ => ?_⟩
    · rw [decide_eq_decide]
      exact nmD_iff
    · fail "sx"
      exact ⟨rfl, H⟩
  · rw [rows_some] at H
    fail "sx"
    refine ⟨_, H.ent (by fail "ent"), fun S H => ?_⟩
    fail "sx"
    refine x_iteb (fun z => ?_) fun z => ?_
    · fail "sx"
      have hne : lawSome (strip rows) nm ≠ [] := fun e => by rw [e] at z; simp at z
      refine xR_ok (opMaxLen_nm (H.rd (by fail "pk")) hne) ?_
      have H := H.ent (l' := dicL dl false nmD sdAt rows :: F) (by fail "ent")
      exact q _ (dicL_to H nd)
    · fail "sx"
      have hne : lawSome (strip rows) nm = [] := by simpa using z
      have H := H.ent (l' := dicL dl false nmD sdAt rows :: F) (by fail "ent")
      rw [tLong_none hne] at q
      exact q _ (dicL_to H nd)
theorem lawfound_st (H : St (dicAt dl false nmD sdAt t :: F) S) (hz : t.length ≤ 1000) (hk : okBeg nm = true) (q : ∀ j S', St (sdAt j (tFound t nm) :: dicAt dl false nmD sdAt t :: F) S' → Q (.ref j) S') : xR (f__law_found [.ref dl, nmD nm] S) Q E := by
  fail "fn"
  unfold c__law_found
  fail "sx"
  refine lawlong_st H hz fun S H => ?_
  unfold tFound at q
  cases e : tLong t nm with
  | none =>
    rw [e] at q
    simp only [onmD]
    fail "sx"
    exact q _ _ H
  | some b =>
    rw [e] at q
    obtain ⟨⟨k, rfl⟩, s, hs⟩ := tLongN_some e
    simp only [hs, Option.getD_some] at q
    simp only [onmD]
    fail "sx"
    refine n_dget H (by fail "pk") (okBeg_take hk k) hs fun j H => ?_
    fail "sx"
    exact q _ _ (H.ent (by fail "ent"))
end
/-! ### the law of tables: rows told, == -/
section
variable {l r : List Asn} {S : Sto} {Q : D → Sto → Prop} {E : Exc → Sto → Prop} {j : Nat}
theorem lawhead2_st (H : St l S) (p : Pick (dieAt j) l r) (q : ∀ (nm : Nm) (S' : Sto), nm.length ≤ 4 → (∀ x ∈ nm, x ∈ words) → St (dieAt j :: r) S' → Q (nmD nm) S') : xR (f__law_head [.ref j] S) Q E := by
  simp only [xR_eq] at *
  exact head_ok (dieAt_is (H.pk p)) fun xs S' h1 h2 f h => q xs S' h1 h2 (dieAt_fm (H.pk p) f h)
theorem sx_lenOwn {c n : Nat} {F : Fn} {fs : List (Nat × D)} (H : St l S) (p : Pick (pt n (.ins c fs)) l r) (h : xR (F [.ref n] S) (fun v S1 => ∃ i, v = .int i ∧ (0 ≤ i ∧ i < 2 ^ 63) ∧ Q (.int i) S1) E) : xR (fLenOwn c F [.ref n] S) Q E := by
  simp only [xR_eq] at *
  simp only [fLenOwn, H.rd p, if_true, wR_bind]
  refine wR_mono h (fun v S1 ⟨i, e, h1, h2⟩ => ?_) fun _ _ z => z
  subst e
  simp only [if_pos h1]
  exact h2
theorem tlenOwn_st {k : Nat} {t : Tab} (H : St (tableAt k t :: l) S) (hz : t.length ≤ 1000) (q : ∀ S', St (tableAt k t :: l) S' → Q (.int t.length) S') : xR (fLenOwn 3 f_Table___len__ [.ref k] S) Q E := by
  obtain ⟨tl, H2⟩ := tableAt_o.mp H
  refine sx_lenOwn H2 .here (tlen_st H fun S' H => ⟨_, rfl, ⟨by omega, by omega⟩, q S' H⟩)
end
/-- the law's own rows -/
theorem lrows_ok {S : Sto} {dl : Nat} {rows : List TRow} {L : Loc} {Q : D → Sto → Prop} {E : Exc → Sto → Prop} (h : isR S 0 dl rows) (hk : ∀ r ∈ rows, okKey r.1) (hz : rows.length ≤ 1000) (hL : L[6]? = some (some (.ref dl))) (hL2 : 6 < L.length)
    (q : ∀ j S', Fm [] S S' → isRL S' j (srtR rows) → Q (.ref j) S') : wR (eLc (wLst (eCall fSorted (aCons (eV 6) aNil))) (gV 4) tYes (eTup (aCons (eV 4) (aCons (eBin opGet (eV 6) (eV 4)) aNil))) [4] L S) Q E := by
  rw [wR_eLc]
  refine wR_wLst ?_
  simp only [eCall_a, aCons_a, aNil_a, eV_a, hL, R.bind_ok, sorted_d h (show rows.length ≤ sz by unfold sz; omega), wR_ok]
  refine ⟨_, _, rfl, at_new _ _, ?_⟩
  have h1 : isR (S ++ [Ob.lst ((srtN (rows.map (·.1))).map nmD)]) 0 dl rows := h.fm0 ((Fm.refl _ _).push _)
  have at1 : (S ++ [Ob.lst ((srtN (rows.map (·.1))).map nmD)])[S.length]? = some (.lst ((srtN (rows.map (·.1))).map nmD)) := at_new _ _
  have f1 : Fm [] S (S ++ [Ob.lst ((srtN (rows.map (·.1))).map nmD)]) := (Fm.refl _ _).push _
  generalize hS1 : S ++ [Ob.lst ((srtN (rows.map (·.1))).map nmD)] = S1 at h1 at1 f1
  obtain ⟨_, kvs, hd, hr⟩ := h1
  have mem : ∀ b ∈ srtN (rows.map (·.1)), okKey b ∧ ∃ sd, rget b rows = some sd ∧ ∃ j, kget (nmD b) kvs = some (.ref j) ∧ S1[j]? = some (.lst (sd.map .int)) := fun b hb => by
    have hb := (srtN_perm _).mem_iff.mp hb
    obtain ⟨sd, e⟩ := rget_mem hb
    obtain ⟨r, hr2, rfl⟩ := List.mem_map.mp hb
    obtain ⟨j, _, e2, e3⟩ := (rget_rel hr).2 _ e
    exact ⟨hk r hr2, sd, e, j, e2, e3⟩
  refine lcL_fs (p := fun _ => true) (P := fun S' x y => ∃ b, x = nmD b ∧ ∃ i, i ≠ S1.length ∧ y = .tup [nmD b, .ref i] ∧ S'[i]? = some (.lst (((rget b rows).getD []).map .int)))
    (fun S' S'' x y f ⟨b, e, i, h1, h2, h3⟩ => ⟨b, e, i, h1, h2, f.at h3 (by simp)⟩) (fun S' o x y ⟨b, e, i, h1, h2, h3⟩ => ⟨b, e, i, h1, h2, at_set_ne h3 (by omega)⟩) (fun S' f => decide_eq_true (f.at at1 (by simp))) (fun x hx S' f hlt => ?_) ?_ fun S' ys f hys e _ => ?_
  · obtain ⟨b, hb, rfl⟩ := List.mem_map.mp hx
    obtain ⟨kb, sd, e1, j, e2, e3⟩ := mem b hb
    have hL6 : (wipe L [4])[6]? = some (some (.ref dl)) := by
      simp only [wipe]
      rw [List.getElem?_set_ne (by decide)]
      exact hL
    have hw : 6 < (wipe L [4]).length := by simpa [wipe] using hL2
    have hv4 : ((wipe L [4]).set 4 (some (nmD b)))[4]? = some (some (nmD b)) := by
      rw [List.getElem?_set_self (by omega)]
    have hv6 : ((wipe L [4]).set 4 (some (nmD b)))[6]? = some (some (.ref dl)) := by
      rw [List.getElem?_set_ne (by decide)]
      exact hL6
    have hg : opGet (.ref dl) (nmD b) S' = .ok (.ref j) S' := by simp only [opGet, f.at hd (by simp), key_nm kb, if_true, e2]
    refine ⟨rfl, Fm.refl _ _, rfl, fun _ => ?_⟩
    simp only [eTup_a, aCons_a, aNil_a, eV_a, hv4, hv6, R.bind_ok, eBin_a, hg, List.length_cons, List.length_nil]
    rw [if_pos (by decide)]
    simp only [wR_ok]
    exact ⟨Fm.refl _ _, b, rfl, j, (by have := lt_of_at e3; omega), rfl, by rw [e1]; exact f.at e3 (by simp)⟩
  · rw [List.length_map, (srtN_perm _).length_eq, List.length_map]
    unfold sz
    omega
  · rw [List.filter_eq_self.mpr (fun _ _ => rfl)] at hys
    refine q _ S' (f1.trans f) ⟨ys, e, ?_⟩
    refine A2.map_l ((A2.map_l' hys).imp fun b y ⟨b', e, i, _, h2, h3⟩ => ?_)
    cases nmD_inj e
    exact ⟨i, h2, h3⟩
section
variable {k dl : Nat} {t : Tab} {F : List Asn} {S : Sto} {Q : D → Sto → Prop} {E : Exc → Sto → Prop} {a0 a1 a2 a3 a4 a7 a8 a9 : Option D}
theorem lawrows_st (H : St (tableAt k t :: dicAt dl false nmD sdAt t :: F) S) (hk : ∀ q ∈ t, okBeg q.1 = true) (hz : t.length ≤ 1000) (q : ∀ S', St (tableAt k t :: dicAt dl false nmD sdAt t :: F) S' → Q (.bl false) S') :
    xR (eBin opNe (eMeth 3 65 f_Table_rows (eV 5) aNil) (eLc (wLst (eCall fSorted (aCons (eV 6) aNil))) (gV 4) tYes (eTup (aCons (eV 4) (aCons (eBin opGet (eV 6) (eV 4)) aNil))) [4]) [a0, a1, a2, a3, a4, some (.ref k), some (.ref dl), a7, a8, a9] S) Q E := by
  have hk2 : ∀ r ∈ t, okKey r.1 := fun r hr => okBeg_kk (hk r hr)
  obtain ⟨tl, hT⟩ := tableAt_isT H
  have hD := dicAt_isR (St.swap H)
  fail "sx"
  rw [xR_eq]
  refine trows_ok hT hk2 hz fun j S1 f1 h1 _ => ?_
  rw [xR_eq]
  refine lrows_ok (hD.fm0 f1) hk2 hz rfl (by simp) fun j2 S2 f2 h2 => ?_
  exact xR_ok (opNe_RL (h1.fm0 f2) h2) (q _ ((H.fm0 f1).fm0 f2))
end
/-! == of tables -/
theorem eqKv_rows {S : Sto} {rb : List (Nm × Nat × List Int)} (hb : ∀ z ∈ rb, S[z.2.1]? = some (.lst (z.2.2.map .int))) : ∀ {ra : List (Nm × Nat × List Int)}, (∀ z ∈ ra, S[z.2.1]? = some (.lst (z.2.2.map .int))) →
    eqKv S (rowsD nmD rb) (rowsD nmD ra) = some (decide (∀ q ∈ strip ra, aget q.1 (strip rb) = some q.2))
  | [], _ => rfl
  | z :: ra, h => by
    have ih := eqKv_rows hb fun y hy => h y (List.mem_cons_of_mem _ hy)
    have hz := h z (List.mem_cons_self ..)
    have e0 : rowsD nmD (z :: ra) = (nmD z.1, .ref z.2.1) :: rowsD nmD ra := rfl
    have e1 : strip (z :: ra) = (z.1, z.2.2) :: strip ra := rfl
    have e2 : kget (nmD z.1) (rowsD nmD rb) = (aget z.1 rb).map fun q => .ref q.1 := kget_rows nm_ki
    rw [e0, e1]
    simp only [eqKv, e2, ih, List.forall_mem_cons, aget_strip]
    cases e : aget z.1 rb with
    | none => simp
    | some y =>
      have hy := hb _ (aget_mem e)
      simp only [Option.map_some, reify_l (m := 50) (.inl hz) (pls_ints _) (by decide), reify_l (m := 50) (.inl hy) (pls_ints _) (by decide), PyData.eqv, eqv_pls 0 0 _ _ (pls_ints _) (pls_ints _)]
      have : (z.2.2.map D.int = y.2.map D.int) ↔ some y.2 = some z.2.2 := by
        constructor
        · intro h
          have := List.map_inj_right (f := D.int) (fun a b h => by cases h; rfl) |>.mp h
          rw [this]
        · intro h
          rw [Option.some.inj h]
      refine congrArg some ?_
      rw [Bool.eq_iff_iff]
      simp only [Bool.and_eq_true, decide_eq_true_eq, this, Option.map_some]
theorem opEqT_rows {S : Sto} {n m : Nat} {ra rb : List (Nm × Nat × List Int)} (hn : S[n]? = some (.dic true false (rowsD nmD ra))) (hm : S[m]? = some (.dic true false (rowsD nmD rb))) (ha : ∀ z ∈ ra, S[z.2.1]? = some (.lst (z.2.2.map .int))) (hb : ∀ z ∈ rb, S[z.2.1]? = some (.lst (z.2.2.map .int))) :
    opEqT (.ref n) (.ref m) S = .ok (.bl (decide ((strip ra).length = (strip rb).length) && decide (∀ q ∈ strip ra, aget q.1 (strip rb) = some q.2))) S := by
  simp only [opEqT, hn, hm, eqKv_rows hb ha]
  simp [strip, rowsD]
section
variable {a b : Nat} {t t' : Tab} {F : List Asn} {S : Sto} {Q : D → Sto → Prop} {E : Exc → Sto → Prop}
theorem opEqT_st {n m : Nat} (H : St (dicAt n false nmD sdAt t :: dicAt m false nmD sdAt t' :: F) S) : opEqT (.ref n) (.ref m) S = .ok (.bl (decide (t.length = t'.length) && decide (∀ q ∈ t, aget q.1 t' = some q.2))) S := by
  obtain ⟨ra, rfl, _, H1⟩ := dicL_of H
  obtain ⟨rb, rfl, _, H2⟩ := dicL_of (St.swap H)
  exact opEqT_rows (dicL_o.mp H1).at (dicL_o.mp H2).at (dicL_at H1) (dicL_at H2)
theorem teq_ok (H : St (tableAt a t :: tableAt b t' :: F) S) : f_Table___eq__ [.ref a, .ref b] S = .ok (.bl (decide (t.length = t'.length) && decide (∀ q ∈ t, aget q.1 t' = some q.2))) S := by
  refine eq_of_wR (wR_of ?_)
  obtain ⟨tl, H⟩ := tableAt_o.mp H
  have H := H.ent (l' := tableAt b t' :: pt a (.ins 3 [(38, .ref tl)]) :: dicAt tl false nmD sdAt t :: F) (by fail "ent")
  obtain ⟨tl', H⟩ := tableAt_o.mp H
  fail "fn"
  unfold c_Table___eq__
  fail "sx"
  apply sx_And
  fail "sx"
  refine xR_ok (a := .bl true) (S := S) (by simp only [opIsO, H.at, if_true]) ⟨true, rfl, ?_⟩
  rw [if_pos rfl]
  fail "sx"
  have H := H.ent (l' := dicAt tl false nmD sdAt t :: dicAt tl' false nmD sdAt t' :: F) (by fail "ent")
  exact xR_ok (opEqT_st H) ⟨rfl, rfl⟩
theorem teqd_ok {dl : Nat} (H : St (dicAt dl false nmD sdAt t :: F) S) : f_Table___eq__ [.ref a, .ref dl] S = .ok (.bl false) S := by
  refine eq_of_wR (wR_of ?_)
  obtain ⟨rows, rfl, _, H⟩ := dicL_of H
  have H := dicL_o.mp H
  fail "fn"
  unfold c_Table___eq__
  fail "sx"
  apply sx_And
  fail "sx"
  refine xR_ok (a := .bl false) (S := S) (by simp only [opIsO, H.at]) ⟨false, rfl, ?_⟩
  rw [if_neg (by decide)]
  exact ⟨rfl, rfl⟩
theorem sx_eqO {c : Nat} {G : Fn} {kf : Bool → Bool} {n m : Nat} {fs : List (Nat × D)} {o : Ob} {bb : Bool} {l r r' : List Asn} (H : St l S) (p : Pick (pt n (.ins c fs)) l r) (p' : Pick (pt m o) l r') (ho : okE c o = true) (e : G [.ref n, .ref m] S = .ok (.bl bb) S) (h : Q (.bl (kf bb)) S) : xR (eqO c G kf (.ref n) (.ref m) S) Q E := by
  refine xR_ok ?_ h
  simp only [eqO, H.rd p, H.rd p', ho, and_self, if_true, e]
theorem sx_teq {kf : Bool → Bool} (H : St (tableAt a t :: tableAt b t' :: F) S) (h : Q (.bl (kf (decide (t.length = t'.length) && decide (∀ q ∈ t, aget q.1 t' = some q.2)))) S) : xR (eqO 3 f_Table___eq__ kf (.ref a) (.ref b) S) Q E := by
  obtain ⟨tl, H1⟩ := tableAt_o.mp H
  obtain ⟨tl', H2⟩ := tableAt_o.mp (St.swap H)
  refine xR_ok ?_ h
  simp only [eqO, H1.at, H2.at, okE, decide_true, and_self, if_true, teq_ok H]
theorem sx_teqd {kf : Bool → Bool} {dl : Nat} (H : St (tableAt a t :: dicAt dl false nmD sdAt t' :: F) S) (h : Q (.bl (kf false)) S) : xR (eqO 3 f_Table___eq__ kf (.ref a) (.ref dl) S) Q E := by
  obtain ⟨tl, H1⟩ := tableAt_o.mp H
  have H2 := St.swap H
  obtain ⟨rows, rfl, _, H3⟩ := dicL_of H2
  refine xR_ok ?_ h
  simp only [eqO, H1.at, (dicL_o.mp H3).at, okE, Bool.not_false, and_self, if_true, teqd_ok H2]
end
theorem aget_self {t : Tab} (nd : (t.map (·.1)).Nodup) : ∀ q ∈ t, aget q.1 t = some q.2 := fun q hq => by
  obtain ⟨r1, r2, rfl⟩ := List.append_of_mem hq
  exact aget_of (nodup_mid (k := q.1) (x := q.2) nd).1
/-- one row of a dict set aside -/
theorem dicL_row {n : Nat} {lk : Bool} {pre post : List (Nm × Nat × List Int)} {q : Nm × Nat × List Int} {l : List Asn} {S : Sto} :
    St (dicL n lk nmD sdAt (pre ++ q :: post) :: l) S ↔ St (sdAt q.2.1 q.2.2 :: pt n (.dic true lk (rowsD nmD (pre ++ q :: post))) :: bun (own sdAt pre ++ own sdAt post) :: l) S := by
  have e : own sdAt (pre ++ q :: post) ++ l = own sdAt pre ++ sdAt q.2.1 q.2.2 :: (own sdAt post ++ l) := by
    rw [own_app, List.append_assoc]
    rfl
  constructor
  · intro H
    have H := dicL_o.mp H
    rw [e] at H
    refine (St.app (xs := [sdAt q.2.1 q.2.2, pt n (.dic true lk (rowsD nmD (pre ++ q :: post)))])).mpr ?_
    rw [List.append_assoc]
    exact St.swap (St.mid2 (xs := own sdAt pre) H)
  · intro H
    have H := (St.app (xs := [sdAt q.2.1 q.2.2, pt n (.dic true lk (rowsD nmD (pre ++ q :: post)))])).mp H
    rw [List.append_assoc] at H
    refine dicL_o.mpr ?_
    rw [e]
    exact St.mid2' (xs := own sdAt pre) (St.swap H)
/-! ### the law of tables -/
theorem ex8 {α : Type} {l : List α} (h : l.length = 8) : ∃ a2 a3 a4 a5 a6 a7 a8 a9, l = [a2, a3, a4, a5, a6, a7, a8, a9] := match l, h with
  | [a2, a3, a4, a5, a6, a7, a8, a9], _ => ⟨_, _, _, _, _, _, _, _, rfl⟩
/-- a table as the law draws it -/
def wds (t : Tab) : Prop := ∀ q ∈ t, (∀ x ∈ q.1, x ∈ words) ∧ q.1.length ≤ 4
theorem wds.beg {t : Tab} (h : wds t) : ∀ q ∈ t, okBeg q.1 = true := fun q hq => okBeg_words (by have := (h q hq).2; omega) (h q hq).1
theorem law_k20 {S : Sto} {n0 : Nat} {ns : List Int} (h : isL S n0 (ns.map .int)) (hz : ns.length ≤ 63) : wR (f_law [.ref n0] S) (fun d _ => d = .bl true) Fl := by
  unfold f_law c_law
  refine law_frame h hz (by decide) (by decide) (by decide) fun d F S rest hr H => ?_
  obtain ⟨a2, a3, a4, a5, a6, a7, a8, a9, rfl⟩ := ex8 hr
  fail "sx"
  rename Nat => k
  refine tinit_st (H.ent (by fail "ent")) fun S H => ?_
  refine ⟨rfl, ?_⟩
  fail "sx"
  rename Nat => dl
  refine roll_st H (by fail "pk") (by decide) (by decide) fun i S hi0 hi1 H => ?_
  fail "sx"
  refine ⟨⟨by omega, by omega⟩, ?_⟩
  refine sx_inv (fun ys L S => ∃ (t : Tab) (b2 b4 b8 b9 : Option D), t.length + ys.length ≤ 12 ∧ wds t ∧ (∀ q ∈ t, okSd q.2) ∧
    L = [some (.ref n0), some (.ref d), b2, a3, b4, some (.ref k), some (.ref dl), a7, b8, b9] ∧
    St (tableAt k t :: dicAt dl false nmD sdAt t :: dieAt d :: F) S)
    (fun ys L S _ => rfl)
    ⟨[], _, _, _, _, ?_, (fun q hq => nomatch hq), (fun q hq => nomatch hq), rfl, H.ent (by fail "ent")⟩ ?_ ?_
  · simp [rngD]
    omega
  rotate_left
  · rintro y ys L S ⟨t, b2, b4, b8, b9, hl, hw, hs, rfl, H⟩
    simp only [List.length_cons] at hl
    fail "sx"
    refine lawhead2_st H (by fail "pk") fun one S h1 h2 H => ?_
    have hb : okBeg one = true := okBeg_words (by omega) h2
    fail "sx"
    refine roll_st H (by fail "pk") (by decide) (by decide) fun q S _ _ H => ?_
    fail "sx"
    refine x_ite (fun _ => ?_) fun _ => ?_
    · fail "sx"
      refine somesides_st H (near := [0, 1, 2, 7]) (by fail "pks") (by decide) (by decide) fun f s S h3 h4 h5 H => ?_
      have hsd : okSd s := ⟨fun x hx => by have := h3 x hx; simp at this; omega, h4, Nat.le_trans h5 (by decide)⟩
      fail "sx"
      refine tput_st (s := s) (H.ent (by fail "ent")) hb hsd (by unfold sz; omega) fun S H => ?_
      fail "sx"
      refine n_dset (A := sdAt) (j := n) (x := s) (H.ent (l' := pt n (.lst (s.map .int)) :: tableAt k (aput one s t) :: sdAt f s :: dieAt d :: dicAt dl false nmD sdAt t :: F) (by fail "ent")) (by fail "pk") (by fail "pk") hb (by unfold sz; omega) fun S H => ?_
      fail "sx"
      refine sx_append H (by fail "pk") (by rw [List.length_map]; have := hsd.2.2; unfold sz; omega) fun S H => ?_
      fail "sx"
      refine ⟨aput one s t, _, _, _, _, ?_, fun q hq => ?_, fun q hq => ?_, rfl, H.ent (by fail "ent")⟩
      · have := aput_len one s t
        omega
      · rcases aput_mem hq with z | z
        · rw [z]; exact ⟨h2, h1⟩
        · exact hw q z
      · rcases aput_mem hq with z | z
        · rw [z]; exact hsd
        · exact hs q z
    · fail "sx"
      cases e : aget one t with
      | none =>
        rw [if_neg (by simp)]
        fail "sx"
        apply sx_told
        fail "sx"
        refine tdrop_st (H.ent (by fail "ent")) hb (fun s' e' => by rw [e] at e'; cases e') fun _ S H => ?_
        refine ⟨rfl, by decide, ?_⟩
        have H := H.apps (wO (⟨1, []⟩ : Exc).c)
        generalize S ++ wO (⟨1, []⟩ : Exc).c = S2 at H ⊢
        have ew : wT (⟨1, []⟩ : Exc).c = .tup [.str [114, 101, 102, 117, 115, 101, 100], .str [66, 97, 100, 78, 97, 109, 101]] := rfl
        rw [ew]
        fail "sx"
        rw [if_neg (by rw [e]; simp)]
        fail "sx"
        exact ⟨t, _, _, _, _, by omega, hw, hs, rfl, H.ent (by fail "ent")⟩
      | some s =>
        rw [if_pos (show (some s).isSome = true from rfl)]
        fail "sx"
        apply sx_told
        fail "sx"
        refine tdrop_st (H.ent (by fail "ent")) hb (fun s' e' j S H => ?_) fun e' => by rw [e] at e'; cases e'
        fail "sx"
        rw [if_pos (by rw [e]; rfl)]
        fail "sx"
        refine n_dpop H (by fail "pk") hb e fun j S H => ?_
        fail "sx"
        have := adrop_le one t
        exact ⟨adrop one t, _, _, _, _, by omega, fun q hq => hw q (adrop_mem hq), fun q hq => hs q (adrop_mem hq), rfl, H.ent (by fail "ent")⟩
  · rintro L S ⟨t, b2, b4, b8, b9, hl, hw, hs, rfl, H⟩
    simp only [List.length_nil] at hl
    have hz : t.length ≤ 1000 := by omega
    fail "sx"
    apply sx_tOr
    apply sx_tV
    refine lawrows_st H hw.beg hz fun S H => ?_
    refine ⟨false, rfl, ?_⟩
    rw [if_neg (by decide)]
    apply sx_tV
    fail "sx"
    refine tlenOwn_st H hz fun S H => ?_
    fail "sx"
    refine sx_dlenO H (by fail "pk") ?_
    fail "sx"
    refine x_itn (fun z => absurd rfl z) fun _ => ?_
    fail "sx"
    refine ⟨⟨by decide, by decide⟩, ?_⟩
    refine sx_inv (fun ys L S => ∃ (b2 b4 b7 : Option D),
      L = [some (.ref n0), some (.ref d), b2, a3, b4, some (.ref k), some (.ref dl), b7, b8, b9] ∧
      St (tableAt k t :: dicAt dl false nmD sdAt t :: dieAt d :: F) S)
      (fun ys L S _ => rfl) ⟨_, _, _, rfl, H.ent (by fail "ent")⟩ ?_ ?_
    rotate_left
    · rintro y ys L S ⟨b2, b4, b7, rfl, H⟩
      fail "sx"
      refine anyname_st H (by fail "pk") fun nm S hk H => ?_
      have hb : okBeg nm = true := okNm_beg hk
      fail "sx"
      refine lawlong_st (H.ent (by fail "ent")) hz fun S H => ?_
      fail "sx"
      refine tway_st (H.ent (by fail "ent")) hk (fun e S H => ?_) fun b s e1 e2 j1 S H => ?_
      · rw [e]
        simp only [onmD]
        fail "sx"
        refine tsides_st (H.ent (by fail "ent")) hk fun j S H => ?_
        fail "sx"
        refine lawfound_st (H.ent (by fail "ent")) hz hb fun j2 S H => ?_
        fail "sx"
        refine x_itn (fun z => absurd rfl z) fun _ => ?_
        fail "sx"
        exact ⟨_, _, _, rfl, H.ent (by fail "ent")⟩
      · rw [e1]
        simp only [onmD]
        fail "sx"
        refine n_dget H (by fail "pk") (hw.beg _ (aget_mem e2)) e2 fun j2 H => ?_
        fail "sx"
        refine xR_ok (opNe_row (q := (b, s)) ⟨j1, rfl, H.rd (by fail "pk")⟩ ⟨j2, rfl, H.rd (by fail "pk")⟩) ⟨false, rfl, ?_⟩
        rw [if_neg (by decide)]
        fail "sx"
        refine tsides_st (H.ent (by fail "ent")) hk fun j S H => ?_
        fail "sx"
        refine lawfound_st (H.ent (by fail "ent")) hz hb fun j2 S H => ?_
        fail "sx"
        refine x_itn (fun z => absurd rfl z) fun _ => ?_
        fail "sx"
        exact ⟨_, _, _, rfl, H.ent (by fail "ent")⟩
    · rintro L S ⟨b2, b4, b7, rfl, H⟩
      fail "sx"
      rename Nat => o
      refine tinit_st (H.ent (by fail "ent")) fun S H => ?_
      refine ⟨rfl, ?_⟩
      apply sx_gV
      focus (fail "lset")
      apply sx_seq
      obtain ⟨rows, rfl, nd, H⟩ := dicL_of (H.ent (l' := dicAt dl false nmD sdAt t :: tableAt o [] :: tableAt k t :: dieAt d :: F) (by fail "ent"))
      refine sx_lockL H .here rfl fun S H => ?_
      apply sx_for
      refine sx_wDicL H .here rfl ?_
      refine sx_inv (fun ys L S => ∃ (pre post : List (Nm × Nat × List Int)) (b4 : Option D), rows = pre ++ post ∧ ys = post.map (fun q => nmD q.1) ∧
        L = [some (.ref n0), some (.ref d), b2, some (.ref o), b4, some (.ref k), some (.ref dl), b7, b8, b9] ∧
        St (dicL dl true nmD sdAt rows :: tableAt o (strip pre) :: tableAt k (strip rows) :: dieAt d :: F) S)
        (fun ys L S ⟨_, _, _, _, _, _, H⟩ => dicL_chk H .here) ⟨[], rows, _, rfl, rfl, rfl, H⟩ ?_ ?_
      rotate_left
      · rintro y ys L S ⟨pre, post, b4, e1, e2, rfl, H⟩
        cases post with
        | nil => cases e2
        | cons q post =>
          rw [List.map_cons] at e2
          obtain ⟨rfl, rfl⟩ := List.cons.inj e2
          subst e1
          have hq : q ∈ pre ++ q :: post := by simp
          have hm : (q.1, q.2.2) ∈ strip (pre ++ q :: post) := List.mem_map.mpr ⟨q, hq, rfl⟩
          have hb : okBeg q.1 = true := hw.beg _ hm
          have hlp : (strip pre).length ≤ (strip (pre ++ q :: post)).length := by rw [strip_app]; simp
          have hn : aget q.1 (strip pre) = none := by
            rw [strip_app] at nd
            exact aget_none.mpr (nodup_mid (r1 := strip pre) (r2 := strip post) (x := q.2.2) nd).1
          have H := dicL_row.mp H
          fail "sx"
          refine sx_dget H (by fail "pk") (key_ok hb) (kget_mem nm_ki nd hq) ?_
          fail "sx"
          refine tput_st (H.ent (by fail "ent")) hb (hs _ hm) (by unfold sz; omega) fun S H => ?_
          have e4 : aput q.1 q.2.2 (strip pre) = strip (pre ++ [q]) := by
            rw [aput_new hn, strip_app]
            rfl
          rw [e4] at H
          refine ⟨pre ++ [q], post, _, by simp, rfl, rfl, dicL_row.mpr (H.ent (by fail "ent"))⟩
      · rintro L S ⟨pre, post, b4, e1, e2, rfl, H⟩
        have e3 : post = [] := by simpa using e2.symm
        subst e3
        rw [List.append_nil] at e1
        subst e1
        refine ⟨_, H, fun S H => ?_⟩
        have H := St.swap (dicL_to H nd)
        generalize strip rows = t at H nd hw hs hl hz
        clear e2
        apply sx_seq
        apply sx_if
        apply sx_tOr
        apply sx_tNot
        fail "sx"
        have e1 : (decide (t.length = t.length) && decide (∀ q ∈ t, aget q.1 t = some q.2)) = true := by
          rw [decide_eq_true (rfl : t.length = t.length), decide_eq_true (aget_self nd)]
          rfl
        refine sx_teq (t := t) (t' := t) (H.ent (by fail "ent")) ?_
        rw [e1]
        refine ⟨true, rfl, ?_⟩
        rw [if_neg (by decide)]
        apply sx_tOr
        fail "sx"
        refine sx_teq (t := t) (t' := t) (H.ent (by fail "ent")) ?_
        rw [e1]
        refine ⟨false, rfl, ?_⟩
        rw [if_neg (by decide)]
        fail "sx"
        refine sx_teqd (t := t) (t' := t) (H.ent (by fail "ent")) ?_
        refine ⟨false, rfl, ?_⟩
        fail "sx"
        refine tput_st (b := [[122, 122]]) (s := [3]) (H.ent (by fail "ent")) (by decide) ⟨by decide, by decide, by decide⟩ (by unfold sz; omega) fun S H => ?_
        have hn : aget [[122, 122]] t = none := aget_none.mpr fun z => by
          obtain ⟨q, hq, e⟩ := List.mem_map.mp z
          have := (hw q hq).1 [122, 122] (by rw [e]; simp)
          exact absurd this (by decide)
        rw [aput_new hn] at H
        fail "sx"
        apply sx_tOr
        fail "sx"
        refine sx_teq (t := t) (t' := t ++ [([[122, 122]], [3])]) (H.ent (by fail "ent")) ?_
        rw [show decide (t.length = (t ++ [(([[122, 122]] : Nm), ([3] : List Int))]).length) = false from by simp]
        refine ⟨false, rfl, ?_⟩
        rw [if_neg (by decide)]
        fail "sx"
        rename Nat => u
        refine tinit_st (H.ent (by fail "ent")) fun S H => ?_
        refine ⟨rfl, ?_⟩
        fail "sx"
        rename Nat => v
        refine tinit_st (H.ent (by fail "ent")) fun S H => ?_
        refine ⟨rfl, ?_⟩
        refine sx_teq (t := []) (t' := []) (H.ent (by fail "ent")) ?_
        refine ⟨false, rfl, ?_⟩
        rw [if_neg (by decide)]
        fail "sx"
        exact ⟨⟨_, rfl, rfl⟩, H.ent (by fail "ent")⟩
end MP

namespace MPH
open PySem PySem.Spec PyProof.Rows L2 MP
def dfs_0 : He.DefD := ⟨("is_number", none), "is_number", "is_number", defArgs st_is_number, defBody st_is_number, defScope st_is_number, [.non], []⟩
def dfs_1 : He.DefD := ⟨("Table", some "__len__"), "__len__", "Table.__len__", defArgs st_Table___len__, defBody st_Table___len__, defScope st_Table___len__, [], []⟩
def dfs_2 : He.DefD := ⟨("is_part", none), "is_part", "is_part", defArgs st_is_part, defBody st_is_part, defScope st_is_part, [], []⟩
def dfs_3 : He.DefD := ⟨("is_beginning", none), "is_beginning", "is_beginning", defArgs st_is_beginning, defBody st_is_beginning, defScope st_is_beginning, [], []⟩
def dfs_4 : He.DefD := ⟨("is_name", none), "is_name", "is_name", defArgs st_is_name, defBody st_is_name, defScope st_is_name, [], []⟩
def dfs_5 : He.DefD := ⟨("need_beginning", none), "need_beginning", "need_beginning", defArgs st_need_beginning, defBody st_need_beginning, defScope st_need_beginning, [], []⟩
def dfs_6 : He.DefD := ⟨("need_name", none), "need_name", "need_name", defArgs st_need_name, defBody st_need_name, defScope st_need_name, [], []⟩
def dfs_7 : He.DefD := ⟨("is_side", none), "is_side", "is_side", defArgs st_is_side, defBody st_is_side, defScope st_is_side, [], []⟩
def dfs_8 : He.DefD := ⟨("need_sides", none), "need_sides", "need_sides", defArgs st_need_sides, defBody st_need_sides, defScope st_need_sides, [], []⟩
def dfs_9 : He.DefD := ⟨("Table", some "__init__"), "__init__", "Table.__init__", defArgs st_Table___init__, defBody st_Table___init__, defScope st_Table___init__, [], []⟩
def dfs_10 : He.DefD := ⟨("Table", some "__eq__"), "__eq__", "Table.__eq__", defArgs st_Table___eq__, defBody st_Table___eq__, defScope st_Table___eq__, [], []⟩
def dfs_11 : He.DefD := ⟨("Table", some "put"), "put", "Table.put", defArgs st_Table_put, defBody st_Table_put, defScope st_Table_put, [], []⟩
def dfs_12 : He.DefD := ⟨("Table", some "drop"), "drop", "Table.drop", defArgs st_Table_drop, defBody st_Table_drop, defScope st_Table_drop, [], []⟩
def dfs_13 : He.DefD := ⟨("Table", some "longest"), "longest", "Table.longest", defArgs st_Table_longest, defBody st_Table_longest, defScope st_Table_longest, [], []⟩
def dfs_14 : He.DefD := ⟨("Table", some "found"), "found", "Table.found", defArgs st_Table_found, defBody st_Table_found, defScope st_Table_found, [], []⟩
def dfs_15 : He.DefD := ⟨("Table", some "way"), "way", "Table.way", defArgs st_Table_way, defBody st_Table_way, defScope st_Table_way, [], []⟩
def dfs_16 : He.DefD := ⟨("Table", some "sides"), "sides", "Table.sides", defArgs st_Table_sides, defBody st_Table_sides, defScope st_Table_sides, [], []⟩
def dfs_17 : He.DefD := ⟨("Table", some "rows"), "rows", "Table.rows", defArgs st_Table_rows, defBody st_Table_rows, defScope st_Table_rows, [], []⟩
def dfs_18 : He.DefD := ⟨("_law_cell", none), "_law_cell", "_law_cell", defArgs st__law_cell, defBody st__law_cell, defScope st__law_cell, [], []⟩
def dfs_19 : He.DefD := ⟨("_law_drawn", none), "_law_drawn", "_law_drawn", defArgs st__law_drawn, defBody st__law_drawn, defScope st__law_drawn, [], []⟩
def dfs_20 : He.DefD := ⟨("_law_roll", none), "_law_roll", "_law_roll", defArgs st__law_roll, defBody st__law_roll, defScope st__law_roll, [], []⟩
def dfs_21 : He.DefD := ⟨("_law_rounds", none), "_law_rounds", "_law_rounds", defArgs st__law_rounds, defBody st__law_rounds, defScope st__law_rounds, [], []⟩
def dfs_22 : He.DefD := ⟨("_law_word", none), "_law_word", "_law_word", defArgs st__law_word, defBody st__law_word, defScope st__law_word, [], []⟩
def dfs_23 : He.DefD := ⟨("_law_told", none), "_law_told", "_law_told", defArgs st__law_told, defBody st__law_told, defScope st__law_told, [], []⟩
def dfs_24 : He.DefD := ⟨("_law_head", none), "_law_head", "_law_head", defArgs st__law_head, defBody st__law_head, defScope st__law_head, [], []⟩
def dfs_25 : He.DefD := ⟨("_law_any_name", none), "_law_any_name", "_law_any_name", defArgs st__law_any_name, defBody st__law_any_name, defScope st__law_any_name, [], []⟩
def dfs_26 : He.DefD := ⟨("_law_some_sides", none), "_law_some_sides", "_law_some_sides", defArgs st__law_some_sides, defBody st__law_some_sides, defScope st__law_some_sides, [], []⟩
def dfs_27 : He.DefD := ⟨("_law_longest", none), "_law_longest", "_law_longest", defArgs st__law_longest, defBody st__law_longest, defScope st__law_longest, [], []⟩
def dfs_28 : He.DefD := ⟨("_law_found", none), "_law_found", "_law_found", defArgs st__law_found, defBody st__law_found, defScope st__law_found, [], []⟩
def dfs_29 : He.DefD := ⟨("law", none), "law", "law", defArgs st_law, defBody st_law, defScope st_law, [], []⟩
def dfs : List He.DefD := ([dfs_0, dfs_1, dfs_2, dfs_3, dfs_4, dfs_5, dfs_6, dfs_7, dfs_8, dfs_9, dfs_10, dfs_11, dfs_12, dfs_13, dfs_14, dfs_15, dfs_16, dfs_17, dfs_18, dfs_19, dfs_20, dfs_21, dfs_22, dfs_23, dfs_24, dfs_25, dfs_26, dfs_27, dfs_28, dfs_29] : List He.DefD)
def fas : List He.Fa := ([.free "isinstance", .free "int", .free "bool", .free "len", .cls "Table", .noat "Table" "lines", .free "str", .free "all", .str "SIGNS" "abcdefghijklmnopqrstuvwxyz0123456789", .free "tuple", .int "MOST_PARTS" 5, .exc "BadName", .glo "BadName", .int "HOUSES" 8, .free "list", .free "set", .exc "BadSides", .glo "BadSides", .glo "Table", .free "range", .free "sorted", .free "max", .free "min", .glo "BadNumber", .glo "BadLetter", .glo "NoHouse", .glo "NoWay", .glo "NoLetter", .glo "Gone", .glo "BadStory", .free "sum", .free "ValueError", .glo "WantError", .glo "is_number", .meth "Table" "__len__", .glo "is_part", .glo "is_beginning", .glo "is_name", .glo "need_beginning", .glo "need_name"] : List He.Fa) ++ ([.glo "is_side", .glo "need_sides", .mkr "Table", .meth "Table" "__eq__", .meth "Table" "put", .meth "Table" "drop", .meth "Table" "longest", .meth "Table" "found", .meth "Table" "way", .meth "Table" "sides", .meth "Table" "rows", .glo "_law_cell", .glo "_law_drawn", .glo "_law_roll", .glo "_law_rounds", .glo "_law_word", .glo "_law_told", .glo "_law_head", .glo "_law_any_name", .glo "_law_some_sides", .glo "_law_longest", .glo "_law_found", .glo "law"] : List He.Fa)
def loose : List PySem.Str := ([Str.ofString "_wall", Str.ofString "WantError", Str.ofString "Gone", Str.ofString "BadName", Str.ofString "BadSides", Str.ofString "BadNumber", Str.ofString "BadLetter", Str.ofString "NoHouse", Str.ofString "NoWay", Str.ofString "NoLetter", Str.ofString "BadStory", Str.ofString "SIGNS", Str.ofString "MOST_PARTS", Str.ofString "HOUSES", Str.ofString "is_number", Str.ofString "is_part", Str.ofString "is_beginning", Str.ofString "is_name", Str.ofString "need_beginning", Str.ofString "need_name", Str.ofString "is_side", Str.ofString "need_sides", Str.ofString "Table", Str.ofString "_law_cell", Str.ofString "_law_drawn", Str.ofString "_law_roll", Str.ofString "_law_rounds", Str.ofString "_law_word", Str.ofString "_law_told", Str.ofString "_law_head", Str.ofString "_law_any_name", Str.ofString "_law_some_sides", Str.ofString "_law_longest", Str.ofString "_law_found"] : List Str)
def tfs : List He.Defn := [("_law_longest", none), ("law", none)]
def os_ : List PySem.Str := ["Table"]
abbrev R : PySem.W.OpenRow := PySem.W.OpenLaw.row PySem.Challenge.rw_namewants_k20_whole_tables
abbrev hk : PySem.W.Hook := He.hookX 5 fas dfs [] tfs (exN 9 tfs os_)
def ob (s : PySem.W.SharedT) : He.AlX := He.obsX 5 fas dfs [] tfs (exN 9 tfs os_) (HandSHeadRun.getT s)
theorem ob_eq (s : PySem.W.SharedT) : ob s = hk.obs s.abs := He.obsX_eq (HandSHeadRun.getT_eq s)
theorem run (w : World) : HandSHeadRun.RunEq R (PySem.W.view R.prog [38]) hk ob 20000 loose w := by
  intro os
  kernel_rfl
def mkG (P : Program) (w : World) (K : PySem.W.Frag) (mg : Str → Option Value) (base : Heap) : G := ⟨P, w, K, mg, base, fun i => He.ga K (clsN.getD i "object"), FN, FN_inj, fun i => excAt K i, tfs.map fun p => ((He.cT K p).2, lamQ p.1)⟩
theorem tab_at {K : PySem.W.Frag} {mg : Str → Option Value} {base : Heap} {q : Str} {oc : Value} {od : Option Addr} {fd : FuncData} {osl : Array (Option Value)} {c : Addr} (lk : K.lookup (He.fAd K (q, none)) = some ⟨oc, od, .func fd, osl⟩) (e : fd.code = .ref c) (htb : ∀ p ∈ tfs.map (He.cT K), LamX.TabB base mg p.1 p.2) (hn : (tfs.map fun p => (He.cT K p).2).Nodup) (hq : (q, none) ∈ tfs) :
    ∃ P : Addr, LamX.TabB base mg c P ∧ (P, lamQ q) ∈ (tfs.map fun p => ((He.cT K p).2, lamQ p.1)) ∧ ∀ p ∈ (tfs.map fun p => ((He.cT K p).2, lamQ p.1)), p.1 = P → p.2 = lamQ q := by
  have ec := He.codeOf_eq (p := (q, none)) lk e
  subst ec
  refine ⟨(He.cT K (q, none)).2, htb _ (List.mem_map.mpr ⟨_, hq, rfl⟩), List.mem_map.mpr ⟨_, hq, rfl⟩, fun p hp e => ?_⟩
  obtain ⟨p1, h1, rfl⟩ := List.mem_map.mp hp
  have := MP.nodup_map_inj hn h1 hq e
  rw [this]
theorem facts {P : Program} {w : World} {K : PySem.W.Frag} {h : Heap} {mg : Str → Option Value} {base : Heap} (X : K.In h) (Gn : h.Ns mainGlobals mg) (cX : He.SaysX fas dfs [] tfs (exN 9 tfs os_) w h K) (htb : ∀ p ∈ tfs.map (He.cT K), LamX.TabB base mg p.1 p.2) : Tx (mkG P w K mg base) :=
  have c := cX.t.d
  ⟨rfl,
   He.free_ok X Gn (c.fact 0 (f := .free "isinstance") rfl),
   He.free_ok X Gn (c.fact 1 (f := .free "int") rfl),
   He.free_ok X Gn (c.fact 2 (f := .free "bool") rfl),
   He.free_ok X Gn (c.fact 3 (f := .free "len") rfl),
   He.cls_ok (c.fact 4 (f := .cls "Table") rfl),
   He.noat_ok (c.fact 5 (f := .noat "Table" "lines") rfl),
   He.free_ok X Gn (c.fact 6 (f := .free "str") rfl),
   He.free_ok X Gn (c.fact 7 (f := .free "all") rfl),
   He.str_ok X Gn (c.fact 8 (f := .str "SIGNS" "abcdefghijklmnopqrstuvwxyz0123456789") rfl),
   He.free_ok X Gn (c.fact 9 (f := .free "tuple") rfl),
   He.int_ok X Gn (c.fact 10 (f := .int "MOST_PARTS" 5) rfl),
   ⟨He.glo_ok X Gn (c.fact 12 (f := .glo "BadName") rfl), (He.exc_ok (c.fact 11 (f := .exc "BadName") rfl)).1, (He.exc_ok (c.fact 11 (f := .exc "BadName") rfl)).2.1, (He.exc_ok (c.fact 11 (f := .exc "BadName") rfl)).2.2.1, (He.exc_ok (c.fact 11 (f := .exc "BadName") rfl)).2.2.2⟩,
   He.int_ok X Gn (c.fact 13 (f := .int "HOUSES" 8) rfl),
   He.free_ok X Gn (c.fact 14 (f := .free "list") rfl),
   He.free_ok X Gn (c.fact 15 (f := .free "set") rfl),
   ⟨He.glo_ok X Gn (c.fact 17 (f := .glo "BadSides") rfl), (He.exc_ok (c.fact 16 (f := .exc "BadSides") rfl)).1, (He.exc_ok (c.fact 16 (f := .exc "BadSides") rfl)).2.1, (He.exc_ok (c.fact 16 (f := .exc "BadSides") rfl)).2.2.1, (He.exc_ok (c.fact 16 (f := .exc "BadSides") rfl)).2.2.2⟩,
   He.glo_ok X Gn (c.fact 18 (f := .glo "Table") rfl),
   exN_own (c := "Table") cX.more (by decide),
   He.free_ok X Gn (c.fact 19 (f := .free "range") rfl),
   He.free_ok X Gn (c.fact 20 (f := .free "sorted") rfl),
   He.free_ok X Gn (c.fact 21 (f := .free "max") rfl),
   He.free_ok X Gn (c.fact 22 (f := .free "min") rfl),
   He.glo_ok X Gn (c.fact 12 (f := .glo "BadName") rfl),
   He.glo_ok X Gn (c.fact 17 (f := .glo "BadSides") rfl),
   He.glo_ok X Gn (c.fact 23 (f := .glo "BadNumber") rfl),
   He.glo_ok X Gn (c.fact 24 (f := .glo "BadLetter") rfl),
   He.glo_ok X Gn (c.fact 25 (f := .glo "NoHouse") rfl),
   He.glo_ok X Gn (c.fact 26 (f := .glo "NoWay") rfl),
   He.glo_ok X Gn (c.fact 27 (f := .glo "NoLetter") rfl),
   He.glo_ok X Gn (c.fact 28 (f := .glo "Gone") rfl),
   He.glo_ok X Gn (c.fact 29 (f := .glo "BadStory") rfl),
   He.free_ok X Gn (c.fact 30 (f := .free "sum") rfl),
   He.free_ok X Gn (c.fact 31 (f := .free "ValueError") rfl),
   He.glo_ok X Gn (c.fact 32 (f := .glo "WantError") rfl),
   (let ⟨fd, F⟩ := c.def_ 0 (d := dfs_0) rfl; ⟨_, fd, F, He.glo_ok X Gn (c.fact 33 (f := .glo "is_number") rfl)⟩),
   (let ⟨fd, F⟩ := c.def_ 1 (d := dfs_1) rfl; ⟨_, fd, F, He.cls_ok (c.fact 4 (f := .cls "Table") rfl), He.meth_ok (c.fact 34 (f := .meth "Table" "__len__") rfl)⟩),
   (let ⟨fd, F⟩ := c.def_ 2 (d := dfs_2) rfl; ⟨_, fd, F, He.glo_ok X Gn (c.fact 35 (f := .glo "is_part") rfl)⟩),
   (let ⟨fd, F⟩ := c.def_ 3 (d := dfs_3) rfl; ⟨_, fd, F, He.glo_ok X Gn (c.fact 36 (f := .glo "is_beginning") rfl)⟩),
   (let ⟨fd, F⟩ := c.def_ 4 (d := dfs_4) rfl; ⟨_, fd, F, He.glo_ok X Gn (c.fact 37 (f := .glo "is_name") rfl)⟩),
   (let ⟨fd, F⟩ := c.def_ 5 (d := dfs_5) rfl; ⟨_, fd, F, He.glo_ok X Gn (c.fact 38 (f := .glo "need_beginning") rfl)⟩),
   (let ⟨fd, F⟩ := c.def_ 6 (d := dfs_6) rfl; ⟨_, fd, F, He.glo_ok X Gn (c.fact 39 (f := .glo "need_name") rfl)⟩),
   (let ⟨fd, F⟩ := c.def_ 7 (d := dfs_7) rfl; ⟨_, fd, F, He.glo_ok X Gn (c.fact 40 (f := .glo "is_side") rfl)⟩),
   (let ⟨fd, F⟩ := c.def_ 8 (d := dfs_8) rfl; ⟨_, fd, F, He.glo_ok X Gn (c.fact 41 (f := .glo "need_sides") rfl)⟩),
   (let ⟨fd, F⟩ := c.def_ 9 (d := dfs_9) rfl; ⟨_, fd, F, He.glo_ok X Gn (c.fact 18 (f := .glo "Table") rfl), He.mkr_ok (c.fact 42 (f := .mkr "Table") rfl)⟩),
   (let ⟨fd, F⟩ := c.def_ 10 (d := dfs_10) rfl; ⟨_, fd, F, He.cls_ok (c.fact 4 (f := .cls "Table") rfl), He.meth_ok (c.fact 43 (f := .meth "Table" "__eq__") rfl)⟩),
   (let ⟨fd, F⟩ := c.def_ 11 (d := dfs_11) rfl; ⟨_, fd, F, He.cls_ok (c.fact 4 (f := .cls "Table") rfl), He.meth_ok (c.fact 44 (f := .meth "Table" "put") rfl)⟩),
   (let ⟨fd, F⟩ := c.def_ 12 (d := dfs_12) rfl; ⟨_, fd, F, He.cls_ok (c.fact 4 (f := .cls "Table") rfl), He.meth_ok (c.fact 45 (f := .meth "Table" "drop") rfl)⟩),
   (let ⟨fd, F⟩ := c.def_ 13 (d := dfs_13) rfl; ⟨_, fd, F, He.cls_ok (c.fact 4 (f := .cls "Table") rfl), He.meth_ok (c.fact 46 (f := .meth "Table" "longest") rfl)⟩),
   (let ⟨fd, F⟩ := c.def_ 14 (d := dfs_14) rfl; ⟨_, fd, F, He.cls_ok (c.fact 4 (f := .cls "Table") rfl), He.meth_ok (c.fact 47 (f := .meth "Table" "found") rfl)⟩),
   (let ⟨fd, F⟩ := c.def_ 15 (d := dfs_15) rfl; ⟨_, fd, F, He.cls_ok (c.fact 4 (f := .cls "Table") rfl), He.meth_ok (c.fact 48 (f := .meth "Table" "way") rfl)⟩),
   (let ⟨fd, F⟩ := c.def_ 16 (d := dfs_16) rfl; ⟨_, fd, F, He.cls_ok (c.fact 4 (f := .cls "Table") rfl), He.meth_ok (c.fact 49 (f := .meth "Table" "sides") rfl)⟩),
   (let ⟨fd, F⟩ := c.def_ 17 (d := dfs_17) rfl; ⟨_, fd, F, He.cls_ok (c.fact 4 (f := .cls "Table") rfl), He.meth_ok (c.fact 50 (f := .meth "Table" "rows") rfl)⟩),
   (let ⟨fd, F⟩ := c.def_ 18 (d := dfs_18) rfl; ⟨_, fd, F, He.glo_ok X Gn (c.fact 51 (f := .glo "_law_cell") rfl)⟩),
   (let ⟨fd, F⟩ := c.def_ 19 (d := dfs_19) rfl; ⟨_, fd, F, He.glo_ok X Gn (c.fact 52 (f := .glo "_law_drawn") rfl)⟩),
   (let ⟨fd, F⟩ := c.def_ 20 (d := dfs_20) rfl; ⟨_, fd, F, He.glo_ok X Gn (c.fact 53 (f := .glo "_law_roll") rfl)⟩),
   (let ⟨fd, F⟩ := c.def_ 21 (d := dfs_21) rfl; ⟨_, fd, F, He.glo_ok X Gn (c.fact 54 (f := .glo "_law_rounds") rfl)⟩),
   (let ⟨fd, F⟩ := c.def_ 22 (d := dfs_22) rfl; ⟨_, fd, F, He.glo_ok X Gn (c.fact 55 (f := .glo "_law_word") rfl)⟩),
   (let ⟨fd, F⟩ := c.def_ 23 (d := dfs_23) rfl; ⟨_, fd, F, He.glo_ok X Gn (c.fact 56 (f := .glo "_law_told") rfl)⟩),
   (let ⟨fd, F⟩ := c.def_ 24 (d := dfs_24) rfl; ⟨_, fd, F, He.glo_ok X Gn (c.fact 57 (f := .glo "_law_head") rfl)⟩),
   (let ⟨fd, F⟩ := c.def_ 25 (d := dfs_25) rfl; ⟨_, fd, F, He.glo_ok X Gn (c.fact 58 (f := .glo "_law_any_name") rfl)⟩),
   (let ⟨fd, F⟩ := c.def_ 26 (d := dfs_26) rfl; ⟨_, fd, F, He.glo_ok X Gn (c.fact 59 (f := .glo "_law_some_sides") rfl)⟩),
   (let ⟨fd, F⟩ := c.def_ 27 (d := dfs_27) rfl; ⟨_, fd, F, He.glo_ok X Gn (c.fact 60 (f := .glo "_law_longest") rfl), fun oc od osl cc lk e => tab_at (q := "_law_longest") lk e htb (exN_nodup cX.more) (by decide)⟩),
   (let ⟨fd, F⟩ := c.def_ 28 (d := dfs_28) rfl; ⟨_, fd, F, He.glo_ok X Gn (c.fact 61 (f := .glo "_law_found") rfl)⟩),
   (let ⟨fd, F⟩ := c.def_ 29 (d := dfs_29) rfl; ⟨_, fd, F, He.glo_ok X Gn (c.fact 62 (f := .glo "law") rfl), fun oc od osl cc lk e => tab_at (q := "law") lk e htb (exN_nodup cX.more) (by decide)⟩),
   fun _ hc => (exB_ok (exN_ok cX.more) hc).1,
   fun _ hc j hj => (exB_ok (exN_ok cX.more) hc).2.1 j hj,
   fun _ hc => (exB_ok (exN_ok cX.more) hc).2.2.1,
   fun _ hc => (exB_ok (exN_ok cX.more) hc).2.2.2⟩
theorem says {P : Program} {w : World} {K : PySem.W.Frag} {h : Heap} {mg : Str → Option Value} {f : Addr} (X : K.In h) (Gn : h.Ns mainGlobals mg) (hfa : mg ("law" : Str) = some (.ref f)) (cX : He.SaysX fas dfs [] tfs (exN 9 tfs os_) w h K) :
    ∃ fd : FuncData, (∀ (s : Shared) (v : Value), BindsTo s fd ⟨[v], []⟩ [("_law_script", v)]) ∧ ∀ base : Heap, K.In base → base.Ns mainGlobals mg → (∀ p ∈ tfs.map (He.cT K), LamX.TabB base mg p.1 p.2) → FnOk P w K mg base (L2N.CX P w) 7 f fd ["_law_script"] (spL K (tfs.map fun p => ((He.cT K p).2, lamQ p.1))) := by
  have c := cX.t.d
  obtain ⟨fd, F⟩ := c.def_ 29 (d := dfs_29) rfl
  have e := hfa.symm.trans (He.glo_ok X Gn (c.fact 62 (f := .glo "law") rfl))
  cases e
  have b := FunD.bindsA (ps := ["_law_script"]) F fun _ _ _ _ _ _ us hl => match us, hl with | [_], _ => rfl
  exact ⟨fd, fun s v => b s [v] rfl, fun base _ _ htb => FOk.law (g := mkG P w K mg base) (fk_law (g := mkG P w K mg base) (facts X Gn cX htb) F fun oc od osl cc lk e => tab_at (q := "law") lk e htb (exN_nodup cX.more) (by decide)) law_k20⟩
end MPH
open PySem PySem.W PySem.Calls PyProof.Rows
theorem PySem.Challenge.cw_namewants_k20_whole_tables_holds : PySem.Challenge.rw_namewants_k20_whole_tables.Holds := by
  w_on; o_law
  refine HandSHeadRun.head_any (r := OpenLaw.row PySem.Challenge.rw_namewants_k20_whole_tables) (q := view (OpenLaw.row PySem.Challenge.rw_namewants_k20_whole_tables).prog [38]) (H := MPH.hk) (ob := MPH.ob) (M := 20000) (loose := MPH.loose) (d := HandSHeadRun.topDef (OpenLaw.row PySem.Challenge.rw_namewants_k20_whole_tables).prog 38) (kwd := []) MPH.ob_eq
    (by kernel_rfl) (fun s => by kernel_rfl) MPH.run (by kernel_rfl) (by kernel_rfl) (by kernel_rfl) (by rfl) (by first | assumption | decide +kernel) (by decide +kernel) ⟨rfl, rfl, rfl, rfl, rfl, by decide +kernel⟩ ?hw ?hc
  case hw => w_witness2
  case hc =>
    refine LamX.walk_ofTsE (l := PySem.Challenge.rw_namewants_k20_whole_tables) (n := 63) (k := 7) (x := "_law_script") (CX := fun w => L2N.CX PySem.Challenge.rw_namewants_k20_whole_tables.prog w) rfl (by decide) (by kernel_rfl) ⟨rfl, by decide, by decide⟩ ?F (fun w => MP.cx_no)
    intro w mg fa h Y Gn hmg0
    obtain ⟨K, KX, c⟩ := Y
    have hmg : mg ("law" : PySem.Str) = some (.ref fa) := by
      have e : (HandSHeadRun.topDef (OpenLaw.row PySem.Challenge.rw_namewants_k20_whole_tables).prog 38).name = ("law" : PySem.Str) := by kernel_rfl
      rw [← e]
      exact hmg0
    obtain ⟨fd, hb, hF⟩ := MPH.says (P := (PySem.Challenge.rw_namewants_k20_whole_tables).prog) (w := w) KX Gn hmg c
    refine ⟨K, KX, fd, MPH.tfs.map (He.cT K), _, (fun p hp => ?_), (fun p hp => ?_), (fun p hp => ?_), hb, fun H a ns hl _ ht hS => ⟨a, ns, rfl, hl, hS, MP.tabs_of ht (fun q hq => ?_), fun _ => rfl⟩, fun base h1 h2 h3 => hF base h1 h2 h3⟩
    · obtain ⟨q, hq, rfl⟩ := List.mem_map.mp hp
      exact c.empty q hq
    · obtain ⟨q, hq, rfl⟩ := List.mem_map.mp hp
      exact c.out q hq
    · obtain ⟨q, hq, rfl⟩ := List.mem_map.mp hp
      exact PySem.W.codeHd_of_K KX (c.hd q hq)
    · obtain ⟨p, hp, rfl⟩ := List.mem_map.mp hq
      exact ⟨_, List.mem_map.mpr ⟨p, hp, rfl⟩, rfl⟩

