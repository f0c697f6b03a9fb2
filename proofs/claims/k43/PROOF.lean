import PyProof.Rows.All
import Wide.All
import OpenK.AllK
import Wide.FinOn
import PySem.Challenge.RW_namewants_k43_houses_refused
import HandS.Conv
import HandS.Deep
import HandS.Defaults
import HandS.DictTup
import HandS.Exc
import HandS.ExcCtx
import HandS.ExcIs
import HandS.ExcOwn
import HandS.ForDict
import HandS.ForMost
import HandS.Head0
import HandS.Head1
import HandS.Head2
import HandS.HeadEnd
import HandS.HeadHook1
import HandS.HeadHook2
import HandS.HeadHook3
import HandS.HeadHook4
import HandS.HeadWalk
import HandS.HotCalls
import HandS.IsInst
import HandS.Lambda
import HandS.MakeKwOnly
import HandS.More
import HandS.Small
import HandS.SortOrd
import HandS.Style
import HandS.Text
import HandS.TupAny
import HandS.TupLe
import HandS.TupLen
import HandS.TupMul
import HandS.Wide
import KE.KDictList
import KE.SortData
import KE.SortKeyed
import PyProof.DictMoreH
import PyProof.P3Statements
import PyProof.Rows.SetFrom
import PyProof.StrLawsChain
import PyProof.StrLawsTight
import PySem.Str
set_option Elab.async false
set_option linter.all false
set_option autoImplicit false
set_option maxRecDepth 100000
set_option maxHeartbeats 0
namespace MP
open PySem (PyData)

/-- a value: immutable things by structure, lists, dicts, instances by a place in the store -/
inductive D where
  | non | bl (b : Bool) | int (i : Int) | str (x : List Nat) | tup (xs : List D) | ref (n : Nat) | exn (c : Nat) (p : List D)
mutual
def D.beq : D → D → Bool
  | .non, .non => true
  | .bl a, .bl b => a == b
  | .int a, .int b => a == b
  | .str a, .str b => a == b
  | .tup a, .tup b => D.beqs a b
  | .ref a, .ref b => a == b
  | .exn a p, .exn b q => a == b && D.beqs p q
  | _, _ => false
def D.beqs : List D → List D → Bool
  | [], [] => true
  | a :: as, b :: bs => D.beq a b && D.beqs as bs
  | _, _ => false
end
mutual
theorem D.beq_refl : ∀ a : D, D.beq a a = true
  | .non => rfl
  | .bl b => by simp [D.beq]
  | .int i => by simp [D.beq]
  | .str x => by simp [D.beq]
  | .tup xs => by simp only [D.beq]; exact D.beqs_refl xs
  | .ref n => by simp [D.beq]
  | .exn c p => by simp only [D.beq, beq_self_eq_true, Bool.true_and]; exact D.beqs_refl p
theorem D.beqs_refl : ∀ a : List D, D.beqs a a = true
  | [] => rfl
  | a :: as => by simp only [D.beqs, Bool.and_eq_true]; exact ⟨D.beq_refl a, D.beqs_refl as⟩
end
mutual
theorem D.eq_of_beq : ∀ a b : D, D.beq a b = true → a = b
  | .non, b, h => by cases b <;> first | rfl | (simp [D.beq] at h)
  | .bl x, b, h => by cases b <;> simp [D.beq] at h; rw [h]
  | .int x, b, h => by cases b <;> simp [D.beq] at h; rw [h]
  | .str x, b, h => by cases b <;> simp [D.beq] at h; rw [h]
  | .tup xs, b, h => by
    cases b <;> simp only [D.beq, Bool.false_eq_true] at h
    rw [D.eq_of_beqs _ _ h]
  | .ref x, b, h => by cases b <;> simp [D.beq] at h; rw [h]
  | .exn c p, b, h => by
    cases b <;> simp only [D.beq, Bool.false_eq_true, Bool.and_eq_true, beq_iff_eq] at h
    rw [D.eq_of_beqs _ _ h.2, h.1]
theorem D.eq_of_beqs : ∀ a b : List D, D.beqs a b = true → a = b
  | [], b, h => by cases b <;> first | rfl | (simp [D.beqs] at h)
  | x :: xs, b, h => by
    cases b <;> simp only [D.beqs, Bool.false_eq_true, Bool.and_eq_true] at h
    rw [D.eq_of_beq _ _ h.1, D.eq_of_beqs _ _ h.2]
end
instance : DecidableEq D := fun a b => if h : D.beq a b = true then .isTrue (D.eq_of_beq a b h) else .isFalse (fun e => h (e ▸ D.beq_refl a))

/-- what stands in the store -/
inductive Ob where
  /-- a list; one that is only read (the script); a dict (its keys are tuples, it is walked just now); an instance -/
  | lst (xs : List D) | frz (xs : List D) | dic (t lk : Bool) (kvs : List (D × D)) | ins (c : Nat) (fs : List (Nat × D))
  deriving DecidableEq
abbrev Sto := List Ob
abbrev Loc := List (Option D)
/-- what is raised: its class, what it holds -/
structure Exc where
  c : Nat
  p : List D
  deriving DecidableEq
/-- how an expression ends -/
inductive R (α : Type) where
  | ok (a : α) (S : Sto) | exc (x : Exc) (S : Sto) | err
/-- how a statement ends -/
inductive RS where
  | nx (L : Loc) (S : Sto) | rt (d : D) (S : Sto) | bk (L : Loc) (S : Sto) | ct (L : Loc) (S : Sto) | exc (x : Exc) (L : Loc) (S : Sto) | err
def R.bind {α β : Type} (r : R α) (f : α → Sto → R β) : R β := match r with
  | .ok a S => f a S
  | .exc x S => .exc x S
  | .err => .err
@[simp] theorem R.bind_ok {α β : Type} (a : α) (S : Sto) (f : α → Sto → R β) : (R.ok a S).bind f = f a S := rfl
@[simp] theorem R.bind_exc {α β : Type} (x : Exc) (S : Sto) (f : α → Sto → R β) : (R.exc x S : R α).bind f = .exc x S := rfl
@[simp] theorem R.bind_err {α β : Type} (f : α → Sto → R β) : (R.err : R α).bind f = .err := rfl
def R.st {α : Type} (L : Loc) (r : R α) (f : α → Sto → RS) : RS := match r with
  | .ok a S => f a S
  | .exc x S => .exc x L S
  | .err => .err
@[simp] theorem R.st_ok {α : Type} (L : Loc) (a : α) (S : Sto) (f : α → Sto → RS) : (R.ok a S).st L f = f a S := rfl
@[simp] theorem R.st_exc {α : Type} (L : Loc) (x : Exc) (S : Sto) (f : α → Sto → RS) : (R.exc x S : R α).st L f = .exc x L S := rfl
@[simp] theorem R.st_err {α : Type} (L : Loc) (f : α → Sto → RS) : (R.err : R α).st L f = .err := rfl
abbrev EM := Loc → Sto → R D
abbrev AM := Loc → Sto → R (List D)
abbrev BM := Loc → Sto → R Bool
abbrev SM := Loc → Sto → RS
abbrev TM := D → Loc → Sto → R Loc
abbrev Fn := List D → Sto → R D
/-- a two-place operation on values -/
abbrev Op2 := D → D → Sto → R D
abbrev Op1 := D → Sto → R D

/-! ### expressions -/
def eC (d : D) : EM := fun _ S => .ok d S
def eV (i : Nat) : EM := fun L S => match L[i]? with
  | some (some d) => .ok d S
  | _ => .err
def eUn (f : Op1) (a : EM) : EM := fun L S => (a L S).bind fun x S1 => f x S1
def eBin (f : Op2) (a b : EM) : EM := fun L S => (a L S).bind fun x S1 => (b L S1).bind fun y S2 => f x y S2
def eIf (t : BM) (a b : EM) : EM := fun L S => (t L S).bind fun c S1 => if c = true then a L S1 else b L S1
def eAnd (a b : EM) : EM := fun L S => (a L S).bind fun x S1 => match x with
  | .bl true => b L S1
  | .bl false => .ok (.bl false) S1
  | _ => .err
def eOr (a b : EM) : EM := fun L S => (a L S).bind fun x S1 => match x with
  | .bl true => .ok (.bl true) S1
  | .bl false => b L S1
  | _ => .err
def eNot (a : EM) : EM := fun L S => (a L S).bind fun x S1 => match x with
  | .bl k => .ok (.bl (!k)) S1
  | _ => .err
def aNil : AM := fun _ S => .ok [] S
def aCons (a : EM) (as : AM) : AM := fun L S => (a L S).bind fun x S1 => (as L S1).bind fun xs S2 => .ok (x :: xs) S2
def sz : Nat := 16777216
def eTup (as : AM) : EM := fun L S => (as L S).bind fun xs S1 => if xs.length ≤ sz then .ok (.tup xs) S1 else .err
def eLst (as : AM) : EM := fun L S => (as L S).bind fun xs S1 => if xs.length ≤ sz then .ok (.ref S1.length) (S1 ++ [.lst xs]) else .err
def eDic (t : Bool) : EM := fun _ S => .ok (.ref S.length) (S ++ [.dic t false []])
def eCall (F : Fn) (as : AM) : EM := fun L S => (as L S).bind fun xs S1 => F xs S1
/-- C(..): a new instance, its __init__ -/
def eMake (c : Nat) (F : Fn) (as : AM) : EM := fun L S => (as L S).bind fun xs S1 =>
  (F (.ref S1.length :: xs) (S1 ++ [.ins c []])).bind fun v S2 => if v = .non then .ok (.ref S1.length) S2 else .err
def fget (f : Nat) : List (Nat × D) → Option D
  | [] => none
  | (g, d) :: r => if f = g then some d else fget f r
def fput (f : Nat) (v : D) : List (Nat × D) → List (Nat × D)
  | [] => [(f, v)]
  | (g, d) :: r => if g = f then (g, v) :: r else (g, d) :: fput f v r
/-- o.f, o of the class c -/
def opFld (c f : Nat) : Op1 := fun x S => match x with
  | .ref n => (match S[n]? with
    | some (.ins c' fs) => if c' = c then (match fget f fs with
      | some d => .ok d S
      | none => .err) else .err
    | _ => .err)
  | _ => .err
/-- o.m(..), o of the class c; m: the number of the method's name -/
def eMeth (c m : Nat) (F : Fn) (o : EM) (as : AM) : EM := fun L S => (o L S).bind fun x S1 => match x with
  | .ref n => (match S1[n]? with
    | some (.ins c' fs) => if c' = c ∧ fget m fs = none then (as L S1).bind fun xs S2 => F (.ref n :: xs) S2 else .err
    | _ => .err)
  | _ => .err

/-- a < b < c, b asked once -/
def eChain (f f' : Op2) (a b c : EM) : EM := fun L S => (a L S).bind fun x S1 => (b L S1).bind fun y S2 => (f x y S2).bind fun z S3 => match z with
  | .bl true => (c L S3).bind fun w S4 => f' y w S4
  | .bl false => .ok (.bl false) S3
  | _ => .err
/-- xs[::-1] -/
def opRev : Op1 := fun x S => match x with
  | .ref n => (match S[n]? with
    | some (.lst xs) => .ok (.ref S.length) (S ++ [.lst xs.reverse])
    | _ => .err)
  | _ => .err
/-! ### tests -/
def tV (a : EM) : BM := fun L S => (a L S).bind fun x S1 => match x with
  | .bl k => .ok k S1
  | _ => .err
def tAnd (a b : BM) : BM := fun L S => (a L S).bind fun c S1 => if c = true then b L S1 else .ok false S1
def tOr (a b : BM) : BM := fun L S => (a L S).bind fun c S1 => if c = true then .ok true S1 else b L S1
def tNot (a : BM) : BM := fun L S => (a L S).bind fun c S1 => .ok (!c) S1
def tYes : BM := fun _ S => .ok true S

/-! ### statements -/
def sNx : SM := fun L S => .nx L S
def sSeq (a b : SM) : SM := fun L S => match a L S with
  | .nx L1 S1 => b L1 S1
  | r => r
def sExpr (a : EM) : SM := fun L S => (a L S).st L fun _ S1 => .nx L S1
def sRet (a : EM) : SM := fun L S => (a L S).st L fun d S1 => .rt d S1
def sRetN : SM := fun _ S => .rt .non S
def sIf (t : BM) (a b : SM) : SM := fun L S => (t L S).st L fun c S1 => if c = true then a L S1 else b L S1
def sAsg (a : EM) (t : TM) : SM := fun L S => (a L S).st L fun d S1 => match t d L S1 with
  | .ok L1 S2 => .nx L1 S2
  | _ => .err
def sBrk : SM := fun L S => .bk L S
def sCnt : SM := fun L S => .ct L S
/-- raise C('..'), raise C(..) -/
def sRaise (c : Nat) (as : AM) : SM := fun L S => (as L S).st L fun xs S1 => .exc ⟨c, xs⟩ L S1

/-! ### targets -/
def gV (i : Nat) : TM := fun d L S => .ok (L.set i (some d)) S
def gNil : List D → Loc → Sto → R Loc := fun ds L S => if ds = [] then .ok L S else .err
def gCons (t : TM) (u : List D → Loc → Sto → R Loc) : List D → Loc → Sto → R Loc := fun ds L S => match ds with
  | d :: r => (t d L S).bind fun L1 S1 => u r L1 S1
  | [] => .err
def gTup (n : Nat) (u : List D → Loc → Sto → R Loc) : TM := fun d L S => match d with
  | .tup ds => if ds.length = n then u ds L S else .err
  | _ => .err
/-- o.f = .. -/
def gFld (c f : Nat) (o : EM) : TM := fun d L S => (o L S).bind fun x S1 => match x with
  | .ref n => (match S1[n]? with
    | some (.ins c' fs) => if c' = c ∧ fs.length < 1000 then .ok L (S1.set n (.ins c' (fput f d fs))) else .err
    | _ => .err)
  | _ => .err
/-- o[i] = .., by values -/
abbrev Set2 := D → D → D → Sto → R Unit
def gSub (f : Set2) (o i : EM) : TM := fun d L S => (o L S).bind fun x S1 => (i L S1).bind fun y S2 => (f x y d S2).bind fun _ S3 => .ok L S3

/-! ### loops -/
/-- what is walked: the items, what must stay true meanwhile -/
structure Wk where
  items : List D
  chk : Sto → Bool
abbrev WM := Loc → Sto → R Wk
def forL (chk : Sto → Bool) (tg : TM) (body : SM) : List D → SM
  | [], L, S => if chk S = true then .nx L S else .err
  | x :: xs, L, S => if chk S = true then (match tg x L S with
    | .ok L1 S1 => (match body L1 S1 with
      | .nx L2 S2 => forL chk tg body xs L2 S2
      | .ct L2 S2 => forL chk tg body xs L2 S2
      | .bk L2 S2 => .nx L2 S2
      | r => r)
    | _ => .err) else .err
def sFor (w : WM) (tg : TM) (body : SM) : SM := fun L S => (w L S).st L fun k S1 => forL k.chk tg body k.items L S1
def whileN (t : BM) (body : SM) : Nat → SM
  | 0, _, _ => .err
  | n + 1, L, S => (t L S).st L fun c S1 => if c = true then (match body L S1 with
    | .nx L2 S2 => whileN t body n L2 S2
    | .ct L2 S2 => whileN t body n L2 S2
    | .bk L2 S2 => .nx L2 S2
    | r => r) else .nx L S1
open Classical in
noncomputable def sWhile (t : BM) (body : SM) : SM := fun L S => if h : ∃ n, whileN t body n L S ≠ .err then whileN t body h.choose L S else .err
/-- what is walked is on its way changed by nobody -/
def wLst (a : EM) : WM := fun L S => (a L S).bind fun x S1 => match x with
  | .ref n => (match S1[n]? with
    | some (.lst xs) => .ok ⟨xs, fun S => decide (S[n]? = some (.lst xs))⟩ S1
    | _ => .err)
  | _ => .err
def wTup (a : EM) : WM := fun L S => (a L S).bind fun x S1 => match x with
  | .tup xs => .ok ⟨xs, fun _ => true⟩ S1
  | _ => .err
def rngD (lo : Int) (n : Nat) : List D := (List.range n).map fun i => .int (lo + (i : Nat))
def wRng1 (a : EM) : WM := fun L S => (a L S).bind fun x S1 => match x with
  | .int j => if -(2 ^ 62) ≤ j ∧ j < 2 ^ 62 then .ok ⟨rngD 0 j.toNat, fun _ => true⟩ S1 else .err
  | _ => .err
def wRng2 (a b : EM) : WM := fun L S => (a L S).bind fun x S1 => (b L S1).bind fun y S2 => match x, y with
  | .int i, .int j => if -(2 ^ 62) ≤ i ∧ i < 2 ^ 62 ∧ -(2 ^ 62) ≤ j ∧ j < 2 ^ 62 then .ok ⟨rngD i (j - i).toNat, fun _ => true⟩ S2 else .err
  | _, _ => .err

/-! ### comprehensions -/
def wipe (L : Loc) : List Nat → Loc
  | [] => L
  | v :: vs => (wipe L vs).set v none
/-- the list at n grows -/
def lcL (chk : Sto → Bool) (tg : TM) (t : BM) (e : EM) (L : Loc) (n : Nat) : List D → Sto → R D
  | [], S => if chk S = true then .ok (.ref n) S else .err
  | x :: xs, S => if chk S = true then (match tg x L S with
    | .ok L1 S1 => (match t L1 S1 with
      | .ok true S2 => (match e L1 S2 with
        | .ok y S3 => (match S3[n]? with
          | some (.lst acc) => if acc.length < sz then lcL chk tg t e L n xs (S3.set n (.lst (acc ++ [y]))) else .err
          | _ => .err)
        | _ => .err)
      | .ok false S2 => lcL chk tg t e L n xs S2
      | _ => .err)
    | _ => .err) else .err
def eLc (w : WM) (tg : TM) (t : BM) (e : EM) (vs : List Nat) : EM := fun L S => (w L S).bind fun k S1 => lcL k.chk tg t e (wipe L vs) S1.length k.items (S1 ++ [.lst []])

/-! ### defs -/
def fn (np nl : Nat) (body : SM) : Fn := fun ds S => if ds.length = np then (match body (ds.map some ++ List.replicate (nl - np) none) S with
  | .nx _ S1 => .ok .non S1
  | .rt d S1 => .ok d S1
  | .exc x _ S1 => .exc x S1
  | _ => .err) else .err

/-! ### data as it is compared -/
def reify : Nat → Sto → D → Option PyData
  | _, _, .non => some .none
  | _, _, .bl b => some (.bool b)
  | _, _, .int i => some (.int i)
  | _, _, .str x => some (.str ⟨x.toArray⟩)
  | n + 1, S, .tup xs => (xs.mapM (reify n S)).map .tuple
  | n + 1, S, .ref r => (match S[r]? with
    | some (.lst xs) => (xs.mapM (reify n S)).map .list
    | some (.frz xs) => (xs.mapM (reify n S)).map .list
    | _ => none)
  | _, _, _ => none
def opEq : Op2 := fun x y S => match reify 60 S x, reify 60 S y with
  | some p, some q => .ok (.bl (PyData.eqv p q)) S
  | _, _ => .err
def opNe : Op2 := fun x y S => match reify 60 S x, reify 60 S y with
  | some p, some q => .ok (.bl (!PyData.eqv p q)) S
  | _, _ => .err

/-! ### operators -/
def mulOk (i j : Int) : Bool := (decide (-(2 ^ 64) < i) && decide (i < 2 ^ 64)) || (decide (-(2 ^ 64) < j) && decide (j < 2 ^ 64)) || (decide (i.natAbs < 2 ^ 200) && decide (j.natAbs < 2 ^ 200))
def opAdd : Op2 := fun x y S => match x, y with
  | .int i, .int j => .ok (.int (i + j)) S
  | .str a, .str b => if a.length + b.length ≤ sz then .ok (.str (a ++ b)) S else .err
  | .tup a, .tup b => if a.length + b.length ≤ sz then .ok (.tup (a ++ b)) S else .err
  | .ref n, .ref m => (match S[n]?, S[m]? with
    | some (.lst a), some (.lst b) => if a.length + b.length ≤ sz then .ok (.ref S.length) (S ++ [.lst (a ++ b)]) else .err
    | _, _ => .err)
  | _, _ => .err
def opSub : Op2 := fun x y S => match x, y with
  | .int i, .int j => .ok (.int (i - j)) S
  | _, _ => .err
def opMul : Op2 := fun x y S => match x, y with
  | .int i, .int j => if mulOk i j = true then .ok (.int (i * j)) S else .err
  | .ref n, .int k => (match S[n]? with
    | some (.lst a) => if -(2 ^ 63) ≤ k ∧ k < 2 ^ 63 ∧ a.length * k.toNat ≤ sz then .ok (.ref S.length) (S ++ [.lst (List.replicate k.toNat a).flatten]) else .err
    | _ => .err)
  | .tup a, .int k => if a ≠ [] ∧ 2 ≤ k ∧ k ≤ 1000 ∧ a.length ≤ 1000 then .ok (.tup (List.replicate k.toNat a).flatten) S else .err
  | _, _ => .err
def opMod : Op2 := fun x y S => match x, y with
  | .int i, .int j => if 0 < j then .ok (.int (i % j)) S else .err
  | _, _ => .err
def opDiv : Op2 := fun x y S => match x, y with
  | .int i, .int j => if 0 < j ∧ j < 2 ^ 200 then .ok (.int (i / j)) S else .err
  | _, _ => .err
def opPow : Op2 := fun x y S => match x, y with
  | .int i, .int j => if 0 ≤ j ∧ j ≤ 1000000 ∧ i.natAbs < 2 ^ 64 then .ok (.int (i ^ j.toNat)) S else .err
  | _, _ => .err
def opNeg : Op1 := fun x S => match x with
  | .int i => .ok (.int (-i)) S
  | _ => .err
def opCmp (f : Int → Int → Bool) : Op2 := fun x y S => match x, y with
  | .int i, .int j => .ok (.bl (f i j)) S
  | _, _ => .err
abbrev opLt : Op2 := opCmp fun i j => decide (i < j)
abbrev opLe : Op2 := opCmp fun i j => decide (i ≤ j)
abbrev opGt : Op2 := opCmp fun i j => decide (j < i)
abbrev opGe : Op2 := opCmp fun i j => decide (j ≤ i)
def opIsN : Op1 := fun x S => .ok (.bl (decide (x = .non))) S
def opNotN : Op1 := fun x S => .ok (.bl (!decide (x = .non))) S
/-- a place by an index of any sign -/
def ixN (n : Nat) (i : Int) : Option Nat := if 0 ≤ i then (if i < n then some i.toNat else none) else (if -(n : Int) ≤ i then some (i + n).toNat else none)
def atI {α : Type} (xs : List α) (i : Int) : Option α := (ixN xs.length i).bind fun j => xs[j]?
def opIx : Op2 := fun x y S => match x, y with
  | .tup xs, .int i => (match atI xs i with
    | some d => .ok d S
    | none => .err)
  | .ref n, .int i => (match S[n]? with
    | some (.lst xs) => (match atI xs i with
      | some d => .ok d S
      | none => .err)
    | some (.frz xs) => (match atI xs i with
      | some d => .ok d S
      | none => .err)
    | _ => .err)
  | .str z, .int i => if z.length ≤ sz then (match atI z i with
    | some c => .ok (.str [c]) S
    | none => .err) else .err
  | _, _ => .err
/-- x is k, a truth -/
def opIsB (k : Bool) : Op1 := fun x S => match x with
  | .bl b => .ok (.bl (decide (b = k))) S
  | _ => .err
def opNotB (k : Bool) : Op1 := fun x S => match x with
  | .bl b => .ok (.bl (!decide (b = k))) S
  | _ => .err
/-! ### slices -/
def sIx (n d : Nat) : Option Int → Nat
  | none => d
  | some v => if v < 0 then (v + (n : Int)).toNat else min v.toNat n
def cut {α : Type} (xs : List α) (lo hi : Option Int) : List α := (xs.drop (sIx xs.length 0 lo)).take (sIx xs.length xs.length hi - sIx xs.length 0 lo)
abbrev PM := Loc → Sto → R (Option Int)
def pNo : PM := fun _ S => .ok none S
def pSome (a : EM) : PM := fun L S => (a L S).bind fun x S1 => match x with
  | .int i => .ok (some i) S1
  | _ => .err
def opSl (x : D) (lo hi : Option Int) (S : Sto) : R D := match x with
  | .tup xs => .ok (.tup (cut xs lo hi)) S
  | .str z => if z.length ≤ sz then .ok (.str (cut z lo hi)) S else .err
  | .ref n => (match S[n]? with
    | some (.lst xs) => .ok (.ref S.length) (S ++ [.lst (cut xs lo hi)])
    | _ => .err)
  | _ => .err
def eSl (a : EM) (lo hi : PM) : EM := fun L S => (a L S).bind fun x S1 => (lo L S1).bind fun l S2 => (hi L S2).bind fun h S3 => opSl x l h S3
/-- told(lambda: m): what m tells; of an exception the text WT -/
def eTold (ks : List Nat) (WT : Nat → D) (WO : Nat → List Ob) (m : EM) : EM := fun L S => match m L S with
  | .ok d S1 => .ok d S1
  | .exc x S1 => if x.p = [] ∧ x.c ∈ ks then .ok (WT x.c) (S1 ++ WO x.c) else .err
  | .err => .err
/-! ### builtins, by lists of arguments -/
def fLen : Fn := fun ds S => match ds with
  | [.str z] => if z.length ≤ sz then .ok (.int z.length) S else .err
  | [.tup xs] => .ok (.int xs.length) S
  | [.ref n] => (match S[n]? with
    | some (.lst xs) => .ok (.int xs.length) S
    | some (.frz xs) => .ok (.int xs.length) S
    | _ => .err)
  | _ => .err
/-- len of a dict -/
def fLenD : Fn := fun ds S => match ds with
  | [.ref n] => (match S[n]? with
    | some (.dic _ false kvs) => .ok (.int kvs.length) S
    | _ => .err)
  | _ => .err
def tyNm (S : Sto) : D → Option String
  | .non => some "NoneType"
  | .bl _ => some "bool"
  | .int _ => some "int"
  | .str _ => some "str"
  | .tup _ => some "tuple"
  | .ref n => (match S[n]? with
    | some (.lst _) => some "list"
    | some (.dic _ false _) => some "dict"
    | _ => none)
  | .exn _ _ => none
/-- isinstance(x, T), T a built-in type -/
def opIsi (T : String) : Op1 := fun x S => match tyNm S x with
  | some t => .ok (.bl (decide (t = T) || (decide (t = "bool") && decide (T = "int")))) S
  | none => .err
def allB : List D → Option Bool
  | [] => some true
  | .bl b :: r => (allB r).map fun c => b && c
  | _ => none
def fAll : Fn := fun ds S => match ds with
  | [.ref n] => (match S[n]? with
    | some (.lst xs) => (match allB xs with
      | some b => .ok (.bl b) S
      | none => .err)
    | _ => .err)
  | _ => .err
def intsOf : List D → Option (List Int)
  | [] => some []
  | .int i :: r => (intsOf r).map fun c => i :: c
  | _ => none
def fSum : Fn := fun ds S => match ds with
  | [.ref n] => (match S[n]? with
    | some (.lst xs) => (match intsOf xs with
      | some is => .ok (.int is.sum) S
      | none => .err)
    | _ => .err)
  | _ => .err
def fMax2 : Fn := fun ds S => match ds with
  | [.int i, .int j] => .ok (.int (if j > i then j else i)) S
  | _ => .err
def fMin2 : Fn := fun ds S => match ds with
  | [.int i, .int j] => .ok (.int (if j < i then j else i)) S
  | _ => .err
/-- int(x) of an int, a truth -/
def fInt : Fn := fun ds S => match ds with
  | [.int i] => .ok (.int i) S
  | [.bl k] => .ok (.int (if k then 1 else 0)) S
  | _ => .err
/-- list(xs), tuple(xs) -/
def fList : Fn := fun ds S => match ds with
  | [.ref n] => (match S[n]? with
    | some (.lst xs) => .ok (.ref S.length) (S ++ [.lst xs])
    | _ => .err)
  | [.tup xs] => .ok (.ref S.length) (S ++ [.lst xs])
  | _ => .err
def fTuple : Fn := fun ds S => match ds with
  | [.ref n] => (match S[n]? with
    | some (.lst xs) => .ok (.tup xs) S
    | _ => .err)
  | [.tup xs] => .ok (.tup xs) S
  | _ => .err
/-! ### methods of lists -/
def eBM (t : String) (F : Fn) (o : EM) (as : AM) : EM := fun L S => (o L S).bind fun x S1 => if tyNm S1 x = some t then (as L S1).bind fun xs S2 => F (x :: xs) S2 else .err
def fAppend : Fn := fun ds S => match ds with
  | [.ref n, y] => (match S[n]? with
    | some (.lst xs) => if xs.length < sz then .ok .non (S.set n (.lst (xs ++ [y]))) else .err
    | _ => .err)
  | _ => .err
def fInsert : Fn := fun ds S => match ds with
  | [.ref n, .int i, y] => (match S[n]? with
    | some (.lst xs) => if xs.length < sz ∧ 0 ≤ i ∧ i < 2 ^ 63 then .ok .non (S.set n (.lst (xs.take i.toNat ++ [y] ++ xs.drop i.toNat))) else .err
    | _ => .err)
  | _ => .err
/-- xs.pop(0) -/
def fPopAt : Fn := fun ds S => match ds with
  | [.ref n, .int i] => (match S[n]? with
    | some (.lst xs) => (match xs with
      | y :: r => if i = 0 then .ok y (S.set n (.lst r)) else .err
      | [] => .err)
    | _ => .err)
  | _ => .err
/-- xs[i] = v -/
def setL : Set2 := fun x i v S => match x, i with
  | .ref n, .int i => (match S[n]? with
    | some (.lst xs) => (match ixN xs.length i with
      | some j => .ok () (S.set n (.lst (xs.set j v)))
      | none => .err)
    | _ => .err)
  | _, _ => .err

/-- isinstance of the exception at a -/
def opIsE (a : Nat) (b : Bool) : Op1 := fun x S => match x with
  | .exn a' _ => if a' = a then .ok (.bl b) S else .err
  | _ => .err
def blsOf : List D → Option (List Bool)
  | [] => some []
  | .bl b :: r => (blsOf r).map fun c => b :: c
  | _ => none
/-- [int(x) for x in xs], xs a list of truths -/
def opInts : Op1 := fun x S => match x with
  | .ref n => (match S[n]? with
    | some (.lst xs) => (match blsOf xs with
      | some bs => .ok (.ref S.length) (S ++ [.lst (bs.map fun b => .int (if b = true then 1 else 0))])
      | none => .err)
    | _ => .err)
  | _ => .err
/-! ### texts -/
def strsOfD : List D → Option (List (List Nat))
  | [] => some []
  | .str i :: r => (strsOfD r).map fun c => i :: c
  | _ => none
def joinS (a : List Nat) : List (List Nat) → List Nat
  | [] => []
  | [x] => x
  | x :: y :: r => x ++ a ++ joinS a (y :: r)
def splitC (c : Nat) : List Nat → List (List Nat)
  | [] => [[]]
  | x :: r => if x = c then [] :: splitC c r else (match splitC c r with
    | h :: t => (x :: h) :: t
    | [] => [[x]])
/-- a.join(ys), ys a tuple of texts -/
def fJoin : Fn := fun ds S => match ds with
  | [.str a, .tup ys] => (match strsOfD ys with
    | some zs => if (zs.map (·.length)).sum + zs.length * a.length ≤ sz then .ok (.str (joinS a zs)) S else .err
    | none => .err)
  | _ => .err
/-- x.split(c), c one sign -/
def fSplit : Fn := fun ds S => match ds with
  | [.str x, .str [c]] => if x.length + 2 ≤ sz then .ok (.ref S.length) (S ++ [.lst ((splitC c x).map .str)]) else .err
  | _ => .err
/-! ### in -/
def mapR (S : Sto) (xs : List D) : Option (List PyData) := xs.mapM (reify 59 S)
/-- xs.index(x) -/
def fIndex : Fn := fun ds S => match ds with
  | [.ref n, x] => (match S[n]? with
    | some (.lst xs) => (match reify 60 S x, mapR S xs with
      | some p, some ps => (match ps.findIdx? fun z => PyData.eqv z p with
        | some j => .ok (.int j) S
        | none => .err)
      | _, _ => .err)
    | _ => .err)
  | _ => .err
/-- x in a list of data -/
def inL (neg : Bool) : Op2 := fun x y S => match y with
  | .ref n => (match S[n]? with
    | some (.lst xs) => (match reify 60 S x, mapR S xs with
      | some p, some ps => .ok (.bl (if neg = true then !(ps.any fun z => PyData.eqv z p) else ps.any fun z => PyData.eqv z p)) S
      | _, _ => .err)
    | _ => .err)
  | _ => .err
/-- a sign in a text -/
def inS (neg : Bool) : Op2 := fun x y S => match x, y with
  | .str [c], .str z => .ok (.bl (if neg = true then !decide (c ∈ z) else decide (c ∈ z))) S
  | _, _ => .err
def strsOf : List D → Option (List (List Nat))
  | [] => some []
  | .str i :: r => (strsOf r).map fun c => i :: c
  | _ => none
/-- a text in a tuple of texts -/
def inT (neg : Bool) : Op2 := fun x y S => match x, y with
  | .str c, .tup ys => (match strsOf ys with
    | some zs => .ok (.bl (if neg = true then !decide (c ∈ zs) else decide (c ∈ zs))) S
    | none => .err)
  | _, _ => .err
/-! ### dicts -/
def isKey : D → Bool
  | .int _ => true
  | .str x => x.all fun c => decide (c < 0x110000)
  | _ => false
/-- may it be a key of a dict with tuple keys (t), with others -/
def keyOk (t : Bool) (k : D) : Bool := if t = true then (match k with
  | .tup ds => ds.all isKey
  | _ => false) else isKey k
def kget (k : D) : List (D × D) → Option D
  | [] => none
  | (g, d) :: r => if g = k then some d else kget k r
def kput (k v : D) (kvs : List (D × D)) : List (D × D) := if (kvs.any fun q => decide (q.1 = k)) = true then kvs.map fun q => if q.1 = k then (q.1, v) else q else kvs ++ [(k, v)]
def kdrop (k : D) (kvs : List (D × D)) : List (D × D) := kvs.filter fun q => decide (q.1 ≠ k)
/-- d[k] -/
def opGet : Op2 := fun x k S => match x with
  | .ref n => (match S[n]? with
    | some (.dic t _ kvs) => if keyOk t k = true then (match kget k kvs with
      | some d => .ok d S
      | none => .err) else .err
    | _ => .err)
  | _ => .err
/-- k in d -/
def inD (neg : Bool) : Op2 := fun k x S => match x with
  | .ref n => (match S[n]? with
    | some (.dic t _ kvs) => if keyOk t k = true then .ok (.bl (if neg = true then !(kget k kvs).isSome else (kget k kvs).isSome)) S else .err
    | _ => .err)
  | _ => .err
/-- d[k] = v -/
def setD : Set2 := fun x k v S => match x with
  | .ref n => (match S[n]? with
    | some (.dic t false kvs) => if keyOk t k = true ∧ kvs.length < sz then .ok () (S.set n (.dic t false (kput k v kvs))) else .err
    | _ => .err)
  | _ => .err
/-- d.pop(k, x) -/
def fPop2 : Fn := fun ds S => match ds with
  | [.ref n, k, z] => (match S[n]? with
    | some (.dic t false kvs) => if keyOk t k = true then (match kget k kvs with
      | some d => .ok d (S.set n (.dic t false (kdrop k kvs)))
      | none => .ok z S) else .err
    | _ => .err)
  | _ => .err
/-- d.get(k, x) -/
def fGet2 : Fn := fun ds S => match ds with
  | [.ref n, k, z] => (match S[n]? with
    | some (.dic t _ kvs) => if keyOk t k = true then .ok ((kget k kvs).getD z) S else .err
    | _ => .err)
  | _ => .err
/-- a call that leaves the last arguments to their defaults -/
def withD (F : Fn) (dd : List D) : Fn := fun ds S => F (ds ++ dd) S
/-! ### what is never reached; signs of a text; len of an instance -/
def eErr : EM := fun _ _ => .err
def sErr : SM := fun _ _ => .err
/-- the signs of a text -/
def wStr (a : EM) : WM := fun L S => (a L S).bind fun x S1 => match x with
  | .str z => .ok ⟨z.map fun c => .str [c], fun _ => true⟩ S1
  | _ => .err
/-- len of an instance with its own __len__ -/
def fLenOwn (c : Nat) (F : Fn) : Fn := fun ds S => match ds with
  | [.ref n] => (match S[n]? with
    | some (.ins c' _) => if c' = c then (F [.ref n] S).bind fun v S1 => match v with
      | .int i => if 0 ≤ i ∧ i < 2 ^ 63 then .ok (.int i) S1 else .err
      | _ => .err else .err
    | _ => .err)
  | _ => .err
end MP

namespace MP
open PySem (PyData)
def encF : D → PyData
  | .int i => .int i
  | .str x => .str ⟨x.toArray⟩
  | _ => .none
def encD : D → PyData
  | .tup ds => .tuple (ds.map encF)
  | d => encF d
def flI : D → Bool
  | .int _ => true
  | _ => false
def flS : D → Bool
  | .str _ => true
  | _ => false
def tTI : D → Bool
  | .tup r => r.all flI
  | _ => false
def tTS : D → Bool
  | .tup r => r.all flS
  | _ => false
/-- what can be sorted: ints, tuples of ints, tuples of texts -/
def srtOk (ds : List D) : Bool := ds.all flI || ds.all tTI || ds.all tTS
def srtD (ds : List D) : List D := ds.mergeSort (PySem.W.dataLe false encD)
/-- sorted(a list), sorted(a dict with tuple keys) -/
def fSorted : Fn := fun ds S => match ds with
  | [.ref n] => (match S[n]? with
    | some (.lst xs) => if srtOk xs = true ∧ xs.length ≤ sz then .ok (.ref S.length) (S ++ [.lst (srtD xs)]) else .err
    | some (.dic true _ kvs) => if srtOk (kvs.map (·.1)) = true ∧ kvs.length ≤ sz then .ok (.ref S.length) (S ++ [.lst (srtD (kvs.map (·.1)))]) else .err
    | _ => .err)
  | _ => .err
def nubI (ns : List Int) : List Int := ns.foldl (fun acc k => if k ∈ acc then acc else acc ++ [k]) []
/-- len(set(x)), x a list of ints -/
def opLenSet : Op1 := fun x S => match x with
  | .ref n => (match S[n]? with
    | some (.lst xs) => (match intsOf xs with
      | some ns => if ns.length ≤ 1000 then .ok (.int (nubI ns).length) S else .err
      | none => .err)
    | _ => .err)
  | _ => .err
/-- range(i, j, -1) -/
def rngDn (i : Int) (n : Nat) : List D := (List.range n).map fun k => .int (i - (k : Nat))
def wRngDn (a b : EM) : WM := fun L S => (a L S).bind fun x S1 => (b L S1).bind fun y S2 => match x, y with
  | .int i, .int j => if -(2 ^ 62) ≤ i ∧ i < 2 ^ 62 ∧ -(2 ^ 62) ≤ j ∧ j < 2 ^ 62 then .ok ⟨rngDn i (i - j).toNat, fun _ => true⟩ S2 else .err
  | _, _ => .err
/-- len of a dict with tuple keys -/
def fLenDT : Fn := fun ds S => match ds with
  | [.ref n] => (match S[n]? with
    | some (.dic true false kvs) => .ok (.int kvs.length) S
    | _ => .err)
  | _ => .err
/-- d.pop(k), a dict with tuple keys -/
def fPop1 : Fn := fun ds S => match ds with
  | [.ref n, k] => (match S[n]? with
    | some (.dic true false kvs) => if keyOk true k = true then (match kget k kvs with
      | some d => .ok d (S.set n (.dic true false (kdrop k kvs)))
      | none => .err) else .err
    | _ => .err)
  | _ => .err
end MP

namespace MP
/-- the keys of a dict that is locked -/
def wDic (a : EM) : WM := fun L S => (a L S).bind fun x S1 => match x with
  | .ref n => (match S1[n]? with
    | some (.dic true true kvs) => .ok ⟨kvs.map (·.1), fun S => decide (S[n]? = some (.dic true true kvs))⟩ S1
    | _ => .err)
  | _ => .err
def unlD (n : Nat) (kvs : List (D × D)) (S : Sto) : Option Sto := match S[n]? with
  | some (.dic true true _) => some (S.set n (.dic true false kvs))
  | _ => none
/-- a statement runs while the dict that a tells is locked -/
def sLock (a : EM) (st : SM) : SM := fun L S => match a L S with
  | .ok (.ref n) _ => (match S[n]? with
    | some (.dic true false kvs) => (match st L (S.set n (.dic true true kvs)) with
      | .nx L1 S1 => (match unlD n kvs S1 with
        | some S2 => .nx L1 S2
        | none => .err)
      | .rt d S1 => (match unlD n kvs S1 with
        | some S2 => .rt d S2
        | none => .err)
      | .bk L1 S1 => (match unlD n kvs S1 with
        | some S2 => .bk L1 S2
        | none => .err)
      | .ct L1 S1 => (match unlD n kvs S1 with
        | some S2 => .ct L1 S2
        | none => .err)
      | .exc x L1 S1 => .exc x L1 S1
      | .err => .err)
    | _ => .err)
  | _ => .err
/-- .. an expression -/
def eLock (a : EM) (m : EM) : EM := fun L S => match a L S with
  | .ok (.ref n) _ => (match S[n]? with
    | some (.dic true false kvs) => (match m L (S.set n (.dic true true kvs)) with
      | .ok d S1 => (match unlD n kvs S1 with
        | some S2 => .ok d S2
        | none => .err)
      | .exc x S1 => .exc x S1
      | .err => .err)
    | _ => .err)
  | _ => .err
/-- C(.., k = v, ..): n values, m keywords; gD: in the turn of the parameters, what lacks filled up -/
def eMakeK (c n m : Nat) (F : Fn) (gD : List D → List D → List D) (as ks : AM) : EM := fun L S => (as L S).bind fun xs S1 => (ks L S1).bind fun zs S2 => if xs.length = n ∧ zs.length = m then
  (F (.ref S2.length :: gD xs zs) (S2 ++ [.ins c []])).bind fun v S3 => if v = .non then .ok (.ref S2.length) S3 else .err else .err
end MP

namespace MP
/-- the exceptions but WantError; those without their own __init__ -/
def exAll : List Nat := [0, 1, 2, 3, 4, 5, 6, 7, 8]
def exKs : List Nat := [0, 1, 2, 3, 4, 6, 7, 8]
def exW : List (List Nat) := [[66, 97, 100, 76, 101, 116, 116, 101, 114], [66, 97, 100, 78, 97, 109, 101], [66, 97, 100, 78, 117, 109, 98, 101, 114], [66, 97, 100, 83, 105, 100, 101, 115], [66, 97, 100, 83, 116, 111, 114, 121], [71, 111, 110, 101], [78, 111, 72, 111, 117, 115, 101], [78, 111, 76, 101, 116, 116, 101, 114], [78, 111, 87, 97, 121], [87, 97, 110, 116, 69, 114, 114, 111, 114]]
def refd : List Nat := [114, 101, 102, 117, 115, 101, 100]
def wT (c : Nat) : D := .tup [.str refd, .str (exW.getD c [])]
def wO (c : Nat) : List Ob := [.lst [.bl (decide (c = 1)), .bl (decide (c = 3)), .bl (decide (c = 2)), .bl (decide (c = 0))], .lst [.bl (decide (c = 6)), .bl (decide (c = 8)), .bl (decide (c = 7)), .bl (decide (c = 5))], .lst [.bl (decide (c = 1)), .bl (decide (c = 3)), .bl (decide (c = 2)), .bl (decide (c = 0)), .bl (decide (c = 6)), .bl (decide (c = 8)), .bl (decide (c = 7)), .bl (decide (c = 5)), .bl (decide (c = 4))], .lst [.str [66, 97, 100, 78, 97, 109, 101], .str [66, 97, 100, 83, 105, 100, 101, 115], .str [66, 97, 100, 78, 117, 109, 98, 101, 114], .str [66, 97, 100, 76, 101, 116, 116, 101, 114], .str [78, 111, 72, 111, 117, 115, 101], .str [78, 111, 87, 97, 121], .str [78, 111, 76, 101, 116, 116, 101, 114], .str [71, 111, 110, 101], .str [66, 97, 100, 83, 116, 111, 114, 121]], .lst [.int (if decide (c = 1) = true then 1 else 0), .int (if decide (c = 3) = true then 1 else 0), .int (if decide (c = 2) = true then 1 else 0), .int (if decide (c = 0) = true then 1 else 0), .int (if decide (c = 6) = true then 1 else 0), .int (if decide (c = 8) = true then 1 else 0), .int (if decide (c = 7) = true then 1 else 0), .int (if decide (c = 5) = true then 1 else 0), .int (if decide (c = 4) = true then 1 else 0)]]
end MP

namespace MP
/-- is_number -/
def c_is_number : SM :=
  (sSeq (sIf (tOr (tNot (tV (eUn (opIsi "int") (eV 0)))) (tOr (tV (eUn (opIsi "bool") (eV 0))) (tV (eBin opLt (eV 0) (eV 1))))) (sRet (eC (.bl false))) sNx)
  (sRet (eOr (eUn opIsN (eV 2)) (eBin opLe (eV 0) (eV 2)))))
def f_is_number : Fn := fn 3 3 c_is_number
/-- need_number -/
def c_need_number : SM :=
  (sIf (tNot (tV (eCall f_is_number (aCons (eV 0) (aCons (eV 1) (aCons (eV 2) aNil)))))) (sRaise 2 aNil) sNx)
def f_need_number : Fn := fn 3 3 c_need_number
/-- Table.__len__ -/
def c_Table___len__ : SM :=
  (sRet (eCall fLenDT (aCons (eUn (opFld 3 38) (eV 0)) aNil)))
def f_Table___len__ : Fn := fn 1 1 c_Table___len__
/-- Keeps.__len__ -/
def c_Keeps___len__ : SM :=
  (sRet (eCall fLen (aCons (eUn (opFld 1 38) (eV 0)) aNil)))
def f_Keeps___len__ : Fn := fn 1 1 c_Keeps___len__
/-- is_part -/
def c_is_part : SM :=
  (sRet (eAnd (eUn (opIsi "str") (eV 0)) (eAnd (eChain opLe opLe (eC (.int 1)) (eCall fLen (aCons (eV 0) aNil)) (eC (.int 4))) (eCall fAll (aCons (eLc (wStr (eV 0)) (gV 1) tYes (eBin (inS false) (eV 1) (eC (.str [97, 98, 99, 100, 101, 102, 103, 104, 105, 106, 107, 108, 109, 110, 111, 112, 113, 114, 115, 116, 117, 118, 119, 120, 121, 122, 48, 49, 50, 51, 52, 53, 54, 55, 56, 57]))) [1]) aNil)))))
def f_is_part : Fn := fn 1 2 c_is_part
/-- is_beginning -/
def c_is_beginning : SM :=
  (sRet (eAnd (eUn (opIsi "tuple") (eV 0)) (eAnd (eBin opLe (eCall fLen (aCons (eV 0) aNil)) (eC (.int 5))) (eCall fAll (aCons (eLc (wTup (eV 0)) (gV 1) tYes (eCall f_is_part (aCons (eV 1) aNil)) [1]) aNil)))))
def f_is_beginning : Fn := fn 1 2 c_is_beginning
/-- is_name -/
def c_is_name : SM :=
  (sRet (eAnd (eCall f_is_beginning (aCons (eV 0) aNil)) (eBin opNe (eV 0) (eTup aNil))))
def f_is_name : Fn := fn 1 1 c_is_name
/-- need_name -/
def c_need_name : SM :=
  (sIf (tNot (tV (eCall f_is_name (aCons (eV 0) aNil)))) (sRaise 1 aNil) sNx)
def f_need_name : Fn := fn 1 1 c_need_name
/-- is_side -/
def c_is_side : SM :=
  (sRet (eCall f_is_number (aCons (eV 0) (aCons (eC (.int 0)) (aCons (eBin opSub (eC (.int 8)) (eC (.int 1))) aNil)))))
def f_is_side : Fn := fn 1 1 c_is_side
/-- need_sides -/
def c_need_sides : SM :=
  (sIf (tOr (tNot (tV (eUn (opIsi "list") (eV 0)))) (tOr (tNot (tV (eCall fAll (aCons (eLc (wLst (eV 0)) (gV 1) tYes (eCall f_is_side (aCons (eV 1) aNil)) [1]) aNil)))) (tV (eBin opLt (eUn opLenSet (eV 0)) (eCall fLen (aCons (eV 0) aNil)))))) (sRaise 3 aNil) sNx)
def f_need_sides : Fn := fn 1 2 c_need_sides
/-- Keeps.__init__ -/
def c_Keeps___init__ : SM :=
  (sSeq (sExpr (eCall f_need_number (aCons (eV 1) (aCons (eC (.int 0)) (aCons (eC (.int 9)) aNil)))))
  (sSeq (sAsg (eV 1) (gFld 1 64 (eV 0)))
  (sAsg (eLst aNil) (gFld 1 38 (eV 0)))))
def f_Keeps___init__ : Fn := fn 2 2 c_Keeps___init__
/-- Keeps.rows -/
def c_Keeps_rows : SM :=
  (sRet (eCall fList (aCons (eUn (opFld 1 38) (eV 0)) aNil)))
def f_Keeps_rows : Fn := fn 1 1 c_Keeps_rows
/-- Table.__init__ -/
def c_Table___init__ : SM :=
  (sAsg (eDic true) (gFld 3 38 (eV 0)))
def f_Table___init__ : Fn := fn 1 1 c_Table___init__
/-- Table.rows -/
def c_Table_rows : SM :=
  (sRet (eLc (wLst (eCall fSorted (aCons (eUn (opFld 3 38) (eV 0)) aNil))) (gV 1) tYes (eTup (aCons (eV 1) (aCons (eCall fList (aCons (eBin opGet (eUn (opFld 3 38) (eV 0)) (eV 1)) aNil)) aNil))) [1]))
def f_Table_rows : Fn := fn 1 2 c_Table_rows
/-- is_letter -/
def c_is_letter : SM :=
  (sSeq (sIf (tOr (tNot (tV (eUn (opIsi "tuple") (eV 0)))) (tOr (tV (eBin opLt (eCall fLen (aCons (eV 0) aNil)) (eC (.int 2)))) (tOr (tNot (tV (eUn (opIsi "str") (eBin opIx (eV 0) (eC (.int 0)))))) (tNot (tV (eCall f_is_name (aCons (eBin opIx (eV 0) (eC (.int 1))) aNil))))))) (sRet (eC (.bl false))) sNx)
  (sSeq (sIf (tV (eBin opEq (eBin opIx (eV 0) (eC (.int 0))) (eC (.str [116, 104, 105, 110, 103])))) (sRet (eAnd (eBin opEq (eCall fLen (aCons (eV 0) aNil)) (eC (.int 4))) (eAnd (eCall f_is_number (aCons (eBin opIx (eV 0) (eC (.int 2))) (aCons (eC (.int 0)) (aCons (eC (.int 999)) aNil)))) (eCall (withD f_is_number [.non]) (aCons (eBin opIx (eV 0) (eC (.int 3))) (aCons (eC (.int 0)) aNil)))))) sNx)
  (sRet (eAnd (eBin (inT false) (eBin opIx (eV 0) (eC (.int 0))) (eTup (aCons (eC (.str [97, 115, 107])) (aCons (eC (.str [110, 111])) aNil)))) (eBin opEq (eCall fLen (aCons (eV 0) aNil)) (eC (.int 2)))))))
def f_is_letter : Fn := fn 1 1 c_is_letter
/-- House.__init__ -/
def c_House___init__ : SM :=
  (sSeq (sExpr (eCall f_need_number (aCons (eV 1) (aCons (eC (.int 0)) (aCons (eC (.int 7)) aNil)))))
  (sSeq (sExpr (eCall f_need_sides (aCons (eV 2) aNil)))
  (sSeq (sIf (tV (eBin (inL false) (eV 1) (eV 2))) (sRaise 3 aNil) sNx)
  (sSeq (sAsg (eMake 1 f_Keeps___init__ (aCons (eV 3) aNil)) (gV 5))
  (sSeq (sExpr (eCall f_need_number (aCons (eV 4) (aCons (eC (.int 1)) (aCons (eC (.int 20)) aNil)))))
  (sSeq (sAsg (eV 1) (gFld 0 41 (eV 0)))
  (sSeq (sAsg (eCall fList (aCons (eV 2) aNil)) (gFld 0 44 (eV 0)))
  (sSeq (sAsg (eV 5) (gFld 0 68 (eV 0)))
  (sSeq (sAsg (eV 4) (gFld 0 43 (eV 0)))
  (sSeq (sAsg (eMake 3 f_Table___init__ aNil) (gFld 0 63 (eV 0)))
  (sSeq (sAsg (eDic true) (gFld 0 80 (eV 0)))
  (sSeq (sAsg (eDic true) (gFld 0 58 (eV 0)))
  (sSeq (sAsg (eDic true) (gFld 0 24 (eV 0)))
  (sAsg (eLst aNil) (gFld 0 20 (eV 0))))))))))))))))
def f_House___init__ : Fn := fn 5 6 c_House___init__
/-- House.ask -/
def c_House_ask : SM :=
  (sSeq (sExpr (eCall f_need_name (aCons (eV 1) aNil)))
  (sSeq (sExpr (eCall (withD f_need_number [.non]) (aCons (eV 2) (aCons (eC (.int 0)) aNil))))
  (sSeq sErr
  (sSeq sErr
  sErr))))
def f_House_ask : Fn := fn 3 4 c_House_ask
/-- House.come -/
def c_House_come : SM :=
  (sSeq (sIf (tOr (tNot (tV (eCall f_is_number (aCons (eV 1) (aCons (eC (.int 0)) (aCons (eC (.int 7)) aNil)))))) (tV (eBin (inL true) (eV 1) (eUn (opFld 0 44) (eV 0))))) (sRaise 8 aNil) sNx)
  (sSeq (sIf (tNot (tV (eCall f_is_letter (aCons (eV 2) aNil)))) (sRaise 0 aNil) sNx)
  (sSeq (sExpr (eCall (withD f_need_number [.non]) (aCons (eV 3) (aCons (eC (.int 0)) aNil))))
  (sSeq sErr
  (sSeq sErr
  sErr)))))
def f_House_come : Fn := fn 4 4 c_House_come
/-- House.tick -/
def c_House_tick : SM :=
  (sSeq (sExpr (eCall (withD f_need_number [.non]) (aCons (eV 1) (aCons (eC (.int 0)) aNil))))
  (sSeq sErr
  (sSeq sErr
  (sSeq sErr
  sErr))))
def f_House_tick : Fn := fn 2 4 c_House_tick
/-- House.own -/
def c_House_own : SM :=
  (sSeq (sExpr (eCall f_need_name (aCons (eV 1) aNil)))
  (sSeq (sExpr (eCall f_need_number (aCons (eV 2) (aCons (eC (.int 0)) (aCons (eC (.int 999)) aNil)))))
  (sSeq (sExpr (eCall f_need_number (aCons (eV 3) (aCons (eC (.int 0)) (aCons (eC (.int 99)) aNil)))))
  sErr)))
def f_House_own : Fn := fn 4 4 c_House_own
/-- House.disown -/
def c_House_disown : SM :=
  (sSeq (sExpr (eCall f_need_name (aCons (eV 1) aNil)))
  (sSeq sErr
  sErr))
def f_House_disown : Fn := fn 2 2 c_House_disown
/-- House.end -/
def c_House_end : SM :=
  (sSeq (sExpr (eCall f_need_number (aCons (eV 1) (aCons (eC (.int 0)) (aCons (eBin opSub (eCall fLen (aCons (eUn (opFld 0 20) (eV 0)) aNil)) (eC (.int 1))) aNil)))))
  sErr)
def f_House_end : Fn := fn 2 2 c_House_end
/-- House.waits -/
def c_House_waits : SM :=
  (sSeq (sAsg (eLst aNil) (gV 1))
  (sSeq (sLock (eUn (opFld 0 58) (eV 0)) (sFor (wDic (eUn (opFld 0 58) (eV 0))) (gV 2) (sSeq (sAsg (eBin opGet (eUn (opFld 0 58) (eV 0)) (eV 2)) (gV 3))
  (sExpr (eBM "list" fAppend (eV 1) (aCons (eTup (aCons (eV 2) (aCons (eUn (opFld 4 70) (eV 3)) (aCons (eCall fList (aCons (eUn (opFld 4 85) (eV 3)) aNil)) (aCons (eCall fList (aCons (eUn (opFld 4 9) (eV 3)) aNil)) (aCons (eCall fList (aCons (eUn (opFld 4 50) (eV 3)) aNil)) aNil)))))) aNil))))))
  (sRet (eV 1))))
def f_House_waits : Fn := fn 1 4 c_House_waits
/-- House.keeps -/
def c_House_keeps : SM :=
  (sRet (eMeth 1 65 f_Keeps_rows (eUn (opFld 0 68) (eV 0)) aNil))
def f_House_keeps : Fn := fn 1 1 c_House_keeps
/-- House.owns -/
def c_House_owns : SM :=
  (sRet (eLc (wLst (eCall fSorted (aCons (eUn (opFld 0 80) (eV 0)) aNil))) (gV 1) tYes (eBin opAdd (eTup (aCons (eV 1) aNil)) (eBin opGet (eUn (opFld 0 80) (eV 0)) (eV 1))) [1]))
def f_House_owns : Fn := fn 1 2 c_House_owns
/-- House.table -/
def c_House_table : SM :=
  (sRet (eMeth 3 65 f_Table_rows (eUn (opFld 0 63) (eV 0)) aNil))
def f_House_table : Fn := fn 1 1 c_House_table
/-- _law_cell -/
def c__law_cell : SM :=
  (sSeq (sIf (tV (eBin opEq (eV 0) (eLst aNil))) (sRet (eBin opMul (eV 1) (eC (.int 7919)))) sNx)
  (sRet (eBin opAdd (eBin opIx (eV 0) (eBin opMod (eV 1) (eCall fLen (aCons (eV 0) aNil)))) (eBin opMul (eBin opDiv (eV 1) (eCall fLen (aCons (eV 0) aNil))) (eC (.int 104729))))))
def f__law_cell : Fn := fn 2 2 c__law_cell
/-- _law_drawn -/
def c__law_drawn : SM :=
  (sSeq (sAsg (eBin opMod (eBin opAdd (eBin opMul (eV 0) (eC (.int 6364136223846793005))) (eBin opMul (eBin opAdd (eV 1) (eC (.int 1))) (eC (.int 1442695040888963407)))) (eC (.int 340282366920938463463374607431768211507))) (gV 2))
  (sSeq (sAsg (eBin opMod (eBin opMul (eV 2) (eV 2)) (eC (.int 340282366920938463463374607431768211297))) (gV 2))
  (sSeq (sAsg (eBin opMul (eBin opMul (eBin opAdd (eBin opMod (eV 2) (eC (.int 18446744073709551557))) (eC (.int 1))) (eBin opAdd (eBin opDiv (eV 2) (eC (.int 18446744073709551557))) (eC (.int 1)))) (eV 2)) (gV 2))
  (sRet (eBin opMod (eV 2) (eC (.int 340282366920938463463374607431768211507)))))))
def f__law_drawn : Fn := fn 2 3 c__law_drawn
/-- _law_roll -/
def c__law_roll : SM :=
  (sSeq (sIf (tV (eBin opGe (eBin opIx (eV 0) (eC (.int 0))) (eBin opPow (eC (.int 10)) (eC (.int 18))))) (sSeq (sAsg (eBin opMod (eBin opIx (eV 0) (eC (.int 0))) (eV 1)) (gV 2))
  (sSeq (sAsg (eBin opDiv (eBin opIx (eV 0) (eC (.int 0))) (eV 1)) (gSub setL (eV 0) (eC (.int 0))))
  (sRet (eV 2)))) sNx)
  (sSeq (sAsg (eBin opAdd (eBin opIx (eV 0) (eC (.int 1))) (eC (.int 1))) (gSub setL (eV 0) (eC (.int 1))))
  (sRet (eBin opMod (eBin opDiv (eCall f__law_drawn (aCons (eBin opIx (eV 0) (eC (.int 0))) (aCons (eBin opIx (eV 0) (eC (.int 1))) aNil))) (eC (.int 8))) (eV 1)))))
def f__law_roll : Fn := fn 2 3 c__law_roll
/-- _law_rounds -/
def c__law_rounds : SM :=
  (sRet (eLc (wRng1 (eCall fMax2 (aCons (eC (.int 1)) (aCons (eCall fMin2 (aCons (eV 1) (aCons (eCall fLen (aCons (eV 0) aNil)) aNil))) aNil)))) (gV 2) tYes (eLst (aCons (eCall f__law_cell (aCons (eV 0) (aCons (eV 2) aNil))) (aCons (eC (.int 0)) aNil))) [2]))
def f__law_rounds : Fn := fn 2 3 c__law_rounds
/-- _law_word -/
def c__law_word (a x : Nat) : SM :=
  (sSeq (sAsg (eLst (aCons (eUn (opIsE a (decide (x = 1))) (eV 0)) (aCons (eUn (opIsE a (decide (x = 3))) (eV 0)) (aCons (eUn (opIsE a (decide (x = 2))) (eV 0)) (aCons (eUn (opIsE a (decide (x = 0))) (eV 0)) aNil))))) (gV 1))
  (sSeq (sAsg (eBin opAdd (eV 1) (eLst (aCons (eUn (opIsE a (decide (x = 6))) (eV 0)) (aCons (eUn (opIsE a (decide (x = 8))) (eV 0)) (aCons (eUn (opIsE a (decide (x = 7))) (eV 0)) (aCons (eUn (opIsE a (decide (x = 5))) (eV 0)) aNil)))))) (gV 1))
  (sSeq (sExpr (eBM "list" fAppend (eV 1) (aCons (eUn (opIsE a (decide (x = 4))) (eV 0)) aNil)))
  (sSeq (sAsg (eLst (aCons (eC (.str [66, 97, 100, 78, 97, 109, 101])) (aCons (eC (.str [66, 97, 100, 83, 105, 100, 101, 115])) (aCons (eC (.str [66, 97, 100, 78, 117, 109, 98, 101, 114])) (aCons (eC (.str [66, 97, 100, 76, 101, 116, 116, 101, 114])) (aCons (eC (.str [78, 111, 72, 111, 117, 115, 101])) (aCons (eC (.str [78, 111, 87, 97, 121])) (aCons (eC (.str [78, 111, 76, 101, 116, 116, 101, 114])) (aCons (eC (.str [71, 111, 110, 101])) (aCons (eC (.str [66, 97, 100, 83, 116, 111, 114, 121])) aNil)))))))))) (gV 2))
  (sSeq (sIf (tOr (tV (eBin opNe (eCall fSum (aCons (eUn opInts (eV 1)) aNil)) (eC (.int 1)))) (tNot (tV (eUn (opIsE a true) (eV 0))))) (sRet (eTup (aCons (eC (.str [114, 101, 102, 117, 115, 101, 100])) (aCons (eC (.str [111, 116, 104, 101, 114])) aNil)))) sNx)
  (sRet (eTup (aCons (eC (.str [114, 101, 102, 117, 115, 101, 100])) (aCons (eBin opIx (eV 2) (eBM "list" fIndex (eV 1) (aCons (eC (.bl true)) aNil))) aNil)))))))))
def f__law_word (a x : Nat) : Fn := fn 1 4 (c__law_word a x)
/-- _law_told, its handler -/
def c__law_told (a x : Nat) : SM :=
  (sRet (eBin opAdd (eCall (f__law_word a x) (aCons (eV 1) aNil)) (eIf (tV (eUn (opIsE a (decide (x = 5))) (eV 1))) (eTup (aCons eErr aNil)) (eTup aNil))))
/-- _law_number_doors -/
def c__law_number_doors : SM :=
  (sSeq (sAsg (eLst aNil) (gV 2))
  (sSeq (sExpr (eBM "list" fAppend (eV 2) (aCons (eTold exKs wT wO (eMeth 0 8 f_House_ask (eV 0) (aCons (eTup (aCons (eC (.str [97])) aNil)) (aCons (eV 1) aNil)))) aNil)))
  (sSeq (sExpr (eBM "list" fAppend (eV 2) (aCons (eTold exKs wT wO (eMeth 0 13 f_House_come (eV 0) (aCons (eC (.int 1)) (aCons (eTup (aCons (eC (.str [110, 111])) (aCons (eTup (aCons (eC (.str [97])) aNil)) aNil))) (aCons (eV 1) aNil))))) aNil)))
  (sSeq (sExpr (eBM "list" fAppend (eV 2) (aCons (eTold exKs wT wO (eMeth 0 81 f_House_tick (eV 0) (aCons (eV 1) aNil))) aNil)))
  (sSeq (sExpr (eBM "list" fAppend (eV 2) (aCons (eTold exKs wT wO (eMeth 0 55 f_House_own (eV 0) (aCons (eTup (aCons (eC (.str [97])) aNil)) (aCons (eV 1) (aCons (eC (.int 1)) aNil))))) aNil)))
  (sSeq (sExpr (eBM "list" fAppend (eV 2) (aCons (eTold exKs wT wO (eMeth 0 55 f_House_own (eV 0) (aCons (eTup (aCons (eC (.str [97])) aNil)) (aCons (eC (.int 1)) (aCons (eV 1) aNil))))) aNil)))
  (sSeq (sExpr (eBM "list" fAppend (eV 2) (aCons (eTold exKs wT wO (eMeth 0 19 f_House_end (eV 0) (aCons (eV 1) aNil))) aNil)))
  (sRet (eV 2)))))))))
def f__law_number_doors : Fn := fn 2 3 c__law_number_doors
/-- _law_letters_none -/
def c__law_letters_none : SM :=
  (sSeq (sAsg (eLst (aCons (eC .non) (aCons (eC (.int 5)) (aCons (eC (.str [97, 115, 107])) (aCons (eTup aNil) (aCons (eTup (aCons (eC (.str [97, 115, 107])) aNil)) (aCons (eTup (aCons (eC (.str [97, 115, 107])) (aCons (eTup aNil) aNil))) (aCons (eTup (aCons (eC (.str [97, 115, 107])) (aCons (eC (.str [97])) aNil))) (aCons (eTup (aCons (eC (.str [65, 115, 107])) (aCons (eTup (aCons (eC (.str [97])) aNil)) aNil))) aNil))))))))) (gV 0))
  (sSeq (sAsg (eBin opAdd (eV 0) (eLst (aCons (eLst (aCons (eC (.str [97, 115, 107])) (aCons (eTup (aCons (eC (.str [97])) aNil)) aNil))) (aCons (eTup (aCons (eC (.str [110, 111])) (aCons (eTup (aCons (eC (.str [97])) aNil)) (aCons (eC (.int 1)) aNil)))) aNil)))) (gV 0))
  (sSeq (sAsg (eBin opAdd (eV 0) (eLst (aCons (eTup (aCons (eC (.str [116, 104, 105, 110, 103])) (aCons (eTup (aCons (eC (.str [97])) aNil)) aNil))) (aCons (eTup (aCons (eC (.str [116, 104, 105, 110, 103])) (aCons (eTup (aCons (eC (.str [97])) aNil)) (aCons (eC (.int 1)) aNil)))) (aCons (eTup (aCons (eC (.str [116, 104, 105, 110, 103])) (aCons (eTup (aCons (eC (.str [97])) aNil)) (aCons (eC (.int 1000)) (aCons (eC (.int 1)) aNil))))) aNil))))) (gV 0))
  (sSeq (sAsg (eBin opAdd (eV 0) (eLst (aCons (eTup (aCons (eC (.str [116, 104, 105, 110, 103])) (aCons (eTup (aCons (eC (.str [97])) aNil)) (aCons (eUn opNeg (eC (.int 1))) (aCons (eC (.int 1)) aNil))))) (aCons (eTup (aCons (eC .non) (aCons (eTup (aCons (eC (.str [97])) aNil)) aNil))) aNil)))) (gV 0))
  (sSeq (sAsg (eBin opAdd (eV 0) (eLst (aCons (eTup (aCons (eC (.str [116, 104, 105, 110, 103])) (aCons (eTup (aCons (eC (.str [97])) aNil)) (aCons (eC (.bl true)) (aCons (eC (.int 1)) aNil))))) (aCons (eTup (aCons (eC (.str [116, 104, 105, 110, 103])) (aCons (eTup (aCons (eC (.str [97])) aNil)) (aCons (eC (.int 1)) (aCons (eUn opNeg (eC (.int 1))) aNil))))) (aCons (eTup (aCons (eC (.str [116, 104, 105, 110, 103])) (aCons (eTup (aCons (eC (.str [97])) aNil)) (aCons (eC (.int 1)) (aCons (eC .non) aNil))))) aNil))))) (gV 0))
  (sRet (eBin opAdd (eV 0) (eLst (aCons (eTup (aCons (eC (.str [116, 104, 105, 110, 103])) (aCons (eTup (aCons (eC (.str [97])) aNil)) (aCons (eC (.int 1)) (aCons (eC (.int 1)) (aCons (eC (.int 1)) aNil)))))) aNil)))))))))
def f__law_letters_none : Fn := fn 0 1 c__law_letters_none
/-- law -/
def c_law : SM :=
  (sSeq (sFor (wLst (eCall f__law_rounds (aCons (eV 0) (aCons (eC (.int 3)) aNil)))) (gV 1) (sSeq (sFor (wLst (eLst (aCons (eUn opNeg (eC (.int 1))) (aCons (eC (.int 8)) (aCons (eC (.bl true)) (aCons (eC .non) (aCons (eC (.str [48])) aNil))))))) (gV 2) (sIf (tV (eBin opNe (eTold exKs wT wO (eMakeK 0 2 0 f_House___init__ (fun ds es => ds ++ [.int 4, .int 6]) (aCons (eV 2) (aCons (eC .non) aNil)) aNil)) (eTup (aCons (eC (.str [114, 101, 102, 117, 115, 101, 100])) (aCons (eC (.str [66, 97, 100, 78, 117, 109, 98, 101, 114])) aNil))))) (sRet (eC (.bl false))) sNx))
  (sSeq (sFor (wLst (eLst (aCons (eC .non) (aCons (eC (.int 5)) (aCons (eTup (aCons (eC (.int 1)) aNil)) (aCons (eLst (aCons (eC (.int 8)) aNil)) (aCons (eLst (aCons (eC (.int 1)) (aCons (eC (.int 1)) aNil))) (aCons (eLst (aCons (eC (.int 0)) (aCons (eC (.int 1)) aNil))) (aCons (eLst (aCons (eC (.bl true)) aNil)) aNil))))))))) (gV 2) (sIf (tV (eBin opNe (eTold exKs wT wO (eMakeK 0 2 1 f_House___init__ (fun ds es => ds ++ (es ++ [.int 6])) (aCons (eC (.int 0)) (aCons (eV 2) aNil)) (aCons (eC .non) aNil))) (eTup (aCons (eC (.str [114, 101, 102, 117, 115, 101, 100])) (aCons (eC (.str [66, 97, 100, 83, 105, 100, 101, 115])) aNil))))) (sRet (eC (.bl false))) sNx))
  (sSeq (sAsg (eLst (aCons (eTold exKs wT wO (eMakeK 0 2 2 f_House___init__ (fun ds es => ds ++ es) (aCons (eC (.int 0)) (aCons (eLst (aCons (eC (.int 1)) aNil)) aNil)) (aCons (eC (.int 10)) (aCons (eC (.int 0)) aNil)))) aNil)) (gV 3))
  (sSeq (sExpr (eBM "list" fAppend (eV 3) (aCons (eTold exKs wT wO (eMakeK 0 2 1 f_House___init__ (fun ds es => ds ++ (es ++ [.int 6])) (aCons (eC (.int 0)) (aCons (eLst (aCons (eC (.int 1)) aNil)) aNil)) (aCons (eC (.bl true)) aNil))) aNil)))
  (sSeq (sExpr (eBM "list" fAppend (eV 3) (aCons (eTold exKs wT wO (eMakeK 0 2 1 f_House___init__ (fun ds es => ds ++ ([.int 4] ++ es)) (aCons (eC (.int 0)) (aCons (eLst (aCons (eC (.int 1)) aNil)) aNil)) (aCons (eC (.int 21)) aNil))) aNil)))
  (sSeq (sAsg (eMakeK 0 2 2 f_House___init__ (fun ds es => ds ++ es) (aCons (eC (.int 0)) (aCons (eLst (aCons (eC (.int 1)) (aCons (eC (.int 2)) aNil))) aNil)) (aCons (eCall f__law_roll (aCons (eV 1) (aCons (eC (.int 5)) aNil))) (aCons (eBin opAdd (eC (.int 1)) (eCall f__law_roll (aCons (eV 1) (aCons (eC (.int 9)) aNil)))) aNil))) (gV 4))
  (sSeq (sFor (wLst (eLst (aCons (eUn opNeg (eC (.int 1))) (aCons (eC (.bl true)) (aCons (eC .non) (aCons (eC (.str [48])) aNil)))))) (gV 2) (sAsg (eBin opAdd (eV 3) (eCall f__law_number_doors (aCons (eV 4) (aCons (eV 2) aNil)))) (gV 3)))
  (sSeq (sExpr (eBM "list" fAppend (eV 3) (aCons (eTold exKs wT wO (eMeth 0 55 f_House_own (eV 4) (aCons (eTup (aCons (eC (.str [97])) aNil)) (aCons (eC (.int 1000)) (aCons (eC .non) aNil))))) aNil)))
  (sSeq (sExpr (eBM "list" fAppend (eV 3) (aCons (eTold exKs wT wO (eMeth 0 55 f_House_own (eV 4) (aCons (eTup (aCons (eC (.str [97])) aNil)) (aCons (eC (.int 1)) (aCons (eC (.int 100)) aNil))))) aNil)))
  (sSeq (sExpr (eBM "list" fAppend (eV 3) (aCons (eTold exKs wT wO (eMeth 0 19 f_House_end (eV 4) (aCons (eC (.int 0)) aNil))) aNil)))
  (sSeq (sIf (tV (eBin opNe (eV 3) (eBin opMul (eLst (aCons (eTup (aCons (eC (.str [114, 101, 102, 117, 115, 101, 100])) (aCons (eC (.str [66, 97, 100, 78, 117, 109, 98, 101, 114])) aNil))) aNil)) (eCall fLen (aCons (eV 3) aNil))))) (sRet (eC (.bl false))) sNx)
  (sSeq (sFor (wLst (eLst (aCons (eC .non) (aCons (eC (.int 5)) (aCons (eC (.str [97])) (aCons (eTup aNil) (aCons (eLst (aCons (eC (.str [97])) aNil)) (aCons (eTup (aCons (eC (.str [65])) aNil)) (aCons (eBin opMul (eTup (aCons (eC (.str [97])) aNil)) (eC (.int 6))) aNil))))))))) (gV 2) (sSeq (sAsg (eLst (aCons (eTold exKs wT wO (eMeth 0 8 f_House_ask (eV 4) (aCons (eV 2) (aCons (eC .non) aNil)))) aNil)) (gV 5))
  (sSeq (sExpr (eBM "list" fAppend (eV 5) (aCons (eTold exKs wT wO (eMeth 0 55 f_House_own (eV 4) (aCons (eV 2) (aCons (eC .non) (aCons (eC .non) aNil))))) aNil)))
  (sSeq (sExpr (eBM "list" fAppend (eV 5) (aCons (eTold exKs wT wO (eMeth 0 17 f_House_disown (eV 4) (aCons (eV 2) aNil))) aNil)))
  (sIf (tV (eBin opNe (eV 5) (eBin opMul (eLst (aCons (eTup (aCons (eC (.str [114, 101, 102, 117, 115, 101, 100])) (aCons (eC (.str [66, 97, 100, 78, 97, 109, 101])) aNil))) aNil)) (eC (.int 3))))) (sRet (eC (.bl false))) sNx)))))
  (sSeq (sFor (wLst (eLst (aCons (eUn opNeg (eC (.int 1))) (aCons (eC (.int 0)) (aCons (eC (.int 3)) (aCons (eC (.bl true)) (aCons (eC .non) (aCons (eC (.str [49])) aNil)))))))) (gV 2) (sIf (tV (eBin opNe (eTold exKs wT wO (eMeth 0 13 f_House_come (eV 4) (aCons (eV 2) (aCons (eC .non) (aCons (eC .non) aNil))))) (eTup (aCons (eC (.str [114, 101, 102, 117, 115, 101, 100])) (aCons (eC (.str [78, 111, 87, 97, 121])) aNil))))) (sRet (eC (.bl false))) sNx))
  (sSeq (sFor (wLst (eCall f__law_letters_none aNil)) (gV 2) (sSeq (sIf (tV (eBin opNe (eTold exKs wT wO (eMeth 0 13 f_House_come (eV 4) (aCons (eC (.int 1)) (aCons (eV 2) (aCons (eC .non) aNil))))) (eTup (aCons (eC (.str [114, 101, 102, 117, 115, 101, 100])) (aCons (eC (.str [66, 97, 100, 76, 101, 116, 116, 101, 114])) aNil))))) (sRet (eC (.bl false))) sNx)
  (sIf (tV (eUn (opNotB false) (eCall f_is_letter (aCons (eV 2) aNil)))) (sRet (eC (.bl false))) sNx)))
  (sSeq (sIf (tV (eUn (opNotB true) (eCall f_is_letter (aCons (eTup (aCons (eC (.str [116, 104, 105, 110, 103])) (aCons (eTup (aCons (eC (.str [97])) aNil)) (aCons (eC (.int 999)) (aCons (eBin opPow (eC (.int 10)) (eC (.int 9))) aNil))))) aNil)))) (sRet (eC (.bl false))) sNx)
  (sSeq (sIf (tV (eUn (opNotB true) (eCall f_is_letter (aCons (eTup (aCons (eC (.str [110, 111])) (aCons (eTup (aCons (eC (.str [97])) aNil)) aNil))) aNil)))) (sRet (eC (.bl false))) sNx)
  (sIf (tV (eBin opNe (eLst (aCons (eMeth 0 82 f_House_waits (eV 4) aNil) (aCons (eMeth 0 34 f_House_keeps (eV 4) aNil) (aCons (eMeth 0 56 f_House_owns (eV 4) aNil) (aCons (eMeth 0 73 f_House_table (eV 4) aNil) aNil))))) (eBin opMul (eLst (aCons (eLst aNil) aNil)) (eC (.int 4))))) (sRet (eC (.bl false))) sNx))))))))))))))))))
  (sRet (eC (.bl true))))
def f_law : Fn := fn 1 6 c_law
end MP

namespace MP
open PySem (PyData)
/-! ### what is wanted behind a computation -/
def wR {α : Type} (r : R α) (Q : α → Sto → Prop) (E : Exc → Sto → Prop) : Prop := match r with
  | .ok a S => Q a S
  | .exc x S => E x S
  | .err => False
structure En where
  nx : Loc → Sto → Prop
  rt : D → Sto → Prop
  bk : Loc → Sto → Prop
  ct : Loc → Sto → Prop
  ex : Exc → Loc → Sto → Prop
def wS (r : RS) (K : En) : Prop := match r with
  | .nx L S => K.nx L S
  | .rt d S => K.rt d S
  | .bk L S => K.bk L S
  | .ct L S => K.ct L S
  | .exc x L S => K.ex x L S
  | .err => False
section
variable {α β : Type}
@[simp] theorem wR_ok (a : α) (S : Sto) (Q : α → Sto → Prop) (E : Exc → Sto → Prop) : wR (.ok a S) Q E = Q a S := rfl
@[simp] theorem wR_exc (x : Exc) (S : Sto) (Q : α → Sto → Prop) (E : Exc → Sto → Prop) : wR (.exc x S : R α) Q E = E x S := rfl
@[simp] theorem wR_err (Q : α → Sto → Prop) (E : Exc → Sto → Prop) : wR (.err : R α) Q E = False := rfl
@[simp] theorem wR_bind (r : R α) (f : α → Sto → R β) (Q : β → Sto → Prop) (E : Exc → Sto → Prop) : wR (r.bind f) Q E = wR r (fun a S => wR (f a S) Q E) E := by cases r <;> rfl
@[simp] theorem wS_nx (L : Loc) (S : Sto) (K : En) : wS (.nx L S) K = K.nx L S := rfl
@[simp] theorem wS_rt (d : D) (S : Sto) (K : En) : wS (.rt d S) K = K.rt d S := rfl
@[simp] theorem wS_bk (L : Loc) (S : Sto) (K : En) : wS (.bk L S) K = K.bk L S := rfl
@[simp] theorem wS_ct (L : Loc) (S : Sto) (K : En) : wS (.ct L S) K = K.ct L S := rfl
@[simp] theorem wS_exc (x : Exc) (L : Loc) (S : Sto) (K : En) : wS (.exc x L S) K = K.ex x L S := rfl
@[simp] theorem wS_err (K : En) : wS .err K = False := rfl
@[simp] theorem wS_st (L : Loc) (r : R α) (f : α → Sto → RS) (K : En) : wS (r.st L f) K = wR r (fun a S => wS (f a S) K) (fun x S => K.ex x L S) := by cases r <;> rfl
theorem wR_mono {r : R α} {Q Q' : α → Sto → Prop} {E E' : Exc → Sto → Prop} (h : wR r Q E) (hq : ∀ a S, Q a S → Q' a S) (he : ∀ x S, E x S → E' x S) : wR r Q' E' := by
  cases r with
  | ok a S => exact hq _ _ h
  | exc x S => exact he _ _ h
  | err => exact h
theorem wS_mono {r : RS} {K K' : En} (h : wS r K) (h1 : ∀ L S, K.nx L S → K'.nx L S) (h2 : ∀ L S, K.rt L S → K'.rt L S) (h3 : ∀ L S, K.bk L S → K'.bk L S) (h4 : ∀ L S, K.ct L S → K'.ct L S) (h5 : ∀ x L S, K.ex x L S → K'.ex x L S) : wS r K' := by
  cases r with
  | nx L S => exact h1 _ _ h
  | rt d S => exact h2 _ _ h
  | bk L S => exact h3 _ _ h
  | ct L S => exact h4 _ _ h
  | exc x L S => exact h5 _ _ _ h
  | err => exact h
end
@[simp] theorem wS_sNx (L : Loc) (S : Sto) (K : En) : wS (sNx L S) K = K.nx L S := rfl
@[simp] theorem wS_sSeq (a b : SM) (L : Loc) (S : Sto) (K : En) : wS (sSeq a b L S) K = wS (a L S) { K with nx := fun L1 S1 => wS (b L1 S1) K } := by
  unfold sSeq
  cases a L S <;> rfl
@[simp] theorem wS_sExpr (a : EM) (L : Loc) (S : Sto) (K : En) : wS (sExpr a L S) K = wR (a L S) (fun _ S1 => K.nx L S1) (fun x S => K.ex x L S) := by simp [sExpr]
@[simp] theorem wS_sRet (a : EM) (L : Loc) (S : Sto) (K : En) : wS (sRet a L S) K = wR (a L S) (fun d S1 => K.rt d S1) (fun x S => K.ex x L S) := by simp [sRet]
@[simp] theorem wS_sRetN (L : Loc) (S : Sto) (K : En) : wS (sRetN L S) K = K.rt .non S := rfl
@[simp] theorem wS_sBrk (L : Loc) (S : Sto) (K : En) : wS (sBrk L S) K = K.bk L S := rfl
@[simp] theorem wS_sCnt (L : Loc) (S : Sto) (K : En) : wS (sCnt L S) K = K.ct L S := rfl
@[simp] theorem wS_sIf (t : BM) (a b : SM) (L : Loc) (S : Sto) (K : En) : wS (sIf t a b L S) K = wR (t L S) (fun c S1 => if c = true then wS (a L S1) K else wS (b L S1) K) (fun x S => K.ex x L S) := by
  simp only [sIf, wS_st]
  congr 1
  funext c S1
  split <;> rfl
@[simp] theorem wS_sAsg (a : EM) (t : TM) (L : Loc) (S : Sto) (K : En) : wS (sAsg a t L S) K = wR (a L S) (fun d S1 => wR (t d L S1) (fun L1 S2 => K.nx L1 S2) (fun _ _ => False)) (fun x S => K.ex x L S) := by
  simp only [sAsg, wS_st]
  congr 1
  funext c S1
  cases t c L S1 <;> rfl
@[simp] theorem wS_sRaise (c : Nat) (as : AM) (L : Loc) (S : Sto) (K : En) : wS (sRaise c as L S) K = wR (as L S) (fun xs S1 => K.ex ⟨c, xs⟩ L S1) (fun x S => K.ex x L S) := by simp [sRaise]
/-- a call by its body -/
theorem wR_fn {np nl : Nat} {body : SM} {ds : List D} {S : Sto} {Q : D → Sto → Prop} {E : Exc → Sto → Prop} (h : ds.length = np) :
    wR (fn np nl body ds S) Q E = wS (body (ds.map some ++ List.replicate (nl - np) none) S) ⟨fun _ S1 => Q .non S1, Q, fun _ _ => False, fun _ _ => False, fun x _ S => E x S⟩ := by
  unfold fn
  rw [if_pos h]
  cases body (ds.map some ++ List.replicate (nl - np) none) S <;> rfl
theorem wR_call {np nl : Nat} {body : SM} {ds : List D} {S : Sto} {Q : D → Sto → Prop} {E : Exc → Sto → Prop} (h : ds.length = np)
    (q : wS (body (ds.map some ++ List.replicate (nl - np) none) S) ⟨fun _ S1 => Q .non S1, Q, fun _ _ => False, fun _ _ => False, fun x _ S => E x S⟩) : wR (fn np nl body ds S) Q E := by
  rw [wR_fn h]
  exact q

/-! ### simp's own steps -/
section
variable (L : Loc) (S : Sto)
@[simp] theorem eC_a (d : D) : eC d L S = .ok d S := rfl
@[simp] theorem eV_a (i : Nat) : eV i L S = (match L[i]? with
  | some (some d) => .ok d S
  | _ => .err) := rfl
@[simp] theorem eUn_a (f : Op1) (a : EM) : eUn f a L S = (a L S).bind fun x S1 => f x S1 := rfl
@[simp] theorem eBin_a (f : Op2) (a b : EM) : eBin f a b L S = (a L S).bind fun x S1 => (b L S1).bind fun y S2 => f x y S2 := rfl
@[simp] theorem wR_eIf (t : BM) (a b : EM) (Q : D → Sto → Prop) (E : Exc → Sto → Prop) : wR (eIf t a b L S) Q E = wR (t L S) (fun c S1 => if c = true then wR (a L S1) Q E else wR (b L S1) Q E) E := by
  simp only [eIf, wR_bind]
  congr 1
  funext c S1
  split <;> rfl
@[simp] theorem wR_eAnd (a b : EM) (Q : D → Sto → Prop) (E : Exc → Sto → Prop) : wR (eAnd a b L S) Q E = wR (a L S) (fun x S1 => match x with
  | .bl true => wR (b L S1) Q E
  | .bl false => Q (.bl false) S1
  | _ => False) E := by
  simp only [eAnd, wR_bind]
  congr 1
  funext x S1
  cases x with
  | bl k => cases k <;> rfl
  | _ => rfl
@[simp] theorem wR_eOr (a b : EM) (Q : D → Sto → Prop) (E : Exc → Sto → Prop) : wR (eOr a b L S) Q E = wR (a L S) (fun x S1 => match x with
  | .bl true => Q (.bl true) S1
  | .bl false => wR (b L S1) Q E
  | _ => False) E := by
  simp only [eOr, wR_bind]
  congr 1
  funext x S1
  cases x with
  | bl k => cases k <;> rfl
  | _ => rfl
@[simp] theorem wR_eNot (a : EM) (Q : D → Sto → Prop) (E : Exc → Sto → Prop) : wR (eNot a L S) Q E = wR (a L S) (fun x S1 => match x with
  | .bl k => Q (.bl (!k)) S1
  | _ => False) E := by
  simp only [eNot, wR_bind]
  congr 1
  funext x S1
  cases x <;> rfl
@[simp] theorem aNil_a : aNil L S = .ok [] S := rfl
@[simp] theorem aCons_a (a : EM) (as : AM) : aCons a as L S = (a L S).bind fun x S1 => (as L S1).bind fun xs S2 => .ok (x :: xs) S2 := rfl
@[simp] theorem eTup_a (as : AM) : eTup as L S = (as L S).bind fun xs S1 => if xs.length ≤ sz then .ok (.tup xs) S1 else .err := rfl
@[simp] theorem eLst_a (as : AM) : eLst as L S = (as L S).bind fun xs S1 => if xs.length ≤ sz then .ok (.ref S1.length) (S1 ++ [.lst xs]) else .err := rfl
@[simp] theorem eDic_a (t : Bool) : eDic t L S = .ok (.ref S.length) (S ++ [.dic t false []]) := rfl
@[simp] theorem eCall_a (F : Fn) (as : AM) : eCall F as L S = (as L S).bind fun xs S1 => F xs S1 := rfl
@[simp] theorem eMake_a (c : Nat) (F : Fn) (as : AM) : eMake c F as L S = (as L S).bind fun xs S1 => (F (.ref S1.length :: xs) (S1 ++ [.ins c []])).bind fun v S2 => if v = .non then .ok (.ref S1.length) S2 else .err := rfl
@[simp] theorem eSl_a (a : EM) (lo hi : PM) : eSl a lo hi L S = (a L S).bind fun x S1 => (lo L S1).bind fun l S2 => (hi L S2).bind fun h S3 => opSl x l h S3 := rfl
@[simp] theorem pNo_a : pNo L S = .ok none S := rfl
@[simp] theorem wR_pSome (a : EM) (Q : Option Int → Sto → Prop) (E : Exc → Sto → Prop) : wR (pSome a L S) Q E = wR (a L S) (fun x S1 => match x with
  | .int i => Q (some i) S1
  | _ => False) E := by
  simp only [pSome, wR_bind]
  congr 1
  funext x S1
  cases x <;> rfl
@[simp] theorem wR_eChain (f f' : Op2) (a b c : EM) (Q : D → Sto → Prop) (E : Exc → Sto → Prop) : wR (eChain f f' a b c L S) Q E = wR (a L S) (fun x S1 => wR (b L S1) (fun y S2 => wR (f x y S2) (fun z S3 => match z with
  | .bl true => wR (c L S3) (fun w S4 => wR (f' y w S4) Q E) E
  | .bl false => Q (.bl false) S3
  | _ => False) E) E) E := by
  simp only [eChain, wR_bind]
  congr 1
  funext x S1
  congr 1
  funext y S2
  congr 1
  funext z S3
  cases z with
  | bl k => cases k <;> simp
  | _ => rfl
@[simp] theorem wR_tV (a : EM) (Q : Bool → Sto → Prop) (E : Exc → Sto → Prop) : wR (tV a L S) Q E = wR (a L S) (fun x S1 => match x with
  | .bl k => Q k S1
  | _ => False) E := by
  simp only [tV, wR_bind]
  congr 1
  funext x S1
  cases x <;> rfl
@[simp] theorem wR_tAnd (a b : BM) (Q : Bool → Sto → Prop) (E : Exc → Sto → Prop) : wR (tAnd a b L S) Q E = wR (a L S) (fun c S1 => if c = true then wR (b L S1) Q E else Q false S1) E := by
  simp only [tAnd, wR_bind]
  congr 1
  funext c S1
  split <;> rfl
@[simp] theorem wR_tOr (a b : BM) (Q : Bool → Sto → Prop) (E : Exc → Sto → Prop) : wR (tOr a b L S) Q E = wR (a L S) (fun c S1 => if c = true then Q true S1 else wR (b L S1) Q E) E := by
  simp only [tOr, wR_bind]
  congr 1
  funext c S1
  split <;> rfl
@[simp] theorem wR_tNot (a : BM) (Q : Bool → Sto → Prop) (E : Exc → Sto → Prop) : wR (tNot a L S) Q E = wR (a L S) (fun c S1 => Q (!c) S1) E := by simp only [tNot, wR_bind, wR_ok]
@[simp] theorem tYes_a : tYes L S = .ok true S := rfl
@[simp] theorem gV_a (i : Nat) (d : D) : gV i d L S = .ok (L.set i (some d)) S := rfl
@[simp] theorem gNil_a : gNil [] L S = .ok L S := rfl
@[simp] theorem gCons_a (t : TM) (u : List D → Loc → Sto → R Loc) (d : D) (ds : List D) : gCons t u (d :: ds) L S = (t d L S).bind fun L1 S1 => u ds L1 S1 := rfl
@[simp] theorem gTup_a (n : Nat) (u : List D → Loc → Sto → R Loc) (ds : List D) : gTup n u (.tup ds) L S = if ds.length = n then u ds L S else .err := rfl
@[simp] theorem gSub_a (f : Set2) (o i : EM) (d : D) : gSub f o i d L S = (o L S).bind fun x S1 => (i L S1).bind fun y S2 => (f x y d S2).bind fun _ S3 => .ok L S3 := rfl
end
@[simp] theorem wR_ite {α : Type} (p : Prop) [Decidable p] (a b : R α) (Q : α → Sto → Prop) (E : Exc → Sto → Prop) : wR (if p then a else b) Q E = if p then wR a Q E else wR b Q E := by split <;> rfl
@[simp] theorem opCmp_a (f : Int → Int → Bool) (i j : Int) (S : Sto) : opCmp f (.int i) (.int j) S = .ok (.bl (f i j)) S := rfl
@[simp] theorem opAdd_i (i j : Int) (S : Sto) : opAdd (.int i) (.int j) S = .ok (.int (i + j)) S := rfl
@[simp] theorem opSub_i (i j : Int) (S : Sto) : opSub (.int i) (.int j) S = .ok (.int (i - j)) S := rfl
@[simp] theorem opMul_i (i j : Int) (S : Sto) : opMul (.int i) (.int j) S = if mulOk i j = true then .ok (.int (i * j)) S else .err := rfl
@[simp] theorem opMod_i (i j : Int) (S : Sto) : opMod (.int i) (.int j) S = if 0 < j then .ok (.int (i % j)) S else .err := rfl
@[simp] theorem opDiv_i (i j : Int) (S : Sto) : opDiv (.int i) (.int j) S = if 0 < j ∧ j < 2 ^ 200 then .ok (.int (i / j)) S else .err := rfl
@[simp] theorem opNeg_i (i : Int) (S : Sto) : opNeg (.int i) S = .ok (.int (-i)) S := rfl
@[simp] theorem opIsN_a (d : D) (S : Sto) : opIsN d S = .ok (.bl (decide (d = .non))) S := rfl
@[simp] theorem opNotN_a (d : D) (S : Sto) : opNotN d S = .ok (.bl (!decide (d = .non))) S := rfl
@[simp] theorem opAdd_t (a b : List D) (S : Sto) : opAdd (.tup a) (.tup b) S = if a.length + b.length ≤ sz then .ok (.tup (a ++ b)) S else .err := rfl
@[simp] theorem opSl_t (xs : List D) (lo hi : Option Int) (S : Sto) : opSl (.tup xs) lo hi S = .ok (.tup (cut xs lo hi)) S := rfl
@[simp] theorem fLen_t (xs : List D) (S : Sto) : fLen [.tup xs] S = .ok (.int xs.length) S := rfl
@[simp] theorem opIx_t (xs : List D) (i : Int) (S : Sto) : opIx (.tup xs) (.int i) S = (match atI xs i with
  | some d => .ok d S
  | none => .err) := rfl
section
variable {S : Sto} {n m : Nat} {xs ys : List D}
theorem opIx_r {i : Int} (h : S[n]? = some (.lst xs)) : opIx (.ref n) (.int i) S = (match atI xs i with
  | some d => .ok d S
  | none => .err) := by simp only [opIx, h] <;> rfl
theorem opIx_f {i : Int} (h : S[n]? = some (.frz xs)) : opIx (.ref n) (.int i) S = (match atI xs i with
  | some d => .ok d S
  | none => .err) := by simp only [opIx, h] <;> rfl
theorem fLen_r (h : S[n]? = some (.lst xs)) : fLen [.ref n] S = .ok (.int xs.length) S := by simp only [fLen, h]
theorem fLen_f (h : S[n]? = some (.frz xs)) : fLen [.ref n] S = .ok (.int xs.length) S := by simp only [fLen, h]
theorem fList_r (h : S[n]? = some (.lst xs)) : fList [.ref n] S = .ok (.ref S.length) (S ++ [.lst xs]) := by simp only [fList, h]
theorem fTuple_r (h : S[n]? = some (.lst xs)) : fTuple [.ref n] S = .ok (.tup xs) S := by simp only [fTuple, h]
theorem opAdd_r (h : S[n]? = some (.lst xs)) (h' : S[m]? = some (.lst ys)) : opAdd (.ref n) (.ref m) S = if xs.length + ys.length ≤ sz then .ok (.ref S.length) (S ++ [.lst (xs ++ ys)]) else .err := by simp only [opAdd, h, h']
theorem opSl_r {lo hi : Option Int} (h : S[n]? = some (.lst xs)) : opSl (.ref n) lo hi S = .ok (.ref S.length) (S ++ [.lst (cut xs lo hi)]) := by simp only [opSl, h]
theorem setL_r {i : Int} {v : D} {j : Nat} (h : S[n]? = some (.lst xs)) (hi : ixN xs.length i = some j) : setL (.ref n) (.int i) v S = .ok () (S.set n (.lst (xs.set j v))) := by simp only [setL, h, hi]
theorem opFld_r {c f : Nat} {fs : List (Nat × D)} {d : D} (h : S[n]? = some (.ins c fs)) (hf : fget f fs = some d) : opFld c f (.ref n) S = .ok d S := by simp only [opFld, h, hf, if_true]
theorem wR_gFld {c f : Nat} {o : EM} {d : D} {L : Loc} {Q : Loc → Sto → Prop} {E : Exc → Sto → Prop} (h : wR (o L S) (fun x S1 => ∃ n fs, x = .ref n ∧ S1[n]? = some (.ins c fs) ∧ fs.length < 1000 ∧ Q L (S1.set n (.ins c (fput f d fs)))) E) : wR (gFld c f o d L S) Q E := by
  simp only [gFld, wR_bind]
  refine wR_mono h (fun x S1 ⟨n, fs, e, e1, e2, q⟩ => ?_) fun _ _ z => z
  subst e
  simp only [e1, e2, and_self, if_true, wR_ok]
  exact q
theorem wR_eMeth {c mi : Nat} {F : Fn} {o : EM} {as : AM} {L : Loc} {Q : D → Sto → Prop} {E : Exc → Sto → Prop} (h : wR (o L S) (fun x S1 => ∃ n fs, x = .ref n ∧ S1[n]? = some (.ins c fs) ∧ fget mi fs = none ∧ wR (as L S1) (fun xs S2 => wR (F (.ref n :: xs) S2) Q E) E) E) : wR (eMeth c mi F o as L S) Q E := by
  simp only [eMeth, wR_bind]
  refine wR_mono h (fun x S1 ⟨n, fs, e, e1, e2, q⟩ => ?_) fun _ _ z => z
  subst e
  simp only [e1, e2, and_self, if_true, wR_bind]
  exact q
end

/-! ### stores that grow: all but the places in X as they were -/
structure Fm (X : List Nat) (S S' : Sto) : Prop where
  len : S.length ≤ S'.length
  same : ∀ n, n < S.length → n ∉ X → S'[n]? = S[n]?
theorem Fm.refl (X : List Nat) (S : Sto) : Fm X S S := ⟨Nat.le_refl _, fun _ _ _ => rfl⟩
theorem Fm.trans {X : List Nat} {S S1 S2 : Sto} (a : Fm X S S1) (b : Fm X S1 S2) : Fm X S S2 := ⟨Nat.le_trans a.len b.len, fun n h hx => by rw [b.same n (Nat.lt_of_lt_of_le h a.len) hx, a.same n h hx]⟩
theorem Fm.mono {X Y : List Nat} {S S' : Sto} (a : Fm X S S') (h : ∀ n, n < S.length → n ∈ X → n ∈ Y) : Fm Y S S' := ⟨a.len, fun n hn hx => a.same n hn fun z => hx (h n hn z)⟩
theorem Fm.push {X : List Nat} {S S' : Sto} (a : Fm X S S') (o : Ob) : Fm X S (S' ++ [o]) := ⟨by have := a.len; simp; omega, fun n h hx => by rw [List.getElem?_append_left (Nat.lt_of_lt_of_le h a.len)]; exact a.same n h hx⟩
theorem Fm.set {X : List Nat} {S S' : Sto} (a : Fm X S S') {k : Nat} (o : Ob) (hk : k ∈ X ∨ S.length ≤ k) : Fm X S (S'.set k o) := ⟨by have := a.len; simp; omega, fun n h hx => by
  rw [List.getElem?_set_ne (fun e => by subst e; rcases hk with z | z; exact hx z; omega)]
  exact a.same n h hx⟩
theorem Fm.l {a : Nat} (b : Nat) {S S' : Sto} (h : Fm [a] S S') : Fm [a, b] S S' := h.mono fun n _ z => by simp at z; simp [z]
theorem Fm.r {a : Nat} (b : Nat) {S S' : Sto} (h : Fm [a] S S') : Fm [b, a] S S' := h.mono fun n _ z => by simp at z; simp [z]
theorem Fm.nil {X : List Nat} {S S' : Sto} (h : Fm [] S S') : Fm X S S' := h.mono fun n _ z => by cases z
/-- a second place that was not there ahead -/
theorem Fm.two {a b : Nat} {S0 S S' : Sto} (h : Fm [a] S0 S) (h' : Fm [b] S S') (hb : S0.length ≤ b) : Fm [a] S0 S' := ((h.l b).trans (h'.r a)).mono fun n hn z => by
  simp at z
  rcases z with rfl | rfl
  · simp
  · omega
theorem lt_of_at {S : Sto} {n : Nat} {o : Ob} (h : S[n]? = some o) : n < S.length := (List.getElem?_eq_some_iff.mp h).1
theorem Fm.at {X : List Nat} {S S' : Sto} (a : Fm X S S') {n : Nat} {o : Ob} (h : S[n]? = some o) (hx : n ∉ X) : S'[n]? = some o := by rw [a.same n (lt_of_at h) hx]; exact h
theorem at_push {S : Sto} {n : Nat} {o u : Ob} (h : S[n]? = some o) : (S ++ [u])[n]? = some o := by rw [List.getElem?_append_left (lt_of_at h)]; exact h
@[simp] theorem at_new (S : Sto) (u : Ob) : (S ++ [u])[S.length]? = some u := by simp
theorem at_set {S : Sto} {n : Nat} {o u : Ob} (h : S[n]? = some o) : (S.set n u)[n]? = some u := by simp [lt_of_at h]
theorem at_set_ne {S : Sto} {n m : Nat} {o u : Ob} (h : S[n]? = some o) (e : m ≠ n) : (S.set m u)[n]? = some o := by rw [List.getElem?_set_ne e]; exact h

/-! ### plain data: no truths, no places -/
mutual
def pl : Nat → D → Bool
  | _, .non => true
  | _, .int _ => true
  | _, .str _ => true
  | n + 1, .tup xs => pls n xs
  | _, _ => false
def pls : Nat → List D → Bool
  | _, [] => true
  | n, x :: xs => pl n x && pls n xs
end
theorem pls_all {n : Nat} : ∀ {xs : List D}, pls n xs = true ↔ ∀ x ∈ xs, pl n x = true
  | [] => by simp [pls]
  | x :: xs => by simp [pls, pls_all (xs := xs)]
mutual
def toPy : D → PyData
  | .non => .none
  | .bl b => .bool b
  | .int i => .int i
  | .str x => .str ⟨x.toArray⟩
  | .tup xs => .tuple (toPys xs)
  | _ => .none
def toPys : List D → List PyData
  | [] => []
  | x :: xs => toPy x :: toPys xs
end
mutual
theorem reify_pl (S : Sto) : ∀ (n m : Nat) (d : D), pl n d = true → n ≤ m → reify m S d = some (toPy d)
  | n, m, .non, _, _ => by cases m <;> rfl
  | n, m, .int _, _, _ => by cases m <;> rfl
  | n, m, .str _, _, _ => by cases m <;> rfl
  | n + 1, m, .tup xs, h, hm => by
    obtain ⟨m, rfl⟩ : ∃ k, m = k + 1 := ⟨m - 1, by omega⟩
    simp only [reify, toPy]
    rw [reify_pls S n m xs (by simpa [pl] using h) (by omega)]
    rfl
  | 0, m, .tup xs, h, _ => by simp [pl] at h
  | n, m, .bl _, h, _ => by cases n <;> simp [pl] at h
  | n, m, .ref _, h, _ => by cases n <;> simp [pl] at h
  | n, m, .exn _ _, h, _ => by cases n <;> simp [pl] at h
theorem reify_pls (S : Sto) : ∀ (n m : Nat) (d : List D), pls n d = true → n ≤ m → d.mapM (reify m S) = some (toPys d)
  | n, m, [], _, _ => rfl
  | n, m, x :: xs, h, hm => by
    simp only [pls, Bool.and_eq_true] at h
    rw [List.mapM_cons, reify_pl S n m x h.1 hm, reify_pls S n m xs h.2 hm]
    rfl
end
theorem str_eq {x y : List Nat} : ((⟨x.toArray⟩ : PySem.Str) = ⟨y.toArray⟩) = (x = y) := by
  simp
mutual
theorem eqv_pl : ∀ (n m : Nat) (x y : D), pl n x = true → pl m y = true → PyData.eqv (toPy x) (toPy y) = decide (x = y)
  | n, m, .non, y, _, h => by
    cases y <;> first | (simp [toPy, PyData.eqv]; done) | (cases m <;> simp [pl] at h)
  | n, m, .int i, y, _, h => by
    cases y <;> first | (simp [toPy, PyData.eqv]; done) | (simp [toPy, PyData.eqv]; rw [Bool.eq_iff_iff]; simp; done) | (cases m <;> simp [pl] at h)
  | n, m, .str i, y, _, h => by
    cases y <;> first | (simp [toPy, PyData.eqv]; done) | (simp only [toPy, PyData.eqv]; rw [Bool.eq_iff_iff]; simp; done) | (cases m <;> simp [pl] at h)
  | n + 1, m, .tup xs, y, h', h => by
    cases y with
    | tup ys =>
      cases m with
      | zero => simp [pl] at h
      | succ m =>
        simp only [toPy, PyData.eqv]
        rw [eqv_pls n m xs ys (by simpa [pl] using h') (by simpa [pl] using h)]
        rw [Bool.eq_iff_iff]
        simp
    | _ => first | (simp [toPy, PyData.eqv]; done) | (cases m <;> simp [pl] at h)
  | 0, _, .tup _, _, h, _ => by simp [pl] at h
  | n, m, .bl _, _, h, _ => by cases n <;> simp [pl] at h
  | n, m, .ref _, _, h, _ => by cases n <;> simp [pl] at h
  | n, m, .exn _ _, _, h, _ => by cases n <;> simp [pl] at h
theorem eqv_pls : ∀ (n m : Nat) (x y : List D), pls n x = true → pls m y = true → PyData.eqvAll (toPys x) (toPys y) = decide (x = y)
  | n, m, [], [], _, _ => by simp [toPys, PyData.eqvAll]
  | n, m, [], y :: ys, _, _ => by simp [toPys, PyData.eqvAll]
  | n, m, x :: xs, [], _, _ => by simp [toPys, PyData.eqvAll]
  | n, m, x :: xs, y :: ys, h, h' => by
    simp only [pls, Bool.and_eq_true] at h h'
    simp only [toPys, PyData.eqvAll]
    rw [eqv_pl n m x y h.1 h'.1, eqv_pls n m xs ys h.2 h'.2, Bool.eq_iff_iff]
    simp
end
theorem opEq_pl {n m : Nat} {x y : D} {S : Sto} (h : pl n x = true) (h' : pl m y = true) (hn : n ≤ 60 := by decide) (hm : m ≤ 60 := by decide) : opEq x y S = .ok (.bl (decide (x = y))) S := by
  simp only [opEq, reify_pl S n 60 x h hn, reify_pl S m 60 y h' hm, eqv_pl n m x y h h']
theorem opNe_pl {n m : Nat} {x y : D} {S : Sto} (h : pl n x = true) (h' : pl m y = true) (hn : n ≤ 60 := by decide) (hm : m ≤ 60 := by decide) : opNe x y S = .ok (.bl (!decide (x = y))) S := by
  simp only [opNe, reify_pl S n 60 x h hn, reify_pl S m 60 y h' hm, eqv_pl n m x y h h']
@[simp] theorem opEq_i (i j : Int) (S : Sto) : opEq (.int i) (.int j) S = .ok (.bl (decide (i = j))) S := by
  rw [opEq_pl (n := 0) (m := 0) rfl rfl]
  simp
@[simp] theorem opNe_i (i j : Int) (S : Sto) : opNe (.int i) (.int j) S = .ok (.bl (!decide (i = j))) S := by
  rw [opNe_pl (n := 0) (m := 0) rfl rfl]
  simp
@[simp] theorem opNe_b (i j : Bool) (S : Sto) : opNe (.bl i) (.bl j) S = .ok (.bl (!(i == j))) S := rfl
@[simp] theorem opEq_b (i j : Bool) (S : Sto) : opEq (.bl i) (.bl j) S = .ok (.bl (i == j)) S := rfl
/-- a list of plain data in the store -/
def isL (S : Sto) (n : Nat) (xs : List D) : Prop := S[n]? = some (.lst xs) ∨ S[n]? = some (.frz xs)
theorem isL.push {S : Sto} {n : Nat} {xs : List D} {o : Ob} (h : isL S n xs) : isL (S ++ [o]) n xs := h.elim (fun h => .inl (at_push h)) fun h => .inr (at_push h)
theorem isL.fm {X : List Nat} {S S' : Sto} {n : Nat} {xs : List D} (h : isL S n xs) (f : Fm X S S') (hx : n ∉ X) : isL S' n xs := h.elim (fun h => .inl (f.at h hx)) fun h => .inr (f.at h hx)
theorem isL.lt {S : Sto} {n : Nat} {xs : List D} (h : isL S n xs) : n < S.length := h.elim lt_of_at lt_of_at
theorem opIx_l {S : Sto} {n : Nat} {xs : List D} {i : Int} (h : isL S n xs) : opIx (.ref n) (.int i) S = (match atI xs i with
  | some d => .ok d S
  | none => .err) := h.elim opIx_r opIx_f
theorem fLen_l {S : Sto} {n : Nat} {xs : List D} (h : isL S n xs) : fLen [.ref n] S = .ok (.int xs.length) S := h.elim fLen_r fLen_f
theorem reify_l {S : Sto} {n k m : Nat} {xs : List D} (h : isL S n xs) (hp : pls k xs = true) (hm : k < m) : reify m S (.ref n) = some (.list (toPys xs)) := by
  obtain ⟨m, rfl⟩ : ∃ k, m = k + 1 := ⟨m - 1, by omega⟩
  have := reify_pls S k m xs hp (by omega)
  rcases h with h | h <;> simp only [reify, h, this] <;> rfl
theorem opEq_l {S : Sto} {n m k l : Nat} {xs ys : List D} (h : isL S n xs) (h' : isL S m ys) (hp : pls k xs = true) (hp' : pls l ys = true) (hk : k < 60 := by decide) (hl : l < 60 := by decide) : opEq (.ref n) (.ref m) S = .ok (.bl (decide (xs = ys))) S := by
  simp only [opEq, reify_l h hp hk, reify_l h' hp' hl, PyData.eqv, eqv_pls k l xs ys hp hp']
theorem opNe_l {S : Sto} {n m k l : Nat} {xs ys : List D} (h : isL S n xs) (h' : isL S m ys) (hp : pls k xs = true) (hp' : pls l ys = true) (hk : k < 60 := by decide) (hl : l < 60 := by decide) : opNe (.ref n) (.ref m) S = .ok (.bl (!decide (xs = ys))) S := by
  simp only [opNe, reify_l h hp hk, reify_l h' hp' hl, PyData.eqv, eqv_pls k l xs ys hp hp']

/-! ### comprehensions -/
/-- the store stays, but for the list that grows -/
theorem lcL_pure {chk : Sto → Bool} {tg : TM} {t : BM} {e : EM} {L : Loc} {S1 : Sto} {p : D → Bool} {f : D → D} {L1 : D → Loc} :
    ∀ {items : List D} {acc : List D}, (∀ acc, chk (S1 ++ [.lst acc]) = true) → (∀ x ∈ items, ∀ acc, tg x L (S1 ++ [.lst acc]) = .ok (L1 x) (S1 ++ [.lst acc]) ∧ t (L1 x) (S1 ++ [.lst acc]) = .ok (p x) (S1 ++ [.lst acc]) ∧ (p x = true → e (L1 x) (S1 ++ [.lst acc]) = .ok (f x) (S1 ++ [.lst acc]))) →
      acc.length + items.length ≤ sz → lcL chk tg t e L S1.length items (S1 ++ [.lst acc]) = .ok (.ref S1.length) (S1 ++ [.lst (acc ++ (items.filter p).map f)])
  | [], acc, hc, _, _ => by simp [lcL, hc]
  | x :: xs, acc, hc, h, hz => by
    obtain ⟨h1, h2, h3⟩ := h x (List.mem_cons_self ..) acc
    have ih := fun acc' hz' => lcL_pure (items := xs) (acc := acc') hc (fun y hy => h y (List.mem_cons_of_mem _ hy)) hz'
    simp only [List.length_cons] at hz
    unfold lcL
    rw [if_pos (hc acc), h1]
    dsimp only
    rw [h2]
    cases q : p x with
    | true =>
      simp only
      rw [h3 q]
      simp only [at_new]
      rw [if_pos (by omega)]
      have e : (S1 ++ [Ob.lst acc]).set S1.length (.lst (acc ++ [f x])) = S1 ++ [.lst (acc ++ [f x])] := by
        rw [List.set_append_right _ _ (Nat.le_refl _)]
        simp
      rw [e, ih (acc ++ [f x]) (by simp; omega)]
      simp [List.filter_cons, q]
    | false =>
      simp only
      rw [ih acc (by omega)]
      simp [List.filter_cons, q]
theorem eLc_lst {a : EM} {tg : TM} {t : BM} {e : EM} {vs : List Nat} {L : Loc} {S S1 : Sto} {n : Nat} {items : List D} {p : D → Bool} {f : D → D} {L1 : D → Loc} (ha : a L S = .ok (.ref n) S1) (hn : S1[n]? = some (.lst items))
    (h : ∀ x ∈ items, ∀ acc, tg x (wipe L vs) (S1 ++ [.lst acc]) = .ok (L1 x) (S1 ++ [.lst acc]) ∧ t (L1 x) (S1 ++ [.lst acc]) = .ok (p x) (S1 ++ [.lst acc]) ∧ (p x = true → e (L1 x) (S1 ++ [.lst acc]) = .ok (f x) (S1 ++ [.lst acc]))) (hz : items.length ≤ sz) :
    eLc (wLst a) tg t e vs L S = .ok (.ref S1.length) (S1 ++ [.lst ((items.filter p).map f)]) := by
  simp only [eLc, wLst, ha, R.bind_ok, hn]
  rw [lcL_pure (fun acc => decide_eq_true (at_push hn)) h (by simpa using hz)]
  simp
theorem eLc_tup {a : EM} {tg : TM} {t : BM} {e : EM} {vs : List Nat} {L : Loc} {S S1 : Sto} {items : List D} {p : D → Bool} {f : D → D} {L1 : D → Loc} (ha : a L S = .ok (.tup items) S1)
    (h : ∀ x ∈ items, ∀ acc, tg x (wipe L vs) (S1 ++ [.lst acc]) = .ok (L1 x) (S1 ++ [.lst acc]) ∧ t (L1 x) (S1 ++ [.lst acc]) = .ok (p x) (S1 ++ [.lst acc]) ∧ (p x = true → e (L1 x) (S1 ++ [.lst acc]) = .ok (f x) (S1 ++ [.lst acc]))) (hz : items.length ≤ sz) :
    eLc (wTup a) tg t e vs L S = .ok (.ref S1.length) (S1 ++ [.lst ((items.filter p).map f)]) := by
  simp only [eLc, wTup, ha, R.bind_ok]
  rw [lcL_pure (fun acc => rfl) h (by simpa using hz)]
  simp
theorem eLc_str {a : EM} {tg : TM} {t : BM} {e : EM} {vs : List Nat} {L : Loc} {S S1 : Sto} {z : List Nat} {p : D → Bool} {f : D → D} {L1 : D → Loc} (ha : a L S = .ok (.str z) S1)
    (h : ∀ x ∈ z.map (fun c => D.str [c]), ∀ acc, tg x (wipe L vs) (S1 ++ [.lst acc]) = .ok (L1 x) (S1 ++ [.lst acc]) ∧ t (L1 x) (S1 ++ [.lst acc]) = .ok (p x) (S1 ++ [.lst acc]) ∧ (p x = true → e (L1 x) (S1 ++ [.lst acc]) = .ok (f x) (S1 ++ [.lst acc]))) (hz : z.length ≤ sz) :
    eLc (wStr a) tg t e vs L S = .ok (.ref S1.length) (S1 ++ [.lst (((z.map fun c => D.str [c]).filter p).map f)]) := by
  simp only [eLc, wStr, ha, R.bind_ok]
  rw [lcL_pure (fun acc => rfl) h (by simpa using hz)]
  simp
/-- by an invariant: what is told, in turn; the store may change -/
theorem lcL_inv {chk : Sto → Bool} {tg : TM} {t : BM} {e : EM} {L : Loc} {n : Nat} {Q : D → Sto → Prop} {E : Exc → Sto → Prop} (I : List D → List D → Sto → Prop) (hc : ∀ xs acc S, I xs acc S → chk S = true ∧ S[n]? = some (.lst acc)) (hQ : ∀ acc S, I [] acc S → Q (.ref n) S)
    (hs : ∀ x xs acc S, I (x :: xs) acc S → wR (tg x L S) (fun L1 S1 => wR (t L1 S1) (fun b S2 => if b = true then wR (e L1 S2) (fun y S3 => ∃ acc', S3[n]? = some (.lst acc') ∧ acc'.length < sz ∧ I xs (acc' ++ [y]) (S3.set n (.lst (acc' ++ [y])))) (fun _ _ => False) else I xs acc S2) (fun _ _ => False)) (fun _ _ => False)) :
    ∀ {xs acc : List D} {S : Sto}, I xs acc S → wR (lcL chk tg t e L n xs S) Q E
  | [], acc, S, h => by
    unfold lcL
    rw [if_pos (hc _ _ _ h).1]
    exact hQ _ _ h
  | x :: xs, acc, S, h => by
    have q := hs x xs acc S h
    unfold lcL
    rw [if_pos (hc _ _ _ h).1]
    cases h1 : tg x L S with
    | ok L1 S1 =>
      rw [h1] at q
      simp only [wR_ok] at q ⊢
      cases h2 : t L1 S1 with
      | ok b S2 =>
        rw [h2] at q
        simp only [wR_ok] at q
        cases b with
        | true =>
          simp only [if_true] at q ⊢
          cases h3 : e L1 S2 with
          | ok y S3 =>
            rw [h3] at q
            obtain ⟨acc', e1, e2, q⟩ := q
            simp only [e1]
            rw [if_pos e2]
            exact lcL_inv I hc hQ hs q
          | exc x S => rw [h3] at q; exact q.elim
          | err => rw [h3] at q; exact q.elim
        | false =>
          simp only [Bool.false_eq_true, if_false] at q ⊢
          exact lcL_inv I hc hQ hs q
      | exc x S => rw [h2] at q; exact q.elim
      | err => rw [h2] at q; exact q.elim
    | exc x S => rw [h1] at q; exact q.elim
    | err => rw [h1] at q; exact q.elim

/-! ### for -/
theorem forL_inv {chk : Sto → Bool} {tg : TM} {body : SM} {K : En} (I : List D → Loc → Sto → Prop) (hc : ∀ xs L S, I xs L S → chk S = true) (hQ : ∀ L S, I [] L S → K.nx L S)
    (hs : ∀ x xs L S, I (x :: xs) L S → wR (tg x L S) (fun L1 S1 => wS (body L1 S1) ⟨fun L2 S2 => I xs L2 S2, K.rt, K.nx, fun L2 S2 => I xs L2 S2, K.ex⟩) (fun _ _ => False)) :
    ∀ {xs : List D} {L : Loc} {S : Sto}, I xs L S → wS (forL chk tg body xs L S) K
  | [], L, S, h => by
    unfold forL
    rw [if_pos (hc _ _ _ h)]
    exact hQ _ _ h
  | x :: xs, L, S, h => by
    have q := hs x xs L S h
    unfold forL
    rw [if_pos (hc _ _ _ h)]
    cases h1 : tg x L S with
    | ok L1 S1 =>
      rw [h1] at q
      simp only [wR_ok] at q ⊢
      cases h2 : body L1 S1 with
      | nx L2 S2 => rw [h2] at q; exact forL_inv I hc hQ hs q
      | ct L2 S2 => rw [h2] at q; exact forL_inv I hc hQ hs q
      | bk L2 S2 => rw [h2] at q; exact q
      | rt d S2 => rw [h2] at q; exact q
      | exc x L2 S2 => rw [h2] at q; exact q
      | err => rw [h2] at q; exact q
    | exc x S => rw [h1] at q; exact q.elim
    | err => rw [h1] at q; exact q.elim
theorem wS_sFor {w : WM} {tg : TM} {body : SM} {L : Loc} {S : Sto} {K : En} : wS (sFor w tg body L S) K = wR (w L S) (fun k S1 => wS (forL k.chk tg body k.items L S1) K) (fun x S => K.ex x L S) := by
  simp only [sFor, wS_st]
theorem wR_wLst {a : EM} {L : Loc} {S : Sto} {Q : Wk → Sto → Prop} {E : Exc → Sto → Prop} (h : wR (a L S) (fun x S1 => ∃ n xs, x = .ref n ∧ S1[n]? = some (.lst xs) ∧ Q ⟨xs, fun S => decide (S[n]? = some (.lst xs))⟩ S1) E) : wR (wLst a L S) Q E := by
  simp only [wLst, wR_bind]
  refine wR_mono h (fun x S1 ⟨n, xs, e, e1, q⟩ => ?_) fun _ _ z => z
  subst e
  simp only [e1, wR_ok]
  exact q
theorem wR_wRng1 {a : EM} {L : Loc} {S : Sto} {Q : Wk → Sto → Prop} {E : Exc → Sto → Prop} (h : wR (a L S) (fun x S1 => ∃ j, x = .int j ∧ (-(2 ^ 62) ≤ j ∧ j < 2 ^ 62) ∧ Q ⟨rngD 0 j.toNat, fun _ => true⟩ S1) E) : wR (wRng1 a L S) Q E := by
  simp only [wRng1, wR_bind]
  refine wR_mono h (fun x S1 ⟨j, e, e1, q⟩ => ?_) fun _ _ z => z
  subst e
  simp only
  rw [if_pos e1]
  exact q
/-- a call's exact end -/
theorem wR_eq {α : Type} {r : R α} {a : α} {S : Sto} {Q : α → Sto → Prop} {E : Exc → Sto → Prop} (h : r = .ok a S) (q : Q a S) : wR r Q E := by rw [h]; exact q
/-! ### comprehensions whose parts make more of the store -/
inductive A2 {α β : Type} (P : α → β → Prop) : List α → List β → Prop
  | nil : A2 P [] []
  | cons {x : α} {y : β} {xs : List α} {ys : List β} : P x y → A2 P xs ys → A2 P (x :: xs) (y :: ys)
theorem A2.snoc {α β : Type} {P : α → β → Prop} : ∀ {xs : List α} {ys : List β} {x : α} {y : β}, A2 P xs ys → P x y → A2 P (xs ++ [x]) (ys ++ [y])
  | _, _, _, _, .nil, h => .cons h .nil
  | _, _, _, _, .cons a b, h => .cons a (b.snoc h)
theorem A2.eq_map {α β : Type} {f : α → β} : ∀ {xs : List α} {ys : List β}, A2 (fun x y => y = f x) xs ys → ys = xs.map f
  | _, _, .nil => rfl
  | _, _, .cons a b => by rw [List.map_cons, a, b.eq_map]
theorem A2.len {α β : Type} {P : α → β → Prop} : ∀ {xs : List α} {ys : List β}, A2 P xs ys → ys.length = xs.length
  | _, _, .nil => rfl
  | _, _, .cons a b => by simp [b.len]
theorem A2.all {α β : Type} {P : α → β → Prop} {R : β → Prop} (h : ∀ x y, P x y → R y) : ∀ {xs : List α} {ys : List β}, A2 P xs ys → ∀ y ∈ ys, R y
  | _, _, .nil, y, hy => by cases hy
  | _, _, .cons a b, y, hy => by
    cases hy with
    | head => exact h _ _ a
    | tail _ hy => exact b.all h y hy
abbrev Fl : Exc → Sto → Prop := fun _ _ => False
theorem lcL_fm {chk : Sto → Bool} {tg : TM} {t : BM} {e : EM} {L : Loc} {X : List Nat} {S1 : Sto} {items : List D} {p : D → Bool} {P : D → D → Prop} {Q : D → Sto → Prop} {E : Exc → Sto → Prop} (J : Sto → Prop) (hJ : J S1) (hJp : ∀ o, J (S1 ++ [o])) (hJs : ∀ S' o, J S' → J (S'.set S1.length o))
    (hX : ∀ n ∈ X, n < S1.length) (hchk : ∀ S', Fm X S1 S' → J S' → chk S' = true)
    (h : ∀ x ∈ items, ∀ S', Fm X S1 S' → J S' → wR (tg x L S') (fun L1 S2 => S2 = S' ∧ wR (t L1 S') (fun b S3 => Fm X S' S3 ∧ J S3 ∧ b = p x ∧ (b = true → wR (e L1 S3) (fun y S4 => Fm X S3 S4 ∧ J S4 ∧ P x y) Fl)) Fl) Fl) (hz : items.length ≤ sz)
    (q : ∀ S' ys, Fm X S1 S' → J S' → A2 P (items.filter p) ys → S'[S1.length]? = some (.lst ys) → S1.length < S'.length → Q (.ref S1.length) S') : wR (lcL chk tg t e L S1.length items (S1 ++ [.lst []])) Q E := by
  refine lcL_inv (I := fun xs acc S' => Fm X S1 S' ∧ J S' ∧ S'[S1.length]? = some (.lst acc) ∧ ∃ ds, ds ++ xs = items ∧ A2 P (ds.filter p) acc) ?_ ?_ ?_ ⟨(Fm.refl X S1).push _, hJp _, at_new _ _, [], rfl, .nil⟩
  · exact fun xs acc S' ⟨a, b, c, _⟩ => ⟨hchk _ a b, c⟩
  · intro acc S' ⟨a, b, c, ds, e1, e2⟩
    rw [List.append_nil] at e1
    subst e1
    exact q S' acc a b e2 c (lt_of_at c)
  · rintro x xs acc S' ⟨a, b, c, ds, e1, e2⟩
    have nX : S1.length ∉ X := fun z => Nat.lt_irrefl _ (hX _ z)
    refine wR_mono (h x (by rw [← e1]; simp) S' a b) (fun L1 S2 ⟨es, w⟩ => ?_) fun _ _ z => z
    subst es
    refine wR_mono w (fun bb S3 ⟨a3, b3, e3, w⟩ => ?_) fun _ _ z => z
    have c3 := a3.at c nX
    cases hb : bb with
    | true =>
      rw [if_pos rfl]
      refine wR_mono (w hb) (fun y S4 ⟨a4, b4, e4⟩ => ?_) fun _ _ z => z
      have c4 := a4.at c3 nX
      have al : acc.length = (ds.filter p).length := e2.len
      have dl : (ds.filter p).length ≤ ds.length := List.length_filter_le _ _
      have il : ds.length + xs.length + 1 = items.length := by rw [← e1]; simp; omega
      refine ⟨acc, c4, by omega, ((a.trans a3).trans a4).set _ (.inr (Nat.le_refl _)), hJs _ _ b4, at_set c4, ds ++ [x], by rw [← e1]; simp, ?_⟩
      rw [List.filter_append]
      have : [x].filter p = [x] := by simp [List.filter_cons, ← e3, hb]
      rw [this]
      exact e2.snoc e4
    | false =>
      rw [if_neg (by simp)]
      refine ⟨a.trans a3, b3, c3, ds ++ [x], by rw [← e1]; simp, ?_⟩
      rw [List.filter_append]
      have : [x].filter p = [] := by simp [List.filter_cons, ← e3, hb]
      rw [this, List.append_nil]
      exact e2
/-- a list comprehension -/
theorem wR_eLc {w : WM} {tg : TM} {t : BM} {e : EM} {vs : List Nat} {L : Loc} {S : Sto} {Q : D → Sto → Prop} {E : Exc → Sto → Prop} : wR (eLc w tg t e vs L S) Q E = wR (w L S) (fun k S1 => wR (lcL k.chk tg t e (wipe L vs) S1.length k.items (S1 ++ [.lst []])) Q E) E := by simp only [eLc, wR_bind]
theorem eq_of_wR {α : Type} {r : R α} {a : α} {S : Sto} (h : wR r (fun d S' => d = a ∧ S' = S) Fl) : r = .ok a S := by
  cases r with
  | ok d S' => obtain ⟨rfl, rfl⟩ := h; rfl
  | exc x S => exact h.elim
  | err => exact h.elim
theorem eq_of_exc {α : Type} {r : R α} {x : Exc} {S : Sto} (h : wR r (fun _ _ => False) (fun y S' => y = x ∧ S' = S)) : r = .exc x S := by
  cases r with
  | ok d S' => exact h.elim
  | exc y S' => obtain ⟨rfl, rfl⟩ := h; rfl
  | err => exact h.elim
@[simp] theorem opIsi_int (T : String) (i : Int) (S : Sto) : opIsi T (.int i) S = .ok (.bl (decide ("int" = T))) S := by simp [opIsi, tyNm]
@[simp] theorem opIsi_bl (T : String) (i : Bool) (S : Sto) : opIsi T (.bl i) S = .ok (.bl (decide ("bool" = T) || decide (T = "int"))) S := by simp [opIsi, tyNm]
@[simp] theorem opIsi_str (T : String) (i : List Nat) (S : Sto) : opIsi T (.str i) S = .ok (.bl (decide ("str" = T))) S := by simp [opIsi, tyNm]
@[simp] theorem opIsi_tup (T : String) (i : List D) (S : Sto) : opIsi T (.tup i) S = .ok (.bl (decide ("tuple" = T))) S := by simp [opIsi, tyNm]
@[simp] theorem opIsi_non (T : String) (S : Sto) : opIsi T .non S = .ok (.bl (decide ("NoneType" = T))) S := by simp [opIsi, tyNm]
theorem opIsi_l {T : String} {S : Sto} {n : Nat} {xs : List D} (h : S[n]? = some (.lst xs)) : opIsi T (.ref n) S = .ok (.bl (decide ("list" = T))) S := by simp [opIsi, tyNm, h]
theorem allB_map : ∀ {xs : List D} {f : D → Bool}, allB (xs.map fun x => .bl (f x)) = some (xs.all f)
  | [], f => rfl
  | x :: xs, f => by simp [allB, allB_map (xs := xs)]
theorem fAll_r {S : Sto} {n : Nat} {xs : List D} {b : Bool} (h : S[n]? = some (.lst xs)) (e : allB xs = some b) : fAll [.ref n] S = .ok (.bl b) S := by simp only [fAll, h, e]
theorem wR_wTup {a : EM} {L : Loc} {S : Sto} {Q : Wk → Sto → Prop} {E : Exc → Sto → Prop} (h : wR (a L S) (fun x S1 => ∃ xs, x = .tup xs ∧ Q ⟨xs, fun _ => true⟩ S1) E) : wR (wTup a L S) Q E := by
  simp only [wTup, wR_bind]
  refine wR_mono h (fun x S1 ⟨xs, e, q⟩ => ?_) fun _ _ z => z
  subst e
  exact q
theorem wR_wStr {a : EM} {L : Loc} {S : Sto} {Q : Wk → Sto → Prop} {E : Exc → Sto → Prop} (h : wR (a L S) (fun x S1 => ∃ z, x = .str z ∧ Q ⟨z.map fun c => .str [c], fun _ => true⟩ S1) E) : wR (wStr a L S) Q E := by
  simp only [wStr, wR_bind]
  refine wR_mono h (fun x S1 ⟨xs, e, q⟩ => ?_) fun _ _ z => z
  subst e
  exact q
/-- the store stays, but for the list that grows; what is walked is of the kind β -/
theorem lcL_map {β : Type} {chk : Sto → Bool} {tg : TM} {t : BM} {e : EM} {L : Loc} {S1 : Sto} {g : β → D} {p : β → Bool} {f : β → D} {L1 : β → Loc} :
    ∀ {items : List β} {acc : List D}, (∀ acc, chk (S1 ++ [.lst acc]) = true) → (∀ x ∈ items, ∀ acc, tg (g x) L (S1 ++ [.lst acc]) = .ok (L1 x) (S1 ++ [.lst acc]) ∧ t (L1 x) (S1 ++ [.lst acc]) = .ok (p x) (S1 ++ [.lst acc]) ∧ (p x = true → e (L1 x) (S1 ++ [.lst acc]) = .ok (f x) (S1 ++ [.lst acc]))) →
      acc.length + items.length ≤ sz → lcL chk tg t e L S1.length (items.map g) (S1 ++ [.lst acc]) = .ok (.ref S1.length) (S1 ++ [.lst (acc ++ (items.filter p).map f)])
  | [], acc, hc, _, _ => by simp [lcL, hc]
  | x :: xs, acc, hc, h, hz => by
    obtain ⟨h1, h2, h3⟩ := h x (List.mem_cons_self ..) acc
    have ih := fun acc' hz' => lcL_map (items := xs) (acc := acc') hc (fun y hy => h y (List.mem_cons_of_mem _ hy)) hz'
    simp only [List.length_cons] at hz
    rw [List.map_cons]
    unfold lcL
    rw [if_pos (hc acc), h1]
    dsimp only
    rw [h2]
    cases q : p x with
    | true =>
      simp only
      rw [h3 q]
      simp only [at_new]
      rw [if_pos (by omega)]
      have e : (S1 ++ [Ob.lst acc]).set S1.length (.lst (acc ++ [f x])) = S1 ++ [.lst (acc ++ [f x])] := by
        rw [List.set_append_right _ _ (Nat.le_refl _)]
        simp
      rw [e, ih (acc ++ [f x]) (by simp; omega)]
      simp [List.filter_cons, q]
    | false =>
      simp only
      rw [ih acc (by omega)]
      simp [List.filter_cons, q]
theorem eLc_map {β : Type} {a : EM} {tg : TM} {t : BM} {e : EM} {vs : List Nat} {L : Loc} {S S1 : Sto} {n : Nat} {items : List β} {g : β → D} {p : β → Bool} {f : β → D} {L1 : β → Loc} (ha : a L S = .ok (.ref n) S1) (hn : S1[n]? = some (.lst (items.map g)))
    (h : ∀ x ∈ items, ∀ acc, tg (g x) (wipe L vs) (S1 ++ [.lst acc]) = .ok (L1 x) (S1 ++ [.lst acc]) ∧ t (L1 x) (S1 ++ [.lst acc]) = .ok (p x) (S1 ++ [.lst acc]) ∧ (p x = true → e (L1 x) (S1 ++ [.lst acc]) = .ok (f x) (S1 ++ [.lst acc]))) (hz : items.length ≤ sz) :
    eLc (wLst a) tg t e vs L S = .ok (.ref S1.length) (S1 ++ [.lst ((items.filter p).map f)]) := by
  simp only [eLc, wLst, ha, R.bind_ok, hn]
  rw [lcL_map (fun acc => decide_eq_true (at_push hn)) h (by simpa using hz)]
  simp
theorem tV_ok {a : EM} {L : Loc} {S S1 : Sto} {b : Bool} (h : a L S = .ok (.bl b) S1) : tV a L S = .ok b S1 := by simp only [tV, h, R.bind_ok]
theorem tAnd_ok {a b : BM} {L : Loc} {S : Sto} {x y : Bool} (h : a L S = .ok x S) (h' : b L S = .ok y S) : tAnd a b L S = .ok (x && y) S := by
  simp only [tAnd, h, R.bind_ok]
  cases x
  · rfl
  · simp [h']
theorem atI_0 {α : Type} (x : α) (xs : List α) : atI (x :: xs) 0 = some x := by
  unfold atI ixN
  rw [if_pos (by decide), if_pos (by simp only [List.length_cons]; omega)]
  rfl
theorem fLenOwn_r {c : Nat} {F : Fn} {S S1 : Sto} {n : Nat} {fs : List (Nat × D)} {i : Int} (h : S[n]? = some (.ins c fs)) (e : F [.ref n] S = .ok (.int i) S1) (h0 : 0 ≤ i) (h1 : i < 2 ^ 63) : fLenOwn c F [.ref n] S = .ok (.int i) S1 := by
  simp only [fLenOwn, h, if_pos]
  rw [e]
  simp only [R.bind_ok]
  rw [if_pos ⟨h0, h1⟩]
/-! splitting at a sign: the only list of parts without it that joins to the text -/
theorem splitC_ne (c : Nat) : ∀ x : List Nat, splitC c x ≠ []
  | [] => by simp [splitC]
  | x :: r => by
    unfold splitC
    split
    · simp
    · split <;> simp
theorem splitC_free (c : Nat) : ∀ x : List Nat, ∀ p ∈ splitC c x, c ∉ p
  | [], p, h => by simp [splitC] at h; subst h; simp
  | x :: r, p, h => by
    have ih := splitC_free c r
    unfold splitC at h
    split at h
    · rcases List.mem_cons.mp h with rfl | h
      · simp
      · exact ih p h
    · rename_i ne
      split at h
      · rename_i hd tl e
        rcases List.mem_cons.mp h with rfl | h
        · have := ih hd (by rw [e]; exact List.mem_cons_self ..)
          simp only [List.mem_cons, not_or]
          exact ⟨fun z => ne z.symm, this⟩
        · exact ih p (by rw [e]; exact List.mem_cons_of_mem _ h)
      · simp only [List.mem_cons, List.not_mem_nil, or_false] at h
        subst h
        simpa using fun z => ne z.symm
theorem joinS_cons (c : Nat) (x : List Nat) {ys : List (List Nat)} (h : ys ≠ []) : joinS [c] (x :: ys) = x ++ c :: joinS [c] ys := by
  cases ys with
  | nil => exact absurd rfl h
  | cons y r =>
    show x ++ [c] ++ joinS [c] (y :: r) = _
    simp
theorem splitC_join (c : Nat) : ∀ x : List Nat, joinS [c] (splitC c x) = x
  | [] => rfl
  | x :: r => by
    have ih := splitC_join c r
    unfold splitC
    split
    · rename_i e
      rw [joinS_cons c [] (splitC_ne c r), ih, e]
      rfl
    · split
      · rename_i hd tl e
        rw [e] at ih
        cases tl with
        | nil => simpa [joinS] using ih
        | cons y t =>
          rw [joinS_cons c hd (by simp)] at ih
          rw [joinS_cons c (x :: hd) (by simp), List.cons_append, ih]
      · rename_i e
        exact absurd e (splitC_ne c r)
theorem cut_free {c : Nat} : ∀ {x y u v : List Nat}, c ∉ x → c ∉ y → x ++ c :: u = y ++ c :: v → x = y ∧ u = v
  | [], [], u, v, _, _, h => ⟨rfl, by simpa using h⟩
  | [], y :: ys, u, v, _, hy, h => by simp at h; exact absurd (by simp [h.1]) hy
  | x :: xs, [], u, v, hx, _, h => by simp at h; exact absurd (by simp [h.1]) hx
  | x :: xs, y :: ys, u, v, hx, hy, h => by
    simp only [List.cons_append, List.cons.injEq] at h
    obtain ⟨e1, e2⟩ := cut_free (fun z => hx (List.mem_cons_of_mem _ z)) (fun z => hy (List.mem_cons_of_mem _ z)) h.2
    exact ⟨by rw [h.1, e1], e2⟩
theorem join_inj {c : Nat} : ∀ {xs ys : List (List Nat)}, xs ≠ [] → ys ≠ [] → (∀ p ∈ xs, c ∉ p) → (∀ p ∈ ys, c ∉ p) → joinS [c] xs = joinS [c] ys → xs = ys
  | [], _, h, _, _, _, _ => absurd rfl h
  | _, [], _, h, _, _, _ => absurd rfl h
  | [x], [y], _, _, _, _, e => by simpa [joinS] using e
  | [x], y :: y2 :: r, _, _, hx, hy, e => by
    rw [joinS_cons c y (by simp)] at e
    have : c ∈ joinS [c] [x] := by rw [e]; simp
    exact absurd this (hx x (List.mem_cons_self ..))
  | x :: x2 :: r, [y], _, _, hx, hy, e => by
    rw [joinS_cons c x (by simp)] at e
    have : c ∈ joinS [c] [y] := by rw [← e]; simp
    exact absurd this (hy y (List.mem_cons_self ..))
  | x :: x2 :: r, y :: y2 :: q, _, _, hx, hy, e => by
    rw [joinS_cons c x (by simp), joinS_cons c y (by simp)] at e
    obtain ⟨e1, e2⟩ := cut_free (hx x (List.mem_cons_self ..)) (hy y (List.mem_cons_self ..)) e
    rw [e1, join_inj (by simp) (by simp) (fun p hp => hx p (List.mem_cons_of_mem _ hp)) (fun p hp => hy p (List.mem_cons_of_mem _ hp)) e2]
theorem cut_none {α : Type} (xs : List α) (n : Nat) : cut xs none (some (n : Int)) = xs.take n := by
  have e : sIx xs.length xs.length (some (n : Int)) = min n xs.length := by
    simp only [sIx]
    rw [if_neg (by omega)]
    simp
  have e2 : sIx xs.length 0 none = 0 := rfl
  unfold cut
  rw [e, e2, List.drop_zero, Nat.sub_zero]
  rw [Nat.min_comm, ← List.take_take]
  exact List.take_of_length_le (by simp; omega)
theorem cut_from {α : Type} (xs : List α) (n : Nat) (h : n ≤ xs.length) : cut xs (some (n : Int)) none = xs.drop n := by
  have e : sIx xs.length 0 (some (n : Int)) = n := by
    simp only [sIx]
    rw [if_neg (by omega)]
    simp
    omega
  have e2 : sIx xs.length xs.length none = xs.length := rfl
  unfold cut
  rw [e, e2, List.take_of_length_le (by simp)]
theorem wR_eBM {t : String} {F : Fn} {o : EM} {as : AM} {L : Loc} {S : Sto} {Q : D → Sto → Prop} {E : Exc → Sto → Prop} (h : wR (o L S) (fun x S1 => tyNm S1 x = some t ∧ wR (as L S1) (fun xs S2 => wR (F (x :: xs) S2) Q E) E) E) : wR (eBM t F o as L S) Q E := by
  simp only [eBM, wR_bind]
  refine wR_mono h (fun x S1 ⟨e, q⟩ => ?_) fun _ _ z => z
  rw [if_pos e, wR_bind]
  exact q
end MP

namespace MP
open PySem (PyData)
/-! ### the dice -/
def isDie (S : Sto) (n : Nat) : Prop := ∃ a b : Int, S[n]? = some (.lst [.int a, .int b])
theorem isDie.fm {X : List Nat} {S S' : Sto} {n : Nat} (h : isDie S n) (f : Fm X S S') (hx : n ∉ X) : isDie S' n := by
  obtain ⟨a, b, h⟩ := h
  exact ⟨a, b, f.at h hx⟩
theorem isDie.push {S : Sto} {n : Nat} {o : Ob} (h : isDie S n) : isDie (S ++ [o]) n := by
  obtain ⟨a, b, h⟩ := h
  exact ⟨a, b, at_push h⟩
theorem isDie.set {S : Sto} {n k : Nat} {o : Ob} (h : isDie S n) (e : k ≠ n) : isDie (S.set k o) n := by
  obtain ⟨a, b, h⟩ := h
  exact ⟨a, b, at_set_ne h e⟩
theorem isDie.lt {S : Sto} {n : Nat} (h : isDie S n) : n < S.length := by
  obtain ⟨a, b, h⟩ := h
  exact lt_of_at h
theorem mul_small {i j : Int} (h : -(2 ^ 64) < j ∧ j < 2 ^ 64) : mulOk i j = true := by
  unfold mulOk
  simp only [Bool.or_eq_true, Bool.and_eq_true, decide_eq_true_eq]
  exact .inl (.inr h)
theorem mul_mid {i j : Int} (h : i.natAbs < 2 ^ 200) (h' : j.natAbs < 2 ^ 200) : mulOk i j = true := by
  unfold mulOk
  simp only [Bool.or_eq_true, Bool.and_eq_true, decide_eq_true_eq]
  exact .inr ⟨h, h'⟩
theorem drawn_ok (a b : Int) (S : Sto) : ∃ r : Int, f__law_drawn [.int a, .int b] S = .ok (.int r) S := by
  have key : wR (f__law_drawn [.int a, .int b] S) (fun d S' => S' = S ∧ ∃ r : Int, d = .int r) (fun _ _ => False) := by
    refine wR_call rfl ?_
    unfold c__law_drawn
    simp only [wS_sSeq, wS_sAsg, eBin_a, eV_a, eC_a, List.map, List.replicate, List.cons_append, List.nil_append, List.getElem?_cons_zero, List.getElem?_cons_succ, R.bind_ok, opMul_i, Nat.sub_self, Nat.reduceSub]
    rw [if_pos (mul_small (by decide))]
    simp only [R.bind_ok, opAdd_i, opMul_i]
    rw [if_pos (mul_small (by decide))]
    simp only [R.bind_ok, opAdd_i, opMod_i]
    rw [if_pos (by decide)]
    simp only [wR_ok, gV_a, List.set_cons_succ, List.set_cons_zero, List.getElem?_cons_succ, List.getElem?_cons_zero, R.bind_ok, opMul_i]
    generalize hx : (a * 6364136223846793005 + (b + 1) * 1442695040888963407) % 340282366920938463463374607431768211507 = x
    have x0 : 0 ≤ x := by omega
    have x1 : x < 340282366920938463463374607431768211507 := by omega
    clear hx
    rw [if_pos (mul_mid (by omega) (by omega))]
    simp only [R.bind_ok, opMod_i]
    rw [if_pos (by decide)]
    simp only [wR_ok, gV_a, List.set_cons_succ, List.set_cons_zero, List.getElem?_cons_succ, List.getElem?_cons_zero, R.bind_ok, opMul_i]
    generalize hy : x * x % 340282366920938463463374607431768211297 = y
    have y0 : 0 ≤ y := by omega
    have y1 : y < 340282366920938463463374607431768211297 := by omega
    clear hy
    have d1 : ∀ S, opDiv (.int y) (.int 18446744073709551557) S = .ok (.int (y / 18446744073709551557)) S := fun S => by rw [opDiv_i, if_pos (by decide)]
    have d2 : ∀ S, opMod (.int y) (.int 18446744073709551557) S = .ok (.int (y % 18446744073709551557)) S := fun S => by rw [opMod_i, if_pos (by decide)]
    simp only [d1, d2, wR_ok, R.bind_ok, opAdd_i, opMul_i]
    have u0 : 0 ≤ y % 18446744073709551557 + 1 := by omega
    have u1 : y % 18446744073709551557 + 1 < 18446744073709551616 := by omega
    have v0 : 0 ≤ y / 18446744073709551557 + 1 := by omega
    have v1 : y / 18446744073709551557 + 1 < 36893488147419103232 := by omega
    generalize y % 18446744073709551557 + 1 = u at u0 u1
    generalize y / 18446744073709551557 + 1 = v at v0 v1
    rw [if_pos (mul_mid (by omega) (by omega))]
    simp only [wR_ok, R.bind_ok, opMul_i]
    have w0 : 0 ≤ u * v := Int.mul_nonneg u0 v0
    have w1 : u * v ≤ 18446744073709551616 * 36893488147419103232 := Int.mul_le_mul (by omega) (by omega) v0 (by omega)
    rw [if_pos (mul_mid (by omega) (by omega))]
    simp only [wR_ok, R.bind_ok, gV_a, wS_sRet, eBin_a, eV_a, eC_a, List.set_cons_succ, List.set_cons_zero, List.getElem?_cons_succ, List.getElem?_cons_zero, opMod_i]
    rw [if_pos (by decide)]
    simp only [wR_ok]
    exact ⟨trivial, _, rfl⟩
  cases h : f__law_drawn [.int a, .int b] S with
  | ok d S' =>
    rw [h] at key
    obtain ⟨rfl, r, rfl⟩ := key
    exact ⟨r, rfl⟩
  | exc x S' => rw [h] at key; exact key.elim
  | err => rw [h] at key; exact key.elim
/-- one throw -/
theorem roll_ok {S : Sto} {n : Nat} {m : Int} {Q : D → Sto → Prop} {E : Exc → Sto → Prop} (h : isDie S n) (hm : 0 < m) (hm2 : m < 2 ^ 64)
    (q : ∀ (r : Int) (S' : Sto), 0 ≤ r → r < m → Fm [n] S S' → isDie S' n → S'.length = S.length → Q (.int r) S') : wR (f__law_roll [.ref n, .int m] S) Q E := by
  obtain ⟨a, b, h⟩ := h
  have q' : ∀ (r a' b' : Int), 0 ≤ r → r < m → Q (.int r) (S.set n (.lst [.int a', .int b'])) := fun r a' b' h0 h1 => q r _ h0 h1 ((Fm.refl [n] S).set _ (.inl (by simp))) ⟨a', b', at_set h⟩ (by simp)
  refine wR_call rfl ?_
  unfold c__law_roll
  have ix0 : ∀ {x y : Int} {S : Sto}, S[n]? = some (.lst [.int x, .int y]) → opIx (.ref n) (.int 0) S = .ok (.int x) S := fun {x y S} h => by rw [opIx_r h]; rfl
  have ix1 : ∀ {x y : Int} {S : Sto}, S[n]? = some (.lst [.int x, .int y]) → opIx (.ref n) (.int 1) S = .ok (.int y) S := fun {x y S} h => by rw [opIx_r h]; rfl
  have st0 : ∀ {x y v : Int} {S : Sto}, S[n]? = some (.lst [.int x, .int y]) → setL (.ref n) (.int 0) (.int v) S = .ok () (S.set n (.lst [.int v, .int y])) := fun {x y v S} h => by rw [setL_r (j := 0) h rfl]; rfl
  have st1 : ∀ {x y v : Int} {S : Sto}, S[n]? = some (.lst [.int x, .int y]) → setL (.ref n) (.int 1) (.int v) S = .ok () (S.set n (.lst [.int x, .int v])) := fun {x y v S} h => by rw [setL_r (j := 1) h rfl]; rfl
  have pw : ∀ S, opPow (.int 10) (.int 18) S = .ok (.int (10 ^ 18)) S := fun S => rfl
  have l1 : ∀ x, [some (D.ref n), some (D.int m), x][0]? = some (some (.ref n)) := fun x => rfl
  simp only [wS_sSeq, wS_sIf, wR_tV, wS_sAsg, wS_sRet, wS_sNx, eBin_a, eV_a, eC_a, List.map, List.replicate, List.cons_append, List.nil_append, List.getElem?_cons_zero, List.getElem?_cons_succ, R.bind_ok, Nat.sub_self, Nat.reduceSub, ix0 h, pw, opCmp_a, wR_ok, opMod_i, if_pos hm, gV_a, List.set_cons_succ, List.set_cons_zero, opDiv_i, ix1 h, opAdd_i, wR_ite, gSub_a, wR_bind]
  have hd : 0 < m ∧ m < 2 ^ 200 := ⟨hm, by have : (2:Int) ^ 64 < 2 ^ 200 := by decide
                                           omega⟩
  split
  · simp only [wR_ok, st0 h, R.bind_ok]
    exact q' _ _ _ (Int.emod_nonneg _ (by omega)) (Int.emod_lt_of_pos _ hm)
  · simp only [st1 h, wR_ok, eCall_a, aCons_a, aNil_a, eBin_a, eV_a, eC_a, List.getElem?_cons_zero, List.getElem?_cons_succ, R.bind_ok, wR_bind, ix0 (at_set h), ix1 (at_set h)]
    obtain ⟨r, hr⟩ := drawn_ok a (b + 1) (S.set n (.lst [.int a, .int (b + 1)]))
    rw [hr]
    simp only [wR_ok, opDiv_i]
    rw [if_pos (by decide)]
    simp only [wR_ok, opMod_i, if_pos hm]
    exact q' _ _ _ (Int.emod_nonneg _ (by omega)) (Int.emod_lt_of_pos _ hm)
/-! ### numbers -/
theorem num_i (x lo hi : Int) (S : Sto) : f_is_number [.int x, .int lo, .int hi] S = .ok (.bl (decide (lo ≤ x ∧ x ≤ hi))) S := by
  refine eq_of_wR (wR_call rfl ?_)
  simp only [c_is_number, wS_sSeq, wS_sIf, wR_tOr, wR_tNot, wR_tV, eUn_a, eV_a, List.map, List.replicate, List.cons_append, List.nil_append, List.getElem?_cons_zero, List.getElem?_cons_succ, R.bind_ok, opIsi_int, wR_ok, Nat.sub_self, decide_true, Bool.not_true, Bool.false_eq_true, if_false, eBin_a, opCmp_a, wS_sRet, wR_eOr, opIsN_a, wS_sNx, eC_a]
  by_cases h : x < lo
  · simp [h]
    omega
  · simp [h]
    omega
theorem num_n (x lo : Int) (S : Sto) : f_is_number [.int x, .int lo, .non] S = .ok (.bl (decide (lo ≤ x))) S := by
  refine eq_of_wR (wR_call rfl ?_)
  simp only [c_is_number, wS_sSeq, wS_sIf, wR_tOr, wR_tNot, wR_tV, eUn_a, eV_a, List.map, List.replicate, List.cons_append, List.nil_append, List.getElem?_cons_zero, List.getElem?_cons_succ, R.bind_ok, opIsi_int, wR_ok, Nat.sub_self, decide_true, Bool.not_true, Bool.false_eq_true, if_false, eBin_a, opCmp_a, wS_sRet, wR_eOr, opIsN_a, wS_sNx, eC_a]
  by_cases h : x < lo
  · simp [h]
  · simp [h]
    omega
theorem need_i {x lo hi : Int} (S : Sto) (h : lo ≤ x ∧ x ≤ hi) : f_need_number [.int x, .int lo, .int hi] S = .ok .non S := by
  refine eq_of_wR (wR_call rfl ?_)
  simp [c_need_number, num_i, h]
theorem need_n {x lo : Int} (S : Sto) (h : lo ≤ x) : f_need_number [.int x, .int lo, .non] S = .ok .non S := by
  refine eq_of_wR (wR_call rfl ?_)
  simp [c_need_number, num_n, h]
theorem need_d {x lo : Int} (S : Sto) (h : lo ≤ x) : withD f_need_number [.non] [.int x, .int lo] S = .ok .non S := need_n S h
/-! ### names -/
def signs : List Nat := [97, 98, 99, 100, 101, 102, 103, 104, 105, 106, 107, 108, 109, 110, 111, 112, 113, 114, 115, 116, 117, 118, 119, 120, 121, 122, 48, 49, 50, 51, 52, 53, 54, 55, 56, 57]
def okPart (x : List Nat) : Bool := decide (1 ≤ x.length) && (decide (x.length ≤ 4) && x.all fun c => decide (c ∈ signs))
theorem part_ok {x : List Nat} {S : Sto} {Q : D → Sto → Prop} {E : Exc → Sto → Prop} (q : ∀ S', Fm [] S S' → Q (.bl (okPart x)) S') (hx : x.length ≤ sz) : wR (f_is_part [.str x] S) Q E := by
  refine wR_call rfl ?_
  simp only [c_is_part, wS_sRet, wR_eAnd, eUn_a, eV_a, List.map, List.replicate, List.cons_append, List.nil_append, List.getElem?_cons_zero, List.getElem?_cons_succ, R.bind_ok, opIsi_str, wR_ok, decide_true, wR_eChain, eC_a, eCall_a, aCons_a, aNil_a, fLen, if_pos hx, opCmp_a, wR_bind, Nat.reduceSub]
  unfold okPart at q
  by_cases h1 : 1 ≤ x.length
  · simp only [h1, decide_true, Bool.true_and] at q
    simp only [show (1 : Int) ≤ (x.length : Int) by omega, decide_true]
    by_cases h2 : x.length ≤ 4
    · simp only [h2, decide_true, Bool.true_and] at q
      simp only [show (x.length : Int) ≤ 4 by omega, decide_true]
      refine wR_eq (eLc_str (S1 := S) (p := fun _ => true) (f := fun d => match d with
        | .str [c] => .bl (decide (c ∈ signs))
        | _ => .bl false) (L1 := fun d => [some (.str x), some d]) rfl (fun d hd acc => ?_) (by omega)) ?_
      · obtain ⟨c, _, rfl⟩ := List.mem_map.mp hd
        exact ⟨rfl, rfl, fun _ => rfl⟩
      · refine wR_eq (fAll_r (b := x.all fun c => decide (c ∈ signs)) (at_new _ _) ?_) (q _ ((Fm.refl _ _).push _))
        rw [List.filter_eq_self.mpr (fun _ _ => rfl), List.map_map]
        clear q hx h1 h2
        induction x with
        | nil => rfl
        | cons c x ih => simp only [List.map_cons, Function.comp, allB, ih, List.all_cons, Option.map_some]
    · simp only [h2, decide_false, Bool.false_and] at q
      simp only [show ¬ (x.length : Int) ≤ 4 by omega, decide_false]
      exact q _ (Fm.refl _ _)
  · simp only [h1, decide_false, Bool.false_and] at q
    simp only [show ¬ (1 : Int) ≤ (x.length : Int) by omega, decide_false]
    exact q _ (Fm.refl _ _)
/-- a beginning of these parts -/
abbrev nmD (xs : List (List Nat)) : D := .tup (xs.map .str)
def okBeg (xs : List (List Nat)) : Bool := decide (xs.length ≤ 5) && xs.all okPart
theorem beg_ok {xs : List (List Nat)} {S : Sto} {Q : D → Sto → Prop} {E : Exc → Sto → Prop} (q : ∀ S', Fm [] S S' → Q (.bl (okBeg xs)) S') (hx : ∀ x ∈ xs, x.length ≤ sz) : wR (f_is_beginning [nmD xs] S) Q E := by
  refine wR_call rfl ?_
  simp only [c_is_beginning, wS_sRet, wR_eAnd, eUn_a, eV_a, List.map, List.replicate, List.cons_append, List.nil_append, List.getElem?_cons_zero, List.getElem?_cons_succ, R.bind_ok, opIsi_tup, wR_ok, decide_true, eBin_a, eC_a, eCall_a, aCons_a, aNil_a, fLen_t, opCmp_a, wR_bind, Nat.reduceSub, List.length_map]
  unfold okBeg at q
  by_cases h1 : xs.length ≤ 5
  · simp only [h1, decide_true, Bool.true_and] at q
    simp only [show (xs.length : Int) ≤ 5 by omega, decide_true]
    rw [wR_eLc]
    refine wR_wTup (show wR (R.ok (nmD xs) S) _ _ from ⟨_, rfl, ?_⟩)
    refine lcL_fm (X := []) (p := fun _ => true) (P := fun d y => ∃ x, d = .str x ∧ y = .bl (okPart x)) (fun _ => True) trivial (fun _ => trivial) (fun _ _ _ => trivial) (by simp) (fun _ _ _ => rfl) (fun d hd S' a _ => ?_) (by simp [sz]; omega) fun S' ys a _ hys e _ => ?_
    · obtain ⟨x, hx', rfl⟩ := List.mem_map.mp hd
      refine ⟨rfl, Fm.refl _ _, trivial, rfl, fun _ => ?_⟩
      show wR (f_is_part [.str x] S') _ _
      exact part_ok (fun S2 f => ⟨f, trivial, x, rfl, rfl⟩) (hx x hx')
    · simp only [wR_ok, fAll]
      have : allB ys = some (xs.all okPart) := by
        rw [List.filter_eq_self.mpr (fun _ _ => rfl)] at hys
        clear q hx h1 e a
        induction xs generalizing ys with
        | nil => cases hys; rfl
        | cons x xs ih =>
          rw [List.map_cons] at hys
          cases hys with
          | cons h t =>
            obtain ⟨x', h, rfl⟩ := h
            cases h
            simp only [allB, ih _ t, List.all_cons, Option.map_some]
      refine wR_eq (fAll_r e this) (q _ a)
  · simp only [h1, decide_false, Bool.false_and] at q
    simp only [show ¬ (xs.length : Int) ≤ 5 by omega, decide_false]
    exact q _ (Fm.refl _ _)
def okNm (xs : List (List Nat)) : Bool := okBeg xs && decide (xs ≠ [])
theorem pl_nm (xs : List (List Nat)) : pl 1 (nmD xs) = true := by
  simp only [pl, pls_all]
  intro x hx
  obtain ⟨y, _, rfl⟩ := List.mem_map.mp hx
  rfl
theorem nmD_inj {xs ys : List (List Nat)} (h : nmD xs = nmD ys) : xs = ys := by
  have h := D.tup.inj h
  exact List.map_inj_right (fun _ _ e => D.str.inj e) |>.mp h
theorem name_ok {xs : List (List Nat)} {S : Sto} {Q : D → Sto → Prop} {E : Exc → Sto → Prop} (q : ∀ S', Fm [] S S' → Q (.bl (okNm xs)) S') (hx : ∀ x ∈ xs, x.length ≤ sz) : wR (f_is_name [nmD xs] S) Q E := by
  refine wR_call rfl ?_
  simp only [c_is_name, wS_sRet, wR_eAnd, eV_a, List.map, List.replicate, List.cons_append, List.nil_append, List.getElem?_cons_zero, R.bind_ok, eCall_a, aCons_a, aNil_a, wR_bind, wR_ok, eBin_a, eTup_a, Nat.sub_self]
  refine beg_ok (fun S' f => ?_) hx
  unfold okNm at q
  cases h : okBeg xs with
  | false =>
    rw [h] at q
    exact q _ f
  | true =>
    rw [h] at q
    simp only [List.length_nil, Nat.zero_le, if_true, R.bind_ok, wR_ok]
    rw [opNe_pl (pl_nm xs) (show pl 1 (.tup []) = true from rfl)]
    have : (!decide (nmD xs = .tup [])) = decide (xs ≠ []) := by
      rw [Bool.eq_iff_iff]
      simp
    rw [this]
    exact q _ f
theorem neednm_ok {xs : List (List Nat)} {S : Sto} {Q : D → Sto → Prop} {E : Exc → Sto → Prop} (h : okNm xs = true) (q : ∀ S', Fm [] S S' → Q .non S') (hx : ∀ x ∈ xs, x.length ≤ sz) : wR (f_need_name [nmD xs] S) Q E := by
  refine wR_call rfl ?_
  simp only [c_need_name, wS_sIf, wR_tNot, wR_tV, eV_a, List.map, List.replicate, List.cons_append, List.nil_append, List.getElem?_cons_zero, R.bind_ok, eCall_a, aCons_a, aNil_a, wR_bind, wR_ok, Nat.sub_self]
  refine name_ok (fun S' f => ?_) hx
  rw [h]
  simpa using q _ f
theorem okPart_len {x : List Nat} (h : okPart x = true) : x.length ≤ sz := by
  unfold okPart at h
  simp only [Bool.and_eq_true, decide_eq_true_eq] at h
  unfold sz
  omega
/-! ### the script's cells -/
theorem atI_nn {α : Type} {xs : List α} {i : Int} (h0 : 0 ≤ i) (h1 : i < xs.length) : ∃ x, atI xs i = some x ∧ x ∈ xs := by
  obtain ⟨k, rfl⟩ := Int.eq_ofNat_of_zero_le h0
  have hk : k < xs.length := by omega
  refine ⟨xs[k], ?_, List.getElem_mem _⟩
  unfold atI ixN
  rw [if_pos h0, if_pos h1]
  simp [hk]
theorem cell_ok {S : Sto} {n : Nat} {ns : List Int} {k : Int} {Q : D → Sto → Prop} {E : Exc → Sto → Prop} (h : isL S n (ns.map .int)) (hk : 0 ≤ k) (hz : ns.length ≤ 63)
    (q : ∀ (r : Int) (S' : Sto), Fm [] S S' → Q (.int r) S') : wR (f__law_cell [.ref n, .int k] S) Q E := by
  refine wR_call rfl ?_
  have pli : pls 0 (ns.map .int) = true := pls_all.mpr fun x hx => by
    obtain ⟨y, _, rfl⟩ := List.mem_map.mp hx
    rfl
  simp only [c__law_cell, wS_sSeq, wS_sIf, wR_tV, wS_sRet, wS_sNx, eBin_a, eV_a, eC_a, List.map, List.replicate, List.cons_append, List.nil_append, List.getElem?_cons_zero, List.getElem?_cons_succ, R.bind_ok, Nat.sub_self, eLst_a, aNil_a, List.length_nil, Nat.zero_le, if_true]
  have hp := h.push (o := .lst [])
  rw [opEq_l (k := 0) (l := 0) hp (.inl (at_new _ _)) pli rfl]
  simp only [wR_ok, wR_bind, opMul_i, eCall_a, aCons_a, eV_a, List.getElem?_cons_zero, R.bind_ok, aNil_a, fLen_l hp, List.length_map]
  have fm : Fm [] S (S ++ [.lst []]) := (Fm.refl _ _).push _
  cases ns with
  | nil =>
    simp only [List.map_nil, decide_true, if_true]
    rw [if_pos (mul_small (by decide))]
    exact q _ _ fm
  | cons a ns =>
    simp only [List.map_cons, reduceCtorEq, decide_false, Bool.false_eq_true, if_false, List.length_cons, opMod_i, opDiv_i]
    generalize hl : (((ns.length + 1 : Nat) : Int)) = l
    have l0 : 0 < l := by omega
    rw [if_pos l0]
    simp only [wR_ok, opIx_l hp]
    obtain ⟨x, e, hx⟩ := atI_nn (xs := (a :: ns).map D.int) (i := k % l) (Int.emod_nonneg _ (by omega)) (by have := Int.emod_lt_of_pos k l0; simp; omega)
    rw [e]
    obtain ⟨y, _, rfl⟩ := List.mem_map.mp hx
    simp only [wR_ok, fLen_l hp, List.length_map, List.length_cons, hl]
    rw [opDiv_i, if_pos ⟨l0, by simp at hz; have : (63:Int) < 2 ^ 200 := by decide
                                omega⟩]
    simp only [wR_ok, opMul_i]
    rw [if_pos (mul_small (by decide))]
    simp only [wR_ok, opAdd_i]
    exact q _ _ fm
theorem rngD_mem {lo : Int} {n : Nat} {d : D} (h : d ∈ rngD lo n) : ∃ k : Int, d = .int k ∧ lo ≤ k ∧ k < lo + n := by
  unfold rngD at h
  obtain ⟨i, hi, rfl⟩ := List.mem_map.mp h
  have := List.mem_range.mp hi
  exact ⟨_, rfl, by omega, by omega⟩
/-- the rounds: dice, each of its own place -/
theorem rounds_ok {S : Sto} {n : Nat} {ns : List Int} {m : Int} {Q : D → Sto → Prop} {E : Exc → Sto → Prop} (h : isL S n (ns.map .int)) (hz : ns.length ≤ 63) (hm : 0 ≤ m) (hm2 : m < 1000)
    (q : ∀ (k : Nat) (ds : List D) (S' : Sto), S'[k]? = some (.lst ds) → Fm [] S S' → ds.length ≤ 1000 → (∀ d ∈ ds, ∃ j, d = .ref j ∧ isDie S' j ∧ S.length ≤ j ∧ j ≠ k) → ds.Nodup → Q (.ref k) S') : wR (f__law_rounds [.ref n, .int m] S) Q E := by
  refine wR_call rfl ?_
  simp only [c__law_rounds, wS_sRet, wR_eLc]
  refine wR_wRng1 ?_
  simp only [eBin_a, eV_a, eC_a, List.map, List.replicate, List.cons_append, List.nil_append, List.getElem?_cons_zero, List.getElem?_cons_succ, R.bind_ok, Nat.sub_self, eCall_a, aCons_a, aNil_a, fLen_l h, List.length_map, fMin2, fMax2, wR_ok, Nat.reduceSub]
  generalize hj : (if (if (ns.length : Int) < m then (ns.length : Int) else m) > 1 then (if (ns.length : Int) < m then (ns.length : Int) else m) else 1) = j
  have j0 : 0 ≤ j ∧ j ≤ 1000 := by
    subst hj
    split <;> split <;> omega
  clear hj
  refine ⟨j, rfl, ⟨by omega, by omega⟩, ?_⟩
  have hn := h.lt
  refine lcL_inv (I := fun xs acc S' => S'[S.length]? = some (.lst acc) ∧ Fm [] S S' ∧ (∃ as, as ++ xs = rngD 0 j.toNat ∧ as.length = acc.length) ∧ acc.Nodup ∧ ∀ d ∈ acc, ∃ i, d = .ref i ∧ isDie S' i ∧ S.length ≤ i ∧ i ≠ S.length) ?_ ?_ ?_ ⟨at_new _ _, (Fm.refl _ _).push _, ⟨[], rfl, rfl⟩, .nil, fun d hd => by cases hd⟩
  · exact fun xs acc S' a => ⟨rfl, a.1⟩
  · rintro acc S' ⟨a, b, ⟨as, c, c'⟩, d, e⟩
    refine q _ _ _ a b ?_ e d
    have := congrArg List.length c
    simp [rngD] at this
    omega
  · rintro x xs acc S' ⟨a, b, ⟨as, c, c'⟩, d, e⟩
    obtain ⟨k, rfl, k0, _⟩ := rngD_mem (d := x) (by rw [← c]; simp)
    simp only [gV_a, wR_ok, wipe, List.set_cons_succ, List.set_cons_zero, tYes_a, if_true, eLst_a, aCons_a, eCall_a, eV_a, List.getElem?_cons_zero, List.getElem?_cons_succ, R.bind_ok, aNil_a, wR_bind, eC_a]
    refine cell_ok (h.fm b (by simp)) k0 hz fun r S2 f2 => ?_
    have a2 := f2.at a (by simp)
    have hl : acc.length < sz := by
      have := congrArg List.length c
      simp [rngD] at this
      simp [sz]
      omega
    simp only [wR_ok, List.length_cons, List.length_nil]
    rw [if_pos (by decide)]
    simp only [wR_ok]
    refine ⟨acc, at_push a2, hl, ?_⟩
    have s2 : S.length < S2.length := lt_of_at a2
    have ne : S.length ≠ S2.length := by omega
    refine ⟨by rw [List.getElem?_set_self (by simp; omega)], ((b.trans f2).push _).set _ (.inr (Nat.le_refl _)), ⟨as ++ [.int k], by rw [← c]; simp, by simp [c']⟩, ?_, ?_⟩
    · rw [List.nodup_append]
      refine ⟨d, by simp, fun u hu v hv => ?_⟩
      simp at hv
      subst hv
      intro z
      obtain ⟨i, rfl, hi, _⟩ := e u hu
      have := (hi.fm f2 (by simp)).lt
      cases z
      omega
    · intro u hu
      rcases List.mem_append.mp hu with hu | hu
      · obtain ⟨i, rfl, hi, g1, g2⟩ := e u hu
        exact ⟨i, rfl, ((hi.fm f2 (by simp)).push).set g2.symm, g1, g2⟩
      · simp at hu
        subst hu
        exact ⟨_, rfl, ⟨r, 0, by rw [List.getElem?_set_ne ne]; simp⟩, by omega, ne.symm⟩
theorem opEq_nm (a b : List (List Nat)) (S : Sto) : opEq (nmD a) (nmD b) S = .ok (.bl (decide (a = b))) S := by
  rw [opEq_pl (pl_nm a) (pl_nm b)]
  have : decide (nmD a = nmD b) = decide (a = b) := by
    rw [Bool.eq_iff_iff]
    simp only [decide_eq_true_eq]
    exact ⟨nmD_inj, fun h => by rw [h]⟩
  rw [this]
theorem opNe_nm (a b : List (List Nat)) (S : Sto) : opNe (nmD a) (nmD b) S = .ok (.bl (!decide (a = b))) S := by
  rw [opNe_pl (pl_nm a) (pl_nm b)]
  have : decide (nmD a = nmD b) = decide (a = b) := by
    rw [Bool.eq_iff_iff]
    simp only [decide_eq_true_eq]
    exact ⟨nmD_inj, fun h => by rw [h]⟩
  rw [this]
/-! ### what is no number, no name -/
def numOk (d : D) (lo : Int) (hi : Option Int) : Bool := match d with
  | .int x => decide (lo ≤ x) && (match hi with
    | some h => decide (x ≤ h)
    | none => true)
  | _ => false
def hiD : Option Int → D
  | some h => .int h
  | none => .non
def isP : D → Bool
  | .ref _ => false
  | .exn _ _ => false
  | _ => true
theorem num_any {d : D} (hd : isP d = true) (lo : Int) (hi : Option Int) (S : Sto) : f_is_number [d, .int lo, hiD hi] S = .ok (.bl (numOk d lo hi)) S := by
  cases d with
  | int x =>
    cases hi with
    | none => rw [show hiD none = D.non from rfl, num_n]; simp [numOk]
    | some h => rw [show hiD (some h) = D.int h from rfl, num_i]; simp [numOk]
  | ref n => cases hd
  | exn _ _ => cases hd
  | _ =>
    refine eq_of_wR (wR_call rfl ?_)
    simp [c_is_number, numOk]
theorem need_any {d : D} (hd : isP d = true) (lo : Int) (hi : Option Int) (S : Sto) : f_need_number [d, .int lo, hiD hi] S = if numOk d lo hi = true then .ok .non S else .exc ⟨2, []⟩ S := by
  cases h : numOk d lo hi with
  | true =>
    rw [if_pos rfl]
    refine eq_of_wR (wR_call rfl ?_)
    simp [c_need_number, num_any hd, h]
  | false =>
    rw [if_neg (by simp)]
    refine eq_of_exc (wR_call rfl ?_)
    simp [c_need_number, num_any hd, h]
theorem need_any_d {d : D} (hd : isP d = true) (lo : Int) (S : Sto) : withD f_need_number [.non] [d, .int lo] S = if numOk d lo none = true then .ok .non S else .exc ⟨2, []⟩ S := need_any hd lo none S
theorem app_ok {S : Sto} {k : Nat} {xs : List D} {d : D} (h : S[k]? = some (.lst xs)) (hz : xs.length < sz) : fAppend [.ref k, d] S = .ok .non (S.set k (.lst (xs ++ [d]))) := by
  simp only [fAppend, h]
  rw [if_pos hz]
/-- found.append(told(..)) -/
theorem wS_app {i : Nat} {m : EM} {L : Loc} {S : Sto} {K : En} {k : Nat} {xs : List D} {d : D} (hL : L[i]? = some (some (.ref k))) (hk : S[k]? = some (.lst xs)) (hz : xs.length < sz) (h : wR (m L S) (fun y S1 => y = d ∧ S1[k]? = some (.lst xs) ∧ K.nx L (S1.set k (.lst (xs ++ [d])))) (fun x S => K.ex x L S)) :
    wS (sExpr (eBM "list" fAppend (eV i) (aCons m aNil)) L S) K := by
  simp only [wS_sExpr, eBM, eV_a, hL, R.bind_ok, tyNm, hk, if_true, aCons_a, aNil_a, wR_bind]
  refine wR_mono h (fun y S1 ⟨e, h1, h2⟩ => ?_) fun _ _ z => z
  subst e
  simp only [wR_ok]
  rw [app_ok h1 hz]
  exact h2
/-- .. != [x] * n -/
theorem ne_mul {S : Sto} {k j : Nat} {xs ys : List D} {c : Int} {Q : D → Sto → Prop} {E : Exc → Sto → Prop} (hk : S[k]? = some (.lst xs)) (hj : S[j]? = some (.lst ys)) (hc : 0 ≤ c ∧ c ≤ 1000) (hl : ys.length ≤ 1000) (e : (List.replicate c.toNat ys).flatten = xs) (hp : pls 1 xs = true)
    (q : ∀ S', Fm [] S S' → Q (.bl false) S') : wR (opMul (.ref j) (.int c) S) (fun y S2 => wR (opNe (.ref k) y S2) Q E) E := by
  simp only [opMul, hj]
  have : ys.length * c.toNat ≤ sz := by
    refine Nat.le_trans (Nat.mul_le_mul hl (show c.toNat ≤ 1000 by omega)) ?_
    decide
  rw [if_pos ⟨by omega, by omega, this⟩]
  simp only [wR_ok]
  rw [e, opNe_l (.inl (at_push hk)) (.inl (at_new _ _)) hp hp]
  simp only [wR_ok, decide_true, Bool.not_true]
  exact q _ ((Fm.refl _ _).push _)
@[simp] theorem opNotB_a (k b : Bool) (S : Sto) : opNotB k (.bl b) S = .ok (.bl (!decide (b = k))) S := rfl
theorem wR_app {i : Nat} {m : EM} {L : Loc} {S : Sto} {Q : D → Sto → Prop} {E : Exc → Sto → Prop} {k : Nat} {xs : List D} {d : D} (hL : L[i]? = some (some (.ref k))) (hk : S[k]? = some (.lst xs)) (hz : xs.length < sz) (h : wR (m L S) (fun y S1 => y = d ∧ S1[k]? = some (.lst xs) ∧ Q .non (S1.set k (.lst (xs ++ [d])))) E) :
    wR (eBM "list" fAppend (eV i) (aCons m aNil) L S) Q E := by
  simp only [eBM, eV_a, hL, R.bind_ok, tyNm, hk, if_true, aCons_a, aNil_a, wR_bind]
  refine wR_mono h (fun y S1 ⟨e, h1, h2⟩ => ?_) fun _ _ z => z
  subst e
  simp only [wR_ok]
  rw [app_ok h1 hz]
  exact h2
/-! ### what is told of an exception -/
theorem app_at (S l : List Ob) (i : Nat) : (S ++ l)[S.length + i]? = l[i]? := by
  rw [List.getElem?_append_right (by omega)]
  congr 1
  omega
theorem app_at0 (S l : List Ob) : (S ++ l)[S.length]? = l[0]? := app_at S l 0
theorem app_set (S l : List Ob) (i : Nat) (o : Ob) : (S ++ l).set (S.length + i) o = S ++ l.set i o := by
  rw [List.set_append_right _ _ (by omega)]
  congr 2
  omega
theorem index_bls {S : Sto} {n j : Nat} {bs : List Bool} (h : S[n]? = some (.lst (bs.map .bl))) (hj : bs.findIdx? (fun b => b) = some j) : fIndex [.ref n, .bl true] S = .ok (.int j) S := by
  have m : ∀ bs : List Bool, (bs.map D.bl).mapM (reify 59 S) = some (bs.map PyData.bool) := by
    intro bs
    induction bs with
    | nil => rfl
    | cons b bs ih => rw [List.map_cons, List.mapM_cons, ih]; rfl
  have q : ∀ bs : List Bool, (bs.map PyData.bool).findIdx? (fun z => PyData.eqv z (.bool true)) = bs.findIdx? (fun b => b) := by
    intro bs
    rw [List.findIdx?_map]
    congr 1
    funext b
    cases b <;> rfl
  have r : reify 60 S (.bl true) = some (.bool true) := rfl
  simp only [fIndex, h, r, mapR, m, q, hj]
theorem word_ok {c : Nat} (hc : c ∈ exKs) (a : Nat) (S : Sto) : f__law_word a c [.exn a []] S = .ok (wT c) (S ++ wO c) := by
  refine eq_of_wR (wR_call rfl ?_)
  have isE : ∀ (b : Bool) (l : List (Option D)) (S : Sto), eUn (opIsE a b) (eV 0) (some (.exn a []) :: l) S = .ok (.bl b) S := fun b l S => by simp [opIsE]
  simp only [c__law_word, wS_sSeq, wS_sAsg, eLst_a, aCons_a, aNil_a, isE, List.map, List.replicate, List.cons_append, List.nil_append, R.bind_ok, List.length_cons, List.length_nil, Nat.reduceSub, Nat.reduceAdd]
  rw [if_pos (by decide)]
  simp only [wR_ok, gV_a, List.set_cons_succ, List.set_cons_zero, eBin_a, eV_a, List.getElem?_cons_succ, List.getElem?_cons_zero, R.bind_ok, eLst_a, aCons_a, aNil_a, isE, List.length_cons, List.length_nil, Nat.reduceAdd, wR_bind]
  rw [if_pos (by decide)]
  simp only [wR_ok, List.append_assoc, List.cons_append, List.nil_append, List.length_append, List.length_cons, List.length_nil, Nat.reduceAdd]
  rw [opAdd_r (xs := [.bl (decide (c = 1)), .bl (decide (c = 3)), .bl (decide (c = 2)), .bl (decide (c = 0))]) (ys := [.bl (decide (c = 6)), .bl (decide (c = 8)), .bl (decide (c = 7)), .bl (decide (c = 5))]) (app_at0 _ _) (app_at _ _ 1)]
  simp only [List.length_cons, List.length_nil, Nat.reduceAdd]
  rw [if_pos (by decide)]
  simp only [wR_ok, gV_a, List.set_cons_succ, List.set_cons_zero, List.append_assoc, List.cons_append, List.nil_append, List.length_append, List.length_cons, List.length_nil, Nat.reduceAdd, wS_sExpr, eBM, eV_a, List.getElem?_cons_succ, List.getElem?_cons_zero, R.bind_ok, tyNm, app_at, aCons_a, aNil_a, isE, if_true, fAppend]
  rw [if_pos (by decide)]
  simp only [wR_ok, app_set, List.set_cons_succ, List.set_cons_zero, wS_sAsg, eLst_a, aCons_a, aNil_a, eC_a, R.bind_ok, List.length_cons, List.length_nil, Nat.reduceAdd]
  rw [if_pos (by decide)]
  simp only [wR_ok, gV_a, List.set_cons_succ, List.set_cons_zero, List.append_assoc, List.cons_append, List.nil_append, List.length_append, List.length_cons, List.length_nil, Nat.reduceAdd, wS_sIf, wR_tOr, wR_tV, eBin_a, eCall_a, aCons_a, aNil_a, eUn_a, eV_a, List.getElem?_cons_succ, List.getElem?_cons_zero, R.bind_ok, opInts, app_at, blsOf, Option.map_some, List.map, fSum, intsOf, eC_a, opNe_i, wR_tNot]
  have sum1 : decide (([if decide (c = 1) = true then (1 : Int) else 0, if decide (c = 3) = true then 1 else 0, if decide (c = 2) = true then 1 else 0, if decide (c = 0) = true then 1 else 0, if decide (c = 6) = true then 1 else 0, if decide (c = 8) = true then 1 else 0,
      if decide (c = 7) = true then 1 else 0, if decide (c = 5) = true then 1 else 0, if decide (c = 4) = true then 1 else 0] : List Int).sum = 1) = true := by
    simp only [exKs, List.mem_cons, List.not_mem_nil, or_false] at hc
    rcases hc with rfl | rfl | rfl | rfl | rfl | rfl | rfl | rfl <;> decide
  simp only [sum1, Bool.not_true, Bool.false_eq_true, if_false, wR_ok, wS_sNx, wS_sRet, eTup_a, aCons_a, aNil_a, eC_a, R.bind_ok, eBin_a, eV_a, List.getElem?_cons_succ, List.getElem?_cons_zero, eBM, tyNm, app_at, if_true, eUn_a, opIsE]
  obtain ⟨j, z, h1, h2, h3⟩ : ∃ (j : Nat) (z : List Nat), [decide (c = 1), decide (c = 3), decide (c = 2), decide (c = 0), decide (c = 6), decide (c = 8), decide (c = 7), decide (c = 5), decide (c = 4)].findIdx? (fun b => b) = some j ∧
      atI [D.str [66, 97, 100, 78, 97, 109, 101], D.str [66, 97, 100, 83, 105, 100, 101, 115], D.str [66, 97, 100, 78, 117, 109, 98, 101, 114], D.str [66, 97, 100, 76, 101, 116, 116, 101, 114], D.str [78, 111, 72, 111, 117, 115, 101], D.str [78, 111, 87, 97, 121], D.str [78, 111, 76, 101, 116, 116, 101, 114], D.str [71, 111, 110, 101], D.str [66, 97, 100, 83, 116, 111, 114, 121]] (j : Int) = some (.str z) ∧ exW.getD c [] = z := by
    simp only [exKs, List.mem_cons, List.not_mem_nil, or_false] at hc
    rcases hc with rfl | rfl | rfl | rfl | rfl | rfl | rfl | rfl
    · exact ⟨3, _, by decide, rfl, rfl⟩
    · exact ⟨0, _, by decide, rfl, rfl⟩
    · exact ⟨2, _, by decide, rfl, rfl⟩
    · exact ⟨1, _, by decide, rfl, rfl⟩
    · exact ⟨8, _, by decide, rfl, rfl⟩
    · exact ⟨4, _, by decide, rfl, rfl⟩
    · exact ⟨6, _, by decide, rfl, rfl⟩
    · exact ⟨5, _, by decide, rfl, rfl⟩
  rw [index_bls (bs := [decide (c = 1), decide (c = 3), decide (c = 2), decide (c = 0), decide (c = 6), decide (c = 8), decide (c = 7), decide (c = 5), decide (c = 4)]) (app_at _ _ 2) h1]
  simp only [R.bind_ok]
  rw [opIx_r (app_at _ _ 3), h2]
  simp only [R.bind_ok, List.length_cons, List.length_nil, Nat.reduceAdd]
  rw [if_pos (by decide), wR_ok]
  unfold wT wO refd
  rw [h3]
  exact ⟨rfl, rfl⟩
theorem toldW (f' a' c : Nat) (S' : Sto) (hc : c ∈ exKs) : c__law_told a' c [some (.exn f' []), some (.exn a' [])] S' = .rt (wT c) (S' ++ wO c) := by
  have ng : decide (c = 5) = false := by
    simp only [exKs, List.mem_cons, List.not_mem_nil, or_false] at hc
    rcases hc with rfl | rfl | rfl | rfl | rfl | rfl | rfl | rfl <;> decide
  have e1 : ∀ S, tV (eUn (opIsE a' false) (eV 1)) [some (.exn f' []), some (.exn a' [])] S = .ok false S := fun S => by simp [tV, opIsE]
  simp only [c__law_told, sRet, eBin_a, eCall_a, aCons_a, aNil_a, eV_a, List.getElem?_cons_succ, List.getElem?_cons_zero, R.bind_ok, word_ok hc, ng, eIf, e1, Bool.false_eq_true, if_false, eTup_a, List.length_nil, Nat.zero_le, if_true]
  unfold wT
  rw [opAdd_t, if_pos (by simp [sz])]
  simp [R.st]
/-! ### told -/
theorem wR_told {ks : List Nat} {WT : Nat → D} {WO : Nat → List Ob} {m : EM} {L : Loc} {S : Sto} {Q : D → Sto → Prop} {E : Exc → Sto → Prop} (h : wR (m L S) Q (fun x S1 => x.p = [] ∧ x.c ∈ ks ∧ Q (WT x.c) (S1 ++ WO x.c))) : wR (eTold ks WT WO m L S) Q E := by
  unfold eTold
  cases z : m L S with
  | ok d S1 => rw [z] at h; exact h
  | exc x S1 =>
    rw [z] at h
    obtain ⟨h1, h2, h3⟩ := h
    simp only
    rw [if_pos ⟨h1, h2⟩]
    exact h3
  | err => rw [z] at h; exact h.elim
theorem Fm.app {X : List Nat} {S S' : Sto} (a : Fm X S S') (os : List Ob) : Fm X S (S' ++ os) := ⟨by have := a.len; simp; omega, fun n h hx => by rw [List.getElem?_append_left (Nat.lt_of_lt_of_le h a.len)]; exact a.same n h hx⟩
theorem at_app {S : Sto} {n : Nat} {o : Ob} (h : S[n]? = some o) (os : List Ob) : (S ++ os)[n]? = some o := by rw [List.getElem?_append_left (lt_of_at h)]; exact h
theorem pl_wT (c : Nat) : pl 1 (wT c) = true := rfl
theorem neednm_exc {xs : List (List Nat)} {S : Sto} {Q : D → Sto → Prop} {E : Exc → Sto → Prop} (h : okNm xs = false) (q : ∀ S', Fm [] S S' → E ⟨1, []⟩ S') (hx : ∀ x ∈ xs, x.length ≤ sz) : wR (f_need_name [nmD xs] S) Q E := by
  refine wR_call rfl ?_
  simp only [c_need_name, wS_sIf, wR_tNot, wR_tV, eV_a, List.map, List.replicate, List.cons_append, List.nil_append, List.getElem?_cons_zero, R.bind_ok, eCall_a, aCons_a, aNil_a, wR_bind, wR_ok, Nat.sub_self]
  refine name_ok (fun S' f => ?_) hx
  rw [h]
  simpa using q _ f
theorem beg_str (x : List Nat) (S : Sto) : f_is_beginning [.str x] S = .ok (.bl false) S := by
  refine eq_of_wR (wR_call rfl ?_)
  simp [c_is_beginning]
theorem neednm_str (x : List Nat) (S : Sto) : f_need_name [.str x] S = .exc ⟨1, []⟩ S := by
  refine eq_of_exc (wR_call rfl ?_)
  have : f_is_name [.str x] S = .ok (.bl false) S := by
    refine eq_of_wR (wR_call rfl ?_)
    simp [c_is_name, beg_str]
  simp [c_need_name, this]
/-! ### beginnings, of any thing -/
def partB : D → Bool
  | .str x => okPart x
  | _ => false
def smallD : D → Prop
  | .str x => x.length ≤ sz
  | .ref _ => False
  | .exn _ _ => False
  | _ => True
theorem part_any {d : D} {S : Sto} {Q : D → Sto → Prop} {E : Exc → Sto → Prop} (h : smallD d) (q : ∀ S', Fm [] S S' → Q (.bl (partB d)) S') : wR (f_is_part [d] S) Q E := by
  cases d with
  | str x => exact part_ok q h
  | ref n => exact h.elim
  | exn _ _ => exact h.elim
  | _ =>
    refine wR_call rfl ?_
    simp only [c_is_part, wS_sRet, wR_eAnd, eUn_a, eV_a, List.map, List.replicate, List.cons_append, List.nil_append, List.getElem?_cons_zero, R.bind_ok, opIsi_int, opIsi_bl, opIsi_tup, opIsi_non, wR_ok]
    exact q _ (Fm.refl _ _)
def begB (xs : List D) : Bool := decide (xs.length ≤ 5) && xs.all partB
theorem beg_any {xs : List D} {S : Sto} {Q : D → Sto → Prop} {E : Exc → Sto → Prop} (q : ∀ S', Fm [] S S' → Q (.bl (begB xs)) S') (hx : ∀ x ∈ xs, smallD x) : wR (f_is_beginning [.tup xs] S) Q E := by
  refine wR_call rfl ?_
  simp only [c_is_beginning, wS_sRet, wR_eAnd, eUn_a, eV_a, List.map, List.replicate, List.cons_append, List.nil_append, List.getElem?_cons_zero, List.getElem?_cons_succ, R.bind_ok, opIsi_tup, wR_ok, decide_true, eBin_a, eC_a, eCall_a, aCons_a, aNil_a, fLen_t, opCmp_a, wR_bind, Nat.reduceSub]
  unfold begB at q
  by_cases h1 : xs.length ≤ 5
  · simp only [h1, decide_true, Bool.true_and] at q
    simp only [show (xs.length : Int) ≤ 5 by omega, decide_true]
    rw [wR_eLc]
    refine wR_wTup (show wR (R.ok (D.tup xs) S) _ _ from ⟨xs, rfl, ?_⟩)
    refine lcL_fm (X := []) (p := fun _ => true) (P := fun d y => y = .bl (partB d)) (fun _ => True) trivial (fun _ => trivial) (fun _ _ _ => trivial) (by simp) (fun _ _ _ => rfl) (fun d hd S' a _ => ?_) (by simp [sz]; omega) fun S' ys a _ hys e _ => ?_
    · refine ⟨rfl, Fm.refl _ _, trivial, rfl, fun _ => ?_⟩
      show wR (f_is_part [d] S') _ _
      exact part_any (hx d hd) fun S2 f => ⟨f, trivial, rfl⟩
    · have e2 := hys.eq_map
      rw [List.filter_eq_self.mpr (fun _ _ => rfl)] at e2
      subst e2
      refine wR_eq (fAll_r e allB_map) (q _ a)
  · simp only [h1, decide_false, Bool.false_and] at q
    simp only [show ¬ (xs.length : Int) ≤ 5 by omega, decide_false]
    exact q _ (Fm.refl _ _)
/-- what is no beginning -/
def badB (S : Sto) (d : D) : Prop := (∃ t, tyNm S d = some t ∧ t ≠ "tuple") ∨ ∃ xs, d = .tup xs ∧ (∀ x ∈ xs, smallD x) ∧ begB xs = false
theorem beg_bad {d : D} {S : Sto} {Q : D → Sto → Prop} {E : Exc → Sto → Prop} (h : badB S d) (q : ∀ S', Fm [] S S' → Q (.bl false) S') : wR (f_is_beginning [d] S) Q E := by
  rcases h with ⟨t, h1, h2⟩ | ⟨xs, rfl, h1, h2⟩
  · refine wR_call rfl ?_
    have e : opIsi "tuple" d S = .ok (.bl false) S := by
      simp only [opIsi, h1]
      simp [h2]
    simp only [c_is_beginning, wS_sRet, wR_eAnd, eUn_a, eV_a, List.map, List.replicate, List.cons_append, List.nil_append, List.getElem?_cons_zero, R.bind_ok, e, wR_ok]
    exact q _ (Fm.refl _ _)
  · exact beg_any (fun S' f => by rw [h2]; exact q _ f) h1
theorem name_bad {d : D} {S : Sto} {Q : D → Sto → Prop} {E : Exc → Sto → Prop} (h : badB S d) (q : ∀ S', Fm [] S S' → Q (.bl false) S') : wR (f_is_name [d] S) Q E := by
  refine wR_call rfl ?_
  simp only [c_is_name, wS_sRet, wR_eAnd, eV_a, List.map, List.replicate, List.cons_append, List.nil_append, List.getElem?_cons_zero, R.bind_ok, eCall_a, aCons_a, aNil_a, wR_bind, wR_ok, Nat.sub_self]
  exact beg_bad h fun S' f => q _ f
theorem neednm_bad {d : D} {S : Sto} {Q : D → Sto → Prop} {E : Exc → Sto → Prop} (h : badB S d) (q : ∀ S', Fm [] S S' → E ⟨1, []⟩ S') : wR (f_need_name [d] S) Q E := by
  refine wR_call rfl ?_
  simp only [c_need_name, wS_sIf, wR_tNot, wR_tV, eV_a, List.map, List.replicate, List.cons_append, List.nil_append, List.getElem?_cons_zero, R.bind_ok, eCall_a, aCons_a, aNil_a, wR_bind, wR_ok, Nat.sub_self]
  refine name_bad h fun S' f => ?_
  simpa using q _ f
/-! ### sides -/
def sideOk (d : D) : Bool := numOk d 0 (some 7)
theorem isside_ok {d : D} (hd : isP d = true) (S : Sto) : f_is_side [d] S = .ok (.bl (sideOk d)) S := by
  refine eq_of_wR (wR_call rfl ?_)
  simp only [c_is_side, wS_sRet, eCall_a, aCons_a, aNil_a, eV_a, eBin_a, eC_a, List.map, List.replicate, List.cons_append, List.nil_append, List.getElem?_cons_zero, R.bind_ok, opSub_i, Nat.sub_self]
  have := num_any hd 0 (some (8 - 1)) S
  rw [show hiD (some (8 - 1)) = D.int (8 - 1) from rfl] at this
  rw [this]
  exact ⟨rfl, rfl⟩
theorem isside_ref {S : Sto} {i : Nat} {ys : List D} (h : S[i]? = some (.lst ys)) : f_is_side [.ref i] S = .ok (.bl false) S := by
  refine eq_of_wR (wR_call rfl ?_)
  simp only [c_is_side, wS_sRet, eCall_a, aCons_a, aNil_a, eV_a, eBin_a, eC_a, List.map, List.replicate, List.cons_append, List.nil_append, List.getElem?_cons_zero, R.bind_ok, opSub_i, Nat.sub_self]
  refine wR_call rfl ?_
  simp only [c_is_number, wS_sSeq, wS_sIf, wR_tOr, wR_tNot, wR_tV, eUn_a, eV_a, List.map, List.replicate, List.cons_append, List.nil_append, List.getElem?_cons_zero, R.bind_ok, Nat.sub_self, opIsi_l h, wR_ok]
  simp
/-- an item of a list that is tried: plain, or a list -/
def itemP (S : Sto) (d : D) : Prop := isP d = true ∨ ∃ i ys, d = .ref i ∧ S[i]? = some (.lst ys)
theorem isside_any {S : Sto} {d : D} (h : itemP S d) : f_is_side [d] S = .ok (.bl (sideOk d)) S := by
  rcases h with h | ⟨i, ys, rfl, h⟩
  · exact isside_ok h S
  · exact isside_ref h
theorem sides_lc {S : Sto} {j : Nat} {xs : List D} {L : Loc} (h : S[j]? = some (.lst xs)) (hL : L[0]? = some (some (.ref j))) (hl : 1 < L.length) (hz : xs.length ≤ sz) (hi : ∀ x ∈ xs, itemP S x) :
    eLc (wLst (eV 0)) (gV 1) tYes (eCall f_is_side (aCons (eV 1) aNil)) [1] L S = .ok (.ref S.length) (S ++ [.lst (xs.map fun x => .bl (sideOk x))]) := by
  have := eLc_lst (S := S) (S1 := S) (n := j) (items := xs) (p := fun _ => true) (f := fun x => .bl (sideOk x)) (a := eV 0) (tg := gV 1) (t := tYes) (e := eCall f_is_side (aCons (eV 1) aNil)) (vs := [1]) (L := L) (L1 := fun x => (wipe L [1]).set 1 (some x)) (by simp only [eV_a, hL]) h (fun x hx acc => ⟨rfl, rfl, fun _ => ?_⟩) hz
  · rw [this, List.filter_eq_self.mpr (fun _ _ => rfl)]
  · have e : ((wipe L [1]).set 1 (some x))[1]? = some (some x) := by simp [wipe, hl]
    simp only [eCall_a, aCons_a, aNil_a, eV_a, e, R.bind_ok]
    refine isside_any ?_
    rcases hi x hx with q | ⟨i, ys, rfl, q⟩
    · exact .inl q
    · exact .inr ⟨i, ys, rfl, at_push q⟩
/-- not every item is a side -/
theorem needsides_no {S : Sto} {j : Nat} {xs : List D} {Q : D → Sto → Prop} {E : Exc → Sto → Prop} (h : S[j]? = some (.lst xs)) (hz : xs.length ≤ 1000) (hi : ∀ x ∈ xs, itemP S x) (hn : xs.all sideOk = false) (q : ∀ S', Fm [] S S' → E ⟨3, []⟩ S') : wR (f_need_sides [.ref j] S) Q E := by
  refine wR_call rfl ?_
  simp only [c_need_sides, wS_sIf, wR_tOr, wR_tNot, wR_tV, eUn_a, eV_a, List.map, List.replicate, List.cons_append, List.nil_append, List.getElem?_cons_zero, R.bind_ok, Nat.reduceSub, opIsi_l h, wR_ok, decide_true, Bool.not_true, Bool.false_eq_true, if_false, eCall_a, aCons_a, aNil_a]
  rw [sides_lc h rfl (by simp) (by unfold sz; omega) hi]
  simp only [R.bind_ok, fAll_r (at_new _ _) allB_map, hn, wR_ok, Bool.not_false, if_true, wS_sRaise, aNil_a]
  exact q _ ((Fm.refl _ _).push _)
/-- what is no list -/
theorem needsides_not {S : Sto} {d : D} {t : String} {Q : D → Sto → Prop} {E : Exc → Sto → Prop} (h : tyNm S d = some t) (ht : t ≠ "list") (q : E ⟨3, []⟩ S) : wR (f_need_sides [d] S) Q E := by
  have e : opIsi "list" d S = .ok (.bl false) S := by
    simp only [opIsi, h]
    simp [ht]
  refine wR_call rfl ?_
  simp only [c_need_sides, wS_sIf, wR_tOr, wR_tNot, wR_tV, eUn_a, eV_a, List.map, List.replicate, List.cons_append, List.nil_append, List.getElem?_cons_zero, R.bind_ok, Nat.reduceSub, e, wR_ok, Bool.not_false, if_true, wS_sRaise, aNil_a]
  exact q
theorem intsOf_map : ∀ ns : List Int, intsOf (ns.map .int) = some ns
  | [] => rfl
  | n :: ns => by simp [intsOf, intsOf_map ns]
theorem needsides_int {S : Sto} {j : Nat} {ns : List Int} {Q : D → Sto → Prop} {E : Exc → Sto → Prop} (h : S[j]? = some (.lst (ns.map .int))) (hz : ns.length ≤ 1000) (hn : ∀ x ∈ ns, 0 ≤ x ∧ x ≤ 7) (q : ∀ S', Fm [] S S' → if (nubI ns).length < ns.length then E ⟨3, []⟩ S' else Q .non S') : wR (f_need_sides [.ref j] S) Q E := by
  have hi : ∀ x ∈ ns.map D.int, itemP S x := fun x hx => by
    obtain ⟨i, _, rfl⟩ := List.mem_map.mp hx
    exact .inl rfl
  have ha : (ns.map D.int).all sideOk = true := List.all_eq_true.mpr fun x hx => by
    obtain ⟨i, hm, rfl⟩ := List.mem_map.mp hx
    have := hn i hm
    simp [sideOk, numOk, this]
  refine wR_call rfl ?_
  simp only [c_need_sides, wS_sIf, wR_tOr, wR_tNot, wR_tV, eUn_a, eV_a, List.map, List.replicate, List.cons_append, List.nil_append, List.getElem?_cons_zero, R.bind_ok, Nat.reduceSub, opIsi_l h, wR_ok, decide_true, Bool.not_true, Bool.false_eq_true, if_false, eCall_a, aCons_a, aNil_a]
  rw [sides_lc h rfl (by simp) (by simp; unfold sz; omega) hi]
  have h1 : (S ++ [Ob.lst ((ns.map D.int).map fun x => .bl (sideOk x))])[j]? = some (.lst (ns.map .int)) := at_push h
  have e1 : opLenSet (.ref j) (S ++ [Ob.lst ((ns.map D.int).map fun x => .bl (sideOk x))]) = .ok (.int (nubI ns).length) (S ++ [Ob.lst ((ns.map D.int).map fun x => .bl (sideOk x))]) := by
    simp only [opLenSet, h1, intsOf_map]
    rw [if_pos hz]
  have q := q _ ((Fm.refl _ S).push (.lst ((ns.map D.int).map fun x => .bl (sideOk x))))
  simp only [R.bind_ok, fAll_r (at_new _ _) allB_map, ha, wR_ok, Bool.not_true, Bool.false_eq_true, if_false, eBin_a, eUn_a, eV_a, List.getElem?_cons_zero, eCall_a, aCons_a, aNil_a, e1, fLen_r h1, opCmp_a, List.length_map]
  by_cases c : (nubI ns).length < ns.length
  · rw [if_pos c] at q
    simp only [show ((nubI ns).length : Int) < (ns.length : Int) by omega, decide_true, if_true, wS_sRaise, aNil_a, wR_ok]
    exact q
  · rw [if_neg c] at q
    simp only [show ¬ ((nubI ns).length : Int) < (ns.length : Int) by omega, decide_false, Bool.false_eq_true, if_false, wS_sNx]
    exact q
theorem nub_app (ns : List Int) : ∀ (ms acc : List Int), (acc ++ ms).Nodup → ms.foldl (fun acc k => if k ∈ acc then acc else acc ++ [k]) acc = acc ++ ms
  | [], acc, _ => by simp
  | m :: ms, acc, h => by
    have hm : m ∉ acc := fun z => by
      rw [List.nodup_append] at h
      exact h.2.2 m z m (by simp) rfl
    rw [List.foldl_cons, if_neg hm, nub_app ns ms (acc ++ [m]) (by simpa using h)]
    simp
theorem nub_nodup {ns : List Int} (h : ns.Nodup) : nubI ns = ns := by
  unfold nubI
  rw [nub_app ns ns [] (by simpa using h)]
  rfl
def okSd (sd : List Int) : Prop := (∀ x ∈ sd, 0 ≤ x ∧ x ≤ 7) ∧ sd.Nodup ∧ sd.length ≤ 1000
theorem needsides_ok {S : Sto} {j : Nat} {ns : List Int} {Q : D → Sto → Prop} {E : Exc → Sto → Prop} (h : S[j]? = some (.lst (ns.map .int))) (hn : okSd ns) (q : ∀ S', Fm [] S S' → Q .non S') : wR (f_need_sides [.ref j] S) Q E :=
  needsides_int h hn.2.2 hn.1 fun S' f => by
    rw [nub_nodup hn.2.1, if_neg (Nat.lt_irrefl _)]
    exact q S' f
/-- what is no list of unlike sides -/
def badS (S : Sto) (d : D) : Prop := (∃ t, tyNm S d = some t ∧ t ≠ "list") ∨ ∃ j xs, d = .ref j ∧ S[j]? = some (.lst xs) ∧ xs.length ≤ 1000 ∧ (((∀ x ∈ xs, itemP S x) ∧ xs.all sideOk = false) ∨ ∃ ns, xs = ns.map .int ∧ (∀ x ∈ ns, 0 ≤ x ∧ x ≤ 7) ∧ (nubI ns).length < ns.length)
theorem badS.fm0 {S S' : Sto} {d : D} (h : badS S d) (f : Fm [] S S') : badS S' d := by
  rcases h with ⟨t, h1, h2⟩ | ⟨j, xs, rfl, h1, h2, h3⟩
  · refine .inl ⟨t, ?_, h2⟩
    cases d with
    | ref n =>
      simp only [tyNm] at h1 ⊢
      have : n < S.length := by
        rcases Nat.lt_or_ge n S.length with z | z
        · exact z
        · rw [List.getElem?_eq_none z] at h1
          cases h1
      rw [f.same n this (by simp)]
      exact h1
    | _ => exact h1
  · refine .inr ⟨j, xs, rfl, f.at h1 (by simp), h2, h3.imp (fun ⟨a, b⟩ => ⟨fun x hx => ?_, b⟩) id⟩
    rcases a x hx with z | ⟨i, ys, rfl, z⟩
    · exact .inl z
    · exact .inr ⟨i, ys, rfl, f.at z (by simp)⟩
theorem needsides_bad {S : Sto} {d : D} {Q : D → Sto → Prop} {E : Exc → Sto → Prop} (h : badS S d) (q : ∀ S', Fm [] S S' → E ⟨3, []⟩ S') : wR (f_need_sides [d] S) Q E := by
  rcases h with ⟨t, h1, h2⟩ | ⟨j, xs, rfl, h1, h2, ⟨h3, h4⟩ | ⟨ns, rfl, h3, h4⟩⟩
  · exact needsides_not h1 h2 (q _ (Fm.refl _ _))
  · exact needsides_no h1 h2 h3 h4 q
  · exact needsides_int h1 (by simpa using h2) h3 fun S' f => by
      rw [if_pos h4]
      exact q S' f
/-! ### letters -/
def wThing : List Nat := [116, 104, 105, 110, 103]
def wAsk : List Nat := [97, 115, 107]
def wNo : List Nat := [110, 111]
/-- b: whether d is a name -/
def nmB (S : Sto) (d : D) (b : Bool) : Prop := (∃ xs, d = nmD xs ∧ (∀ x ∈ xs, x.length ≤ sz) ∧ b = okNm xs) ∨ (badB S d ∧ b = false)
theorem name_b {d : D} {b : Bool} {S : Sto} {Q : D → Sto → Prop} {E : Exc → Sto → Prop} (h : nmB S d b) (q : ∀ S', Fm [] S S' → Q (.bl b) S') : wR (f_is_name [d] S) Q E := by
  rcases h with ⟨xs, rfl, h1, rfl⟩ | ⟨h1, rfl⟩
  · exact name_ok q h1
  · exact name_bad h1 q
/-- b: whether d is a letter -/
def letB (S : Sto) (d : D) (b : Bool) : Prop := (∃ t, tyNm S d = some t ∧ t ≠ "tuple" ∧ b = false) ∨ (∃ xs, d = .tup xs ∧ xs.length < 2 ∧ b = false) ∨ (∃ w n r t, d = .tup (w :: n :: r) ∧ tyNm S w = some t ∧ t ≠ "str" ∧ b = false) ∨
  (∃ z n r, d = .tup (.str z :: n :: r) ∧ nmB S n false ∧ b = false) ∨ (∃ z n r, d = .tup (.str z :: n :: r) ∧ nmB S n true ∧ ((z = wThing ∧ r.length ≠ 2 ∧ b = false) ∨ (z = wThing ∧ ∃ v u, r = [v, u] ∧ isP v = true ∧ isP u = true ∧ b = (numOk v 0 (some 999) && numOk u 0 none)) ∨
    (z ≠ wThing ∧ b = (decide (z ∈ [wAsk, wNo]) && decide (r.length = 0)))))
theorem isi_no {T : String} {d : D} {S : Sto} {t : String} (h : tyNm S d = some t) (h1 : t ≠ T) (h2 : T ≠ "int") : opIsi T d S = .ok (.bl false) S := by
  simp only [opIsi, h]
  simp [h1, h2]
theorem atI_1 {α : Type} (x y : α) (xs : List α) : atI (x :: y :: xs) 1 = some y := by
  unfold atI ixN
  rw [if_pos (by decide), if_pos (by simp only [List.length_cons]; omega)]
  rfl
theorem islet {d : D} {b : Bool} {S : Sto} {Q : D → Sto → Prop} {E : Exc → Sto → Prop} (h : letB S d b) (q : ∀ S', Fm [] S S' → Q (.bl b) S') : wR (f_is_letter [d] S) Q E := by
  refine wR_call rfl ?_
  simp only [c_is_letter, wS_sSeq, wS_sIf, wR_tOr, wR_tNot, wR_tV, eUn_a, eV_a, List.map, List.replicate, List.cons_append, List.nil_append, List.getElem?_cons_zero, R.bind_ok, Nat.sub_self]
  rcases h with ⟨t, h1, h2, rfl⟩ | ⟨xs, rfl, h1, rfl⟩ | ⟨w, n, r, t, rfl, h1, h2, rfl⟩ | ⟨z, n, r, rfl, h1, rfl⟩ | ⟨z, n, r, rfl, h1, h2⟩
  · rw [isi_no h1 h2 (by decide)]
    simp only [wR_ok, Bool.not_false, if_true, wS_sRet, eC_a]
    exact q _ (Fm.refl _ _)
  · simp only [opIsi_tup, decide_true, wR_ok, Bool.not_true, Bool.false_eq_true, if_false, eBin_a, eCall_a, aCons_a, aNil_a, eV_a, eC_a, List.getElem?_cons_zero, R.bind_ok, fLen_t, opCmp_a, show ((xs.length : Int) < 2) by omega, if_true, wS_sRet]
    exact q _ (Fm.refl _ _)
  · simp only [opIsi_tup, decide_true, wR_ok, Bool.not_true, Bool.false_eq_true, if_false, eBin_a, eCall_a, aCons_a, aNil_a, eV_a, eC_a, List.getElem?_cons_zero, R.bind_ok, fLen_t, opCmp_a, List.length_cons, show ¬ (((r.length + 1 + 1 : Nat) : Int) < 2) by omega, decide_false, opIx_t, atI_0, isi_no h1 h2 (by decide), Bool.not_false, if_true, wS_sRet]
    exact q _ (Fm.refl _ _)
  · simp only [opIsi_tup, decide_true, wR_ok, Bool.not_true, Bool.false_eq_true, if_false, eBin_a, eCall_a, aCons_a, aNil_a, eV_a, eC_a, List.getElem?_cons_zero, R.bind_ok, fLen_t, opCmp_a, List.length_cons, show ¬ (((r.length + 1 + 1 : Nat) : Int) < 2) by omega, decide_false, opIx_t, atI_0, atI_1, opIsi_str]
    refine name_b h1 fun S' f => ?_
    simp only [Bool.not_false, if_true, wS_sRet, eC_a, wR_ok]
    exact q _ f
  · simp only [opIsi_tup, decide_true, wR_ok, Bool.not_true, Bool.false_eq_true, if_false, eBin_a, eCall_a, aCons_a, aNil_a, eV_a, eC_a, List.getElem?_cons_zero, R.bind_ok, fLen_t, opCmp_a, List.length_cons, show ¬ (((r.length + 1 + 1 : Nat) : Int) < 2) by omega, decide_false, opIx_t, atI_0, atI_1, opIsi_str]
    refine name_b h1 fun S' f => ?_
    simp only [Bool.not_true, Bool.false_eq_true, if_false, wS_sNx, wR_bind]
    rw [show [116, 104, 105, 110, 103] = wThing from rfl]
    have eqz : ∀ S, opEq (.str z) (.str wThing) S = .ok (.bl (decide (z = wThing))) S := fun S => by
      rw [opEq_pl (n := 0) (m := 0) rfl rfl]
      simp
    simp only [eqz, List.getElem?_cons_zero, opIx_t, atI_0, wR_ok, wS_sRet, wS_sRet, wR_eAnd, eBin_a, eCall_a, aCons_a, aNil_a, eV_a, eC_a, List.getElem?_cons_zero, R.bind_ok, fLen_t, List.length_cons, opEq_i, opIx_t, atI_0]
    rcases h2 with ⟨rfl, h2, rfl⟩ | ⟨rfl, v, u, rfl, h2, h3, rfl⟩ | ⟨h2, rfl⟩
    · simp only [decide_true, if_true, show ¬ (((r.length + 1 + 1 : Nat) : Int) = 4) by omega, decide_false]
      exact q _ f
    · have e2 : atI [D.str wThing, n, v, u] 2 = some v := rfl
      have e3 : atI [D.str wThing, n, v, u] 3 = some u := rfl
      simp only [decide_true, if_true, List.length_nil, Nat.reduceAdd, show (((4 : Nat) : Int) = 4) by rfl, e2, e3, R.bind_ok]
      rw [show f_is_number [v, .int 0, .int 999] S' = _ from num_any h2 0 (some 999) S']
      simp only [wR_ok]
      cases hv : numOk v 0 (some 999) with
      | false =>
        have := q _ f
        rw [hv] at this
        exact this
      | true =>
        have := q _ f
        rw [hv, Bool.true_and] at this
        simp only
        rw [show withD f_is_number [.non] [u, .int 0] S' = _ from num_any h3 0 none S']
        simp only [wR_ok]
        exact this
    · simp only [h2, decide_false, Bool.false_eq_true, if_false, eTup_a, aCons_a, aNil_a, eC_a, R.bind_ok, List.length_cons, List.length_nil, Nat.reduceAdd]
      rw [if_pos (by decide)]
      have e : inT false (.str z) (.tup [.str [97, 115, 107], .str [110, 111]]) S' = .ok (.bl (decide (z ∈ [wAsk, wNo]))) S' := rfl
      simp only [R.bind_ok, e, wR_ok]
      cases hz : decide (z ∈ [wAsk, wNo]) with
      | false =>
        have := q _ f
        rw [hz] at this
        exact this
      | true =>
        have := q _ f
        rw [hz, Bool.true_and] at this
        simp only
        have e2 : decide (((r.length + 1 + 1 : Nat) : Int) = 2) = decide (r.length = 0) := by
          rw [Bool.eq_iff_iff]
          simp only [decide_eq_true_eq]
          omega
        rw [e2]
        exact this
/-! ### houses that stay as they were made -/
def hF (n1 sh rd th pd fr en : Nat) (w : Int) : List (Nat × D) := [(41, .int 0), (44, .ref n1), (68, .ref sh), (43, .int w), (63, .ref rd), (80, .ref th), (58, .ref pd), (24, .ref fr), (20, .ref en)]
def isH (S : Sto) (h : Nat) : Prop := ∃ (n1 sh kl rd tl th pd fr en : Nat) (r w : Int), S[h]? = some (.ins 0 (hF n1 sh rd th pd fr en w)) ∧ S[n1]? = some (.lst [.int 1, .int 2]) ∧ S[sh]? = some (.ins 1 [(64, .int r), (38, .ref kl)]) ∧ S[kl]? = some (.lst []) ∧
  S[rd]? = some (.ins 3 [(38, .ref tl)]) ∧ S[tl]? = some (.dic true false []) ∧ S[th]? = some (.dic true false []) ∧ S[pd]? = some (.dic true false []) ∧ S[en]? = some (.lst [])
theorem isH.fm0 {S S' : Sto} {h : Nat} (x : isH S h) (f : Fm [] S S') : isH S' h := by
  obtain ⟨n1, sh, kl, rd, tl, th, pd, fr, en, r, w, h0, h1, h2, h3, h4, h5, h6, h7, h8⟩ := x
  exact ⟨n1, sh, kl, rd, tl, th, pd, fr, en, r, w, f.at h0 (by simp), f.at h1 (by simp), f.at h2 (by simp), f.at h3 (by simp), f.at h4 (by simp), f.at h5 (by simp), f.at h6 (by simp), f.at h7 (by simp), f.at h8 (by simp)⟩
/-- a method of the house at the slot i -/
theorem wR_mh {mi i : Nat} {F : Fn} {as : AM} {L : Loc} {S : Sto} {h : Nat} {Q : D → Sto → Prop} {E : Exc → Sto → Prop} (hH : isH S h) (hL : L[i]? = some (some (.ref h))) (hm : mi ∉ [41, 44, 68, 43, 63, 80, 58, 24, 20]) (q : wR (as L S) (fun xs S2 => wR (F (.ref h :: xs) S2) Q E) E) : wR (eMeth 0 mi F (eV i) as L S) Q E := by
  refine wR_eMeth ?_
  obtain ⟨n1, sh, kl, rd, tl, th, pd, fr, en, r, w, h0, _⟩ := hH
  simp only [eV_a, hL, wR_ok]
  simp only [List.mem_cons, List.not_mem_nil, or_false, not_or] at hm
  exact ⟨h, _, rfl, h0, by simp [hF, fget, hm], q⟩
theorem rd_h {S : Sto} {h f c : Nat} {fs : List (Nat × D)} {d : D} {L : Loc} (h0 : S[h]? = some (.ins c fs)) (hL : L[0]? = some (some (.ref h))) (hf : fget f fs = some d) : eUn (opFld c f) (eV 0) L S = .ok d S := by
  simp only [eUn_a, eV_a, hL, R.bind_ok]
  exact opFld_r h0 hf
/-- self.f = .. -/
theorem asg_fld {e : EM} {c f : Nat} {L : Loc} {S : Sto} {k : Nat} {K : En} (hL : L[0]? = some (some (.ref k))) (h : wR (e L S) (fun d S1 => ∃ fs, S1[k]? = some (.ins c fs) ∧ fs.length < 1000 ∧ K.nx L (S1.set k (.ins c (fput f d fs)))) (fun x S => K.ex x L S)) : wS (sAsg e (gFld c f (eV 0)) L S) K := by
  rw [wS_sAsg]
  refine wR_mono h (fun d S1 ⟨fs, h1, h2, h3⟩ => ?_) fun _ _ z => z
  refine wR_gFld ?_
  simp only [eV_a, hL, wR_ok]
  exact ⟨k, fs, rfl, h1, h2, h3⟩
theorem kinit0 {S : Sto} {k : Nat} {room : Int} {Q : D → Sto → Prop} {E : Exc → Sto → Prop} (h : S[k]? = some (.ins 1 [])) (hr : 0 ≤ room ∧ room ≤ 9) (q : ∀ S' kl, Fm [k] S S' → S'[k]? = some (.ins 1 [(64, .int room), (38, .ref kl)]) → S'[kl]? = some (.lst []) → Q .non S') : wR (f_Keeps___init__ [.ref k, .int room] S) Q E := by
  refine wR_call rfl ?_
  simp only [c_Keeps___init__, wS_sSeq, wS_sExpr, eCall_a, aCons_a, aNil_a, eV_a, eC_a, List.map, List.replicate, List.cons_append, List.nil_append, List.getElem?_cons_zero, List.getElem?_cons_succ, R.bind_ok, need_i S hr, wR_ok, Nat.sub_self]
  refine asg_fld rfl ?_
  simp only [eV_a, List.getElem?_cons_zero, List.getElem?_cons_succ, wR_ok]
  refine ⟨[], h, by simp, ?_⟩
  refine asg_fld rfl ?_
  simp only [eLst_a, aNil_a, R.bind_ok, List.length_nil, Nat.zero_le, if_true, wR_ok]
  have h2 := at_set (u := Ob.ins 1 [(64, .int room)]) h
  have hk := lt_of_at h
  refine ⟨[(64, .int room)], at_push h2, by simp, q _ (S.set k (.ins 1 [(64, .int room)])).length ?_ (at_set (at_push h2)) (at_set_ne (at_new _ _) (by simp; omega))⟩
  exact (((Fm.refl _ _).set _ (.inl (by simp))).push _).set _ (.inl (by simp))
theorem kinit_exc {S : Sto} {k : Nat} {d : D} {Q : D → Sto → Prop} {E : Exc → Sto → Prop} (hd : isP d = true) (h : numOk d 0 (some 9) = false) (q : E ⟨2, []⟩ S) : wR (f_Keeps___init__ [.ref k, d] S) Q E := by
  refine wR_call rfl ?_
  have e := need_any hd 0 (some 9) S
  rw [h, if_neg (by simp)] at e
  have e : f_need_number [d, .int 0, .int 9] S = _ := e
  simp only [c_Keeps___init__, wS_sSeq, wS_sExpr, eCall_a, aCons_a, aNil_a, eV_a, eC_a, List.map, List.replicate, List.cons_append, List.nil_append, List.getElem?_cons_zero, List.getElem?_cons_succ, R.bind_ok, e, wR_exc]
  exact q
theorem tinit0 {S : Sto} {k : Nat} {Q : D → Sto → Prop} {E : Exc → Sto → Prop} (h : S[k]? = some (.ins 3 [])) (q : ∀ S' l, Fm [k] S S' → S'[k]? = some (.ins 3 [(38, .ref l)]) → S'[l]? = some (.dic true false []) → Q .non S') : wR (f_Table___init__ [.ref k] S) Q E := by
  refine wR_call rfl ?_
  simp only [c_Table___init__]
  refine asg_fld rfl ?_
  simp only [eDic_a, wR_ok]
  have hk := lt_of_at h
  exact ⟨[], at_push h, by simp, q _ S.length (((Fm.refl _ _).push _).set _ (.inl (by simp))) (at_set (at_push h)) (at_set_ne (at_new _ _) (by omega))⟩
/-- a number in a list of ints -/
theorem inL_ints {S : Sto} {j : Nat} {ns : List Int} {i : Int} {neg : Bool} (h : S[j]? = some (.lst (ns.map .int))) : inL neg (.int i) (.ref j) S = .ok (.bl (if neg = true then !decide (i ∈ ns) else decide (i ∈ ns))) S := by
  have e : mapR S (ns.map .int) = some (ns.map PyData.int) := by
    unfold mapR
    clear h
    induction ns with
    | nil => rfl
    | cons n ns ih => rw [List.map_cons, List.mapM_cons, ih]; rfl
  have e2 : (ns.map PyData.int).any (fun z => PyData.eqv z (.int i)) = decide (i ∈ ns) := by
    clear h e
    induction ns with
    | nil => rfl
    | cons n ns ih =>
      rw [List.map_cons, List.any_cons, ih, Bool.eq_iff_iff]
      simp only [PyData.eqv, Bool.or_eq_true, decide_eq_true_eq, List.mem_cons, beq_iff_eq]
      exact or_congr ⟨fun h => h.symm, fun h => h.symm⟩ Iff.rfl
  simp only [inL, h, e, reify, e2]
theorem okSd12 : okSd [1, 2] := ⟨by decide, by decide, by decide⟩
theorem hinit_ok {S : Sto} {h j : Nat} {r w : Int} {Q : D → Sto → Prop} {E : Exc → Sto → Prop} (hh : S[h]? = some (.ins 0 [])) (hj : S[j]? = some (.lst [.int 1, .int 2])) (hr : 0 ≤ r ∧ r ≤ 9) (hw : 1 ≤ w ∧ w ≤ 20)
    (q : ∀ S', Fm [h] S S' → isH S' h → Q .non S') : wR (f_House___init__ [.ref h, .int 0, .ref j, .int r, .int w] S) Q E := by
  refine wR_call rfl ?_
  simp only [c_House___init__, wS_sSeq, wS_sExpr, eCall_a, aCons_a, aNil_a, eV_a, eC_a, List.map, List.replicate, List.cons_append, List.nil_append, List.getElem?_cons_zero, List.getElem?_cons_succ, R.bind_ok, need_i S (show (0 : Int) ≤ 0 ∧ (0 : Int) ≤ 7 by decide), wR_ok, Nat.reduceSub]
  refine needsides_ok (ns := [1, 2]) hj okSd12 fun S1 f1 => ?_
  have hh1 := f1.at hh (by simp)
  have hj1 := f1.at hj (by simp)
  simp only [wS_sIf, wR_tV, eBin_a, eV_a, List.getElem?_cons_zero, List.getElem?_cons_succ, R.bind_ok, inL_ints (ns := [1, 2]) hj1, Bool.false_eq_true, if_false, wR_ok, show (decide ((0 : Int) ∈ [(1 : Int), 2])) = false by decide, wS_sNx]
  rw [wS_sAsg]
  simp only [eMake_a, aCons_a, aNil_a, eV_a, List.getElem?_cons_zero, List.getElem?_cons_succ, R.bind_ok, wR_bind]
  have hl1 := lt_of_at hh1
  refine kinit0 (at_new _ _) hr fun S2 kl f2 k2 l2 => ?_
  simp only [wR_ok, if_true, gV_a, List.set_cons_succ, List.set_cons_zero]
  have hh2 := f2.at (at_push (u := .ins 1 []) hh1) (by simp; omega)
  have hj2 := f2.at (at_push (u := .ins 1 []) hj1) (by simp; have := lt_of_at hj1; omega)
  have g2 : Fm [h] S S2 := (((f1.push (.ins 1 [])).nil).two f2 f1.len)
  have klh : kl ≠ h := fun z => by rw [z, hh2] at l2; cases l2
  have shh : S1.length ≠ h := by omega
  generalize S1.length = sh at k2 shh
  clear f2 f1
  simp only [wS_sExpr, eCall_a, aCons_a, aNil_a, eV_a, eC_a, List.getElem?_cons_zero, List.getElem?_cons_succ, R.bind_ok, need_i S2 hw, wR_ok]
  -- me, near
  refine asg_fld rfl ?_
  simp only [eV_a, List.getElem?_cons_zero, List.getElem?_cons_succ, wR_ok]
  refine ⟨_, hh2, by simp, ?_⟩
  refine asg_fld rfl ?_
  have hj3 := at_set_ne (u := .ins 0 (fput 41 (.int 0) [])) hj2 (show h ≠ j from fun z => by rw [← z, hh2] at hj2; cases hj2)
  have k3 := at_set_ne (u := .ins 0 (fput 41 (.int 0) [])) k2 shh.symm
  have l3 := at_set_ne (u := .ins 0 (fput 41 (.int 0) [])) l2 klh.symm
  have hh3 := at_set (u := .ins 0 (fput 41 (.int 0) [])) hh2
  have g3 : Fm [h] S (S2.set h (.ins 0 (fput 41 (.int 0) []))) := g2.set _ (.inl (by simp))
  generalize S2.set h (.ins 0 (fput 41 (.int 0) [])) = S3 at hj3 k3 l3 hh3 g3
  simp only [eCall_a, aCons_a, aNil_a, eV_a, List.getElem?_cons_zero, List.getElem?_cons_succ, R.bind_ok, fList_r hj3, wR_ok]
  refine ⟨_, at_push hh3, by simp [fput], ?_⟩
  have n1h : S3.length ≠ h := by have := lt_of_at hh3; omega
  have n4 := at_set_ne (u := .ins 0 (fput 44 (.ref S3.length) (fput 41 (.int 0) []))) (at_new S3 (.lst [.int 1, .int 2])) n1h.symm
  have k4 := at_set_ne (u := .ins 0 (fput 44 (.ref S3.length) (fput 41 (.int 0) []))) (at_push (u := .lst [.int 1, .int 2]) k3) shh.symm
  have l4 := at_set_ne (u := .ins 0 (fput 44 (.ref S3.length) (fput 41 (.int 0) []))) (at_push (u := .lst [.int 1, .int 2]) l3) klh.symm
  have hh4 := at_set (u := .ins 0 (fput 44 (.ref S3.length) (fput 41 (.int 0) []))) (at_push (u := .lst [.int 1, .int 2]) hh3)
  have g4 : Fm [h] S ((S3 ++ [Ob.lst [.int 1, .int 2]]).set h (.ins 0 (fput 44 (.ref S3.length) (fput 41 (.int 0) [])))) := (g3.push _).set _ (.inl (by simp))
  generalize (S3 ++ [Ob.lst [.int 1, .int 2]]).set h (.ins 0 (fput 44 (.ref S3.length) (fput 41 (.int 0) []))) = S4 at n4 k4 l4 hh4 g4
  generalize S3.length = n1 at n1h n4 hh4
  -- shelf, most
  refine asg_fld rfl ?_
  simp only [eV_a, List.getElem?_cons_zero, List.getElem?_cons_succ, wR_ok]
  refine ⟨_, hh4, by simp [fput], ?_⟩
  refine asg_fld rfl ?_
  simp only [eV_a, List.getElem?_cons_zero, List.getElem?_cons_succ, wR_ok]
  refine ⟨_, at_set hh4, by simp [fput], ?_⟩
  rw [List.set_set]
  have e5 : fput 43 (.int w) (fput 68 (.ref sh) (fput 44 (.ref n1) (fput 41 (.int 0) []))) = [(41, .int 0), (44, .ref n1), (68, .ref sh), (43, .int w)] := rfl
  rw [e5]
  have n5 := at_set_ne (u := .ins 0 [(41, .int 0), (44, .ref n1), (68, .ref sh), (43, .int w)]) n4 n1h.symm
  have k5 := at_set_ne (u := .ins 0 [(41, .int 0), (44, .ref n1), (68, .ref sh), (43, .int w)]) k4 shh.symm
  have l5 := at_set_ne (u := .ins 0 [(41, .int 0), (44, .ref n1), (68, .ref sh), (43, .int w)]) l4 klh.symm
  have hh5 := at_set (u := .ins 0 [(41, .int 0), (44, .ref n1), (68, .ref sh), (43, .int w)]) hh4
  have g5 : Fm [h] S (S4.set h (.ins 0 [(41, .int 0), (44, .ref n1), (68, .ref sh), (43, .int w)])) := g4.set _ (.inl (by simp))
  generalize S4.set h (.ins 0 [(41, .int 0), (44, .ref n1), (68, .ref sh), (43, .int w)]) = S5 at n5 k5 l5 hh5 g5
  -- roads
  refine asg_fld rfl ?_
  simp only [eMake_a, aNil_a, R.bind_ok, wR_bind]
  have hl5 := lt_of_at hh5
  refine tinit0 (at_new _ _) fun S6 tl f6 t6 d6 => ?_
  simp only [if_true, wR_ok]
  have nh : ∀ {n : Nat} {o : Ob}, S5[n]? = some o → S6[n]? = some o := fun {n o} z => f6.at (at_push z) (by simp; have := lt_of_at z; omega)
  have hh6 := nh hh5
  refine ⟨_, hh6, by simp, ?_⟩
  have tlh : tl ≠ h := fun z => by rw [z, hh6] at d6; cases d6
  have rdh : S5.length ≠ h := by omega
  have g6 : Fm [h] S S6 := (g5.push (.ins 3 [])).two f6 g5.len
  have n6 := nh n5
  have k6 := nh k5
  have l6 := nh l5
  clear nh f6
  generalize S5.length = rd at t6 rdh
  have e7 : fput 63 (.ref rd) [(41, D.int 0), (44, .ref n1), (68, .ref sh), (43, .int w)] = [(41, .int 0), (44, .ref n1), (68, .ref sh), (43, .int w), (63, .ref rd)] := rfl
  rw [e7]
  have n7 := at_set_ne (u := .ins 0 [(41, .int 0), (44, .ref n1), (68, .ref sh), (43, .int w), (63, .ref rd)]) n6 n1h.symm
  have k7 := at_set_ne (u := .ins 0 [(41, .int 0), (44, .ref n1), (68, .ref sh), (43, .int w), (63, .ref rd)]) k6 shh.symm
  have l7 := at_set_ne (u := .ins 0 [(41, .int 0), (44, .ref n1), (68, .ref sh), (43, .int w), (63, .ref rd)]) l6 klh.symm
  have t7 := at_set_ne (u := .ins 0 [(41, .int 0), (44, .ref n1), (68, .ref sh), (43, .int w), (63, .ref rd)]) t6 rdh.symm
  have d7 := at_set_ne (u := .ins 0 [(41, .int 0), (44, .ref n1), (68, .ref sh), (43, .int w), (63, .ref rd)]) d6 tlh.symm
  have hh7 := at_set (u := .ins 0 [(41, .int 0), (44, .ref n1), (68, .ref sh), (43, .int w), (63, .ref rd)]) hh6
  have g7 : Fm [h] S (S6.set h (.ins 0 [(41, .int 0), (44, .ref n1), (68, .ref sh), (43, .int w), (63, .ref rd)])) := g6.set _ (.inl (by simp))
  generalize S6.set h (.ins 0 [(41, .int 0), (44, .ref n1), (68, .ref sh), (43, .int w), (63, .ref rd)]) = S7 at n7 k7 l7 t7 d7 hh7 g7
  -- a new object o, the field f: all else stays
  have step : ∀ {S7 : Sto} {fs fs' : List (Nat × D)} {o : Ob} (hh : S7[h]? = some (.ins 0 fs)), S7.length ≠ h ∧ ((S7 ++ [o]).set h (.ins 0 fs'))[h]? = some (.ins 0 fs') ∧ ((S7 ++ [o]).set h (.ins 0 fs'))[S7.length]? = some o ∧ (∀ {n : Nat} {u : Ob}, n ≠ h → S7[n]? = some u → ((S7 ++ [o]).set h (.ins 0 fs'))[n]? = some u) ∧ (Fm [h] S S7 → Fm [h] S ((S7 ++ [o]).set h (.ins 0 fs'))) := fun {S7 fs fs' o} hh => by
    have hl := lt_of_at hh
    have ne : S7.length ≠ h := by omega
    exact ⟨ne, at_set (at_push hh), at_set_ne (at_new _ _) ne.symm, fun n z => at_set_ne (at_push z) n.symm, fun g => (g.push _).set _ (.inl (by simp))⟩
  refine asg_fld rfl ?_
  simp only [eDic_a, wR_ok]
  refine ⟨_, at_push hh7, by simp, ?_⟩
  rw [show fput 80 (.ref S7.length) [(41, D.int 0), (44, .ref n1), (68, .ref sh), (43, .int w), (63, .ref rd)] = [(41, .int 0), (44, .ref n1), (68, .ref sh), (43, .int w), (63, .ref rd), (80, .ref S7.length)] from rfl]
  obtain ⟨a7, hh8, o8, up8, g8⟩ := step (fs' := [(41, .int 0), (44, .ref n1), (68, .ref sh), (43, .int w), (63, .ref rd), (80, .ref S7.length)]) (o := .dic true false []) hh7
  have g8 := g8 g7
  have n8 := up8 n1h n7
  have k8 := up8 shh k7
  have l8 := up8 klh l7
  have t8 := up8 rdh t7
  have d8 := up8 tlh d7
  clear up8
  generalize (S7 ++ [Ob.dic true false []]).set h (.ins 0 [(41, .int 0), (44, .ref n1), (68, .ref sh), (43, .int w), (63, .ref rd), (80, .ref S7.length)]) = S8 at hh8 o8 g8 n8 k8 l8 t8 d8
  generalize S7.length = th at a7 hh8 o8
  refine asg_fld rfl ?_
  simp only [eDic_a, wR_ok]
  refine ⟨_, at_push hh8, by simp, ?_⟩
  rw [show fput 58 (.ref S8.length) [(41, D.int 0), (44, .ref n1), (68, .ref sh), (43, .int w), (63, .ref rd), (80, .ref th)] = [(41, .int 0), (44, .ref n1), (68, .ref sh), (43, .int w), (63, .ref rd), (80, .ref th), (58, .ref S8.length)] from rfl]
  obtain ⟨a8, hh9, o9, up9, g9⟩ := step (fs' := [(41, .int 0), (44, .ref n1), (68, .ref sh), (43, .int w), (63, .ref rd), (80, .ref th), (58, .ref S8.length)]) (o := .dic true false []) hh8
  have g9 := g9 g8
  have n9 := up9 n1h n8
  have k9 := up9 shh k8
  have l9 := up9 klh l8
  have t9 := up9 rdh t8
  have d9 := up9 tlh d8
  have p9 := up9 a7 o8
  clear up9
  generalize (S8 ++ [Ob.dic true false []]).set h (.ins 0 [(41, .int 0), (44, .ref n1), (68, .ref sh), (43, .int w), (63, .ref rd), (80, .ref th), (58, .ref S8.length)]) = S9 at hh9 o9 g9 n9 k9 l9 t9 d9 p9
  generalize S8.length = pd at a8 hh9 o9
  refine asg_fld rfl ?_
  simp only [eDic_a, wR_ok]
  refine ⟨_, at_push hh9, by simp, ?_⟩
  rw [show fput 24 (.ref S9.length) [(41, D.int 0), (44, .ref n1), (68, .ref sh), (43, .int w), (63, .ref rd), (80, .ref th), (58, .ref pd)] = [(41, .int 0), (44, .ref n1), (68, .ref sh), (43, .int w), (63, .ref rd), (80, .ref th), (58, .ref pd), (24, .ref S9.length)] from rfl]
  obtain ⟨a9, hh10, _, up10, g10⟩ := step (fs' := [(41, .int 0), (44, .ref n1), (68, .ref sh), (43, .int w), (63, .ref rd), (80, .ref th), (58, .ref pd), (24, .ref S9.length)]) (o := .dic true false []) hh9
  have g10 := g10 g9
  have n10 := up10 n1h n9
  have k10 := up10 shh k9
  have l10 := up10 klh l9
  have t10 := up10 rdh t9
  have d10 := up10 tlh d9
  have p10 := up10 a7 p9
  have q10 := up10 a8 o9
  clear up10
  generalize (S9 ++ [Ob.dic true false []]).set h (.ins 0 [(41, .int 0), (44, .ref n1), (68, .ref sh), (43, .int w), (63, .ref rd), (80, .ref th), (58, .ref pd), (24, .ref S9.length)]) = S10 at hh10 g10 n10 k10 l10 t10 d10 p10 q10
  generalize S9.length = fr at a9 hh10
  refine asg_fld rfl ?_
  simp only [eLst_a, aNil_a, R.bind_ok, List.length_nil, Nat.zero_le, if_true, wR_ok]
  refine ⟨_, at_push hh10, by simp, ?_⟩
  rw [show fput 20 (.ref S10.length) [(41, D.int 0), (44, .ref n1), (68, .ref sh), (43, .int w), (63, .ref rd), (80, .ref th), (58, .ref pd), (24, .ref fr)] = hF n1 sh rd th pd fr S10.length w from rfl]
  obtain ⟨a10, hh11, o11, up11, g11⟩ := step (fs' := hF n1 sh rd th pd fr S10.length w) (o := .lst []) hh10
  exact q _ (g11 g10) ⟨n1, sh, kl, rd, tl, th, pd, fr, S10.length, r, w, hh11, up11 n1h n10, up11 shh k10, up11 klh l10, up11 rdh t10, up11 tlh d10, up11 a7 p10, up11 a8 q10, o11⟩
/-! the refusals of houses -/
theorem neednm_b {d : D} {S : Sto} {Q : D → Sto → Prop} {E : Exc → Sto → Prop} (h : nmB S d false) (q : ∀ S', Fm [] S S' → E ⟨1, []⟩ S') : wR (f_need_name [d] S) Q E := by
  rcases h with ⟨xs, rfl, h1, h2⟩ | ⟨h1, _⟩
  · exact neednm_exc h2.symm q h1
  · exact neednm_bad h1 q
theorem need_no {d : D} {lo : Int} {hi : Option Int} {S : Sto} (hd : isP d = true) (h : numOk d lo hi = false) : f_need_number [d, .int lo, hiD hi] S = .exc ⟨2, []⟩ S := by
  rw [need_any hd, h, if_neg (by simp)]
theorem need_no_d {d : D} {lo : Int} {S : Sto} (hd : isP d = true) (h : numOk d lo none = false) : withD f_need_number [.non] [d, .int lo] S = .exc ⟨2, []⟩ S := by
  rw [need_any_d hd, h, if_neg (by simp)]
theorem hinit_num {S : Sto} {h : Nat} {d x y z : D} {Q : D → Sto → Prop} {E : Exc → Sto → Prop} (hd : isP d = true) (hn : numOk d 0 (some 7) = false) (q : E ⟨2, []⟩ S) : wR (f_House___init__ [.ref h, d, x, y, z] S) Q E := by
  refine wR_call rfl ?_
  have e : f_need_number [d, .int 0, .int 7] S = _ := need_no (hi := some 7) hd hn
  simp only [c_House___init__, wS_sSeq, wS_sExpr, eCall_a, aCons_a, aNil_a, eV_a, eC_a, List.map, List.replicate, List.cons_append, List.nil_append, List.getElem?_cons_zero, List.getElem?_cons_succ, R.bind_ok, e, wR_exc]
  exact q
theorem hinit_sides {S : Sto} {h : Nat} {d y z : D} {Q : D → Sto → Prop} {E : Exc → Sto → Prop} (hd : badS S d) (q : ∀ S', Fm [] S S' → E ⟨3, []⟩ S') : wR (f_House___init__ [.ref h, .int 0, d, y, z] S) Q E := by
  refine wR_call rfl ?_
  simp only [c_House___init__, wS_sSeq, wS_sExpr, eCall_a, aCons_a, aNil_a, eV_a, eC_a, List.map, List.replicate, List.cons_append, List.nil_append, List.getElem?_cons_zero, List.getElem?_cons_succ, R.bind_ok, need_i S (show (0 : Int) ≤ 0 ∧ (0 : Int) ≤ 7 by decide), wR_ok, Nat.reduceSub]
  exact needsides_bad hd q
theorem hinit_self {S : Sto} {h j : Nat} {y z : D} {Q : D → Sto → Prop} {E : Exc → Sto → Prop} (hj : S[j]? = some (.lst [.int 0, .int 1])) (q : ∀ S', Fm [] S S' → E ⟨3, []⟩ S') : wR (f_House___init__ [.ref h, .int 0, .ref j, y, z] S) Q E := by
  refine wR_call rfl ?_
  simp only [c_House___init__, wS_sSeq, wS_sExpr, eCall_a, aCons_a, aNil_a, eV_a, eC_a, List.map, List.replicate, List.cons_append, List.nil_append, List.getElem?_cons_zero, List.getElem?_cons_succ, R.bind_ok, need_i S (show (0 : Int) ≤ 0 ∧ (0 : Int) ≤ 7 by decide), wR_ok, Nat.reduceSub]
  refine needsides_ok (ns := [0, 1]) hj ⟨by decide, by decide, by decide⟩ fun S1 f1 => ?_
  have hj1 := f1.at hj (by simp)
  simp only [wS_sIf, wR_tV, eBin_a, eV_a, List.getElem?_cons_zero, List.getElem?_cons_succ, R.bind_ok, inL_ints (ns := [0, 1]) hj1, Bool.false_eq_true, if_false, wR_ok, show (decide ((0 : Int) ∈ [(0 : Int), 1])) = true by decide, if_true, wS_sRaise, aNil_a]
  exact q _ f1
/-- up to the keeps -/
theorem hinit_up {S : Sto} {h j : Nat} {y z : D} {Q : D → Sto → Prop} {E : Exc → Sto → Prop} (hj : S[j]? = some (.lst [.int 1])) (q : ∀ S', Fm [] S S' → wR (f_Keeps___init__ [.ref S'.length, y] (S' ++ [.ins 1 []])) (fun d S2 => d = .non ∧ isP z = true ∧ numOk z 1 (some 20) = false ∧ E ⟨2, []⟩ S2) E) : wR (f_House___init__ [.ref h, .int 0, .ref j, y, z] S) Q E := by
  refine wR_call rfl ?_
  simp only [c_House___init__, wS_sSeq, wS_sExpr, eCall_a, aCons_a, aNil_a, eV_a, eC_a, List.map, List.replicate, List.cons_append, List.nil_append, List.getElem?_cons_zero, List.getElem?_cons_succ, R.bind_ok, need_i S (show (0 : Int) ≤ 0 ∧ (0 : Int) ≤ 7 by decide), wR_ok, Nat.reduceSub]
  refine needsides_ok (ns := [1]) hj ⟨by decide, by decide, by decide⟩ fun S1 f1 => ?_
  have hj1 := f1.at hj (by simp)
  simp only [wS_sIf, wR_tV, eBin_a, eV_a, List.getElem?_cons_zero, List.getElem?_cons_succ, R.bind_ok, inL_ints (ns := [1]) hj1, Bool.false_eq_true, if_false, wR_ok, show (decide ((0 : Int) ∈ [(1 : Int)])) = false by decide, wS_sNx]
  rw [wS_sAsg]
  simp only [eMake_a, aCons_a, aNil_a, eV_a, List.getElem?_cons_zero, List.getElem?_cons_succ, R.bind_ok, wR_bind]
  refine wR_mono (q S1 f1) (fun d S2 ⟨e, z1, z2, e2⟩ => ?_) fun _ _ z => z
  subst e
  have e : f_need_number [z, .int 1, .int 20] S2 = _ := need_no (hi := some 20) z1 z2
  simp only [if_true, wR_ok, gV_a, List.set_cons_succ, List.set_cons_zero, wS_sExpr, eCall_a, aCons_a, aNil_a, eV_a, eC_a, List.getElem?_cons_zero, List.getElem?_cons_succ, R.bind_ok, e, wR_exc]
  exact e2
theorem hask_nm {S : Sto} {h : Nat} {d x : D} {Q : D → Sto → Prop} {E : Exc → Sto → Prop} (hn : nmB S d false) (q : ∀ S', Fm [] S S' → E ⟨1, []⟩ S') : wR (f_House_ask [.ref h, d, x] S) Q E := by
  refine wR_call rfl ?_
  simp only [c_House_ask, wS_sSeq, wS_sExpr, eCall_a, aCons_a, aNil_a, eV_a, eC_a, List.map, List.replicate, List.cons_append, List.nil_append, List.getElem?_cons_zero, List.getElem?_cons_succ, R.bind_ok, Nat.reduceSub]
  exact neednm_b hn q
theorem hask_num {S : Sto} {h : Nat} {nm : List (List Nat)} {d : D} {Q : D → Sto → Prop} {E : Exc → Sto → Prop} (hn : okNm nm = true) (hz : ∀ x ∈ nm, x.length ≤ sz) (hd : isP d = true) (hb : numOk d 0 none = false) (q : ∀ S', Fm [] S S' → E ⟨2, []⟩ S') : wR (f_House_ask [.ref h, nmD nm, d] S) Q E := by
  refine wR_call rfl ?_
  simp only [c_House_ask, wS_sSeq, wS_sExpr, eCall_a, aCons_a, aNil_a, eV_a, eC_a, List.map, List.replicate, List.cons_append, List.nil_append, List.getElem?_cons_zero, List.getElem?_cons_succ, R.bind_ok, Nat.reduceSub]
  refine neednm_ok hn (fun S1 f1 => ?_) hz
  simp only [need_no_d hd hb, wR_exc]
  exact q _ f1
theorem hcome_no {S : Sto} {h : Nat} {d x y : D} {Q : D → Sto → Prop} {E : Exc → Sto → Prop} (hH : isH S h) (hd : isP d = true) (hn : numOk d 0 (some 7) = false ∨ ∃ i : Int, d = .int i ∧ i ∉ [(1 : Int), 2]) (q : E ⟨8, []⟩ S) : wR (f_House_come [.ref h, d, x, y] S) Q E := by
  refine wR_call rfl ?_
  have e : f_is_number [d, .int 0, .int 7] S = _ := num_any hd 0 (some 7) S
  simp only [c_House_come, wS_sSeq, wS_sIf, wR_tOr, wR_tNot, wR_tV, eCall_a, aCons_a, aNil_a, eV_a, eC_a, List.map, List.replicate, List.cons_append, List.nil_append, List.getElem?_cons_zero, List.getElem?_cons_succ, R.bind_ok, e, wR_ok, Nat.sub_self]
  cases hb : numOk d 0 (some 7) with
  | false =>
    simp only [Bool.not_false, if_true, wS_sRaise, aNil_a, wR_ok]
    exact q
  | true =>
    rcases hn with hn | ⟨i, rfl, hi⟩
    · rw [hn] at hb; cases hb
    · obtain ⟨n1, sh, kl, rd, tl, th, pd, fr, en, r, w, h0, h1, _⟩ := hH
      simp only [Bool.not_true, Bool.false_eq_true, if_false, eBin_a, eV_a, List.getElem?_cons_zero, List.getElem?_cons_succ, R.bind_ok, rd_h (L := [some (.ref h), some (.int i), some x, some y]) h0 rfl (show fget 44 _ = some (.ref n1) from rfl), inL_ints (ns := [1, 2]) h1, if_true, wR_ok, hi, decide_false, Bool.not_false, wS_sRaise, aNil_a]
      exact q
/-- past the side -/
theorem hcome_up {S : Sto} {h : Nat} {d y : D} {b : Bool} {Q : D → Sto → Prop} {E : Exc → Sto → Prop} (hH : isH S h) (hl : letB S d b) (q : ∀ S', Fm [] S S' → (b = false ∧ E ⟨0, []⟩ S') ∨ (b = true ∧ isP y = true ∧ numOk y 0 none = false ∧ E ⟨2, []⟩ S')) : wR (f_House_come [.ref h, .int 1, d, y] S) Q E := by
  refine wR_call rfl ?_
  obtain ⟨n1, sh, kl, rd, tl, th, pd, fr, en, r, w, h0, h1, _⟩ := hH
  have e : f_is_number [.int 1, .int 0, .int 7] S = _ := num_any (d := .int 1) rfl 0 (some 7) S
  simp only [c_House_come, wS_sSeq, wS_sIf, wR_tOr, wR_tNot, wR_tV, eCall_a, aCons_a, aNil_a, eV_a, eC_a, List.map, List.replicate, List.cons_append, List.nil_append, List.getElem?_cons_zero, List.getElem?_cons_succ, R.bind_ok, e, wR_ok, Nat.sub_self, show numOk (.int 1) 0 (some 7) = true from rfl, Bool.not_true, Bool.false_eq_true, if_false, eBin_a, rd_h (L := [some (.ref h), some (.int 1), some d, some y]) h0 rfl (show fget 44 _ = some (.ref n1) from rfl), inL_ints (ns := [1, 2]) h1, if_true, show decide ((1 : Int) ∈ [(1 : Int), 2]) = true by decide, wS_sNx]
  refine islet hl fun S1 f1 => ?_
  rcases q S1 f1 with ⟨eb, q1⟩ | ⟨eb, hy, hn, q1⟩ <;> rw [eb]
  · simp only [Bool.not_false, if_true, wS_sRaise, aNil_a, wR_ok]
    exact q1
  · simp only [Bool.not_true, Bool.false_eq_true, if_false, wS_sNx, wS_sExpr, eCall_a, aCons_a, aNil_a, eV_a, eC_a, List.getElem?_cons_zero, List.getElem?_cons_succ, R.bind_ok, need_no_d hy hn, wR_exc]
    exact q1
theorem htick_num {S : Sto} {h : Nat} {d : D} {Q : D → Sto → Prop} {E : Exc → Sto → Prop} (hd : isP d = true) (hb : numOk d 0 none = false) (q : E ⟨2, []⟩ S) : wR (f_House_tick [.ref h, d] S) Q E := by
  refine wR_call rfl ?_
  simp only [c_House_tick, wS_sSeq, wS_sExpr, eCall_a, aCons_a, aNil_a, eV_a, eC_a, List.map, List.replicate, List.cons_append, List.nil_append, List.getElem?_cons_zero, List.getElem?_cons_succ, R.bind_ok, Nat.reduceSub, need_no_d hd hb, wR_exc]
  exact q
theorem hown_nm {S : Sto} {h : Nat} {d x y : D} {Q : D → Sto → Prop} {E : Exc → Sto → Prop} (hn : nmB S d false) (q : ∀ S', Fm [] S S' → E ⟨1, []⟩ S') : wR (f_House_own [.ref h, d, x, y] S) Q E := by
  refine wR_call rfl ?_
  simp only [c_House_own, wS_sSeq, wS_sExpr, eCall_a, aCons_a, aNil_a, eV_a, eC_a, List.map, List.replicate, List.cons_append, List.nil_append, List.getElem?_cons_zero, List.getElem?_cons_succ, R.bind_ok, Nat.reduceSub]
  exact neednm_b hn q
theorem hown_num {S : Sto} {h : Nat} {nm : List (List Nat)} {v l : D} {Q : D → Sto → Prop} {E : Exc → Sto → Prop} (hn : okNm nm = true) (hz : ∀ x ∈ nm, x.length ≤ sz) (hv : isP v = true) (hl : isP l = true) (hb : (numOk v 0 (some 999) && numOk l 0 (some 99)) = false) (q : ∀ S', Fm [] S S' → E ⟨2, []⟩ S') : wR (f_House_own [.ref h, nmD nm, v, l] S) Q E := by
  refine wR_call rfl ?_
  simp only [c_House_own, wS_sSeq, wS_sExpr, eCall_a, aCons_a, aNil_a, eV_a, eC_a, List.map, List.replicate, List.cons_append, List.nil_append, List.getElem?_cons_zero, List.getElem?_cons_succ, R.bind_ok, Nat.reduceSub]
  refine neednm_ok hn (fun S1 f1 => ?_) hz
  have e1 : f_need_number [v, .int 0, .int 999] S1 = _ := need_any hv 0 (some 999) S1
  have e2 : f_need_number [l, .int 0, .int 99] S1 = _ := need_any hl 0 (some 99) S1
  rw [e1]
  cases h1 : numOk v 0 (some 999) with
  | false =>
    rw [if_neg (by simp)]
    exact q _ f1
  | true =>
    rw [if_pos rfl]
    simp only [wR_ok]
    rw [h1, Bool.true_and] at hb
    rw [e2, hb, if_neg (by simp)]
    exact q _ f1
theorem hdisown_nm {S : Sto} {h : Nat} {d : D} {Q : D → Sto → Prop} {E : Exc → Sto → Prop} (hn : nmB S d false) (q : ∀ S', Fm [] S S' → E ⟨1, []⟩ S') : wR (f_House_disown [.ref h, d] S) Q E := by
  refine wR_call rfl ?_
  simp only [c_House_disown, wS_sSeq, wS_sExpr, eCall_a, aCons_a, aNil_a, eV_a, eC_a, List.map, List.replicate, List.cons_append, List.nil_append, List.getElem?_cons_zero, List.getElem?_cons_succ, R.bind_ok, Nat.reduceSub]
  exact neednm_b hn q
theorem no_below {d : D} : numOk d 0 (some (-1)) = false := by
  cases d with
  | int i =>
    simp only [numOk]
    by_cases h : 0 ≤ i
    · have : ¬ i ≤ -1 := by omega
      simp [this]
    · simp [h]
  | _ => rfl
theorem hend_num {S : Sto} {h : Nat} {d : D} {Q : D → Sto → Prop} {E : Exc → Sto → Prop} (hH : isH S h) (hd : isP d = true) (q : E ⟨2, []⟩ S) : wR (f_House_end [.ref h, d] S) Q E := by
  refine wR_call rfl ?_
  obtain ⟨n1, sh, kl, rd, tl, th, pd, fr, en, r, w, h0, h1, h2, h3, h4, h5, h6, h7, h8⟩ := hH
  simp only [c_House_end, wS_sSeq, wS_sExpr, eCall_a, aCons_a, aNil_a, eV_a, eC_a, eBin_a, List.map, List.replicate, List.cons_append, List.nil_append, List.getElem?_cons_zero, List.getElem?_cons_succ, R.bind_ok, Nat.sub_self, rd_h (L := [some (.ref h), some d]) h0 rfl (show fget 20 _ = some (.ref en) from rfl), fLen_r h8, opSub_i, List.length_nil]
  rw [show ((0 : Nat) : Int) - 1 = -1 from rfl]
  rw [show f_need_number [d, .int 0, .int (-1)] S = _ from need_no (hi := some (-1)) hd no_below]
  exact q
/-! what houses tell of themselves -/
theorem set_back {S : Sto} {n : Nat} {o u : Ob} (h : S[n]? = some o) : (S.set n u).set n o = S := by
  rw [List.set_set]
  apply List.ext_getElem?
  intro i
  by_cases e : n = i
  · subst e
    rw [List.getElem?_set_self (lt_of_at h), h]
  · rw [List.getElem?_set_ne e]
theorem hwaits_ok {S : Sto} {h : Nat} {Q : D → Sto → Prop} {E : Exc → Sto → Prop} (hH : isH S h) (q : Q (.ref S.length) (S ++ [.lst []])) : wR (f_House_waits [.ref h] S) Q E := by
  refine wR_call rfl ?_
  obtain ⟨n1, sh, kl, rd, tl, th, pd, fr, en, r, w, h0, h1, h2, h3, h4, h5, h6, h7, h8⟩ := hH
  simp only [c_House_waits, wS_sSeq, wS_sAsg, eLst_a, aNil_a, R.bind_ok, List.length_nil, Nat.zero_le, if_true, wR_ok, gV_a, List.map, List.replicate, List.cons_append, List.nil_append, Nat.reduceSub, List.set_cons_succ, List.set_cons_zero]
  have h0' := at_push (u := .lst []) h0
  have h7' := at_push (u := .lst []) h7
  have ne : pd ≠ h := fun z => by rw [z, h0] at h7; cases h7
  have h0'' := at_set_ne (u := .dic true true []) h0' ne
  have e1 := rd_h (L := [some (.ref h), some (.ref S.length), none, none]) h0' rfl (show fget 58 _ = some (.ref pd) from rfl)
  have e2 := rd_h (L := [some (.ref h), some (.ref S.length), none, none]) h0'' rfl (show fget 58 _ = some (.ref pd) from rfl)
  have e3 := at_set (u := .dic true true []) h7'
  unfold sLock
  simp only [e1, h7']
  simp only [sFor, wDic, e2, R.bind_ok, e3, R.st_ok, List.map_nil, forL, decide_true, if_true, unlD, set_back h7', wS_nx, wS_sRet, eV_a, List.getElem?_cons_succ, List.getElem?_cons_zero, wR_ok]
  exact q
theorem hkeeps_ok {S : Sto} {h : Nat} {Q : D → Sto → Prop} {E : Exc → Sto → Prop} (hH : isH S h) (q : Q (.ref S.length) (S ++ [.lst []])) : wR (f_House_keeps [.ref h] S) Q E := by
  refine wR_call rfl ?_
  obtain ⟨n1, sh, kl, rd, tl, th, pd, fr, en, r, w, h0, h1, h2, h3, h4, h5, h6, h7, h8⟩ := hH
  simp only [c_House_keeps, wS_sRet, List.map, List.replicate, List.cons_append, List.nil_append, Nat.sub_self]
  refine wR_eMeth ?_
  rw [rd_h (L := [some (.ref h)]) h0 rfl (show fget 68 _ = some (.ref sh) from rfl)]
  simp only [wR_ok, aNil_a]
  refine ⟨sh, _, rfl, h2, rfl, ?_⟩
  refine wR_call rfl ?_
  simp only [c_Keeps_rows, wS_sRet, List.map, List.replicate, List.cons_append, List.nil_append, Nat.sub_self, eCall_a, aCons_a, aNil_a, rd_h (L := [some (.ref sh)]) h2 rfl (show fget 38 _ = some (.ref kl) from rfl), R.bind_ok, fList_r h3, wR_ok]
  exact q
theorem srtD_nil : srtD [] = [] := by
  unfold srtD
  exact List.mergeSort_nil
theorem howns_ok {S : Sto} {h : Nat} {Q : D → Sto → Prop} {E : Exc → Sto → Prop} (hH : isH S h) (q : ∀ S', Fm [] S S' → ∀ j, S'[j]? = some (.lst []) → Q (.ref j) S') : wR (f_House_owns [.ref h] S) Q E := by
  refine wR_call rfl ?_
  obtain ⟨n1, sh, kl, rd, tl, th, pd, fr, en, r, w, h0, h1, h2, h3, h4, h5, h6, h7, h8⟩ := hH
  simp only [c_House_owns, wS_sRet, List.map, List.replicate, List.cons_append, List.nil_append, Nat.reduceSub, wR_eLc]
  refine wR_wLst ?_
  have e : fSorted [.ref th] S = .ok (.ref S.length) (S ++ [.lst []]) := by
    simp only [fSorted, h6, List.map_nil, srtD_nil, List.length_nil]
    rw [if_pos ⟨rfl, Nat.zero_le _⟩]
  simp only [eCall_a, aCons_a, aNil_a, rd_h (L := [some (.ref h), none]) h0 rfl (show fget 80 _ = some (.ref th) from rfl), R.bind_ok, e, wR_ok]
  refine ⟨_, _, rfl, at_new _ _, ?_⟩
  unfold lcL
  rw [if_pos (decide_eq_true (at_push (at_new _ _)))]
  exact q _ (((Fm.refl _ _).push _).push _) _ (at_new _ _)
theorem htable_ok {S : Sto} {h : Nat} {Q : D → Sto → Prop} {E : Exc → Sto → Prop} (hH : isH S h) (q : ∀ S', Fm [] S S' → ∀ j, S'[j]? = some (.lst []) → Q (.ref j) S') : wR (f_House_table [.ref h] S) Q E := by
  refine wR_call rfl ?_
  obtain ⟨n1, sh, kl, rd, tl, th, pd, fr, en, r, w, h0, h1, h2, h3, h4, h5, h6, h7, h8⟩ := hH
  simp only [c_House_table, wS_sRet, List.map, List.replicate, List.cons_append, List.nil_append, Nat.sub_self]
  refine wR_eMeth ?_
  rw [rd_h (L := [some (.ref h)]) h0 rfl (show fget 63 _ = some (.ref rd) from rfl)]
  simp only [wR_ok, aNil_a]
  refine ⟨rd, _, rfl, h4, rfl, ?_⟩
  refine wR_call rfl ?_
  simp only [c_Table_rows, wS_sRet, List.map, List.replicate, List.cons_append, List.nil_append, Nat.reduceSub, wR_eLc]
  refine wR_wLst ?_
  have e : fSorted [.ref tl] S = .ok (.ref S.length) (S ++ [.lst []]) := by
    simp only [fSorted, h5, List.map_nil, srtD_nil, List.length_nil]
    rw [if_pos ⟨rfl, Nat.zero_le _⟩]
  simp only [eCall_a, aCons_a, aNil_a, rd_h (L := [some (.ref rd), none]) h4 rfl (show fget 38 _ = some (.ref tl) from rfl), R.bind_ok, e, wR_ok]
  refine ⟨_, _, rfl, at_new _ _, ?_⟩
  unfold lcL
  rw [if_pos (decide_eq_true (at_push (at_new _ _)))]
  exact q _ (((Fm.refl _ _).push _).push _) _ (at_new _ _)
end MP

namespace MP
abbrev nma : D := .tup [.str [97]]
theorem nma_ok : okNm [[97]] = true := by decide
theorem nma_len : ∀ x ∈ [[97]], x.length ≤ sz := by decide
theorem num_le {d : D} (h : numOk d 0 none = false) (k : Int) : numOk d 0 (some k) = false := by
  cases d with
  | int i => simp only [numOk, Bool.and_true] at h; simp [numOk, h]
  | _ => rfl
theorem eMakeK_a {c n m : Nat} {F : Fn} {gD : List D → List D → List D} {as ks : AM} {L : Loc} {S : Sto} : eMakeK c n m F gD as ks L S = (as L S).bind fun xs S1 => (ks L S1).bind fun zs S2 => if xs.length = n ∧ zs.length = m then
  (F (.ref S2.length :: gD xs zs) (S2 ++ [.ins c []])).bind fun v S3 => if v = .non then .ok (.ref S2.length) S3 else .err else .err := rfl
theorem doors_ok {S : Sto} {h : Nat} {d : D} {Q : D → Sto → Prop} {E : Exc → Sto → Prop} (hH : isH S h) (hd : isP d = true) (hn : numOk d 0 none = false) (q : ∀ S' m, Fm [] S S' → S'[m]? = some (.lst (List.replicate 6 (wT 2))) → Q (.ref m) S') : wR (f__law_number_doors [.ref h, d] S) Q E := by
  refine wR_call rfl ?_
  have z1 : (1 ≤ sz) = True := eq_true (by decide)
  have z2 : (2 ≤ sz) = True := eq_true (by decide)
  simp only [c__law_number_doors, wS_sSeq, wS_sAsg, eLst_a, aNil_a, R.bind_ok, List.length_nil, Nat.zero_le, if_true, wR_ok, gV_a, List.map, List.replicate, List.cons_append, List.nil_append, Nat.reduceSub, List.set_cons_succ, List.set_cons_zero]
  have f0 : Fm [] S (S ++ [.lst []]) := (Fm.refl _ _).push _
  have q0 : (S ++ [Ob.lst []])[S.length]? = some (.lst []) := at_new _ _
  have H0 := hH.fm0 f0
  have fr : S.length ≤ S.length := Nat.le_refl _
  generalize hq : S.length = m at q0 fr
  generalize S ++ [Ob.lst []] = S0 at q0 f0 H0
  have step : ∀ {S1 S' : Sto} {xs : List D}, Fm [] S S1 → S1[m]? = some (.lst xs) → Fm [] S1 S' → S'[m]? = some (.lst xs) ∧ Fm [] S (S'.set m (.lst (xs ++ [wT 2]))) ∧ (S'.set m (.lst (xs ++ [wT 2])))[m]? = some (.lst (xs ++ [wT 2])) := fun f h f' => by
    have h' := f'.at h (by simp)
    exact ⟨h', (f.trans f').set _ (.inr (by omega)), at_set h'⟩
  refine wS_app (d := wT 2) rfl q0 (by decide) ?_
  refine wR_told (wR_mh H0 rfl (by decide) ?_)
  simp only [aCons_a, eTup_a, aNil_a, eC_a, eV_a, List.getElem?_cons_zero, List.getElem?_cons_succ, R.bind_ok, List.length_cons, List.length_nil, Nat.reduceAdd, z1, if_true, wR_ok]
  refine hask_num (nm := [[97]]) nma_ok nma_len hd hn fun S1 f1 => ⟨rfl, by decide, ?_⟩
  obtain ⟨h1, g1, q1⟩ := step f0 q0 (f1.app (wO 2))
  refine ⟨rfl, h1, ?_⟩
  have H1 := hH.fm0 g1
  dsimp only
  refine wS_app (d := wT 2) rfl q1 (by decide) ?_
  refine wR_told (wR_mh H1 rfl (by decide) ?_)
  simp only [aCons_a, eTup_a, aNil_a, eC_a, eV_a, List.getElem?_cons_zero, List.getElem?_cons_succ, R.bind_ok, List.length_cons, List.length_nil, Nat.reduceAdd, z1, z2, if_true, wR_ok]
  refine hcome_up (b := true) H1 (.inr (.inr (.inr (.inr ⟨wNo, nma, [], rfl, .inl ⟨[[97]], rfl, nma_len, nma_ok.symm⟩, .inr (.inr ⟨by decide, by decide⟩)⟩)))) fun S2 f2 => .inr ⟨rfl, hd, hn, rfl, by decide, ?_⟩
  obtain ⟨h2, g2, q2⟩ := step g1 q1 (f2.app (wO 2))
  refine ⟨rfl, h2, ?_⟩
  have H2 := hH.fm0 g2
  dsimp only
  refine wS_app (d := wT 2) rfl q2 (by decide) ?_
  refine wR_told (wR_mh H2 rfl (by decide) ?_)
  simp only [aCons_a, aNil_a, eV_a, List.getElem?_cons_zero, List.getElem?_cons_succ, R.bind_ok, wR_ok]
  refine htick_num hd hn ⟨rfl, by decide, ?_⟩
  obtain ⟨h3, g3, q3⟩ := step g2 q2 ((Fm.refl _ _).app (wO 2))
  refine ⟨rfl, h3, ?_⟩
  have H3 := hH.fm0 g3
  dsimp only
  refine wS_app (d := wT 2) rfl q3 (by decide) ?_
  refine wR_told (wR_mh H3 rfl (by decide) ?_)
  simp only [aCons_a, eTup_a, aNil_a, eC_a, eV_a, List.getElem?_cons_zero, List.getElem?_cons_succ, R.bind_ok, List.length_cons, List.length_nil, Nat.reduceAdd, z1, if_true, wR_ok]
  refine hown_num (nm := [[97]]) nma_ok nma_len hd rfl (by rw [num_le hn]; rfl) fun S4 f4 => ⟨rfl, by decide, ?_⟩
  obtain ⟨h4, g4, q4⟩ := step g3 q3 (f4.app (wO 2))
  refine ⟨rfl, h4, ?_⟩
  have H4 := hH.fm0 g4
  dsimp only
  refine wS_app (d := wT 2) rfl q4 (by decide) ?_
  refine wR_told (wR_mh H4 rfl (by decide) ?_)
  simp only [aCons_a, eTup_a, aNil_a, eC_a, eV_a, List.getElem?_cons_zero, List.getElem?_cons_succ, R.bind_ok, List.length_cons, List.length_nil, Nat.reduceAdd, z1, if_true, wR_ok]
  refine hown_num (nm := [[97]]) nma_ok nma_len rfl hd (by rw [num_le hn, Bool.and_false]) fun S5 f5 => ⟨rfl, by decide, ?_⟩
  obtain ⟨h5, g5, q5⟩ := step g4 q4 (f5.app (wO 2))
  refine ⟨rfl, h5, ?_⟩
  have H5 := hH.fm0 g5
  dsimp only
  refine wS_app (d := wT 2) rfl q5 (by decide) ?_
  refine wR_told (wR_mh H5 rfl (by decide) ?_)
  simp only [aCons_a, aNil_a, eV_a, List.getElem?_cons_zero, List.getElem?_cons_succ, R.bind_ok, wR_ok]
  refine hend_num H5 hd ⟨rfl, by decide, ?_⟩
  obtain ⟨h6, g6, q6⟩ := step g5 q5 ((Fm.refl _ _).app (wO 2))
  refine ⟨rfl, h6, ?_⟩
  simp only [wS_sRet, eV_a, List.getElem?_cons_zero, List.getElem?_cons_succ, wR_ok]
  exact q _ m g6 q6
/-! letters that are none -/
def ltA : List D := [.non, .int 5, .str wAsk, .tup [], .tup [.str wAsk], .tup [.str wAsk, .tup []], .tup [.str wAsk, .str [97]], .tup [.str [65, 115, 107], nma]]
def ltB (i : Nat) : List D := [.ref i, .tup [.str wNo, nma, .int 1]]
def ltC : List D := [.tup [.str wThing, nma], .tup [.str wThing, nma, .int 1], .tup [.str wThing, nma, .int 1000, .int 1]]
def ltD : List D := [.tup [.str wThing, nma, .int (-1), .int 1], .tup [.non, nma]]
def ltE : List D := [.tup [.str wThing, nma, .bl true, .int 1], .tup [.str wThing, nma, .int 1, .int (-1)], .tup [.str wThing, nma, .int 1, .non]]
def ltF : List D := [.tup [.str wThing, nma, .int 1, .int 1, .int 1]]
theorem nma_b (S : Sto) : nmB S nma true := .inl ⟨[[97]], rfl, nma_len, nma_ok.symm⟩
theorem lts_ok {S : Sto} {i : Nat} {xs : List D} (h : S[i]? = some (.lst xs)) : ∀ y ∈ ltA ++ ltB i ++ ltC ++ ltD ++ ltE ++ ltF, letB S y false := by
  have tn : ∀ {z : List Nat} {r : List D}, (z = wThing ∧ r.length ≠ 2 ∧ false = false) → letB S (.tup (.str z :: nma :: r)) false := fun q => .inr (.inr (.inr (.inr ⟨_, _, _, rfl, nma_b S, .inl q⟩)))
  have tv : ∀ {v u : D}, isP v = true → isP u = true → (numOk v 0 (some 999) && numOk u 0 none) = false → letB S (.tup [.str wThing, nma, v, u]) false := fun a b c => .inr (.inr (.inr (.inr ⟨_, _, _, rfl, nma_b S, .inr (.inl ⟨rfl, _, _, rfl, a, b, c.symm⟩)⟩)))
  intro y hy
  simp only [ltA, ltB, ltC, ltD, ltE, ltF, List.cons_append, List.nil_append, List.mem_cons, List.not_mem_nil, or_false] at hy
  rcases hy with rfl | rfl | rfl | rfl | rfl | rfl | rfl | rfl | rfl | rfl | rfl | rfl | rfl | rfl | rfl | rfl | rfl | rfl | rfl
  · exact .inl ⟨_, rfl, by decide, rfl⟩
  · exact .inl ⟨_, rfl, by decide, rfl⟩
  · exact .inl ⟨_, rfl, by decide, rfl⟩
  · exact .inr (.inl ⟨_, rfl, by decide, rfl⟩)
  · exact .inr (.inl ⟨_, rfl, by decide, rfl⟩)
  · exact .inr (.inr (.inr (.inl ⟨_, _, _, rfl, .inl ⟨[], rfl, by simp, by decide⟩, rfl⟩)))
  · exact .inr (.inr (.inr (.inl ⟨_, _, _, rfl, .inr ⟨.inl ⟨_, rfl, by decide⟩, rfl⟩, rfl⟩)))
  · exact .inr (.inr (.inr (.inr ⟨_, _, _, rfl, nma_b S, .inr (.inr ⟨by decide, by decide⟩)⟩)))
  · exact .inl ⟨"list", by simp only [tyNm, h], by decide, rfl⟩
  · exact .inr (.inr (.inr (.inr ⟨_, _, _, rfl, nma_b S, .inr (.inr ⟨by decide, by decide⟩)⟩)))
  · exact tn ⟨rfl, by decide, rfl⟩
  · exact tn ⟨rfl, by decide, rfl⟩
  · exact tv rfl rfl (by decide)
  · exact tv rfl rfl (by decide)
  · exact .inr (.inr (.inl ⟨_, _, _, _, rfl, rfl, by decide, rfl⟩))
  · exact tv rfl rfl (by decide)
  · exact tv rfl rfl (by decide)
  · exact tv rfl rfl (by decide)
  · exact tn ⟨rfl, by decide, rfl⟩
end MP

namespace MP
/-- v = v + [..] -/
theorem asg_more {e : EM} {i m : Nat} {xs ys : List D} {L : Loc} {S S1 : Sto} {K : En} (hL : L[i]? = some (some (.ref m))) (hm : S1[m]? = some (.lst xs)) (he : e L S = .ok (.ref S1.length) (S1 ++ [.lst ys])) (hz : xs.length + ys.length ≤ sz)
    (h : K.nx (L.set i (some (.ref (S1.length + 1)))) ((S1 ++ [.lst ys]) ++ [.lst (xs ++ ys)])) : wS (sAsg (eBin opAdd (eV i) e) (gV i) L S) K := by
  simp only [wS_sAsg, eBin_a, eV_a, hL, R.bind_ok, he]
  rw [opAdd_r (at_push hm) (at_new _ _), if_pos hz]
  simp only [wR_ok, gV_a, List.length_append, List.length_cons, List.length_nil]
  exact h
theorem letters_ok {S : Sto} {Q : D → Sto → Prop} {E : Exc → Sto → Prop} (q : ∀ S' m items, Fm [] S S' → S'[m]? = some (.lst items) → (∀ y ∈ items, letB S' y false) → Q (.ref m) S') : wR (f__law_letters_none [] S) Q E := by
  refine wR_call rfl ?_
  have z0 : (0 ≤ sz) = True := eq_true (by decide)
  have z1 : (1 ≤ sz) = True := eq_true (by decide)
  have z2 : (2 ≤ sz) = True := eq_true (by decide)
  have z3 : (3 ≤ sz) = True := eq_true (by decide)
  have z4 : (4 ≤ sz) = True := eq_true (by decide)
  have z5 : (5 ≤ sz) = True := eq_true (by decide)
  have z8 : (8 ≤ sz) = True := eq_true (by decide)
  simp only [c__law_letters_none, wS_sSeq, wS_sAsg, List.map, List.replicate, List.cons_append, List.nil_append, Nat.reduceSub, eLst_a, aCons_a, aNil_a, eTup_a, eC_a, R.bind_ok, List.length_cons, List.length_nil, Nat.reduceAdd, z0, z1, z2, z8, if_true, wR_ok, gV_a, List.set_cons_zero]
  have f1 : Fm [] S (S ++ [.lst ltA]) := (Fm.refl _ _).push _
  have a1 : (S ++ [Ob.lst ltA])[S.length]? = some (.lst ltA) := at_new _ _
  show wR (eBin opAdd (eV 0) _ [some (.ref S.length)] (S ++ [Ob.lst ltA])) _ _
  generalize hm : S.length = m at a1
  generalize S ++ [Ob.lst ltA] = S1 at a1 f1
  simp only [eBin_a, eV_a, List.getElem?_cons_zero, R.bind_ok, eLst_a, aCons_a, aNil_a, eTup_a, eC_a, List.length_cons, List.length_nil, Nat.reduceAdd, z0, z1, z2, z3, if_true]
  have at2 : (S1 ++ [Ob.lst [.str wAsk, nma]])[S1.length]? = some (.lst [.str wAsk, nma]) := at_new _ _
  have b2 := at_push (u := .lst [.str wAsk, nma]) a1
  have f2 : Fm [] S (S1 ++ [.lst [.str wAsk, nma]]) := f1.push _
  show wR (opAdd (.ref m) (.ref (S1 ++ [Ob.lst [.str wAsk, nma]]).length) ((S1 ++ [Ob.lst [.str wAsk, nma]]) ++ [.lst (ltB S1.length)])) _ _
  generalize hi : S1.length = i at at2
  generalize S1 ++ [Ob.lst [.str wAsk, nma]] = S2 at at2 b2 f2
  rw [opAdd_r (at_push b2) (at_new _ _), if_pos (by simp [ltA, ltB, ltC, ltD, ltE, ltF, sz])]
  simp only [wR_ok, List.set_cons_zero, eBin_a, eV_a, List.getElem?_cons_zero, R.bind_ok, eLst_a, aCons_a, aNil_a, eTup_a, eC_a, List.length_cons, List.length_nil, Nat.reduceAdd, z0, z1, z2, z3, z4, if_true]
  have go : ∀ {S2 : Sto} {xs ys : List D}, Fm [] S S2 → S2[i]? = some (.lst [.str wAsk, nma]) → Fm [] S ((S2 ++ [.lst xs]) ++ [.lst ys]) ∧ ((S2 ++ [Ob.lst xs]) ++ [.lst ys])[i]? = some (.lst [.str wAsk, nma]) ∧ ((S2 ++ [Ob.lst xs]) ++ [.lst ys])[(S2 ++ [Ob.lst xs]).length]? = some (.lst ys) := fun f a => ⟨(f.push _).push _, at_push (at_push a), at_new _ _⟩
  obtain ⟨f3, at3, a3⟩ := go (xs := ltB i) (ys := ltA ++ ltB i) f2 at2
  show wR (opAdd (.ref (S2 ++ [Ob.lst (ltB i)]).length) (.ref ((S2 ++ [Ob.lst (ltB i)]) ++ [Ob.lst (ltA ++ ltB i)]).length) (((S2 ++ [Ob.lst (ltB i)]) ++ [Ob.lst (ltA ++ ltB i)]) ++ [.lst ltC])) _ _
  generalize (S2 ++ [Ob.lst (ltB i)]).length = m3 at a3
  generalize (S2 ++ [Ob.lst (ltB i)]) ++ [Ob.lst (ltA ++ ltB i)] = S3 at f3 at3 a3
  rw [opAdd_r (at_push a3) (at_new _ _), if_pos (by simp [ltA, ltB, ltC, ltD, ltE, ltF, sz])]
  simp only [wR_ok, List.set_cons_zero, eBin_a, eV_a, List.getElem?_cons_zero, R.bind_ok, eLst_a, aCons_a, aNil_a, eTup_a, eC_a, eUn_a, opNeg_i, List.length_cons, List.length_nil, Nat.reduceAdd, z0, z1, z2, z3, z4, if_true]
  obtain ⟨f4, at4, a4⟩ := go (xs := ltC) (ys := ltA ++ ltB i ++ ltC) f3 at3
  show wR (opAdd (.ref (S3 ++ [Ob.lst ltC]).length) (.ref ((S3 ++ [Ob.lst ltC]) ++ [Ob.lst (ltA ++ ltB i ++ ltC)]).length) (((S3 ++ [Ob.lst ltC]) ++ [Ob.lst (ltA ++ ltB i ++ ltC)]) ++ [.lst ltD])) _ _
  generalize (S3 ++ [Ob.lst ltC]).length = m4 at a4
  generalize (S3 ++ [Ob.lst ltC]) ++ [Ob.lst (ltA ++ ltB i ++ ltC)] = S4 at f4 at4 a4
  rw [opAdd_r (at_push a4) (at_new _ _), if_pos (by simp [ltA, ltB, ltC, ltD, ltE, ltF, sz])]
  simp only [wR_ok, List.set_cons_zero, eBin_a, eV_a, List.getElem?_cons_zero, R.bind_ok, eLst_a, aCons_a, aNil_a, eTup_a, eC_a, eUn_a, opNeg_i, List.length_cons, List.length_nil, Nat.reduceAdd, z0, z1, z2, z3, z4, if_true]
  obtain ⟨f5, at5, a5⟩ := go (xs := ltD) (ys := ltA ++ ltB i ++ ltC ++ ltD) f4 at4
  show wR (opAdd (.ref (S4 ++ [Ob.lst ltD]).length) (.ref ((S4 ++ [Ob.lst ltD]) ++ [Ob.lst (ltA ++ ltB i ++ ltC ++ ltD)]).length) (((S4 ++ [Ob.lst ltD]) ++ [Ob.lst (ltA ++ ltB i ++ ltC ++ ltD)]) ++ [.lst ltE])) _ _
  generalize (S4 ++ [Ob.lst ltD]).length = m5 at a5
  generalize (S4 ++ [Ob.lst ltD]) ++ [Ob.lst (ltA ++ ltB i ++ ltC ++ ltD)] = S5 at f5 at5 a5
  rw [opAdd_r (at_push a5) (at_new _ _), if_pos (by simp [ltA, ltB, ltC, ltD, ltE, ltF, sz])]
  simp only [wR_ok, List.set_cons_zero, wS_sRet, eBin_a, eV_a, List.getElem?_cons_zero, R.bind_ok, eLst_a, aCons_a, aNil_a, eTup_a, eC_a, eUn_a, opNeg_i, List.length_cons, List.length_nil, Nat.reduceAdd, z0, z1, z2, z3, z4, z5, if_true]
  obtain ⟨f6, at6, a6⟩ := go (xs := ltE) (ys := ltA ++ ltB i ++ ltC ++ ltD ++ ltE) f5 at5
  show wR (opAdd (.ref (S5 ++ [Ob.lst ltE]).length) (.ref ((S5 ++ [Ob.lst ltE]) ++ [Ob.lst (ltA ++ ltB i ++ ltC ++ ltD ++ ltE)]).length) (((S5 ++ [Ob.lst ltE]) ++ [Ob.lst (ltA ++ ltB i ++ ltC ++ ltD ++ ltE)]) ++ [.lst ltF])) _ _
  generalize (S5 ++ [Ob.lst ltE]).length = m6 at a6
  generalize (S5 ++ [Ob.lst ltE]) ++ [Ob.lst (ltA ++ ltB i ++ ltC ++ ltD ++ ltE)] = S6 at f6 at6 a6
  rw [opAdd_r (at_push a6) (at_new _ _), if_pos (by simp [ltA, ltB, ltC, ltD, ltE, ltF, sz])]
  simp only [wR_ok]
  obtain ⟨f7, at7, a7⟩ := go (xs := ltF) (ys := ltA ++ ltB i ++ ltC ++ ltD ++ ltE ++ ltF) f6 at6
  exact q _ _ _ f7 a7 (lts_ok at7)
end MP

namespace MP
structure St43 (S0 : Sto) (j h : Nat) (S : Sto) : Prop where
  die : isDie S j
  hou : isH S h
  fm : Fm [j] S0 S
theorem St43.go {S0 : Sto} {j h : Nat} {S S' : Sto} (x : St43 S0 j h S) (f : Fm [] S S') : St43 S0 j h S' := ⟨x.die.fm f (by simp), x.hou.fm0 f, x.fm.trans f.nil⟩
theorem pls_rep (c k : Nat) : pls 1 (List.replicate c (wT k)) = true := pls_all.mpr fun x hx => by rw [List.eq_of_mem_replicate hx]; exact pl_wT k
theorem flat43 (c : Nat) (d : D) : (List.replicate c [d]).flatten = List.replicate c d := by
  induction c with
  | zero => rfl
  | succ c ih => simp [List.replicate_succ, ih]
theorem rep_add (d : D) (c : Nat) : List.replicate c d ++ [d] = List.replicate (c + 1) d := by rw [List.replicate_succ']
def badSd (i : Nat) : List D := [.non, .int 5, .tup [.int 1], .ref i, .ref (i + 1), .ref (i + 2), .ref (i + 3)]
def badSdS : List Ob := [.lst [.int 8], .lst [.int 1, .int 1], .lst [.int 0, .int 1], .lst [.bl true]]
/-- refused as sides of the house 0 -/
def noSd (S : Sto) (d : D) : Prop := badS S d ∨ ∃ j, d = .ref j ∧ S[j]? = some (.lst [.int 0, .int 1])
theorem noSd.fm0 {S S' : Sto} {d : D} (h : noSd S d) (f : Fm [] S S') : noSd S' d := by
  rcases h with h | ⟨j, rfl, h⟩
  · exact .inl (h.fm0 f)
  · exact .inr ⟨j, rfl, f.at h (by simp)⟩
theorem badSd_ok (S : Sto) : ∀ y ∈ badSd S.length, noSd (S ++ badSdS) y := by
  intro y hy
  have at0 := app_at0 S badSdS
  have ati := app_at S badSdS
  simp only [badSd, List.mem_cons, List.not_mem_nil, or_false] at hy
  rcases hy with rfl | rfl | rfl | rfl | rfl | rfl | rfl
  · exact .inl (.inl ⟨_, rfl, by decide⟩)
  · exact .inl (.inl ⟨_, rfl, by decide⟩)
  · exact .inl (.inl ⟨_, rfl, by decide⟩)
  · exact .inl (.inr ⟨_, _, rfl, at0, by decide, .inl ⟨by simp [itemP, isP], by decide⟩⟩)
  · exact .inl (.inr ⟨_, _, rfl, ati 1, by decide, .inr ⟨[1, 1], rfl, by decide, by decide⟩⟩)
  · exact .inr ⟨_, rfl, ati 2⟩
  · exact .inl (.inr ⟨_, _, rfl, ati 3, by decide, .inl ⟨by simp [itemP, isP], by decide⟩⟩)
theorem hinit_no {S : Sto} {h : Nat} {d y z : D} {Q : D → Sto → Prop} {E : Exc → Sto → Prop} (hd : noSd S d) (q : ∀ S', Fm [] S S' → E ⟨3, []⟩ S') : wR (f_House___init__ [.ref h, .int 0, d, y, z] S) Q E := by
  rcases hd with hd | ⟨j, rfl, hd⟩
  · exact hinit_sides hd q
  · exact hinit_self hd q
def badNm (i : Nat) : List D := [.non, .int 5, .str [97], .tup [], .ref i, .tup [.str [65]], .tup [.str [97], .str [97], .str [97], .str [97], .str [97], .str [97]]]
theorem badNm_ok {S : Sto} {i : Nat} {xs : List D} (h : S[i]? = some (.lst xs)) : ∀ y ∈ badNm i, nmB S y false := by
  intro y hy
  simp only [badNm, List.mem_cons, List.not_mem_nil, or_false] at hy
  rcases hy with rfl | rfl | rfl | rfl | rfl | rfl | rfl
  · exact .inr ⟨.inl ⟨_, rfl, by decide⟩, rfl⟩
  · exact .inr ⟨.inl ⟨_, rfl, by decide⟩, rfl⟩
  · exact .inr ⟨.inl ⟨_, rfl, by decide⟩, rfl⟩
  · exact .inl ⟨[], rfl, by simp, by decide⟩
  · exact .inr ⟨.inl ⟨"list", by simp only [tyNm, h], by decide⟩, rfl⟩
  · exact .inr ⟨.inr ⟨_, rfl, by simp [smallD, sz], by decide⟩, rfl⟩
  · exact .inr ⟨.inr ⟨_, rfl, by simp [smallD, sz], by decide⟩, rfl⟩
theorem tyNm_fm {S S' : Sto} {d : D} {t : String} (h : tyNm S d = some t) (f : Fm [] S S') : tyNm S' d = some t := by
  cases d with
  | ref n =>
    simp only [tyNm] at h ⊢
    have : n < S.length := by
      rcases Nat.lt_or_ge n S.length with z | z
      · exact z
      · rw [List.getElem?_eq_none z] at h
        cases h
    rw [f.same n this (by simp)]
    exact h
  | _ => exact h
theorem badB.fm0 {S S' : Sto} {d : D} (h : badB S d) (f : Fm [] S S') : badB S' d := h.imp (fun ⟨t, h1, h2⟩ => ⟨t, tyNm_fm h1 f, h2⟩) id
theorem nmB.fm0 {S S' : Sto} {d : D} {b : Bool} (h : nmB S d b) (f : Fm [] S S') : nmB S' d b := h.imp id fun ⟨h1, h2⟩ => ⟨h1.fm0 f, h2⟩
theorem letB.fm0 {S S' : Sto} {d : D} {b : Bool} (h : letB S d b) (f : Fm [] S S') : letB S' d b := by
  rcases h with ⟨t, h1, h2⟩ | h | ⟨w, n, r, t, h1, h2, h3⟩ | ⟨z, n, r, h1, h2, h3⟩ | ⟨z, n, r, h1, h2, h3⟩
  · exact .inl ⟨t, tyNm_fm h1 f, h2⟩
  · exact .inr (.inl h)
  · exact .inr (.inr (.inl ⟨w, n, r, t, h1, tyNm_fm h2 f, h3⟩))
  · exact .inr (.inr (.inr (.inl ⟨z, n, r, h1, h2.fm0 f, h3⟩)))
  · exact .inr (.inr (.inr (.inr ⟨z, n, r, h1, h2.fm0 f, h3⟩)))
theorem rep_no_ints {c : Nat} {a b : Int} (h : List.replicate c (wT 2) = [D.int a, D.int b]) : False := by
  match c, h with
  | 0, h => cases h
  | c + 1, h =>
    rw [List.replicate_succ] at h
    have := (List.cons.inj h).1
    cases this
theorem St43.app {S0 : Sto} {j h m c : Nat} {S S' : Sto} (x : St43 S0 j h S) (hm : S[m]? = some (.lst (List.replicate c (wT 2)))) (hc : 1 ≤ c) (h0 : S0.length ≤ m) (f : Fm [] S S') :
    S'[m]? = some (.lst (List.replicate c (wT 2))) ∧ St43 S0 j h (S'.set m (.lst (List.replicate c (wT 2) ++ [wT 2]))) ∧ (S'.set m (.lst (List.replicate c (wT 2) ++ [wT 2])))[m]? = some (.lst (List.replicate (c + 1) (wT 2))) := by
  have h' := f.at hm (by simp)
  have x' := x.go f
  have mj : m ≠ j := fun z => by
    obtain ⟨a, b, e⟩ := x'.die
    rw [← z, h'] at e
    exact rep_no_ints (by injection e with e; injection e)
  have ne : ∀ {n : Nat} {o : Ob}, S'[n]? = some o → o ≠ .lst (List.replicate c (wT 2)) → m ≠ n := fun e ho z => by
    rw [← z, h'] at e
    exact ho (Option.some.inj e).symm
  have nl : Ob.lst [] ≠ .lst (List.replicate c (wT 2)) := fun z => by
    injection z with z
    have := congrArg List.length z
    simp at this
    omega
  have nn : Ob.lst [.int 1, .int 2] ≠ .lst (List.replicate c (wT 2)) := fun z => by
    injection z with z
    exact rep_no_ints z.symm
  refine ⟨h', ⟨x'.die.set mj, ?_, x'.fm.set _ (.inr h0)⟩, by rw [at_set h', rep_add]⟩
  obtain ⟨n1, sh, kl, rd, tl, th, pd, fr, en, r, w, e0, e1, e2, e3, e4, e5, e6, e7, e8⟩ := x'.hou
  exact ⟨n1, sh, kl, rd, tl, th, pd, fr, en, r, w, at_set_ne e0 (ne e0 (fun z => by cases z)), at_set_ne e1 (ne e1 nn), at_set_ne e2 (ne e2 (fun z => by cases z)), at_set_ne e3 (ne e3 nl), at_set_ne e4 (ne e4 (fun z => by cases z)),
    at_set_ne e5 (ne e5 (fun z => by cases z)), at_set_ne e6 (ne e6 (fun z => by cases z)), at_set_ne e7 (ne e7 (fun z => by cases z)), at_set_ne e8 (ne e8 nl)⟩
theorem mul6 (S : Sto) : opMul (.tup [.str [97]]) (.int 6) S = .ok (.tup [.str [97], .str [97], .str [97], .str [97], .str [97], .str [97]]) S := rfl
theorem ne_nils {S : Sto} {l r a b c d e : Nat} (hl : S[l]? = some (.lst [.ref a, .ref b, .ref c, .ref d])) (hr : S[r]? = some (.lst [.ref e, .ref e, .ref e, .ref e])) (ha : S[a]? = some (.lst [])) (hb : S[b]? = some (.lst [])) (hc : S[c]? = some (.lst [])) (hd : S[d]? = some (.lst [])) (he : S[e]? = some (.lst [])) :
    opNe (.ref l) (.ref r) S = .ok (.bl false) S := by
  have e1 : reify 60 S (.ref l) = some (.list [.list [], .list [], .list [], .list []]) := by
    simp only [reify, hl, List.mapM_cons, List.mapM_nil, ha, hb, hc, hd]
    rfl
  have e2 : reify 60 S (.ref r) = some (.list [.list [], .list [], .list [], .list []]) := by
    simp only [reify, hr, List.mapM_cons, List.mapM_nil, he]
    rfl
  simp only [opNe, e1, e2, PySem.PyData.eqv, PySem.PyData.eqvAll]
  rfl
theorem mul4 {S : Sto} {n : Nat} {d : D} (h : S[n]? = some (.lst [d])) : opMul (.ref n) (.int 4) S = .ok (.ref S.length) (S ++ [.lst [d, d, d, d]]) := by
  simp only [opMul, h]
  rw [if_pos ⟨by decide, by decide, by simp [sz]⟩]
  rfl
theorem law_k43 {S : Sto} {n : Nat} {ns : List Int} (h : isL S n (ns.map .int)) (hz : ns.length ≤ 63) : wR (f_law [.ref n] S) (fun d _ => d = .bl true) Fl := by
  refine wR_call rfl ?_
  simp only [c_law, wS_sSeq, List.map, List.replicate, List.cons_append, List.nil_append, Nat.reduceSub, wS_sFor]
  refine wR_wLst ?_
  simp only [eCall_a, aCons_a, aNil_a, eV_a, eC_a, List.getElem?_cons_zero, R.bind_ok]
  refine rounds_ok h hz (by decide) (by decide) fun k ds S1 hk f1 dl hds hnd => ?_
  refine ⟨k, ds, rfl, hk, ?_⟩
  refine forL_inv (I := fun xs L S => S[k]? = some (.lst ds) ∧ xs.Nodup ∧ (∀ d ∈ xs, ∃ j, d = .ref j ∧ isDie S j ∧ j ≠ k) ∧ ∃ a1 a2 a3 a4 a5 : Option D, L = [some (.ref n), a1, a2, a3, a4, a5]) ?_ ?_ ?_ ⟨hk, hnd, fun d hd => let ⟨j, a, b, _, c⟩ := hds d hd; ⟨j, a, b, c⟩, _, _, _, _, _, rfl⟩
  · exact fun xs L S a => decide_eq_true a.1
  · intro L S _
    simp
  rintro x xs L S2 ⟨hk2, nd, hx, a1, a2, a3, a4, a5, rfl⟩
  obtain ⟨j, rfl, hd, jk⟩ := hx x (List.mem_cons_self ..)
  -- the end of a round
  have fin : ∀ (S7 : Sto) (b1 b2 b3 b4 b5 : Option D), Fm [j] S2 S7 → (fun L S => S[k]? = some (.lst ds) ∧ xs.Nodup ∧ (∀ d ∈ xs, ∃ j, d = .ref j ∧ isDie S j ∧ j ≠ k) ∧ ∃ a1 a2 a3 a4 a5 : Option D, L = [some (.ref n), a1, a2, a3, a4, a5]) [some (.ref n), b1, b2, b3, b4, b5] S7 := fun S7 b1 b2 b3 b4 b5 fm => by
    have nd2 := (List.nodup_cons.mp nd)
    refine ⟨fm.at hk2 (by simpa using jk.symm), nd2.2, fun d hd => ?_, _, _, _, _, _, rfl⟩
    obtain ⟨i, rfl, h1, h2⟩ := hx d (List.mem_cons_of_mem _ hd)
    exact ⟨i, rfl, h1.fm fm (by simp; intro z; subst z; exact nd2.1 (by assumption)), h2⟩
  have z1 : (1 ≤ sz) = True := eq_true (by decide)
  have z2 : (2 ≤ sz) = True := eq_true (by decide)
  have z4 : (4 ≤ sz) = True := eq_true (by decide)
  have z5 : (5 ≤ sz) = True := eq_true (by decide)
  have z6 : (6 ≤ sz) = True := eq_true (by decide)
  have z7 : (7 ≤ sz) = True := eq_true (by decide)
  -- A: numbers of houses
  simp only [gV_a, wR_ok, List.set_cons_succ, List.set_cons_zero, wS_sSeq]
  rw [wS_sFor]
  refine wR_wLst ?_
  simp only [eLst_a, aCons_a, aNil_a, eUn_a, eC_a, R.bind_ok, opNeg_i, List.length_cons, List.length_nil, Nat.reduceAdd, z5, if_true, wR_ok]
  refine ⟨_, _, rfl, at_new _ _, ?_⟩
  have lp : (S2 ++ [Ob.lst [.int (-1), .int 8, .bl true, .non, .str [48]]])[S2.length]? = some (.lst [.int (-1), .int 8, .bl true, .non, .str [48]]) := at_new _ _
  have f3 : Fm [] S2 (S2 ++ [.lst [.int (-1), .int 8, .bl true, .non, .str [48]]]) := (Fm.refl _ _).push _
  generalize S2.length = b at lp
  generalize S2 ++ [Ob.lst [.int (-1), .int 8, .bl true, .non, .str [48]]] = S3 at lp f3
  refine forL_inv (I := fun ys L S => (∀ y ∈ ys, isP y = true ∧ numOk y 0 (some 7) = false) ∧ S[b]? = some (.lst [.int (-1), .int 8, .bl true, .non, .str [48]]) ∧ Fm [] S2 S ∧ ∃ (b2 : Option D), L = [some (.ref n), some (.ref j), b2, a3, a4, a5])
    (fun _ _ _ a => decide_eq_true a.2.1) ?_ ?_ ⟨by decide, lp, f3, _, rfl⟩
  rotate_left
  · rintro y ys L S10 ⟨hy, lp, f10, b2, rfl⟩
    obtain ⟨y1, y2⟩ := hy y (List.mem_cons_self ..)
    simp only [gV_a, wR_ok, List.set_cons_succ, List.set_cons_zero, wS_sIf, wR_tV, eBin_a, wR_bind]
    refine wR_told ?_
    simp only [eMakeK_a, aCons_a, aNil_a, eV_a, eC_a, List.getElem?_cons_zero, List.getElem?_cons_succ, R.bind_ok, wR_bind, wR_ok, List.length_cons, List.length_nil, Nat.reduceAdd, and_self, if_true, List.cons_append, List.nil_append]
    refine hinit_num y1 y2 ⟨rfl, by decide, ?_⟩
    simp only [eTup_a, aCons_a, aNil_a, eC_a, R.bind_ok, List.length_cons, List.length_nil, Nat.reduceAdd, z2, if_true, wR_ok]
    rw [opNe_pl (n := 1) (m := 1) (pl_wT 2) rfl]
    simp only [wR_ok]
    rw [if_neg (by decide)]
    have f : Fm [] S10 ((S10 ++ [.ins 0 []]) ++ wO 2) := ((Fm.refl _ _).push _).app _
    exact ⟨fun y hy2 => hy y (List.mem_cons_of_mem _ hy2), f.at lp (by simp), f10.trans f, _, rfl⟩
  rintro L S4 ⟨_, _, f4, b2, rfl⟩
  clear lp f3 S3
  -- B: sides
  dsimp only
  rw [wS_sFor]
  refine wR_wLst ?_
  simp only [eLst_a, aCons_a, aNil_a, eC_a, eTup_a, R.bind_ok, List.length_cons, List.length_nil, Nat.reduceAdd, z1, z2, z7, if_true, wR_ok]
  have e4 : S4 ++ [Ob.lst [D.int 8]] ++ [Ob.lst [D.int 1, D.int 1]] ++ [Ob.lst [D.int 0, D.int 1]] ++ [Ob.lst [D.bl true]] = S4 ++ badSdS := by simp [badSdS]
  have l1 : (S4 ++ [Ob.lst [D.int 8]]).length = S4.length + 1 := by simp
  have l2 : (S4 ++ [Ob.lst [D.int 8]] ++ [Ob.lst [D.int 1, D.int 1]]).length = S4.length + 2 := by simp
  have l3 : (S4 ++ [Ob.lst [D.int 8]] ++ [Ob.lst [D.int 1, D.int 1]] ++ [Ob.lst [D.int 0, D.int 1]]).length = S4.length + 3 := by simp
  rw [e4, l1, l2, l3]
  refine ⟨_, _, rfl, at_new _ _, ?_⟩
  have hbad := badSd_ok S4
  have f5 : Fm [] S4 (S4 ++ badSdS) := (Fm.refl _ _).app _
  show wS (forL (fun S => decide (S[(S4 ++ badSdS).length]? = some (.lst (badSd S4.length)))) _ _ (badSd S4.length) _ ((S4 ++ badSdS) ++ [.lst (badSd S4.length)])) _
  generalize S4 ++ badSdS = S5 at hbad f5
  generalize badSd S4.length = items at hbad
  have lp : (S5 ++ [Ob.lst items])[S5.length]? = some (.lst items) := at_new _ _
  have f6 : Fm [] S2 (S5 ++ [.lst items]) := (f4.trans f5).push _
  have hbad : ∀ y ∈ items, noSd (S5 ++ [Ob.lst items]) y := fun y hy => (hbad y hy).fm0 ((Fm.refl [] S5).push _)
  generalize S5.length = b at lp
  generalize S5 ++ [Ob.lst items] = S6 at lp f6 hbad
  clear f5 e4 l1 l2 l3
  refine forL_inv (I := fun ys L S => (∀ y ∈ ys, noSd S y) ∧ S[b]? = some (.lst items) ∧ Fm [] S2 S ∧ ∃ (b2 : Option D), L = [some (.ref n), some (.ref j), b2, a3, a4, a5])
    (fun _ _ _ a => decide_eq_true a.2.1) ?_ ?_ ⟨hbad, lp, f6, _, rfl⟩
  rotate_left
  · rintro y ys L S10 ⟨hy, lp, f10, b2, rfl⟩
    have y1 := hy y (List.mem_cons_self ..)
    simp only [gV_a, wR_ok, List.set_cons_succ, List.set_cons_zero, wS_sIf, wR_tV, eBin_a, wR_bind]
    refine wR_told ?_
    simp only [eMakeK_a, aCons_a, aNil_a, eV_a, eC_a, List.getElem?_cons_zero, List.getElem?_cons_succ, R.bind_ok, wR_bind, wR_ok, List.length_cons, List.length_nil, Nat.reduceAdd, and_self, if_true, List.cons_append, List.nil_append]
    refine hinit_no (y1.fm0 ((Fm.refl [] S10).push _)) fun S11 f11 => ⟨rfl, by decide, ?_⟩
    simp only [eTup_a, aCons_a, aNil_a, eC_a, R.bind_ok, List.length_cons, List.length_nil, Nat.reduceAdd, z2, if_true, wR_ok]
    rw [opNe_pl (n := 1) (m := 1) (pl_wT 3) rfl]
    simp only [wR_ok]
    rw [if_neg (by decide)]
    have f : Fm [] S10 (S11 ++ wO 3) := (((Fm.refl _ _).push _).trans f11).app _
    exact ⟨fun y hy2 => (hy y (List.mem_cons_of_mem _ hy2)).fm0 f, f.at lp (by simp), f10.trans f, _, rfl⟩
  rintro L S7 ⟨_, _, f7, b2, rfl⟩
  clear lp f6 hbad
  -- rooms, waits
  simp only [wS_sAsg, eLst_a, aCons_a, aNil_a, wR_bind]
  refine wR_told ?_
  simp only [eMakeK_a, eLst_a, aCons_a, aNil_a, eV_a, eC_a, R.bind_ok, wR_bind, wR_ok, List.length_cons, List.length_nil, Nat.reduceAdd, z1, and_self, if_true, List.cons_append, List.nil_append]
  refine hinit_up (at_push (at_new _ _)) fun S8 f8 => kinit_exc (d := .int 10) rfl rfl ⟨rfl, by decide, ?_⟩
  simp only [R.bind_ok, wR_ok, List.length_cons, List.length_nil, Nat.reduceAdd, z1, if_true, gV_a, List.set_cons_succ, List.set_cons_zero]
  have f9 : Fm [] S7 (((S8 ++ [.ins 1 []]) ++ wO 2) ++ [.lst [wT 2]]) := (((((((Fm.refl _ _).push _).push _).trans f8).push _).app _).push _)
  have q9 : (((S8 ++ [Ob.ins 1 []]) ++ wO 2) ++ [.lst [wT 2]])[((S8 ++ [Ob.ins 1 []]) ++ wO 2).length]? = some (.lst [wT 2]) := at_new _ _
  have fr : S7.length ≤ ((S8 ++ [Ob.ins 1 []]) ++ wO 2).length := by
    have := f8.len
    simp at this ⊢
    omega
  generalize ((S8 ++ [Ob.ins 1 []]) ++ wO 2).length = m at q9 fr
  generalize ((S8 ++ [Ob.ins 1 []]) ++ wO 2) ++ [Ob.lst [wT 2]] = S9 at q9 f9
  clear f8
  have step : ∀ {S S' : Sto} {c : Nat}, Fm [] S7 S → S[m]? = some (.lst (List.replicate c (wT 2))) → Fm [] S S' → S'[m]? = some (.lst (List.replicate c (wT 2))) ∧ Fm [] S7 (S'.set m (.lst (List.replicate c (wT 2) ++ [wT 2]))) ∧ (S'.set m (.lst (List.replicate c (wT 2) ++ [wT 2])))[m]? = some (.lst (List.replicate (c + 1) (wT 2))) := fun {S S' c} f h f' => by
    have h' := f'.at h (by simp)
    refine ⟨h', (f.trans f').set _ (.inr fr), ?_⟩
    rw [at_set h', rep_add]
  have q9 : S9[m]? = some (.lst (List.replicate 1 (wT 2))) := q9
  refine wS_app (d := wT 2) rfl q9 (by decide) ?_
  refine wR_told ?_
  simp only [eMakeK_a, eLst_a, aCons_a, aNil_a, eV_a, eC_a, R.bind_ok, wR_bind, wR_ok, List.length_cons, List.length_nil, Nat.reduceAdd, z1, and_self, if_true, List.cons_append, List.nil_append]
  refine hinit_up (at_push (at_new _ _)) fun S10 f10 => kinit_exc (d := .bl true) rfl rfl ⟨rfl, by decide, ?_⟩
  obtain ⟨h10, g10, q10⟩ := step f9 q9 (((((Fm.refl _ _).push _).push _).trans f10).push _ |>.app _)
  refine ⟨rfl, h10, ?_⟩
  dsimp only
  refine wS_app (d := wT 2) rfl q10 (by decide) ?_
  refine wR_told ?_
  simp only [eMakeK_a, eLst_a, aCons_a, aNil_a, eV_a, eC_a, R.bind_ok, wR_bind, wR_ok, List.length_cons, List.length_nil, Nat.reduceAdd, z1, and_self, if_true, List.cons_append, List.nil_append]
  refine hinit_up (at_push (at_new _ _)) fun S12 f12 => kinit0 (at_new _ _) (by decide) fun S13 kl f13 _ _ => ⟨rfl, rfl, rfl, rfl, by decide, ?_⟩
  have f13' : Fm [] S12 S13 := ⟨by have := f13.len; simp at this; omega, fun i hi _ => by
    have := f13.same i (by simp; omega) (by simp; omega)
    rw [this, List.getElem?_append_left hi]⟩
  obtain ⟨h13, g13, q13⟩ := step g10 q10 (((((Fm.refl _ _).push _).push _).trans f12).trans f13' |>.app (wO 2))
  refine ⟨rfl, h13, ?_⟩
  dsimp only
  generalize S13 ++ wO 2 = S14 at g13 q13 h13
  generalize S14.set m (.lst (List.replicate 2 (wT 2) ++ [wT 2])) = S15 at g13 q13
  clear h13 f13' f12 h10 g10 q10 q9 f9
  -- the house
  have hd15 : isDie S15 j := hd.fm (f7.trans g13) (by simp)
  simp only [eMakeK_a, eLst_a, aCons_a, aNil_a, eV_a, eC_a, R.bind_ok, wR_bind, wR_ok, List.length_cons, List.length_nil, Nat.reduceAdd, z2, if_true, eCall_a, List.getElem?_cons_succ, List.getElem?_cons_zero, eBin_a]
  refine roll_ok (hd15.push (o := .lst [.int 1, .int 2])) (by decide) (by decide) fun room S16 r0 r1 f16 hd16 _ => ?_
  refine roll_ok hd16 (by decide) (by decide) fun wa S17 w0 w1 f17 hd17 _ => ?_
  simp only [opAdd_i, R.bind_ok, wR_ok, List.length_cons, List.length_nil, Nat.reduceAdd, and_self, if_true, wR_bind, List.cons_append, List.nil_append]
  have jl : j < S15.length := hd15.lt
  have at15 : (S15 ++ [Ob.lst [.int 1, .int 2]])[S15.length]? = some (.lst [.int 1, .int 2]) := at_new _ _
  have at17 := f17.at (f16.at at15 (by simp; omega)) (by simp; omega)
  have ml : m < S15.length := lt_of_at q13
  have jm : m ≠ j := fun z => by
    obtain ⟨a, b, e⟩ := hd15
    rw [← z, q13] at e
    cases e
  have q17 := f17.at (f16.at (at_push (u := .lst [.int 1, .int 2]) q13) (by simpa using jm)) (by simpa using jm)
  have g17 : Fm [j] S2 S17 := (((f7.trans g13).push (.lst [.int 1, .int 2])).nil.trans f16).trans f17
  refine hinit_ok (at_new _ _) (at_push at17) ⟨r0, by omega⟩ ⟨by omega, by omega⟩ fun S18 f18 hH => ?_
  simp only [if_true, wR_ok, gV_a, List.set_cons_succ, List.set_cons_zero]
  have l17 : S15.length < S17.length := lt_of_at at17
  have q18 := f18.at (at_push (u := .ins 0 []) q17) (by simp; omega)
  have st18 : St43 S2 j S17.length S18 := ⟨(hd17.push (o := .ins 0 [])).fm f18 (by simp; omega), hH, (g17.push (.ins 0 [])).two f18 g17.len⟩
  generalize S17.length = hh at st18
  have m2 : S2.length ≤ m := Nat.le_trans f7.len fr
  clear hH f18 g17 q17 at17 at15 f17 f16 hd17 hd16 hd15 g13 q13
  -- C: numbers
  rw [wS_sFor]
  refine wR_wLst ?_
  simp only [eLst_a, aCons_a, aNil_a, eUn_a, eC_a, R.bind_ok, opNeg_i, List.length_cons, List.length_nil, Nat.reduceAdd, z4, if_true, wR_ok]
  refine ⟨_, _, rfl, at_new _ _, ?_⟩
  have lp : (S18 ++ [Ob.lst [.int (-1), .bl true, .non, .str [48]]])[S18.length]? = some (.lst [.int (-1), .bl true, .non, .str [48]]) := at_new _ _
  have st19 := st18.go ((Fm.refl [] S18).push (.lst [.int (-1), .bl true, .non, .str [48]]))
  have q19 := at_push (u := .lst [.int (-1), .bl true, .non, .str [48]]) q18
  generalize S18.length = b at lp
  generalize S18 ++ [Ob.lst [.int (-1), .bl true, .non, .str [48]]] = S19 at lp st19 q19
  clear st18 q18
  refine forL_inv (I := fun ys L S => (∀ y ∈ ys, isP y = true ∧ numOk y 0 none = false) ∧ S[b]? = some (.lst [.int (-1), .bl true, .non, .str [48]]) ∧ St43 S2 j hh S ∧ ∃ (b2 : Option D) (m c : Nat), L = [some (.ref n), some (.ref j), b2, some (.ref m), some (.ref hh), a5] ∧ c + 6 * ys.length ≤ 27 ∧ S[m]? = some (.lst (List.replicate c (wT 2))) ∧ 3 ≤ c ∧ S2.length ≤ m)
    (fun _ _ _ a => decide_eq_true a.2.1) ?_ ?_ ⟨by decide, lp, st19, _, m, 3, rfl, by simp, q19, by decide, m2⟩
  rotate_left
  · rintro y ys L S20 ⟨hy, lp, st, b2, m, c, rfl, hc, q20, c3, m2⟩
    obtain ⟨y1, y2⟩ := hy y (List.mem_cons_self ..)
    simp only [gV_a, wR_ok, List.set_cons_succ, List.set_cons_zero, wS_sAsg, eBin_a, eCall_a, aCons_a, aNil_a, eV_a, List.getElem?_cons_zero, List.getElem?_cons_succ, R.bind_ok, wR_bind]
    refine doors_ok st.hou y1 y2 fun S21 m2 f21 q21 => ?_
    rw [opAdd_r (f21.at q20 (by simp)) q21, if_pos (by
      simp only [List.length_replicate, List.length_cons] at hc ⊢
      unfold sz
      omega)]
    simp only [wR_ok, List.replicate_append_replicate]
    have f : Fm [] S20 (S21 ++ [.lst (List.replicate (c + 6) (wT 2))]) := f21.push _
    exact ⟨fun y hy2 => hy y (List.mem_cons_of_mem _ hy2), f.at lp (by simp), st.go f, _, _, c + 6, rfl, by simp only [List.length_cons] at hc; omega, at_new _ _, by omega, (st.go f21).fm.len⟩
  rintro L S20 ⟨_, _, st, b2, m, c, rfl, hc, q20, c3, m2⟩
  clear lp st19 q19
  have hc : c ≤ 27 := by simpa using hc
  dsimp only
  refine wS_app (d := wT 2) rfl q20 (by simp; unfold sz; omega) ?_
  refine wR_told (wR_mh st.hou rfl (by decide) ?_)
  simp only [aCons_a, eTup_a, aNil_a, eC_a, eV_a, List.getElem?_cons_zero, List.getElem?_cons_succ, R.bind_ok, List.length_cons, List.length_nil, Nat.reduceAdd, z1, if_true, wR_ok]
  refine hown_num (nm := [[97]]) (v := .int 1000) (l := .non) nma_ok nma_len rfl rfl rfl fun S21 f21 => ⟨rfl, by decide, ?_⟩
  obtain ⟨h21, st21, q21⟩ := st.app q20 (by omega) m2 (f21.app (wO 2))
  refine ⟨rfl, h21, ?_⟩
  dsimp only
  refine wS_app (d := wT 2) rfl q21 (by simp; unfold sz; omega) ?_
  refine wR_told (wR_mh st21.hou rfl (by decide) ?_)
  simp only [aCons_a, eTup_a, aNil_a, eC_a, eV_a, List.getElem?_cons_zero, List.getElem?_cons_succ, R.bind_ok, List.length_cons, List.length_nil, Nat.reduceAdd, z1, if_true, wR_ok]
  refine hown_num (nm := [[97]]) (v := .int 1) (l := .int 100) nma_ok nma_len rfl rfl rfl fun S22 f22 => ⟨rfl, by decide, ?_⟩
  obtain ⟨h22, st22, q22⟩ := st21.app q21 (by omega) m2 (f22.app (wO 2))
  refine ⟨rfl, h22, ?_⟩
  dsimp only
  refine wS_app (d := wT 2) rfl q22 (by simp; unfold sz; omega) ?_
  refine wR_told (wR_mh st22.hou rfl (by decide) ?_)
  simp only [aCons_a, aNil_a, eC_a, R.bind_ok, wR_ok]
  refine hend_num st22.hou rfl ⟨rfl, by decide, ?_⟩
  obtain ⟨h23, st23, q23⟩ := st22.app q22 (by omega) m2 ((Fm.refl _ _).app (wO 2))
  refine ⟨rfl, h23, ?_⟩
  simp only [wS_sIf, wR_tV, eBin_a, eV_a, List.getElem?_cons_zero, List.getElem?_cons_succ, R.bind_ok, eLst_a, aCons_a, aNil_a, eTup_a, eC_a, List.length_cons, List.length_nil, wR_bind, wS_sNx, Nat.reduceAdd, z1, z2, if_true, wR_ok, eCall_a]
  rw [fLen_r (at_push q23)]
  simp only [wR_ok, List.length_replicate]
  refine ne_mul (at_push q23) (at_new _ _) (by omega) (by decide) (by rw [Int.toNat_natCast]; exact flat43 _ _) (pls_rep _ _) fun S24 f24 => ?_
  simp only [Bool.false_eq_true, if_false]
  have st24 := (st23.go ((Fm.refl _ _).push (.lst [wT 2]))).go f24
  clear st23 q23 h23 f24 st22 q22 h22 f22 st21 q21 h21 f21 st q20
  -- D: names
  rw [wS_sFor]
  refine wR_wLst ?_
  simp only [eLst_a, aCons_a, aNil_a, eBin_a, eC_a, eTup_a, R.bind_ok, List.length_cons, List.length_nil, Nat.reduceAdd, z1, Nat.zero_le, if_true, mul6, z7, wR_ok]
  refine ⟨_, _, rfl, at_new _ _, ?_⟩
  have stp := st24.go (((Fm.refl [] S24).push (.lst [.str [97]])).push (.lst (badNm S24.length)))
  have lp : ((S24 ++ [Ob.lst [.str [97]]]) ++ [Ob.lst (badNm S24.length)])[(S24 ++ [Ob.lst [.str [97]]]).length]? = some (.lst (badNm S24.length)) := at_new _ _
  have la : ((S24 ++ [Ob.lst [.str [97]]]) ++ [Ob.lst (badNm S24.length)])[S24.length]? = some (.lst [.str [97]]) := at_push (at_new _ _)
  have hbad := badNm_ok la
  show wS (forL (fun S => decide (S[(S24 ++ [Ob.lst [.str [97]]]).length]? = some (Ob.lst (badNm S24.length)))) _ _ (badNm S24.length) _ ((S24 ++ [Ob.lst [.str [97]]]) ++ [Ob.lst (badNm S24.length)])) _
  generalize (S24 ++ [Ob.lst [.str [97]]]).length = b at lp
  generalize (S24 ++ [Ob.lst [.str [97]]]) ++ [Ob.lst (badNm S24.length)] = S25 at lp stp hbad
  generalize badNm S24.length = items at lp hbad
  clear st24 la
  refine forL_inv (I := fun ys L S => (∀ y ∈ ys, nmB S y false) ∧ S[b]? = some (.lst items) ∧ St43 S2 j hh S ∧ ∃ (b2 b5 : Option D), L = [some (.ref n), some (.ref j), b2, some (.ref m), some (.ref hh), b5])
    (fun _ _ _ a => decide_eq_true a.2.1) ?_ ?_ ⟨hbad, lp, stp, _, _, rfl⟩
  rotate_left
  · rintro y ys L S26 ⟨hy, lp, st, b2, b5, rfl⟩
    have y1 := hy y (List.mem_cons_self ..)
    simp only [gV_a, wR_ok, List.set_cons_succ, List.set_cons_zero, wS_sSeq, wS_sAsg, eLst_a, aCons_a, aNil_a, wR_bind]
    refine wR_told (wR_mh st.hou rfl (by decide) ?_)
    simp only [aCons_a, aNil_a, eC_a, eV_a, List.getElem?_cons_zero, List.getElem?_cons_succ, R.bind_ok, wR_ok]
    refine hask_nm y1 fun S27 f27 => ⟨rfl, by decide, ?_⟩
    simp only [R.bind_ok, wR_ok, List.length_cons, List.length_nil, z1, if_true, gV_a, List.set_cons_succ, List.set_cons_zero, Nat.reduceAdd]
    have f28' : Fm [] S26 (S27 ++ wO 1) := f27.app _
    have fr : S26.length ≤ (S27 ++ wO 1).length := f28'.len
    have f28 : Fm [] S26 ((S27 ++ wO 1) ++ [Ob.lst [wT 1]]) := f28'.push _
    have q28 : ((S27 ++ wO 1) ++ [Ob.lst [wT 1]])[(S27 ++ wO 1).length]? = some (.lst [wT 1]) := at_new _ _
    generalize (S27 ++ wO 1).length = q at q28 fr
    generalize (S27 ++ wO 1) ++ [Ob.lst [wT 1]] = S28 at q28 f28
    have st28 := st.go f28
    have step : ∀ {S S' : Sto} {xs : List D}, Fm [] S26 S → S[q]? = some (.lst xs) → Fm [] S S' → S'[q]? = some (.lst xs) ∧ Fm [] S26 (S'.set q (.lst (xs ++ [wT 1]))) ∧ (S'.set q (.lst (xs ++ [wT 1])))[q]? = some (.lst (xs ++ [wT 1])) := fun f h f' => by
      have h' := f'.at h (by simp)
      exact ⟨h', (f.trans f').set _ (.inr fr), at_set h'⟩
    refine wS_app (d := wT 1) rfl q28 (by decide) ?_
    refine wR_told (wR_mh st28.hou rfl (by decide) ?_)
    simp only [aCons_a, aNil_a, eC_a, eV_a, List.getElem?_cons_zero, List.getElem?_cons_succ, R.bind_ok, wR_ok]
    refine hown_nm (y1.fm0 f28) fun S29 f29 => ⟨rfl, by decide, ?_⟩
    obtain ⟨h29, g29, q29⟩ := step f28 q28 (f29.app (wO 1))
    refine ⟨rfl, h29, ?_⟩
    have st29 := st.go g29
    dsimp only
    refine wS_app (d := wT 1) rfl q29 (by decide) ?_
    refine wR_told (wR_mh st29.hou rfl (by decide) ?_)
    simp only [aCons_a, aNil_a, eV_a, List.getElem?_cons_zero, List.getElem?_cons_succ, R.bind_ok, wR_ok]
    refine hdisown_nm (y1.fm0 g29) fun S30 f30 => ⟨rfl, by decide, ?_⟩
    obtain ⟨h30, g30, q30⟩ := step g29 q29 (f30.app (wO 1))
    refine ⟨rfl, h30, ?_⟩
    simp only [wS_sIf, wR_tV, eBin_a, eV_a, List.getElem?_cons_zero, List.getElem?_cons_succ, R.bind_ok, eLst_a, aCons_a, aNil_a, eTup_a, eC_a, List.length_cons, List.length_nil, wR_bind, wS_sNx]
    rw [if_pos (by decide)]
    simp only [wR_ok, R.bind_ok, List.length_cons, List.length_nil]
    rw [if_pos (by decide)]
    simp only [wR_ok]
    refine ne_mul (at_push q30) (at_new _ _) (by decide) (by decide) rfl rfl fun S31 f31 => ?_
    simp only [Bool.false_eq_true, if_false]
    have f : Fm [] S26 S31 := (g30.push _).trans f31
    exact ⟨fun y hy2 => (hy y (List.mem_cons_of_mem _ hy2)).fm0 f, f.at lp (by simp), st.go f, _, _, rfl⟩
  rintro L S26 ⟨_, _, st, b2, b5, rfl⟩
  clear lp stp hbad
  -- E: sides that are none
  dsimp only
  rw [wS_sFor]
  refine wR_wLst ?_
  simp only [eLst_a, aCons_a, aNil_a, eUn_a, eC_a, R.bind_ok, opNeg_i, List.length_cons, List.length_nil, Nat.reduceAdd, z6, if_true, wR_ok]
  refine ⟨_, _, rfl, at_new _ _, ?_⟩
  have lp : (S26 ++ [Ob.lst [.int (-1), .int 0, .int 3, .bl true, .non, .str [49]]])[S26.length]? = some (.lst [.int (-1), .int 0, .int 3, .bl true, .non, .str [49]]) := at_new _ _
  have stp := st.go ((Fm.refl [] S26).push (.lst [.int (-1), .int 0, .int 3, .bl true, .non, .str [49]]))
  generalize S26.length = b3 at lp
  generalize S26 ++ [Ob.lst [.int (-1), .int 0, .int 3, .bl true, .non, .str [49]]] = S27 at lp stp
  clear st
  have hE : ∀ y ∈ ([.int (-1), .int 0, .int 3, .bl true, .non, .str [49]] : List D), isP y = true ∧ (numOk y 0 (some 7) = false ∨ ∃ i : Int, y = .int i ∧ i ∉ [(1 : Int), 2]) := by
    intro y hy
    simp only [List.mem_cons, List.not_mem_nil, or_false] at hy
    rcases hy with rfl | rfl | rfl | rfl | rfl | rfl
    · exact ⟨rfl, .inl rfl⟩
    · exact ⟨rfl, .inr ⟨0, rfl, by decide⟩⟩
    · exact ⟨rfl, .inr ⟨3, rfl, by decide⟩⟩
    · exact ⟨rfl, .inl rfl⟩
    · exact ⟨rfl, .inl rfl⟩
    · exact ⟨rfl, .inl rfl⟩
  refine forL_inv (I := fun ys L S => (∀ y ∈ ys, isP y = true ∧ (numOk y 0 (some 7) = false ∨ ∃ i : Int, y = .int i ∧ i ∉ [(1 : Int), 2])) ∧ S[b3]? = some (.lst [.int (-1), .int 0, .int 3, .bl true, .non, .str [49]]) ∧ St43 S2 j hh S ∧ ∃ (b2 b5 : Option D), L = [some (.ref n), some (.ref j), b2, some (.ref m), some (.ref hh), b5])
    (fun _ _ _ a => decide_eq_true a.2.1) ?_ ?_ ⟨hE, lp, stp, _, _, rfl⟩
  rotate_left
  · rintro y ys L S28 ⟨hy, lp, st, b2, b5, rfl⟩
    obtain ⟨y1, y2⟩ := hy y (List.mem_cons_self ..)
    simp only [gV_a, wR_ok, List.set_cons_succ, List.set_cons_zero, wS_sIf, wR_tV, eBin_a, wR_bind]
    refine wR_told (wR_mh st.hou rfl (by decide) ?_)
    simp only [aCons_a, aNil_a, eC_a, eV_a, List.getElem?_cons_zero, List.getElem?_cons_succ, R.bind_ok, wR_ok]
    refine hcome_no st.hou y1 y2 ⟨rfl, by decide, ?_⟩
    simp only [eTup_a, aCons_a, aNil_a, eC_a, R.bind_ok, List.length_cons, List.length_nil, Nat.reduceAdd, z2, if_true, wR_ok]
    rw [opNe_pl (n := 1) (m := 1) (pl_wT 8) rfl]
    simp only [wR_ok]
    rw [if_neg (by decide)]
    have f : Fm [] S28 (S28 ++ wO 8) := (Fm.refl _ _).app _
    exact ⟨fun y hy2 => hy y (List.mem_cons_of_mem _ hy2), f.at lp (by simp), st.go f, _, _, rfl⟩
  rintro L S28 ⟨_, _, st, b2, b5, rfl⟩
  clear lp stp hE
  -- F: letters that are none
  dsimp only
  rw [wS_sFor]
  refine wR_wLst ?_
  simp only [eCall_a, aNil_a, R.bind_ok]
  refine letters_ok fun S29 mi items f29 q29 hl => ?_
  refine ⟨mi, items, rfl, q29, ?_⟩
  refine forL_inv (I := fun ys L S => (∀ y ∈ ys, letB S y false) ∧ S[mi]? = some (.lst items) ∧ St43 S2 j hh S ∧ ∃ (b2 b5 : Option D), L = [some (.ref n), some (.ref j), b2, some (.ref m), some (.ref hh), b5])
    (fun _ _ _ a => decide_eq_true a.2.1) ?_ ?_ ⟨hl, q29, st.go f29, _, _, rfl⟩
  rotate_left
  · rintro y ys L S30 ⟨hy, lp, st, b2, b5, rfl⟩
    have y1 := hy y (List.mem_cons_self ..)
    simp only [gV_a, wR_ok, List.set_cons_succ, List.set_cons_zero, wS_sSeq, wS_sIf, wR_tV, eBin_a, wR_bind]
    refine wR_told (wR_mh st.hou rfl (by decide) ?_)
    simp only [aCons_a, aNil_a, eC_a, eV_a, List.getElem?_cons_zero, List.getElem?_cons_succ, R.bind_ok, wR_ok]
    refine hcome_up st.hou y1 fun S31 f31 => .inl ⟨rfl, rfl, by decide, ?_⟩
    simp only [eTup_a, aCons_a, aNil_a, eC_a, R.bind_ok, List.length_cons, List.length_nil, Nat.reduceAdd, z2, if_true, wR_ok]
    rw [opNe_pl (n := 1) (m := 1) (pl_wT 0) rfl]
    simp only [wR_ok]
    rw [if_neg (by decide)]
    simp only [wS_sNx, eUn_a, eCall_a, aCons_a, aNil_a, eV_a, List.getElem?_cons_zero, List.getElem?_cons_succ, R.bind_ok, wR_bind]
    have f32 : Fm [] S30 (S31 ++ wO 0) := f31.app _
    refine islet (y1.fm0 f32) fun S33 f33 => ?_
    simp only [opNotB_a, wR_ok, decide_true, Bool.not_true, Bool.false_eq_true, if_false]
    have f := f32.trans f33
    exact ⟨fun y hy2 => (hy y (List.mem_cons_of_mem _ hy2)).fm0 f, f.at lp (by simp), st.go f, _, _, rfl⟩
  rintro L S30 ⟨_, _, st, b2, b5, rfl⟩
  clear hl q29 f29
  -- letters
  simp only [wS_sIf, wR_tV, eUn_a, eCall_a, aCons_a, aNil_a, eTup_a, eC_a, eBin_a, R.bind_ok, wR_bind, List.length_cons, List.length_nil, Nat.reduceAdd, z1, z2, z4, if_true, wR_ok, show ∀ S, opPow (.int 10) (.int 9) S = .ok (.int (10 ^ 9)) S from fun S => rfl]
  refine islet (b := true) (.inr (.inr (.inr (.inr ⟨wThing, nma, [.int 999, .int (10 ^ 9)], rfl, nma_b _, .inr (.inl ⟨rfl, _, _, rfl, rfl, rfl, by decide⟩)⟩)))) fun S31 f31 => ?_
  simp only [opNotB_a, wR_ok, decide_true, Bool.not_true, Bool.false_eq_true, if_false, wS_sNx]
  refine islet (b := true) (.inr (.inr (.inr (.inr ⟨wNo, nma, [], rfl, nma_b _, .inr (.inr ⟨by decide, by decide⟩)⟩)))) fun S32 f32 => ?_
  simp only [opNotB_a, wR_ok, decide_true, Bool.not_true, Bool.false_eq_true, if_false, wS_sNx]
  have st32 := (st.go f31).go f32
  clear st f31 f32
  -- the house stays
  refine wR_mh st32.hou rfl (by decide) ?_
  simp only [aNil_a, wR_ok]
  refine hwaits_ok st32.hou ?_
  have st33 := st32.go ((Fm.refl [] S32).push (.lst []))
  have w33 : (S32 ++ [Ob.lst []])[S32.length]? = some (.lst []) := at_new _ _
  generalize S32.length = wa at w33
  generalize S32 ++ [Ob.lst []] = S33 at w33 st33
  refine wR_mh st33.hou rfl (by decide) ?_
  simp only [aNil_a, wR_ok]
  refine hkeeps_ok st33.hou ?_
  have st34 := st33.go ((Fm.refl [] S33).push (.lst []))
  have w34 := at_push (u := .lst []) w33
  have k34 : (S33 ++ [Ob.lst []])[S33.length]? = some (.lst []) := at_new _ _
  generalize S33.length = ke at k34
  generalize S33 ++ [Ob.lst []] = S34 at w34 k34 st34
  refine wR_mh st34.hou rfl (by decide) ?_
  simp only [aNil_a, wR_ok]
  refine howns_ok st34.hou fun S35 f35 ow o35 => ?_
  have st35 := st34.go f35
  refine wR_mh st35.hou rfl (by decide) ?_
  simp only [aNil_a, wR_ok]
  refine htable_ok st35.hou fun S36 f36 ta t36 => ?_
  have st36 := st35.go f36
  have w36 := f36.at (f35.at w34 (by simp)) (by simp)
  have k36 := f36.at (f35.at k34 (by simp)) (by simp)
  have o36 := f36.at o35 (by simp)
  rw [mul4 (at_new _ _)]
  simp only [wR_ok]
  rw [ne_nils (a := wa) (b := ke) (c := ow) (d := ta) (at_push (at_push (at_push (at_new _ _)))) (at_new _ _) (at_push (at_push (at_push (at_push w36)))) (at_push (at_push (at_push (at_push k36)))) (at_push (at_push (at_push (at_push o36)))) (at_push (at_push (at_push (at_push t36)))) (at_push (at_push (at_new _ _)))]
  simp only [wR_ok, Bool.false_eq_true, if_false]
  exact fin _ _ _ _ _ _ ((((st36.fm.push _).push _).push _).push _)
end MP

namespace MP
open PySem L2
/-- what is the same all through a law -/
structure G where
  P : Program
  w : World
  K : PySem.W.Frag
  mg : Str → Option Value
  base : Heap
  cls : Nat → Addr
  fname : Nat → Str
  finj : ∀ i j, fname i = fname j → i = j
  ecls : Nat → Addr
  T : List (Addr × Str)

/-! ### values -/
mutual
def RelD (ro : List Addr) (H : Hp) : D → V → Prop
  | .non, v => v = .non
  | .bl b, v => v = .bl b
  | .int i, v => v = .int i
  | .str x, v => v = .str ⟨x.toArray⟩ ∧ ∀ c ∈ x, c < 0x110000
  | .tup ds, v => ∃ a vs, v = .ref a ∧ H a = some (.tup vs) ∧ RelDs ro H ds vs
  | .ref n, v => ∃ a, ro[n]? = some a ∧ v = .ref a
  | .exn a _, v => v = .ref a
def RelDs (ro : List Addr) (H : Hp) : List D → List V → Prop
  | [], vs => vs = []
  | d :: ds, vs => ∃ v r, vs = v :: r ∧ RelD ro H d v ∧ RelDs ro H ds r
end
/-- tuples stay -/
def TExt (H H' : Hp) : Prop := ∀ a vs, H a = some (.tup vs) → H' a = some (.tup vs)
theorem TExt.refl (H : Hp) : TExt H H := fun _ _ h => h
theorem TExt.trans {H H1 H2 : Hp} (a : TExt H H1) (b : TExt H1 H2) : TExt H H2 := fun c vs h => b c vs (a c vs h)
theorem TExt.new {H : Hp} {p : Addr} {o : HO} (h : H p = none) : TExt H (upd H p o) := fun a vs e => by
  rw [upd_ne (ne_of_none e h)]
  exact e
theorem TExt.put {H : Hp} {p : Addr} {o o' : HO} (h : H p = some o') (n : ∀ vs, o' ≠ .tup vs) : TExt H (upd H p o) := fun a vs e => by
  rw [upd_ne (fun z => n vs (by rw [z, h] at e; exact Option.some.inj e))]
  exact e
/-- tuples stay, and what is only known -/
structure Ext (H H' : Hp) : Prop where
  tup : TExt H H'
  frz : ∀ a o u, H a = some (.frz o u) → H' a = some (.frz o u)
theorem Ext.refl (H : Hp) : Ext H H := ⟨.refl H, fun _ _ _ h => h⟩
theorem Ext.trans {H H1 H2 : Hp} (a : Ext H H1) (b : Ext H1 H2) : Ext H H2 := ⟨a.tup.trans b.tup, fun c o u h => b.frz c o u (a.frz c o u h)⟩
theorem Ext.new {H : Hp} {p : Addr} {o : HO} (h : H p = none) : Ext H (upd H p o) := ⟨.new h, fun a q u e => by
  rw [upd_ne (ne_of_none e h)]
  exact e⟩
theorem Ext.put {H : Hp} {p : Addr} {o o' : HO} (h : H p = some o') (n : ∀ vs, o' ≠ .tup vs) (m : ∀ q u, o' ≠ .frz q u) : Ext H (upd H p o) := ⟨.put h n, fun a q u e => by
  rw [upd_ne (fun z => m q u (by rw [z, h] at e; exact Option.some.inj e))]
  exact e⟩
instance {H H' : Hp} : Coe (Ext H H') (TExt H H') := ⟨Ext.tup⟩
/-- the places grow -/
def Gr (ro ro' : List Addr) : Prop := ∀ (n : Nat) (a : Addr), ro[n]? = some a → ro'[n]? = some a
theorem Gr.refl (ro : List Addr) : Gr ro ro := fun _ _ h => h
theorem Gr.trans {a b c : List Addr} (x : Gr a b) (y : Gr b c) : Gr a c := fun n d h => y n d (x n d h)
theorem Gr.snoc (ro : List Addr) (p : Addr) : Gr ro (ro ++ [p]) := fun n a h => by
  rw [List.getElem?_append_left (List.getElem?_eq_some_iff.mp h).1]
  exact h
mutual
theorem RelD.mono {ro ro' : List Addr} {H H' : Hp} (g : Gr ro ro') (e : TExt H H') : ∀ (d : D) (v : V), RelD ro H d v → RelD ro' H' d v
  | .non, v, h => by simpa only [RelD] using h
  | .bl b, v, h => by simpa only [RelD] using h
  | .int i, v, h => by simpa only [RelD] using h
  | .str x, v, h => by simpa only [RelD] using h
  | .tup ds, v, h => by
    simp only [RelD] at h ⊢
    obtain ⟨a, vs, h1, h2, h3⟩ := h
    exact ⟨a, vs, h1, e _ _ h2, RelDs.mono g e ds vs h3⟩
  | .ref n, v, h => by
    simp only [RelD] at h ⊢
    obtain ⟨a, h1, h2⟩ := h
    exact ⟨a, g _ _ h1, h2⟩
  | .exn _ _, v, h => by simpa only [RelD] using h
theorem RelDs.mono {ro ro' : List Addr} {H H' : Hp} (g : Gr ro ro') (e : TExt H H') : ∀ (d : List D) (v : List V), RelDs ro H d v → RelDs ro' H' d v
  | [], v, h => by simpa only [RelDs] using h
  | d :: ds, v, h => by
    simp only [RelDs] at h ⊢
    obtain ⟨x, r, h1, h2, h3⟩ := h
    exact ⟨x, r, h1, RelD.mono g e d x h2, RelDs.mono g e ds r h3⟩
end
section
variable {ro : List Addr} {H : Hp}
theorem RelDs.nil : RelDs ro H [] [] := by simp only [RelDs]
theorem RelDs.cons {d : D} {v : V} {ds : List D} {vs : List V} (a : RelD ro H d v) (b : RelDs ro H ds vs) : RelDs ro H (d :: ds) (v :: vs) := by
  simp only [RelDs]
  exact ⟨v, vs, rfl, a, b⟩
theorem RelDs.inv {d : D} {ds : List D} {vs : List V} (h : RelDs ro H (d :: ds) vs) : ∃ v r, vs = v :: r ∧ RelD ro H d v ∧ RelDs ro H ds r := by simpa only [RelDs] using h
theorem RelDs.inv0 {vs : List V} (h : RelDs ro H [] vs) : vs = [] := by simpa only [RelDs] using h
theorem RelDs.length : ∀ {ds : List D} {vs : List V}, RelDs ro H ds vs → ds.length = vs.length
  | [], vs, h => by rw [h.inv0] <;> rfl
  | d :: ds, vs, h => by
    obtain ⟨v, r, rfl, _, h3⟩ := h.inv
    simp only [List.length_cons, RelDs.length h3]
theorem RelDs.append : ∀ {ds es : List D} {vs us : List V}, RelDs ro H ds vs → RelDs ro H es us → RelDs ro H (ds ++ es) (vs ++ us)
  | [], es, vs, us, h, h' => by rw [h.inv0]; exact h'
  | d :: ds, es, vs, us, h, h' => by
    obtain ⟨v, r, rfl, h2, h3⟩ := h.inv
    exact .cons h2 (RelDs.append h3 h')
theorem RelDs.get : ∀ {ds : List D} {vs : List V} {i : Nat} {d : D}, RelDs ro H ds vs → ds[i]? = some d → ∃ v, vs[i]? = some v ∧ RelD ro H d v
  | [], _, i, d, _, e => by simp at e
  | d :: ds, vs, 0, d', h, e => by
    obtain ⟨v, r, rfl, h2, h3⟩ := h.inv
    simp at e
    subst e
    exact ⟨v, rfl, h2⟩
  | d :: ds, vs, i + 1, d', h, e => by
    obtain ⟨v, r, rfl, h2, h3⟩ := h.inv
    obtain ⟨u, h4, h5⟩ := RelDs.get (i := i) (d := d') h3 (by simpa using e)
    exact ⟨u, by simpa using h4, h5⟩
theorem RelDs.drop : ∀ {ds : List D} {vs : List V} (n : Nat), RelDs ro H ds vs → RelDs ro H (ds.drop n) (vs.drop n)
  | _, _, 0, h => h
  | [], vs, n + 1, h => by rw [h.inv0]; simp only [List.drop_nil]; exact .nil
  | d :: ds, vs, n + 1, h => by
    obtain ⟨v, r, rfl, h2, h3⟩ := h.inv
    exact RelDs.drop n h3
theorem RelDs.take : ∀ {ds : List D} {vs : List V} (n : Nat), RelDs ro H ds vs → RelDs ro H (ds.take n) (vs.take n)
  | _, _, 0, h => by simp only [List.take_zero]; exact .nil
  | [], vs, n + 1, h => by rw [h.inv0]; simp only [List.take_nil]; exact .nil
  | d :: ds, vs, n + 1, h => by
    obtain ⟨v, r, rfl, h2, h3⟩ := h.inv
    exact .cons h2 (RelDs.take n h3)
theorem RelDs.eraseIdx : ∀ {ds : List D} {vs : List V} (n : Nat), RelDs ro H ds vs → RelDs ro H (ds.eraseIdx n) (vs.eraseIdx n)
  | [], vs, n, h => by rw [h.inv0]; simp only [List.eraseIdx_nil]; exact .nil
  | d :: ds, vs, 0, h => by
    obtain ⟨v, r, rfl, h2, h3⟩ := h.inv
    exact h3
  | d :: ds, vs, n + 1, h => by
    obtain ⟨v, r, rfl, h2, h3⟩ := h.inv
    exact .cons h2 (RelDs.eraseIdx n h3)
theorem RelDs.set {x : D} {y : V} (q : RelD ro H x y) : ∀ {ds : List D} {vs : List V} (n : Nat), RelDs ro H ds vs → RelDs ro H (ds.set n x) (vs.set n y)
  | [], vs, n, h => by rw [h.inv0]; simp only [List.set_nil]; exact .nil
  | d :: ds, vs, 0, h => by
    obtain ⟨v, r, rfl, h2, h3⟩ := h.inv
    exact .cons q h3
  | d :: ds, vs, n + 1, h => by
    obtain ⟨v, r, rfl, h2, h3⟩ := h.inv
    exact .cons h2 (RelDs.set q n h3)
theorem RelD.str_mk {x : List Nat} (h : ∀ c ∈ x, c < 0x110000) : RelD ro H (.str x) (.str ⟨x.toArray⟩) := by
  simp only [RelD]
  exact ⟨trivial, h⟩
theorem RelD.int_mk {i : Int} : RelD ro H (.int i) (.int i) := by simp only [RelD]
theorem RelD.bl_mk {i : Bool} : RelD ro H (.bl i) (.bl i) := by simp only [RelD]
theorem RelD.non_mk : RelD ro H .non .non := by simp only [RelD]
theorem RelD.tup_mk {ds : List D} {vs : List V} {a : Addr} (h : H a = some (.tup vs)) (r : RelDs ro H ds vs) : RelD ro H (.tup ds) (.ref a) := by
  simp only [RelD]
  exact ⟨a, vs, rfl, h, r⟩
theorem RelD.ref_mk {n : Nat} {a : Addr} (h : ro[n]? = some a) : RelD ro H (.ref n) (.ref a) := by
  simp only [RelD]
  exact ⟨a, h, rfl⟩
theorem RelD.int_inv {i : Int} {v : V} (h : RelD ro H (.int i) v) : v = .int i := by simpa only [RelD] using h
theorem RelD.bl_inv {i : Bool} {v : V} (h : RelD ro H (.bl i) v) : v = .bl i := by simpa only [RelD] using h
theorem RelD.non_inv {v : V} (h : RelD ro H .non v) : v = .non := by simpa only [RelD] using h
theorem RelD.str_inv {x : List Nat} {v : V} (h : RelD ro H (.str x) v) : v = .str ⟨x.toArray⟩ ∧ ∀ c ∈ x, c < 0x110000 := by simpa only [RelD] using h
theorem RelD.tup_inv {ds : List D} {v : V} (h : RelD ro H (.tup ds) v) : ∃ a vs, v = .ref a ∧ H a = some (.tup vs) ∧ RelDs ro H ds vs := by simpa only [RelD] using h
theorem RelD.ref_inv {n : Nat} {v : V} (h : RelD ro H (.ref n) v) : ∃ a, ro[n]? = some a ∧ v = .ref a := by simpa only [RelD] using h
theorem RelD.exn_mk {c : Nat} {p : List D} : RelD ro H (.exn c p) (.ref c) := by simp only [RelD]
theorem RelD.exn_inv {c : Nat} {p : List D} {v : V} (h : RelD ro H (.exn c p) v) : v = .ref c := by simpa only [RelD] using h
end

/-! ### locals -/
def RelO1 (ro : List Addr) (H : Hp) : Option D → Option V → Prop
  | some d, some v => RelD ro H d v
  | none, none => True
  | _, _ => False
abbrev RelL (ro : List Addr) (H : Hp) : Loc → St → Prop := Paired (RelO1 ro H)
theorem Paired.imp {α β : Type} {F F' : α → β → Prop} (h : ∀ a b, F a b → F' a b) : ∀ {l : List α} {m : List β}, Paired F l m → Paired F' l m
  | _, _, .nil => .nil
  | _, _, .cons a b => .cons (h _ _ a) (Paired.imp h b)
theorem Paired.get {α β : Type} {F : α → β → Prop} : ∀ {l : List α} {m : List β} {i : Nat} {a : α}, Paired F l m → l[i]? = some a → ∃ b, m[i]? = some b ∧ F a b
  | _, _, _, _, .nil, e => by simp at e
  | _, _, 0, _, .cons a b, e => by
    simp at e
    subst e
    exact ⟨_, rfl, a⟩
  | _, _, i + 1, _, .cons a b, e => by
    obtain ⟨u, h1, h2⟩ := Paired.get (i := i) b (by simpa using e)
    exact ⟨u, by simpa using h1, h2⟩
theorem Paired.set {α β : Type} {F : α → β → Prop} {x : α} {y : β} (q : F x y) : ∀ {l : List α} {m : List β} (n : Nat), Paired F l m → Paired F (l.set n x) (m.set n y)
  | _, _, _, .nil => .nil
  | _, _, 0, .cons _ t => .cons q t
  | _, _, n + 1, .cons a t => .cons a (Paired.set q n t)
theorem Paired.replicate {α β : Type} {F : α → β → Prop} {x : α} {y : β} (q : F x y) : ∀ n : Nat, Paired F (List.replicate n x) (List.replicate n y)
  | 0 => .nil
  | n + 1 => .cons q (Paired.replicate q n)
theorem Paired.app {α β : Type} {F : α → β → Prop} : ∀ {l l' : List α} {m m' : List β}, Paired F l m → Paired F l' m' → Paired F (l ++ l') (m ++ m')
  | _, _, _, _, .nil, h => h
  | _, _, _, _, .cons a b, h => .cons a (Paired.app b h)
theorem RelL.mono {ro ro' : List Addr} {H H' : Hp} {L : Loc} {s : St} (g : Gr ro ro') (e : TExt H H') (r : RelL ro H L s) : RelL ro' H' L s := Paired.imp (fun a b h => by
  cases a <;> cases b
  · trivial
  · exact h
  · exact h
  · exact RelD.mono g e _ _ h) r
theorem RelL.get {ro : List Addr} {H : Hp} {L : Loc} {s : St} {i : Nat} {d : D} (r : RelL ro H L s) (h : L[i]? = some (some d)) : ∃ v, s[i]? = some (some v) ∧ RelD ro H d v := by
  obtain ⟨b, h1, h2⟩ := Paired.get r h
  cases b with
  | none => exact h2.elim
  | some v => exact ⟨v, h1, h2⟩
theorem RelL.set {ro : List Addr} {H : Hp} {L : Loc} {s : St} (i : Nat) {d : D} {v : V} (r : RelL ro H L s) (q : RelD ro H d v) : RelL ro H (L.set i (some d)) (s.set i (some v)) := Paired.set (F := RelO1 ro H) (x := some d) (y := some v) q i r
theorem RelL.wipe {ro : List Addr} {H : Hp} {L : Loc} {s : St} (r : RelL ro H L s) : ∀ vs : List Nat, RelL ro H (wipe L vs) (L2.wipe s vs)
  | [] => r
  | v :: vs => Paired.set (F := RelO1 ro H) (x := none) (y := none) trivial v (RelL.wipe r vs)
theorem RelL.start {ro : List Addr} {H : Hp} (N : List Str) : ∀ {ds : List D} {vs : List V}, RelDs ro H ds vs → RelL ro H (ds.map some ++ List.replicate (N.length - ds.length) none) (L2.start N vs) := fun {ds vs} h => by
  unfold L2.start
  rw [h.length]
  refine Paired.app ?_ (Paired.replicate (F := RelO1 ro H) (x := none) (y := none) trivial _)
  have go : ∀ {ds : List D} {vs : List V}, RelDs ro H ds vs → RelL ro H (ds.map some) (vs.map some) := by
    intro ds
    induction ds with
    | nil => intro vs h; rw [h.inv0]; exact .nil
    | cons d ds ih =>
      intro vs h
      obtain ⟨v, r, rfl, h2, h3⟩ := h.inv
      exact .cons h2 (ih h3)
  exact go h

/-! ### the store -/
def okS (x : List Nat) : Bool := x.all fun c => decide (c < 0x110000)
/-- a key of a dict: an int, a text -/
def dkey : D → Option L2.Key
  | .int i => some (.inl i)
  | .str x => if okS x = true then some (.inr ⟨x.toArray⟩) else none
  | _ => none
/-- a tuple of such -/
def tkey : D → Option (List L2.Key)
  | .tup ds => ds.mapM dkey
  | _ => none
def RelKV (ro : List Addr) (H : Hp) : List (D × D) → List (L2.Key × V) → Prop := Paired fun p q => dkey p.1 = some q.1 ∧ RelD ro H p.2 q.2
def RelTV (ro : List Addr) (H : Hp) : List (D × D) → List (List L2.Key × V) → Prop := Paired fun p q => tkey p.1 = some q.1 ∧ RelD ro H p.2 q.2
def RelF (g : G) (ro : List Addr) (H : Hp) : List (Nat × D) → List (Str × V) → Prop := Paired fun p q => q.1 = g.fname p.1 ∧ RelD ro H p.2 q.2
/-- as it stands, or known while it is walked -/
def AtL (H : Hp) (a : Addr) (lk : Bool) (u : HO) : Prop := if lk = true then ∃ o, H a = some (.frz o u) else H a = some u
/-- a list that is only read: known to the object, or written by the top -/
def FrzAt (K : PySem.W.Frag) (H : Hp) (a : Addr) (xs : List V) : Prop := (∃ o, H a = some (.frz o (.lst xs))) ∨
  ∃ (o : Obj) (its : Array Value) (n : Nat), K.lookup a = some o ∧ o.cls = .type "list" ∧ o.dict = none ∧ o.data = .seq its n ∧ its.size ≤ sizeLine ∧ Vals xs its.toList
theorem FrzAt.sq {K : PySem.W.Frag} {H : Hp} {a : Addr} {xs : List V} (h : FrzAt K H a xs) : SqL K H a xs := by
  rcases h with ⟨o, q⟩ | q
  · exact .inl (.inr ⟨o, q⟩)
  · exact .inr q
theorem FrzAt.keep {K : PySem.W.Frag} {H H' : Hp} {a : Addr} {xs : List V} (h : FrzAt K H a xs) (k : ∀ o u, H a = some (.frz o u) → H' a = some (.frz o u)) : FrzAt K H' a xs := by
  rcases h with ⟨o, q⟩ | q
  · exact .inl ⟨o, k _ _ q⟩
  · exact .inr q
def RelOb (g : G) (ro : List Addr) (H : Hp) (a : Addr) : Ob → Prop
  | .lst xs => ∃ vs, RelDs ro H xs vs ∧ H a = some (.lst vs)
  | .frz xs => ∃ vs, RelDs ro H xs vs ∧ FrzAt g.K H a vs
  | .dic t lk kvs => if t = true then ∃ ws, RelTV ro H kvs ws ∧ AtL H a lk (.dT ws) else ∃ ws, RelKV ro H kvs ws ∧ AtL H a lk (.dK ws)
  | .ins c fs => ∃ dx ws, RelF g ro H fs ws ∧ H a = some (.ins (g.cls c) dx ws)
def isFrz : Ob → Prop
  | .frz _ => True
  | _ => False
structure RelS (g : G) (ro : List Addr) (S : Sto) (H : Hp) : Prop where
  len : ro.length = S.length
  ob : ∀ (n : Nat) (o : Ob), S[n]? = some o → ∃ a, ro[n]? = some a ∧ RelOb g ro H a o
  inj : ∀ (n m : Nat) (a : Addr), n ≠ m → ro[n]? = some a → ro[m]? = some a → (∃ o, S[n]? = some o ∧ isFrz o) ∨ ∃ o, S[m]? = some o ∧ isFrz o
  tabs : LamX.Tabs g.T H
section
variable {g : G} {ro ro' : List Addr} {S : Sto} {H H' : Hp} {a : Addr}
theorem RelF.mono (gr : Gr ro ro') (e : TExt H H') {fs : List (Nat × D)} {ws : List (Str × V)} (r : RelF g ro H fs ws) : RelF g ro' H' fs ws := Paired.imp (fun _ _ h => ⟨h.1, RelD.mono gr e _ _ h.2⟩) r
theorem RelKV.mono (gr : Gr ro ro') (e : TExt H H') {fs : List (D × D)} {ws : List (L2.Key × V)} (r : RelKV ro H fs ws) : RelKV ro' H' fs ws := Paired.imp (fun _ _ h => ⟨h.1, RelD.mono gr e _ _ h.2⟩) r
theorem RelTV.mono (gr : Gr ro ro') (e : TExt H H') {fs : List (D × D)} {ws : List (List L2.Key × V)} (r : RelTV ro H fs ws) : RelTV ro' H' fs ws := Paired.imp (fun _ _ h => ⟨h.1, RelD.mono gr e _ _ h.2⟩) r
theorem AtL.eq {lk : Bool} {u : HO} (h : AtL H a lk u) (e : H' a = H a) : AtL H' a lk u := by
  unfold AtL at h ⊢
  rw [e]
  exact h
theorem RelOb.mono (gr : Gr ro ro') (e : TExt H H') {o : Ob} (h : RelOb g ro H a o) (ea : H' a = H a) : RelOb g ro' H' a o := by
  cases o with
  | lst xs =>
    obtain ⟨vs, r, q⟩ := h
    exact ⟨vs, RelDs.mono gr e _ _ r, ea.trans q⟩
  | frz xs =>
    obtain ⟨vs, r, q⟩ := h
    exact ⟨vs, RelDs.mono gr e _ _ r, q.keep fun _ _ z => ea.trans z⟩
  | dic t lk kvs =>
    cases t with
    | true =>
      obtain ⟨ws, r, q⟩ := (show ∃ ws, RelTV ro H kvs ws ∧ AtL H a lk (.dT ws) from h)
      exact ⟨ws, r.mono gr e, q.eq ea⟩
    | false =>
      obtain ⟨ws, r, q⟩ := (show ∃ ws, RelKV ro H kvs ws ∧ AtL H a lk (.dK ws) from h)
      exact ⟨ws, r.mono gr e, q.eq ea⟩
  | ins c fs =>
    obtain ⟨dx, ws, r, q⟩ := h
    exact ⟨dx, ws, r.mono gr e, ea.trans q⟩
/-- what stands at a place that isn't only read -/
theorem RelOb.there {o : Ob} (h : RelOb g ro H a o) (n : ¬ isFrz o) : ∃ u, H a = some u ∧ (∀ vs, u ≠ .tup vs) ∧ ∀ ps, u ≠ .tbl ps := by
  cases o with
  | lst xs =>
    obtain ⟨vs, _, q⟩ := h
    exact ⟨_, q, fun _ z => (by cases z), fun _ z => (by cases z)⟩
  | frz xs => exact (n trivial).elim
  | dic t lk kvs =>
    cases t <;> cases lk
    · obtain ⟨ws, _, q⟩ := (show ∃ ws, RelKV ro H kvs ws ∧ AtL H a false (.dK ws) from h)
      exact ⟨_, q, fun _ z => (by cases z), fun _ z => (by cases z)⟩
    · obtain ⟨ws, _, o, q⟩ := (show ∃ ws, RelKV ro H kvs ws ∧ AtL H a true (.dK ws) from h)
      exact ⟨_, q, fun _ z => (by cases z), fun _ z => (by cases z)⟩
    · obtain ⟨ws, _, q⟩ := (show ∃ ws, RelTV ro H kvs ws ∧ AtL H a false (.dT ws) from h)
      exact ⟨_, q, fun _ z => (by cases z), fun _ z => (by cases z)⟩
    · obtain ⟨ws, _, o, q⟩ := (show ∃ ws, RelTV ro H kvs ws ∧ AtL H a true (.dT ws) from h)
      exact ⟨_, q, fun _ z => (by cases z), fun _ z => (by cases z)⟩
  | ins c fs =>
    obtain ⟨dx, ws, _, q⟩ := h
    exact ⟨_, q, fun _ z => (by cases z), fun _ z => (by cases z)⟩
/-- beside something new -/
theorem RelOb.new (gr : Gr ro ro') {o : Ob} {p : Addr} {u : HO} (h : RelOb g ro H a o) (hp : H p = none) : RelOb g ro' (upd H p u) a o := by
  by_cases ha : a = p
  · subst ha
    cases o with
    | frz xs =>
      obtain ⟨vs, r, q⟩ := h
      refine ⟨vs, RelDs.mono gr (.new hp) _ _ r, q.keep fun _ _ z => ?_⟩
      rw [hp] at z
      cases z
    | _ =>
      obtain ⟨u, q, _⟩ := h.there (by simp [isFrz])
      rw [hp] at q
      cases q
  · exact h.mono gr (.new hp) (upd_ne ha)
/-- something new that is no place of the store -/
theorem RelS.aside (R : RelS g ro S H) {p : Addr} {o : HO} (hp : H p = none) : RelS g ro S (upd H p o) := by
  refine ⟨R.len, fun n o' e => ?_, R.inj, R.tabs.ext fun b u e => by rw [upd_ne (ne_of_none e hp)]; exact e⟩
  obtain ⟨a, h1, h2⟩ := R.ob n o' e
  exact ⟨a, h1, h2.new (.refl _) hp⟩
theorem RelS.lt (R : RelS g ro S H) {n : Nat} {a : Addr} (h : ro[n]? = some a) : n < S.length := by
  have q := (List.getElem?_eq_some_iff.mp h).1
  rw [R.len] at q
  exact q
theorem RelS.at (R : RelS g ro S H) {n : Nat} {a : Addr} {o : Ob} (h : ro[n]? = some a) (e : S[n]? = some o) : RelOb g ro H a o := by
  obtain ⟨b, h1, h2⟩ := R.ob n o e
  rw [h] at h1
  cases h1
  exact h2
/-- a new object, a new place -/
theorem RelS.push (R : RelS g ro S H) {p : Addr} {o : HO} {ob : Ob} (hp : H p = none) (h : RelOb g (ro ++ [p]) (upd H p o) p ob) : RelS g (ro ++ [p]) (S ++ [ob]) (upd H p o) := by
  have old : ∀ {k : Nat} {a : Addr}, k < S.length → (ro ++ [p])[k]? = some a → ro[k]? = some a := fun {k a} hk e => by
    rw [List.getElem?_append_left (by rw [R.len]; exact hk)] at e
    exact e
  have lt : ∀ {k : Nat} {a : Addr}, (ro ++ [p])[k]? = some a → k < S.length ∨ (k = S.length ∧ a = p) := fun {k a} e => by
    by_cases hk : k < S.length
    · exact .inl hk
    · have q := (List.getElem?_eq_some_iff.mp e).1
      rw [List.length_append, List.length_singleton, R.len] at q
      have hk' : k = S.length := by omega
      subst hk'
      rw [List.getElem?_append_right (by rw [R.len]; exact Nat.le_refl _), R.len, Nat.sub_self] at e
      exact .inr ⟨rfl, (Option.some.inj e).symm⟩
  have frz : ∀ {k : Nat}, k < S.length → ro[k]? = some p → ∃ o, S[k]? = some o ∧ isFrz o := fun {k} hk e => by
    obtain ⟨a, h1, h2⟩ := R.ob k S[k] (List.getElem?_eq_getElem hk)
    rw [e] at h1
    cases h1
    refine ⟨S[k], List.getElem?_eq_getElem hk, ?_⟩
    cases q : S[k] with
    | frz xs => trivial
    | _ =>
      rw [q] at h2
      obtain ⟨u, q, _⟩ := h2.there (by simp [isFrz])
      rw [hp] at q
      cases q
  have up : ∀ {k : Nat} {o : Ob}, S[k]? = some o → (S ++ [ob])[k]? = some o := fun {k o} e => by
    rw [List.getElem?_append_left (List.getElem?_eq_some_iff.mp e).1]
    exact e
  refine ⟨by simp [R.len], fun k o' e => ?_, fun k m a hne e1 e2 => ?_, R.tabs.ext fun b u e => by rw [upd_ne (ne_of_none e hp)]; exact e⟩
  · by_cases hk : k < S.length
    · rw [List.getElem?_append_left hk] at e
      obtain ⟨a, h1, h2⟩ := R.ob k o' e
      exact ⟨a, Gr.snoc _ _ _ _ h1, h2.new (Gr.snoc _ _) hp⟩
    · have q := (List.getElem?_eq_some_iff.mp e).1
      rw [List.length_append, List.length_singleton] at q
      have hk' : k = S.length := by omega
      subst hk'
      rw [List.getElem?_append_right (Nat.le_refl _), Nat.sub_self] at e
      obtain rfl : ob = o' := Option.some.inj e
      exact ⟨p, by rw [List.getElem?_append_right (by rw [R.len]; exact Nat.le_refl _), R.len, Nat.sub_self] <;> rfl, h⟩
  · rcases lt e1 with h1 | ⟨h1, h1'⟩ <;> rcases lt e2 with h2 | ⟨h2, h2'⟩
    · rcases R.inj k m a hne (old h1 e1) (old h2 e2) with ⟨o, q1, q2⟩ | ⟨o, q1, q2⟩
      · exact .inl ⟨o, up q1, q2⟩
      · exact .inr ⟨o, up q1, q2⟩
    · subst h2'
      obtain ⟨o, q1, q2⟩ := frz h1 (old h1 e1)
      exact .inl ⟨o, up q1, q2⟩
    · subst h1'
      obtain ⟨o, q1, q2⟩ := frz h2 (old h2 e2)
      exact .inr ⟨o, up q1, q2⟩
    · omega
/-- the object at a place changes -/
theorem RelS.put (R : RelS g ro S H) {n : Nat} {a : Addr} {o ob : Ob} {u u' : HO} (hn : ro[n]? = some a) (hS : S[n]? = some o) (nf : ¬ isFrz o) (nf' : ¬ isFrz ob) (hu : H a = some u) (h : RelOb g ro (upd H a u') a ob)
    (nu : (∀ vs, u ≠ .tup vs) ∧ (∀ ps, u ≠ .tbl ps) ∧ ∀ f, LamX.CodeO a f ≠ u) : RelS g ro (S.set n ob) (upd H a u') := by
  have ex : TExt H (upd H a u') := .put hu nu.1
  have nS : n < S.length := (List.getElem?_eq_some_iff.mp hS).1
  refine ⟨by simp [R.len], fun k o' e => ?_, fun k m b hne e1 e2 => ?_, fun p hp => ?_⟩
  · by_cases hk : k = n
    · subst hk
      rw [List.getElem?_set_self nS] at e
      obtain rfl : ob = o' := Option.some.inj e
      exact ⟨a, hn, h⟩
    · rw [List.getElem?_set_ne (Ne.symm hk)] at e
      obtain ⟨b, h1, h2⟩ := R.ob k o' e
      refine ⟨b, h1, ?_⟩
      by_cases hb : b = a
      · subst hb
        have fz : ∃ xs, o' = .frz xs := by
          rcases R.inj k n b hk h1 hn with ⟨q, q1, q2⟩ | ⟨q, q1, q2⟩
          · rw [e] at q1
            obtain rfl : o' = q := Option.some.inj q1
            cases o' with
            | frz xs => exact ⟨xs, rfl⟩
            | _ => exact q2.elim
          · rw [hS] at q1
            obtain rfl : o = q := Option.some.inj q1
            exact (nf q2).elim
        obtain ⟨xs, rfl⟩ := fz
        obtain ⟨vs, r, q⟩ := h2
        refine ⟨vs, RelDs.mono (.refl _) ex _ _ r, ?_⟩
        rcases q with ⟨ob', q⟩ | q
        · exfalso
          -- a place that isn't only read bears no known list
          have z := R.at hn hS
          cases o with
          | lst xs => obtain ⟨_, _, q'⟩ := z; rw [q] at q'; cases q'
          | frz xs => exact nf trivial
          | dic t lk kvs =>
            cases t <;> cases lk
            · obtain ⟨_, _, q'⟩ := (show ∃ ws, RelKV ro H kvs ws ∧ AtL H b false (.dK ws) from z); have q' : H b = _ := q'; rw [q] at q'; cases q'
            · obtain ⟨_, _, _, q'⟩ := (show ∃ ws, RelKV ro H kvs ws ∧ AtL H b true (.dK ws) from z); rw [q] at q'; cases q'
            · obtain ⟨_, _, q'⟩ := (show ∃ ws, RelTV ro H kvs ws ∧ AtL H b false (.dT ws) from z); have q' : H b = _ := q'; rw [q] at q'; cases q'
            · obtain ⟨_, _, _, q'⟩ := (show ∃ ws, RelTV ro H kvs ws ∧ AtL H b true (.dT ws) from z); rw [q] at q'; cases q'
          | ins c fs => obtain ⟨_, _, _, q'⟩ := z; rw [q] at q'; cases q'
        · exact .inr q
      · exact h2.mono (.refl _) ex (upd_ne hb)
  · have tr : ∀ {k : Nat}, (∃ o, S[k]? = some o ∧ isFrz o) → ∃ o, (S.set n ob)[k]? = some o ∧ isFrz o := fun {k} ⟨q, q1, q2⟩ => by
      have hk : n ≠ k := fun z => by
        subst z
        rw [hS] at q1
        obtain rfl : o = q := Option.some.inj q1
        exact nf q2
      exact ⟨q, by rw [List.getElem?_set_ne hk]; exact q1, q2⟩
    exact (R.inj k m b hne e1 e2).imp tr tr
  · obtain ⟨ps, h1, h2, h3⟩ := R.tabs p hp
    refine ⟨ps, ?_, h2, fun pos cv hc => ?_⟩
    · rw [upd_ne fun z => nu.2.1 ps (by rw [z, hu] at h1; exact Option.some.inj h1)]
      exact h1
    · obtain ⟨c, e1, e2⟩ := h3 pos cv hc
      refine ⟨c, e1, ?_⟩
      rw [upd_ne fun z => nu.2.2 p.2 (by subst z; rw [hu] at e2; exact (Option.some.inj e2).symm)]
      exact e2
end
/-- kinds apart -/
def Nu (a : Addr) (u : HO) : Prop := (∀ vs, u ≠ .tup vs) ∧ (∀ ps, u ≠ .tbl ps) ∧ ∀ f, LamX.CodeO a f ≠ u
theorem nu_lst {a : Addr} {xs : List V} : Nu a (.lst xs) := by refine ⟨?_, ?_, ?_⟩ <;> intro _ z <;> cases z
theorem nu_ins {a C dx : Addr} {xs : List (Str × V)} : Nu a (.ins C dx xs) := by refine ⟨?_, ?_, ?_⟩ <;> intro _ z <;> cases z
theorem nu_dK {a : Addr} {xs : List (L2.Key × V)} : Nu a (.dK xs) := by refine ⟨?_, ?_, ?_⟩ <;> intro _ z <;> cases z
theorem nu_dT {a : Addr} {xs : List (List L2.Key × V)} : Nu a (.dT xs) := by refine ⟨?_, ?_, ?_⟩ <;> intro _ z <;> cases z
theorem nu_frz {a : Addr} {o : Obj} {u : HO} : Nu a (.frz o u) := by refine ⟨?_, ?_, ?_⟩ <;> intro _ z <;> cases z
theorem lst_tup {xs : List V} : ∀ vs, HO.lst xs ≠ .tup vs := by intro _ z; cases z
theorem ins_tup {C dx : Addr} {xs : List (Str × V)} : ∀ vs, HO.ins C dx xs ≠ .tup vs := by intro _ z; cases z
theorem dK_tup {xs : List (L2.Key × V)} : ∀ vs, HO.dK xs ≠ .tup vs := by intro _ z; cases z
theorem dT_tup {xs : List (List L2.Key × V)} : ∀ vs, HO.dT xs ≠ .tup vs := by intro _ z; cases z
theorem lst_frz {xs : List V} : ∀ o u, HO.lst xs ≠ .frz o u := by intro _ _ z; cases z
theorem ins_frz {C dx : Addr} {xs : List (Str × V)} : ∀ o u, HO.ins C dx xs ≠ .frz o u := by intro _ _ z; cases z
theorem dK_frz {xs : List (L2.Key × V)} : ∀ o u, HO.dK xs ≠ .frz o u := by intro _ _ z; cases z
theorem dT_frz {xs : List (List L2.Key × V)} : ∀ o u, HO.dT xs ≠ .frz o u := by intro _ _ z; cases z
end MP

namespace MP
open PySem L2
/-- a raised exception: its class, its own dict -/
def RelX (g : G) (ro : List Addr) (H : Hp) (x : Exc) (c : Value) (d : Option Addr) : Prop :=
  c = .ref (g.ecls x.c) ∧ match x.p with
    | [] => d = none
    | [v] => ∃ dd u, d = some dd ∧ H dd = some (.xd [(("house" : Str), u)]) ∧ RelD ro H v u
    | _ => False
section
variable {α β γ δ : Type}
/-- what is wanted behind a computation -/
def Post (RA : List Addr → Hp → α → β → Prop) (g : G) (E : XK) (ro : List Addr) (H : Hp) (Q : β → Hp → Prop) : R α → Prop
  | .ok d S => ∀ (ro' : List Addr) (H' : Hp) (v : β), Gr ro ro' → Ext H H' → RelS g ro' S H' → RA ro' H' d v → Q v H'
  | .exc x S => ∀ (ro' : List Addr) (H' : Hp) (c : Value) (dd : Option Addr), Gr ro ro' → Ext H H' → RelS g ro' S H' → RelX g ro' H' x c dd → E c dd H'
  | .err => False
theorem Post.mono {RA : List Addr → Hp → α → β → Prop} {g : G} {E : XK} {ro ro' : List Addr} {H H' : Hp} {Q : β → Hp → Prop} {r : R α} (gr : Gr ro ro') (ex : Ext H H') (h : Post RA g E ro H Q r) : Post RA g E ro' H' Q r := by
  cases r with
  | ok d S => exact fun ro1 H1 v a b => h ro1 H1 v (gr.trans a) (ex.trans b)
  | exc x S => exact fun ro1 H1 c dd a b => h ro1 H1 c dd (gr.trans a) (ex.trans b)
  | err => exact h
/-- one computation behind another -/
theorem Post.bind {RA : List Addr → Hp → α → β → Prop} {RB : List Addr → Hp → γ → δ → Prop} {g : G} {E : XK} {ro : List Addr} {H : Hp} {Q : δ → Hp → Prop} {Q' : β → Hp → Prop} {r : R α} {f : α → Sto → R γ}
    (h : Post RB g E ro H Q (r.bind f)) (k : ∀ (d : α) (S : Sto) (ro' : List Addr) (H' : Hp) (v : β), Gr ro ro' → Ext H H' → RelS g ro' S H' → RA ro' H' d v → Post RB g E ro' H' Q (f d S) → Q' v H') : Post RA g E ro H Q' r := by
  cases r with
  | ok d S => exact fun ro' H' v a b c e => k d S ro' H' v a b c e (Post.mono a b h)
  | exc x S => exact h
  | err => exact h
/-- the reading of a computation -/
def rd (RA : List Addr → Hp → α → β → Prop) (g : G) (E : XK) (m : Loc → Sto → R α) : St → Hp → (β → Hp → Prop) → Prop := fun s H Q =>
  ∃ (ro : List Addr) (L : Loc) (S : Sto), RelL ro H L s ∧ RelS g ro S H ∧ Post RA g E ro H Q (m L S)
end
abbrev RelB : List Addr → Hp → Bool → Bool → Prop := fun _ _ a b => a = b
abbrev rdE := rd RelD
abbrev rdA := rd RelDs
abbrev rdT := rd RelB
/-- the context that a body is walked in -/
structure Ctx (g : G) (E : XK) (X : Cx) : Prop where
  P : X.prog = g.P
  w : X.w = g.w
  K : X.K = g.K
  mg : X.mg = g.mg
  base : X.base = g.base
  takes : L2N.Takes X fun c d _ H => E c d H
  units : X.A.units + 66 < cLine
structure SE (X : Cx) (g : G) (E : XK) (e : Expr) (m : EM) : Prop where
  run : PE X e (rdE g E m)
structure SA (X : Cx) (g : G) (E : XK) (es : List Expr) (m : AM) : Prop where
  run : PA X es (rdA g E m)
structure ST (X : Cx) (g : G) (E : XK) (e : Expr) (m : BM) : Prop where
  run : PT X e (rdT g E m)
structure SW (X : Cx) (g : G) (E : XK) (e : Expr) (m : BM) : Prop where
  run : PW X e (rdT g E m)
theorem pe_imp {X : Cx} {e : Expr} {t t' : TE} (h : PE X e t) (i : ∀ s H Q, t' s H Q → t s H Q) : PE X e t' := ⟨fun pins s σ H Q I q => h.run pins s σ H Q I (i _ _ _ q)⟩
theorem pa_imp {X : Cx} {e : List Expr} {t t' : TA} (h : PA X e t) (i : ∀ s H Q, t' s H Q → t s H Q) : PA X e t' := ⟨fun pos pins s σ H Q I q => h.run pos pins s σ H Q I (i _ _ _ q)⟩
theorem pt_imp {X : Cx} {e : Expr} {t t' : TT} (h : PT X e t) (i : ∀ s H Q, t' s H Q → t s H Q) : PT X e t' := ⟨fun pins s σ H Q I q => h.run pins s σ H Q I (i _ _ _ q)⟩
theorem pw_imp {X : Cx} {e : Expr} {t t' : TT} (h : PW X e t) (i : ∀ s H Q, t' s H Q → t s H Q) : PW X e t' := ⟨fun wh pins s σ H Q I q => h.run wh pins s σ H Q I (i _ _ _ q)⟩
theorem ps_imp {X : Cx} {e : Stmt} {t t' : TS} (h : PS X e t) (i : ∀ D s H, t' D s H → t D s H) : PS X e t' := ⟨fun pins s σ H D I q => h.run pins s σ H D I (i _ _ _ q)⟩
theorem pss_imp {X : Cx} {e : List Stmt} {t t' : TS} (h : PSs X e t) (i : ∀ D s H, t' D s H → t D s H) : PSs X e t' := ⟨fun pins s σ H D I q => h.run pins s σ H D I (i _ _ _ q)⟩

/-! ### operations by values -/
def r2 (g : G) (E : XK) (f : Op2) : R2 := fun x y H Q => ∃ (ro : List Addr) (S : Sto) (dx dy : D), RelS g ro S H ∧ RelD ro H dx x ∧ RelD ro H dy y ∧ Post RelD g E ro H Q (f dx dy S)
def r1 (g : G) (E : XK) (f : Op1) : V → Hp → VK → Prop := fun x H Q => ∃ (ro : List Addr) (S : Sto) (dx : D), RelS g ro S H ∧ RelD ro H dx x ∧ Post RelD g E ro H Q (f dx S)
def O2 (X : Cx) (g : G) (E : XK) (k : Value → Value → Sem Value) (f : Op2) : Prop := OpR X k (r2 g E f)
section
variable {X : Cx} {g : G} {E : XK} {a b c e : Expr} {ma mb mc : EM} {pos : Pos}
theorem rd_bin {f : Op2} {s : St} {H : Hp} {Q : VK} {r : R2} (hr : ∀ x y H Q, r2 g E f x y H Q → r x y H Q) (h : rdE g E (eBin f ma mb) s H Q) : L2.tOp r (rdE g E ma) (rdE g E mb) s H Q := by
  obtain ⟨ro, L, S, hL, hS, h⟩ := h
  refine ⟨ro, L, S, hL, hS, Post.bind h fun d S1 ro1 H1 v gr ex hS1 rv h => ?_⟩
  refine ⟨ro1, L, S1, hL.mono gr ex, hS1, Post.bind h fun d2 S2 ro2 H2 v2 gr2 ex2 hS2 rv2 h => ?_⟩
  exact hr _ _ _ _ ⟨ro2, S2, d, d2, hS2, rv.mono gr2 ex2, rv2, h⟩
theorem se_bin {op : Operator} {f : Op2} (ho : O2 X g E (binaryOp op) f) (ha : SE X g E a ma) (hb : SE X g E b mb) : SE X g E (.BinOp a op b pos) (eBin f ma mb) :=
  ⟨pe_imp (pe_op ho ha.run hb.run) fun _ _ _ h => rd_bin (fun _ _ _ _ z => z) h⟩
theorem se_cmp {op : CmpOp} {f : Op2} (ho : O2 X g E (compareOp op) f) (ha : SE X g E a ma) (hb : SE X g E b mb) (hm : behindInMarks op b = false) : SE X g E (.Compare a [op] [b] pos) (eBin f ma mb) :=
  ⟨pe_imp (pe_cmpR ho ha.run hb.run hm) fun _ _ _ h => rd_bin (fun _ _ _ _ z => z) h⟩
/-- a test by its value -/
theorem rd_tv {m : EM} {s : St} {H : Hp} {Q : Bool → Hp → Prop} (h : rdT g E (tV m) s H Q) : rdE g E m s H fun x H1 => ∃ k, x = .bl k ∧ Q k H1 := by
  obtain ⟨ro, L, S, hL, hS, h⟩ := h
  refine ⟨ro, L, S, hL, hS, Post.bind h fun d S1 ro1 H1 v gr ex hS1 rv h => ?_⟩
  cases d with
  | bl k => exact ⟨k, rv.bl_inv, h ro1 H1 k (.refl _) (.refl _) hS1 rfl⟩
  | _ => exact h.elim
theorem st_cmp {op : CmpOp} {f : Op2} (ho : O2 X g E (compareOp op) f) (ha : SE X g E a ma) (hb : SE X g E b mb) (hm : behindInMarks op b = false) : ST X g E (.Compare a [op] [b] pos) (tV (eBin f ma mb)) :=
  ⟨pt_imp (pt_cmpR ho ha.run hb.run hm) fun _ _ _ h => by
    obtain ⟨ro, L, S, hL, hS, h⟩ := rd_tv h
    exact rd_bin (fun _ _ _ _ z => z) ⟨ro, L, S, hL, hS, h⟩⟩
theorem st_val (ha : SE X g E a ma) (he : ∀ whole, isTrue a X.env whole = (do let v ← whole; standAt a.pos; holding [v] (truthy v)) := by intro _; rfl) : ST X g E a (tV ma) :=
  ⟨pt_imp (pt_val ha.run he) fun _ _ _ h => rd_tv h⟩

/-! ### names, constants -/
theorem se_var (i : Nat) {x : Str} {pos : Pos} (hN : X.N[i]? = some x := by rfl) (hv : Vis X.env.scope x := by first | exact Or.inl rfl | exact Or.inr (Or.inl rfl) | exact Or.inr (Or.inr rfl)) (hd : (x == ("__debug__" : Str)) = false := by decide)
    (hcd : (x == ("__classdict__" : Str)) = false := by decide) : SE X g E (.Name x pos) (eV i) := ⟨pe_imp (pe_var hN hv hd hcd) fun s H Q h => by
  obtain ⟨ro, L, S, hL, hS, h⟩ := h
  unfold eV at h
  split at h
  · rename_i d e
    obtain ⟨v, e1, r⟩ := hL.get e
    exact ⟨v, e1, h ro H v (.refl _) (.refl _) hS r⟩
  · exact h.elim⟩
theorem se_int {i : Int} {j : Nat} {pos : Pos} : SE X g E (.Constant (.int i) j pos) (eC (.int i)) := ⟨pe_imp pe_int fun s H Q ⟨ro, L, S, hL, hS, h⟩ => h ro H _ (.refl _) (.refl _) hS .int_mk⟩
theorem se_bl {i : Bool} {j : Nat} {pos : Pos} : SE X g E (.Constant (.bool i) j pos) (eC (.bl i)) := ⟨pe_imp pe_bl fun s H Q ⟨ro, L, S, hL, hS, h⟩ => h ro H _ (.refl _) (.refl _) hS .bl_mk⟩
theorem se_non {j : Nat} {pos : Pos} : SE X g E (.Constant .none j pos) (eC .non) := ⟨pe_imp pe_non fun s H Q ⟨ro, L, S, hL, hS, h⟩ => h ro H _ (.refl _) (.refl _) hS .non_mk⟩
theorem se_str {x : List Nat} {y : Str} {j : Nat} {pos : Pos} (e : y = ⟨x.toArray⟩ := by decide +kernel) (hx : okS x = true := by decide +kernel) : SE X g E (.Constant (.str y) j pos) (eC (.str x)) := ⟨pe_imp pe_str fun s H Q ⟨ro, L, S, hL, hS, h⟩ => by
  subst e
  refine h ro H _ (.refl _) (.refl _) hS (.str_mk fun c hc => ?_)
  simpa using List.all_eq_true.mp hx c hc⟩
/-- a constant of the module -/
theorem se_glob {x : Str} {d : D} {v : V} {u : Value} {pos : Pos} (hg : Gl X x) (hm : X.mg x = some u) (r : RelV v u) (rd : ∀ ro H, RelD ro H d v) (hd : (x == ("__debug__" : Str)) = false := by decide) : SE X g E (.Name x pos) (eC d) :=
  ⟨pe_imp (pe_glob hg hm r hd) fun s H Q ⟨ro, L, S, hL, hS, h⟩ => h ro H _ (.refl _) (.refl _) hS (rd _ _)⟩

/-! ### and, or, not, if -/
theorem se_one {op : BoolOp} (h : SE X g E a ma) : SE X g E (.BoolOp op [a] pos) ma := ⟨pe_one h.run⟩
theorem se_and {rest : List Expr} (ha : SE X g E a ma) (hb : SE X g E (.BoolOp .And (b :: rest) pos) mb) : SE X g E (.BoolOp .And (a :: b :: rest) pos) (eAnd ma mb) := ⟨pe_imp (pe_and ha.run hb.run) fun s H Q h => by
  obtain ⟨ro, L, S, hL, hS, h⟩ := h
  refine ⟨ro, L, S, hL, hS, Post.bind h fun d S1 ro1 H1 v gr ex hS1 rv h => ?_⟩
  cases d with
  | bl k =>
    refine ⟨k, rv.bl_inv, ?_⟩
    cases k with
    | true => rw [if_pos rfl]; exact ⟨ro1, L, S1, hL.mono gr ex, hS1, h⟩
    | false => rw [if_neg Bool.false_ne_true]; exact h ro1 H1 _ (.refl _) (.refl _) hS1 .bl_mk
  | _ => exact h.elim⟩
theorem se_or {rest : List Expr} (ha : SE X g E a ma) (hb : SE X g E (.BoolOp .Or (b :: rest) pos) mb) : SE X g E (.BoolOp .Or (a :: b :: rest) pos) (eOr ma mb) := ⟨pe_imp (pe_or ha.run hb.run) fun s H Q h => by
  obtain ⟨ro, L, S, hL, hS, h⟩ := h
  refine ⟨ro, L, S, hL, hS, Post.bind h fun d S1 ro1 H1 v gr ex hS1 rv h => ?_⟩
  cases d with
  | bl k =>
    refine ⟨k, rv.bl_inv, ?_⟩
    cases k with
    | true => rw [if_pos rfl]; exact h ro1 H1 _ (.refl _) (.refl _) hS1 .bl_mk
    | false => rw [if_neg Bool.false_ne_true]; exact ⟨ro1, L, S1, hL.mono gr ex, hS1, h⟩
  | _ => exact h.elim⟩
theorem se_not (ha : SE X g E a ma) : SE X g E (.UnaryOp .Not a pos) (eNot ma) := ⟨pe_imp (pe_not ha.run) fun s H Q h => by
  obtain ⟨ro, L, S, hL, hS, h⟩ := h
  refine ⟨ro, L, S, hL, hS, Post.bind h fun d S1 ro1 H1 v gr ex hS1 rv h => ?_⟩
  cases d with
  | bl k => exact ⟨k, rv.bl_inv, h ro1 H1 _ (.refl _) (.refl _) hS1 .bl_mk⟩
  | _ => exact h.elim⟩
theorem rd_if {t : BM} {s : St} {H : Hp} {Q : VK} (h : rdE g E (eIf t ma mb) s H Q) : rdT g E t s H fun c H1 => if c = true then rdE g E ma s H1 Q else rdE g E mb s H1 Q := by
  obtain ⟨ro, L, S, hL, hS, h⟩ := h
  refine ⟨ro, L, S, hL, hS, Post.bind h fun d S1 ro1 H1 v gr ex hS1 rv h => ?_⟩
  obtain rfl : d = v := rv
  cases d with
  | true => rw [if_pos rfl] at h ⊢; exact ⟨ro1, L, S1, hL.mono gr ex, hS1, h⟩
  | false => rw [if_neg Bool.false_ne_true] at h ⊢; exact ⟨ro1, L, S1, hL.mono gr ex, hS1, h⟩
theorem se_if {t : BM} (hc : ST X g E c t) (ha : SE X g E a ma) (hb : SE X g E b mb) : SE X g E (.IfExp c a b pos) (eIf t ma mb) := ⟨pe_imp (pe_ifExp hc.run ha.run hb.run) fun s H Q h => rd_if h⟩
theorem sw_one {op : BoolOp} {t : BM} (ha : ST X g E a t) : SW X g E (.BoolOp op [a] pos) t := ⟨by cases op; exact pw_and1 ha.run; exact pw_or1 ha.run⟩
theorem sw_and {rest : List Expr} {t u : BM} (ha : ST X g E a t) (hb : SW X g E (.BoolOp .And (b :: rest) pos) u) : SW X g E (.BoolOp .And (a :: b :: rest) pos) (tAnd t u) := ⟨pw_imp (pw_and ha.run hb.run) fun s H Q h => by
  obtain ⟨ro, L, S, hL, hS, h⟩ := h
  refine ⟨ro, L, S, hL, hS, Post.bind h fun d S1 ro1 H1 v gr ex hS1 rv h => ?_⟩
  obtain rfl : d = v := rv
  cases d with
  | true => rw [if_pos rfl] at h ⊢; exact ⟨ro1, L, S1, hL.mono gr ex, hS1, h⟩
  | false => rw [if_neg Bool.false_ne_true] at h ⊢; exact h ro1 H1 _ (.refl _) (.refl _) hS1 rfl⟩
theorem sw_or {rest : List Expr} {t u : BM} (ha : ST X g E a t) (hb : SW X g E (.BoolOp .Or (b :: rest) pos) u) : SW X g E (.BoolOp .Or (a :: b :: rest) pos) (tOr t u) := ⟨pw_imp (pw_or ha.run hb.run) fun s H Q h => by
  obtain ⟨ro, L, S, hL, hS, h⟩ := h
  refine ⟨ro, L, S, hL, hS, Post.bind h fun d S1 ro1 H1 v gr ex hS1 rv h => ?_⟩
  obtain rfl : d = v := rv
  cases d with
  | true => rw [if_pos rfl] at h ⊢; exact h ro1 H1 _ (.refl _) (.refl _) hS1 rfl
  | false => rw [if_neg Bool.false_ne_true] at h ⊢; exact ⟨ro1, L, S1, hL.mono gr ex, hS1, h⟩⟩
theorem st_bool {t : BM} (h : SW X g E a t) : ST X g E a t := ⟨h.run.pt⟩
theorem st_not {t : BM} (ha : ST X g E a t) : ST X g E (.UnaryOp .Not a pos) (tNot t) := ⟨pt_imp (pt_not ha.run) fun s H Q h => by
  obtain ⟨ro, L, S, hL, hS, h⟩ := h
  refine ⟨ro, L, S, hL, hS, Post.bind h fun d S1 ro1 H1 v gr ex hS1 rv h => ?_⟩
  obtain rfl : d = v := rv
  exact h ro1 H1 _ (.refl _) (.refl _) hS1 rfl⟩

/-! ### arguments, displays -/
theorem sa_nil : SA X g E [] aNil := ⟨pa_imp pa_nil fun s H Q ⟨ro, L, S, hL, hS, h⟩ => h ro H _ (.refl _) (.refl _) hS .nil⟩
theorem sa_cons {es : List Expr} {ms : AM} (ha : SE X g E e ma) (hr : SA X g E es ms) (hs : starEach (e :: es) X.env = (false, eval e X.env) :: starEach es X.env := by rfl) : SA X g E (e :: es) (aCons ma ms) := ⟨pa_imp (pa_cons ha.run hr.run hs) fun s H Q h => by
  obtain ⟨ro, L, S, hL, hS, h⟩ := h
  refine ⟨ro, L, S, hL, hS, Post.bind h fun d S1 ro1 H1 v gr ex hS1 rv h => ?_⟩
  refine ⟨ro1, L, S1, hL.mono gr ex, hS1, Post.bind h fun ds S2 ro2 H2 vs gr2 ex2 hS2 rv2 h => ?_⟩
  exact h ro2 H2 _ (.refl _) (.refl _) hS2 (.cons (rv.mono gr2 ex2) rv2)⟩
theorem sz_eq : sz = sizeLine := by rw [sizeLine_eq] <;> rfl
theorem se_tup {es : List Expr} {ms : AM} {x1 : Nat} (h : SA X g E es ms) : SE X g E (.Tuple es x1 pos) (eTup ms) := ⟨pe_imp (pe_tup h.run) fun s H Q h => by
  obtain ⟨ro, L, S, hL, hS, h⟩ := h
  refine ⟨ro, L, S, hL, hS, Post.bind h fun ds S1 ro1 H1 vs gr ex hS1 rv h => ?_⟩
  by_cases hz : ds.length ≤ sz
  · rw [if_pos hz] at h
    refine ⟨by rw [← rv.length, ← sz_eq]; exact hz, fun p hp => h ro1 _ _ (.refl _) (.new hp) (hS1.aside hp) (.tup_mk upd_same (rv.mono (.refl _) (.new hp)))⟩
  · rw [if_neg hz] at h
    exact h.elim⟩
theorem Post.push {g : G} {E : XK} {ro : List Addr} {H : Hp} {Q : VK} {S : Sto} {ob : Ob} {u : HO} {p : Addr} (h : Post RelD g E ro H Q (.ok (.ref S.length) (S ++ [ob]))) (R : RelS g ro S H) (hp : H p = none) (ho : RelOb g (ro ++ [p]) (upd H p u) p ob) : Q (.ref p) (upd H p u) :=
  h (ro ++ [p]) _ _ (.snoc _ _) (.new hp) (R.push hp ho) (.ref_mk (by rw [← R.len, List.getElem?_append_right (Nat.le_refl _), Nat.sub_self] <;> rfl))
theorem se_lst {es : List Expr} {ms : AM} (h : SA X g E es ms) : SE X g E (.List es pos) (eLst ms) := ⟨pe_imp (pe_lst h.run) fun s H Q h => by
  obtain ⟨ro, L, S, hL, hS, h⟩ := h
  refine ⟨ro, L, S, hL, hS, Post.bind h fun ds S1 ro1 H1 vs gr ex hS1 rv h => ?_⟩
  by_cases hz : ds.length ≤ sz
  · rw [if_pos hz] at h
    exact ⟨by rw [← rv.length, ← sz_eq]; exact hz, fun p hp => h.push hS1 hp ⟨vs, rv.mono (.snoc _ _) (.new hp), upd_same⟩⟩
  · rw [if_neg hz] at h
    exact h.elim⟩
theorem se_dicK : SE X g E (.Dict [] [] pos) (eDic false) := ⟨pe_imp pe_dnewK fun s H Q ⟨ro, L, S, hL, hS, h⟩ p hp => h.push hS hp (show ∃ ws, RelKV _ _ [] ws ∧ AtL _ p false (.dK ws) from ⟨[], .nil, upd_same⟩)⟩
theorem se_dicT : SE X g E (.Dict [] [] pos) (eDic true) := ⟨pe_imp pe_dnewT fun s H Q ⟨ro, L, S, hL, hS, h⟩ p hp => h.push hS hp (show ∃ ws, RelTV _ _ [] ws ∧ AtL _ p false (.dT ws) from ⟨[], .nil, upd_same⟩)⟩
end
end MP

namespace MP
open PySem L2
/-- what is wanted behind a statement -/
def PostS (g : G) (E : XK) (ro : List Addr) (H : Hp) (D : Ends) : RS → Prop
  | .nx L S => ∀ (ro' : List Addr) (H' : Hp) (s : St), Gr ro ro' → Ext H H' → RelS g ro' S H' → RelL ro' H' L s → D.nx s H'
  | .rt d S => ∀ (ro' : List Addr) (H' : Hp) (v : V), Gr ro ro' → Ext H H' → RelS g ro' S H' → RelD ro' H' d v → D.rt v H'
  | .bk L S => ∀ (ro' : List Addr) (H' : Hp) (s : St), Gr ro ro' → Ext H H' → RelS g ro' S H' → RelL ro' H' L s → D.bk s H'
  | .ct L S => ∀ (ro' : List Addr) (H' : Hp) (s : St), Gr ro ro' → Ext H H' → RelS g ro' S H' → RelL ro' H' L s → D.ct s H'
  | .exc x _ S => ∀ (ro' : List Addr) (H' : Hp) (c : Value) (dd : Option Addr), Gr ro ro' → Ext H H' → RelS g ro' S H' → RelX g ro' H' x c dd → E c dd H'
  | .err => False
theorem PostS.mono {g : G} {E : XK} {ro ro' : List Addr} {H H' : Hp} {D : Ends} {r : RS} (gr : Gr ro ro') (ex : Ext H H') (h : PostS g E ro H D r) : PostS g E ro' H' D r := by
  cases r with
  | err => exact h
  | exc x L S => exact fun ro1 H1 c dd a b => h ro1 H1 c dd (gr.trans a) (ex.trans b)
  | _ => exact fun ro1 H1 s a b => h ro1 H1 s (gr.trans a) (ex.trans b)
/-- a statement that begins with an expression -/
theorem PostS.st {α β : Type} {RA : List Addr → Hp → α → β → Prop} {g : G} {E : XK} {ro : List Addr} {H : Hp} {D : Ends} {Q' : β → Hp → Prop} {r : R α} {L : Loc} {f : α → Sto → RS}
    (h : PostS g E ro H D (r.st L f)) (k : ∀ (d : α) (S : Sto) (ro' : List Addr) (H' : Hp) (v : β), Gr ro ro' → Ext H H' → RelS g ro' S H' → RA ro' H' d v → PostS g E ro' H' D (f d S) → Q' v H') : Post RA g E ro H Q' r := by
  cases r with
  | ok d S => exact fun ro' H' v a b c e => k d S ro' H' v a b c e (PostS.mono a b h)
  | exc x S => exact h
  | err => exact h
def rdS (g : G) (E : XK) (m : SM) : TS := fun D s H => ∃ (ro : List Addr) (L : Loc) (S : Sto), RelL ro H L s ∧ RelS g ro S H ∧ PostS g E ro H D (m L S)
structure SS (X : Cx) (g : G) (E : XK) (st : Stmt) (m : SM) : Prop where
  run : PS X st (rdS g E m)
structure SSs (X : Cx) (g : G) (E : XK) (st : List Stmt) (m : SM) : Prop where
  run : PSs X st (rdS g E m)
/-- what is wanted of a target -/
def PostG (g : G) (ro : List Addr) (H : Hp) (Q : St → Hp → Prop) : R Loc → Prop
  | .ok L S => ∀ (ro' : List Addr) (H' : Hp) (s : St), Gr ro ro' → Ext H H' → RelS g ro' S H' → RelL ro' H' L s → Q s H'
  | _ => False
def rdG (g : G) (t : TM) : TG := fun v s H Q => ∃ (ro : List Addr) (L : Loc) (S : Sto) (d : D), RelL ro H L s ∧ RelS g ro S H ∧ RelD ro H d v ∧ PostG g ro H Q (t d L S)
def rdGs (g : G) (t : List D → Loc → Sto → R Loc) : TGs := fun vs s H Q => ∃ (ro : List Addr) (L : Loc) (S : Sto) (ds : List D), RelL ro H L s ∧ RelS g ro S H ∧ RelDs ro H ds vs ∧ PostG g ro H Q (t ds L S)
theorem PostG.mono {g : G} {ro ro' : List Addr} {H H' : Hp} {Q : St → Hp → Prop} {r : R Loc} (gr : Gr ro ro') (ex : Ext H H') (h : PostG g ro H Q r) : PostG g ro' H' Q r := by
  cases r with
  | ok L S => exact fun ro1 H1 s a b => h ro1 H1 s (gr.trans a) (ex.trans b)
  | _ => exact h
structure SG (X : Cx) (g : G) (tg : Expr) (t : TM) : Prop where
  run : PG X tg (rdG g t)
structure SGs (X : Cx) (g : G) (ts : List Expr) (t : List D → Loc → Sto → R Loc) : Prop where
  run : PGs X ts (rdGs g t)
section
variable {X : Cx} {g : G} {E : XK} {e c o : Expr} {m : EM} {st : Stmt} {rest : List Stmt} {a b : SM} {pos pos' : Pos}
theorem pg_imp {tg : Expr} {t t' : TG} (h : PG X tg t) (i : ∀ v s H Q, t' v s H Q → t v s H Q) : PG X tg t' := ⟨fun pins s σ H v u Q I r q => h.run pins s σ H v u Q I r (i _ _ _ _ q)⟩
theorem pgs_imp {tg : List Expr} {t t' : TGs} (h : PGs X tg t) (i : ∀ v s H Q, t' v s H Q → t v s H Q) : PGs X tg t' := ⟨fun pins s σ H v u Q I r q => h.run pins s σ H v u Q I r (i _ _ _ _ q)⟩
theorem ss_nil : SSs X g E [] sNx := ⟨pss_imp pss_nil fun D s H ⟨ro, L, S, hL, hS, h⟩ => h ro H s (.refl _) (.refl _) hS hL⟩
theorem ss_pass : SS X g E (.Pass pos) sNx := ⟨ps_imp ps_pass fun D s H ⟨ro, L, S, hL, hS, h⟩ => h ro H s (.refl _) (.refl _) hS hL⟩
theorem ss_brk : SS X g E (.Break pos) sBrk := ⟨ps_imp ps_break fun D s H ⟨ro, L, S, hL, hS, h⟩ => h ro H s (.refl _) (.refl _) hS hL⟩
theorem ss_cnt : SS X g E (.Continue pos) sCnt := ⟨ps_imp ps_continue fun D s H ⟨ro, L, S, hL, hS, h⟩ => h ro H s (.refl _) (.refl _) hS hL⟩
theorem ss_one (h : SS X g E st a) : SSs X g E [st] a := ⟨pss_one h.run⟩
theorem ss_cons (h1 : SS X g E st a) (h2 : SSs X g E rest b) : SSs X g E (st :: rest) (sSeq a b) := ⟨pss_imp (pss_cons h1.run h2.run) fun D s H ⟨ro, L, S, hL, hS, h⟩ => by
  refine ⟨ro, L, S, hL, hS, ?_⟩
  unfold sSeq at h
  cases q : a L S with
  | nx L1 S1 =>
    rw [q] at h
    exact fun ro' H' s' gr ex R r => ⟨ro', L1, S1, r, R, PostS.mono gr ex h⟩
  | rt d S1 => rw [q] at h; exact h
  | bk L1 S1 => rw [q] at h; exact h
  | ct L1 S1 => rw [q] at h; exact h
  | exc x L1 S1 => rw [q] at h; exact h
  | err => rw [q] at h; exact h⟩
theorem ss_expr (he : SE X g E e m) (hs : swapsWith e none pos.line X.env = pure false := by rfl) : SS X g E (.Expr e pos) (sExpr m) := ⟨ps_imp (ps_expr he.run hs) fun D s H ⟨ro, L, S, hL, hS, h⟩ =>
  ⟨ro, L, S, hL, hS, PostS.st h fun d S1 ro1 H1 v gr ex hS1 rv h => h ro1 H1 s (.refl _) (.refl _) hS1 (hL.mono gr ex)⟩⟩
theorem ss_doc {x : Str} {j : Nat} : SS X g E (.Expr (.Constant (.str x) j pos') pos) sNx := ⟨ps_imp ps_doc fun D s H ⟨ro, L, S, hL, hS, h⟩ => h ro H s (.refl _) (.refl _) hS hL⟩
theorem ss_ret (he : SE X g E e m) : SS X g E (.Return (some e) pos) (sRet m) := ⟨ps_imp (ps_ret he.run) fun D s H ⟨ro, L, S, hL, hS, h⟩ =>
  ⟨ro, L, S, hL, hS, PostS.st h fun d S1 ro1 H1 v gr ex hS1 rv h => h ro1 H1 v (.refl _) (.refl _) hS1 rv⟩⟩
theorem ss_retN : SS X g E (.Return none pos) sRetN := ⟨ps_imp ps_retN fun D s H ⟨ro, L, S, hL, hS, h⟩ => h ro H _ (.refl _) (.refl _) hS .non_mk⟩
theorem ss_if {t : BM} {p q : List Stmt} (hc : ST X g E c t) (ha : SSs X g E p a) (hb : SSs X g E q b) : SS X g E (.If c p q pos) (sIf t a b) := ⟨ps_imp (ps_if hc.run ha.run hb.run) fun D s H ⟨ro, L, S, hL, hS, h⟩ =>
  ⟨ro, L, S, hL, hS, PostS.st h fun d S1 ro1 H1 v gr ex hS1 rv h => by
    obtain rfl : d = v := rv
    cases d with
    | true => rw [if_pos rfl] at h ⊢; exact ⟨ro1, L, S1, hL.mono gr ex, hS1, h⟩
    | false => rw [if_neg Bool.false_ne_true] at h ⊢; exact ⟨ro1, L, S1, hL.mono gr ex, hS1, h⟩⟩⟩

/-! ### targets -/
theorem sg_name (i : Nat) {x : Str} (hN : X.N.Nodup) (hi : X.N[i]? = some x := by rfl) (hx : L2.Loc X.env.scope x := by first | exact Or.inl rfl | exact Or.inr rfl) (hf : X.fn x = true ∨ X.env.scope.names.lookup x = some .local := by first | exact Or.inl rfl | exact Or.inr rfl) : SG X g (.Name x pos) (gV i) :=
  ⟨pg_imp (pg_name hN hi hx hf) fun v s H Q ⟨ro, L, S, d, hL, hS, rv, h⟩ => h ro H _ (.refl _) (.refl _) hS (hL.set i rv)⟩
theorem sgs_nil : SGs X g [] gNil := ⟨pgs_imp pgs_nil fun v s H Q ⟨ro, L, S, ds, hL, hS, rv, h⟩ => by
  unfold MP.gNil at h
  split at h
  · rename_i e
    subst e
    exact ⟨rv.inv0, h ro H _ (.refl _) (.refl _) hS hL⟩
  · exact h.elim⟩
theorem sgs_cons {es : List Expr} {t : TM} {u : List D → Loc → Sto → R Loc} (h1 : SG X g e t) (h2 : SGs X g es u) (hs : (assignEach (e :: es) X.env).map (·.2) = assign e X.env :: (assignEach es X.env).map (·.2) := by rfl) : SGs X g (e :: es) (gCons t u) :=
  ⟨pgs_imp (pgs_cons h1.run h2.run hs) fun v s H Q ⟨ro, L, S, ds, hL, hS, rv, h⟩ => by
    unfold MP.gCons at h
    cases ds with
    | nil => exact h.elim
    | cons d ds =>
      obtain ⟨x, r, rfl, r1, r2⟩ := rv.inv
      refine ⟨x, r, rfl, ro, L, S, d, hL, hS, r1, ?_⟩
      simp only at h
      cases q : t d L S with
      | ok L1 S1 =>
        rw [q] at h
        exact fun ro' H' s' gr ex R rl => ⟨ro', L1, S1, ds, rl, R, r2.mono gr ex, PostG.mono gr ex h⟩
      | exc x S1 => rw [q] at h; exact h
      | err => rw [q] at h; exact h⟩
theorem sg_tup {es : List Expr} {k : Nat} {u : List D → Loc → Sto → R Loc} {n : Nat} (hc : X.calm = true) (h : SGs X g es u) (hn : (assignEach es X.env).length = n := by rfl) (hst : (assignEach es X.env).findIdx? (·.1) = none := by rfl) : SG X g (.Tuple es k pos) (gTup n u) :=
  ⟨pg_imp (pg_tup hc h.run hn hst) fun v s H Q ⟨ro, L, S, d, hL, hS, rv, h⟩ => by
    cases d with
    | tup ds =>
      obtain ⟨a, vs, rfl, ha, r⟩ := rv.tup_inv
      unfold MP.gTup at h
      simp only at h
      split at h
      · rename_i hn
        exact ⟨a, vs, rfl, SqT.of ha, by rw [← r.length]; exact hn, ro, L, S, ds, hL, hS, r, h⟩
      · exact h.elim
    | _ => exact h.elim⟩
theorem ss_asg {tg : Expr} {t : TM} (he : SE X g E e m) (hg : SG X g tg t) (hs : swapsWithSole [tg] e pos.line X.env = pure false := by rfl) (hw : swappedStores [tg] e X.env = pure none := by rfl) (h1 : (assignEach [tg] X.env).map (·.2) = [assign tg X.env] := by rfl) :
    SS X g E (.Assign [tg] e pos) (sAsg m t) := ⟨ps_imp (ps_asg he.run hg.run hs hw h1) fun D s H ⟨ro, L, S, hL, hS, h⟩ =>
  ⟨ro, L, S, hL, hS, PostS.st h fun d S1 ro1 H1 v gr ex hS1 rv h => ⟨ro1, L, S1, d, hL.mono gr ex, hS1, rv, by
    cases q : t d L S1 with
    | ok L1 S2 => rw [q] at h; exact h
    | exc x S2 => rw [q] at h; exact h
    | err => rw [q] at h; exact h⟩⟩⟩
/-- name = e -/
theorem ss_set (i : Nat) {x : Str} {pos2 : Pos} (hN : X.N.Nodup) (he : SE X g E e m) (hi : X.N[i]? = some x := by rfl) (hx : L2.Loc X.env.scope x := by first | exact Or.inl rfl | exact Or.inr rfl) (hs : swapsWith e (some (.Name x pos2)) pos.line X.env = pure false := by rfl)
    (hf : X.fn x = true ∨ X.env.scope.names.lookup x = some .local := by first | exact Or.inl rfl | exact Or.inr rfl) : SS X g E (.Assign [.Name x pos2] e pos) (sAsg m (gV i)) := ⟨ps_imp (ps_set hN hi hx he.run hs hf) fun D s H ⟨ro, L, S, hL, hS, h⟩ =>
  ⟨ro, L, S, hL, hS, PostS.st h fun d S1 ro1 H1 v gr ex hS1 rv h => h ro1 H1 _ (.refl _) (.refl _) hS1 ((hL.mono gr ex).set i rv)⟩⟩
/-- a, b = x, y: two names -/
theorem ss_par2 {i j : Nat} {x y : Str} {p q : Expr} {mp mq : EM} {px py pt : Pos} {kt k2 : Nat} {pt2 : Pos} (hc : X.calm = true) (hN : X.N.Nodup) (hp : SE X g E p mp) (hq : SE X g E q mq) (hij : i ≠ j) (hi : X.N[i]? = some x := by rfl) (hj : X.N[j]? = some y := by rfl)
    (hx : X.env.scope.names.lookup x = some .local := by rfl) (hy : X.env.scope.names.lookup y = some .local := by rfl)
    (hw : swappedStores [.Tuple [.Name x px, .Name y py] kt pt] (.Tuple [p, q] k2 pt2) X.env = pure (some [x, y]) := by rfl) (hs : swapsWithSole [.Tuple [.Name x px, .Name y py] kt pt] (.Tuple [p, q] k2 pt2) pos.line X.env = pure false := by rfl)
    (h1 : starEach [p, q] X.env = (false, eval p X.env) :: starEach [q] X.env := by rfl) (h2 : starEach [q] X.env = (false, eval q X.env) :: starEach [] X.env := by rfl) :
    SS X g E (.Assign [.Tuple [.Name x px, .Name y py] kt pt] (.Tuple [p, q] k2 pt2) pos) (sAsg (eTup (aCons mp (aCons mq aNil))) (gTup 2 (gCons (gV i) (gCons (gV j) gNil)))) :=
  ⟨ps_imp (ps_par hc hN hi hj hij hx hy (sa_cons hp (sa_cons hq sa_nil h2) h1).run hw hs) fun D s H ⟨ro, L, S, hL, hS, h⟩ => by
    refine ⟨ro, L, S, hL, hS, ?_⟩
    unfold sAsg MP.eTup at h
    cases z : aCons mp (aCons mq aNil) L S with
    | ok ds S1 =>
      rw [z] at h
      simp only [R.bind_ok] at h
      intro ro1 H1 vs gr ex hS1 rv
      split at h
      · match ds with
        | [d1, d2] =>
          obtain ⟨v1, r, rfl, r1, rr⟩ := rv.inv
          obtain ⟨v2, r', rfl, r2, rr2⟩ := rr.inv
          cases rr2.inv0
          simp only [R.st_ok, MP.gTup, MP.gCons, MP.gV, MP.gNil, R.bind_ok, List.length_cons, List.length_nil, if_true] at h
          exact ⟨v1, v2, rfl, h ro1 H1 _ gr ex hS1 (((hL.mono gr ex).set i r1).set j r2)⟩
        | [] => exact absurd h (by simp [R.st_ok, MP.gTup, PostS])
        | [_] => exact absurd h (by simp [R.st_ok, MP.gTup, PostS])
        | _ :: _ :: _ :: _ => exact absurd h (by simp [R.st_ok, MP.gTup, PostS])
      · exact h.elim
    | exc x S1 => rw [z] at h; exact h
    | err => rw [z] at h; exact h⟩
end
end MP

namespace MP
open PySem L2
/-- the iterator tells the items as long as what is checked holds -/
def WkOk (g : G) (ro : List Addr) (H : Hp) (k : Wk) (J : It) : Prop :=
  ∀ (i : Nat) (ro' : List Addr) (S' : Sto) (H' : Hp), Gr ro ro' → Ext H H' → RelS g ro' S' H' → k.chk S' = true →
    (∀ d, k.items[i]? = some d → J.go i H' ∧ ∀ x H'', J.yld i H' x H'' → Ext H' H'' ∧ RelS g ro' S' H'' ∧ RelD ro' H'' d x) ∧ (i = k.items.length → J.stop i H')
theorem WkOk.mono {g : G} {ro ro' : List Addr} {H H' : Hp} {k : Wk} {J : It} (gr : Gr ro ro') (ex : Ext H H') (h : WkOk g ro H k J) : WkOk g ro' H' k J := fun i ro1 S1 H1 a b => h i ro1 S1 H1 (gr.trans a) (ex.trans b)
structure SI (X : Cx) (g : G) (E : XK) (tg iter : Expr) (w : WM) : Prop where
  run : PI X tg iter (rd (WkOk g) g E w)
section
variable {X : Cx} {g : G} {E : XK} {tg e a b : Expr} {m ma mb : EM} {pos p : Pos}
theorem pi_imp {iter : Expr} {t t' : TI} (h : PI X tg iter t) (i : ∀ s H Q, t' s H Q → t s H Q) : PI X tg iter t' := ⟨fun pins s σ H R I q => h.run pins s σ H R I (i _ _ _ q)⟩
theorem drop_at {α : Type} {l : List α} {i : Nat} (h : i < l.length) : ∃ x, l[i]? = some x ∧ l.drop i = x :: l.drop (i + 1) := ⟨l[i], List.getElem?_eq_getElem h, List.drop_eq_getElem_cons h⟩
theorem si_lst (hK : X.K = g.K) (ha : SE X g E a ma) : SI X g E tg a (wLst ma) := ⟨pi_imp (pi_list ha.run) fun s H Q ⟨ro, L, S, hL, hS, h⟩ => by
  refine ⟨ro, L, S, hL, hS, Post.bind h fun d S1 ro1 H1 v gr ex hS1 rv h => ?_⟩
  cases d with
  | ref n =>
    obtain ⟨p, hp, rfl⟩ := rv.ref_inv
    simp only at h
    split at h
    · rename_i xs e
      obtain ⟨vs, r, q⟩ := hS1.at hp e
      refine ⟨p, rfl, ⟨vs, SqL.of q⟩, h ro1 H1 _ (.refl _) (.refl _) hS1 fun i ro' S' H' gr' ex' R hk => ?_⟩
      have e' : S'[n]? = some (.lst xs) := of_decide_eq_true hk
      obtain ⟨us, r', q'⟩ := R.at (gr' _ _ hp) e'
      refine ⟨fun d hd => ?_, fun hi => ⟨us, SqL.of q', by rw [hi, r'.length]; exact Nat.le_refl _⟩⟩
      obtain ⟨v, h1, h2⟩ := r'.get hd
      refine ⟨⟨us, v, SqL.of q', h1⟩, fun x H'' ⟨e1, e2⟩ => ?_⟩
      subst e1
      have z := e2 us (SqL.of q')
      rw [h1] at z
      cases z
      exact ⟨.refl _, R, h2⟩
    · exact h.elim
  | _ => exact h.elim⟩
theorem si_tup (hK : X.K = g.K) (ha : SE X g E a ma) : SI X g E tg a (wTup ma) := ⟨pi_imp (pi_tup ha.run) fun s H Q ⟨ro, L, S, hL, hS, h⟩ => by
  refine ⟨ro, L, S, hL, hS, Post.bind h fun d S1 ro1 H1 v gr ex hS1 rv h => ?_⟩
  cases d with
  | tup xs =>
    obtain ⟨p, vs, rfl, hp, r⟩ := rv.tup_inv
    refine ⟨p, rfl, ⟨vs, SqT.of hp⟩, h ro1 H1 _ (.refl _) (.refl _) hS1 fun i ro' S' H' gr' ex' R hk => ?_⟩
    have q' := ex'.tup _ _ hp
    have r' := RelDs.mono gr' ex'.tup _ _ r
    refine ⟨fun d hd => ?_, fun hi => ⟨vs, SqT.of q', by rw [hi, r'.length]; exact Nat.le_refl _⟩⟩
    obtain ⟨v, h1, h2⟩ := r'.get hd
    refine ⟨⟨vs, v, SqT.of q', h1⟩, fun x H'' ⟨e1, e2⟩ => ?_⟩
    subst e1
    have z := e2 vs (SqT.of q')
    rw [h1] at z
    cases z
    exact ⟨.refl _, R, h2⟩
  | _ => exact h.elim⟩
theorem rng_ok {ro : List Addr} {H : Hp} {lo : Int} {n : Nat} {chk : Sto → Bool} : WkOk g ro H ⟨rngD lo n, chk⟩ (Itr lo n) := fun i ro' S' H' gr' ex' R hk => by
  refine ⟨fun d hd => ?_, fun hi => ?_⟩
  · unfold rngD at hd
    rw [List.getElem?_map] at hd
    cases q : (List.range n)[i]? with
    | none => rw [q] at hd; cases hd
    | some j =>
      rw [q] at hd
      obtain ⟨h1, h2⟩ := List.getElem?_eq_some_iff.mp q
      rw [List.length_range] at h1
      rw [List.getElem_range] at h2
      subst h2
      cases hd
      refine ⟨h1, fun x H'' ⟨e1, e2⟩ => ?_⟩
      subst e1 e2
      exact ⟨.refl _, R, .int_mk⟩
  · show n ≤ i
    rw [hi]
    simp [rngD]
theorem si_rng1 (hg : Gl X "range") (hm : X.mg "range" = none) (ha : SE X g E a ma) (h1 : starEach [a] X.env = (false, eval a X.env) :: starEach [] X.env := by rfl) (hs : starEach [a] X.env = [(false, eval a X.env)] := by rfl) :
    SI X g E tg (.Call (.Name "range" p) [a] [] pos) (wRng1 ma) := ⟨pi_imp (pi_range1 hg hm (sa_cons ha sa_nil h1).run hs) fun s H Q ⟨ro, L, S, hL, hS, h⟩ => by
  refine ⟨ro, L, S, hL, hS, ?_⟩
  unfold wRng1 at h
  unfold aCons
  cases z : ma L S with
  | ok d S1 =>
    rw [z] at h
    simp only [R.bind_ok, aNil] at h ⊢
    intro ro1 H1 vs gr ex hS1 rv
    obtain ⟨v, r, rfl, r1, r2⟩ := rv.inv
    cases r2.inv0
    cases d with
    | int j =>
      simp only at h
      split at h
      · rename_i hj
        exact ⟨j, by rw [r1.int_inv], hj.1, hj.2, h ro1 H1 _ gr ex hS1 rng_ok⟩
      · exact h.elim
    | _ => exact h.elim
  | exc x S1 => rw [z] at h; exact h
  | err => rw [z] at h; exact h⟩
theorem si_rng2 (hg : Gl X "range") (hm : X.mg "range" = none) (ha : SE X g E a ma) (hb : SE X g E b mb) (h1 : starEach [a, b] X.env = (false, eval a X.env) :: starEach [b] X.env := by rfl) (h2 : starEach [b] X.env = (false, eval b X.env) :: starEach [] X.env := by rfl)
    (hs : starEach [a, b] X.env = [(false, eval a X.env), (false, eval b X.env)] := by rfl) (hs2 : starEach [b] X.env = [(false, eval b X.env)] := by rfl) :
    SI X g E tg (.Call (.Name "range" p) [a, b] [] pos) (wRng2 ma mb) := ⟨pi_imp (pi_range2 hg hm (sa_cons ha (sa_cons hb sa_nil h2) h1).run hs hs2) fun s H Q ⟨ro, L, S, hL, hS, h⟩ => by
  refine ⟨ro, L, S, hL, hS, ?_⟩
  unfold wRng2 at h
  unfold aCons
  cases z : ma L S with
  | ok d S1 =>
    rw [z] at h
    simp only [R.bind_ok] at h ⊢
    cases z2 : mb L S1 with
    | ok d2 S2 =>
      rw [z2] at h
      simp only [R.bind_ok, aNil] at h ⊢
      intro ro1 H1 vs gr ex hS1 rv
      obtain ⟨v, r, rfl, r1, rr⟩ := rv.inv
      obtain ⟨v2, r', rfl, r2, rr2⟩ := rr.inv
      cases rr2.inv0
      cases d with
      | int i =>
        cases d2 with
        | int j =>
          simp only at h
          split at h
          · rename_i hj
            exact ⟨i, j, by rw [r1.int_inv, r2.int_inv], hj, h ro1 H1 _ gr ex hS1 rng_ok⟩
          · exact h.elim
        | _ => exact h.elim
      | _ => cases d2 <;> exact h.elim
    | exc x S2 => rw [z2] at h; exact h
    | err => rw [z2] at h; exact h
  | exc x S1 => rw [z] at h; exact h
  | err => rw [z] at h; exact h⟩
/-- for .. in ..: -/
theorem ss_for {iter : Expr} {body : List Stmt} {w : WM} {t : TM} {bm : SM} (hp : PassesOwn (model X.prog X.w) X.A X.env X.xe) (hc : X.calm = true) (hi : SI X g E tg iter w) (hg : SG X g tg t) (hb : SSs X g E body bm)
    (hs : ∀ x, foldedSetIterable iter X.env x = pure x := by intro _; rfl) : SS X g E (.For tg iter body [] pos) (sFor w t bm) := ⟨ps_imp (ps_for hp hc hi.run hg.run hb.run hs) fun D s H ⟨ro, L, S, hL, hS, h⟩ => by
  refine ⟨ro, L, S, hL, hS, PostS.st h fun k S1 ro1 H1 J gr ex hS1 wk h => ?_⟩
  refine ⟨fun i m s H' => m = k.items.length - i ∧ i ≤ k.items.length ∧ ∃ (ro' : List Addr) (L' : MP.Loc) (S' : Sto), Gr ro1 ro' ∧ Ext H1 H' ∧ RelL ro' H' L' s ∧ RelS g ro' S' H' ∧ PostS g E ro' H' D (forL k.chk t bm (k.items.drop i) L' S'),
    ⟨_, rfl, Nat.zero_le _, ro1, L, S1, .refl _, .refl _, hL.mono gr ex, hS1, h⟩, ?_⟩
  rintro i m s' H' ⟨rfl, hi, ro', L', S', gr', ex', hL', hS', h⟩
  by_cases hlt : i < k.items.length
  · obtain ⟨d, hd, e⟩ := drop_at hlt
    rw [e] at h
    unfold forL at h
    split at h
    · rename_i hk
      obtain ⟨go, yl⟩ := (wk i ro' S' H' gr' ex' hS' hk).1 d hd
      refine .inr ⟨go, fun σ' H' => ∃ (ro' : List Addr) (L' : MP.Loc) (S' : Sto), Gr ro1 ro' ∧ Ext H1 H' ∧ RelL ro' H' L' σ' ∧ RelS g ro' S' H' ∧ PostS g E ro' H' D (forL k.chk t bm (k.items.drop (i + 1)) L' S'), fun σ' H' n' => ⟨_, by omega, rfl, hlt, n'⟩, fun x H2 hy => ?_⟩
      obtain ⟨ex2, hS2, rv⟩ := yl x H2 hy
      refine ⟨ro', L', S', d, hL'.mono (.refl _) ex2, hS2, rv, ?_⟩
      cases q : t d L' S' with
      | ok L1 S3 =>
        rw [q] at h
        intro ro3 H3 s3 gr3 ex3 hS3 hL3
        refine ⟨ro3, L1, S3, hL3, hS3, ?_⟩
        have h := PostS.mono gr3 (ex2.trans ex3) h
        simp only at h
        have up := gr'.trans gr3
        have ux := ex'.trans (ex2.trans ex3)
        cases z : bm L1 S3 with
        | nx L4 S4 =>
          rw [z] at h
          exact fun ro4 H4 s4 gr4 ex4 hS4 hL4 => ⟨ro4, L4, S4, up.trans gr4, ux.trans ex4, hL4, hS4, PostS.mono gr4 ex4 h⟩
        | ct L4 S4 =>
          rw [z] at h
          exact fun ro4 H4 s4 gr4 ex4 hS4 hL4 => ⟨ro4, L4, S4, up.trans gr4, ux.trans ex4, hL4, hS4, PostS.mono gr4 ex4 h⟩
        | bk L4 S4 => rw [z] at h; exact h
        | rt d4 S4 => rw [z] at h; exact h
        | exc x4 L4 S4 => rw [z] at h; exact h
        | err => rw [z] at h; exact h
      | exc x S3 => rw [q] at h; exact h.elim
      | err => rw [q] at h; exact h.elim
    · exact h.elim
  · have e : i = k.items.length := by omega
    subst e
    rw [List.drop_length] at h
    unfold forL at h
    split at h
    · rename_i hk
      exact .inl ⟨(wk _ ro' S' H' gr' ex' hS' hk).2 rfl, h ro' H' s' (.refl _) (.refl _) hS' hL'⟩
    · exact h.elim⟩

/-! ### while -/
theorem whileN_up {t : BM} {bm : SM} : ∀ {n m : Nat} {L : MP.Loc} {S : Sto}, n ≤ m → whileN t bm n L S ≠ .err → whileN t bm m L S = whileN t bm n L S
  | 0, _, L, S, _, h => absurd rfl h
  | n + 1, 0, L, S, hl, _ => by omega
  | n + 1, m + 1, L, S, hl, h => by
    unfold whileN at h ⊢
    cases q : t L S with
    | ok c S1 =>
      rw [q] at h
      simp only [R.st_ok] at h ⊢
      cases c with
      | true =>
        simp only [if_true] at h ⊢
        cases z : bm L S1 with
        | nx L2 S2 => rw [z] at h; exact whileN_up (by omega) h
        | ct L2 S2 => rw [z] at h; exact whileN_up (by omega) h
        | _ => rfl
      | false => rfl
    | exc x S1 => rfl
    | err => rfl
theorem sWhile_of {t : BM} {bm : SM} {n : Nat} {L : MP.Loc} {S : Sto} (h : whileN t bm n L S ≠ .err) : sWhile t bm L S = whileN t bm n L S := by
  have ex : ∃ n, whileN t bm n L S ≠ .err := ⟨n, h⟩
  unfold sWhile
  rw [dif_pos ex]
  have h2 := ex.choose_spec
  rcases Nat.le_total n ex.choose with l | l
  · exact whileN_up l h
  · exact (whileN_up l h2).symm
/-- one turn -/
theorem sWhile_eq (t : BM) (bm : SM) (L : MP.Loc) (S : Sto) : sWhile t bm L S = (t L S).st L fun c S1 => if c = true then (match bm L S1 with
    | .nx L2 S2 => sWhile t bm L2 S2
    | .ct L2 S2 => sWhile t bm L2 S2
    | .bk L2 S2 => .nx L2 S2
    | r => r) else .nx L S1 := by
  by_cases ex : ∃ n, whileN t bm n L S ≠ .err
  · obtain ⟨n, h⟩ := ex
    rw [sWhile_of h]
    cases n with
    | zero => exact absurd rfl h
    | succ n =>
      unfold whileN at h ⊢
      cases q : t L S with
      | ok c S1 =>
        rw [q] at h
        simp only [R.st_ok] at h ⊢
        cases c with
        | true =>
          simp only [if_true] at h ⊢
          cases z : bm L S1 with
          | nx L2 S2 => rw [z] at h; exact (sWhile_of h).symm
          | ct L2 S2 => rw [z] at h; exact (sWhile_of h).symm
          | _ => rfl
        | false => rfl
      | exc x S1 => rfl
      | err => rfl
  · have e1 : sWhile t bm L S = .err := by unfold sWhile; rw [dif_neg ex]
    rw [e1]
    have e2 : ∀ n, whileN t bm n L S = .err := fun n => Classical.byContradiction fun z => ex ⟨n, z⟩
    cases q : t L S with
    | ok c S1 =>
      simp only [R.st_ok]
      cases c with
      | true =>
        simp only [if_true]
        have more : ∀ L2 S2, (bm L S1 = .nx L2 S2 ∨ bm L S1 = .ct L2 S2) → sWhile t bm L2 S2 = .err := fun L2 S2 z => by
          have e3 : ∀ n, whileN t bm n L2 S2 = .err := fun n => by
            have := e2 (n + 1)
            unfold whileN at this
            rw [q] at this
            simp only [R.st_ok, if_true] at this
            rcases z with z | z <;> (rw [z] at this; exact this)
          unfold sWhile
          rw [dif_neg fun ⟨n, h⟩ => h (e3 n)]
        have h1 := e2 1
        unfold whileN at h1
        rw [q] at h1
        simp only [R.st_ok, if_true] at h1
        cases z : bm L S1 with
        | nx L2 S2 => exact (more L2 S2 (.inl z)).symm
        | ct L2 S2 => exact (more L2 S2 (.inr z)).symm
        | bk L2 S2 => rw [z] at h1; cases h1
        | rt d S2 => rw [z] at h1; cases h1
        | exc x L2 S2 => rw [z] at h1; cases h1
        | err => rfl
      | false =>
        have h1 := e2 1
        unfold whileN at h1
        rw [q] at h1
        simp only [R.st_ok, Bool.false_eq_true, if_false] at h1
        cases h1
    | exc x S1 =>
      have h1 := e2 1
      unfold whileN at h1
      rw [q] at h1
      cases h1
    | err => rfl
theorem ss_while {c : Expr} {body : List Stmt} {t : BM} {bm : SM} (hp : PassesOwn (model X.prog X.w) X.A X.env X.xe) (hc : ST X g E c t) (hb : SSs X g E body bm) : SS X g E (.While c body [] pos) (sWhile t bm) := ⟨ps_imp (ps_while hp hc.run hb.run) fun D s H ⟨ro, L, S, hL, hS, h⟩ => by
  by_cases ex : ∃ n, whileN t bm n L S ≠ .err
  · obtain ⟨n, hn⟩ := ex
    rw [sWhile_of hn] at h
    refine ⟨fun m s H' => ∃ (ro' : List Addr) (L' : MP.Loc) (S' : Sto), RelL ro' H' L' s ∧ RelS g ro' S' H' ∧ PostS g E ro' H' D (whileN t bm m L' S'), ⟨n, ro, L, S, hL, hS, h⟩, ?_⟩
    rintro m s' H' ⟨ro', L', S', hL', hS', h⟩
    refine ⟨ro', L', S', hL', hS', ?_⟩
    cases m with
    | zero => exact h.elim
    | succ m =>
      unfold whileN at h
      refine PostS.st h fun d S1 ro1 H1 v gr ex hS1 rv h => ?_
      obtain rfl : d = v := rv
      cases d with
      | true =>
        rw [if_pos rfl] at h ⊢
        refine ⟨fun s H' => ∃ (ro' : List Addr) (L' : MP.Loc) (S' : Sto), RelL ro' H' L' s ∧ RelS g ro' S' H' ∧ PostS g E ro' H' D (whileN t bm m L' S'), fun s' H' n' => ⟨m, Nat.lt_succ_self _, n'⟩, ro1, L', S1, hL'.mono gr ex, hS1, ?_⟩
        cases z : bm L' S1 with
        | nx L4 S4 =>
          rw [z] at h
          exact fun ro4 H4 s4 gr4 ex4 hS4 hL4 => ⟨ro4, L4, S4, hL4, hS4, PostS.mono gr4 ex4 h⟩
        | ct L4 S4 =>
          rw [z] at h
          exact fun ro4 H4 s4 gr4 ex4 hS4 hL4 => ⟨ro4, L4, S4, hL4, hS4, PostS.mono gr4 ex4 h⟩
        | bk L4 S4 => rw [z] at h; exact h
        | rt d4 S4 => rw [z] at h; exact h
        | exc x4 L4 S4 => rw [z] at h; exact h
        | err => rw [z] at h; exact h
      | false =>
        rw [if_neg Bool.false_ne_true] at h ⊢
        exact h ro1 H1 s' (.refl _) (.refl _) hS1 (hL'.mono gr ex)
  · have e1 : sWhile t bm L S = .err := by unfold sWhile; rw [dif_neg ex]
    rw [e1] at h
    exact h.elim⟩
end
end MP

namespace MP
open PySem L2
/-! ### targets that store names of their own alone -/
def rdGw (g : G) (vs : List Nat) (t : TM) : TG := fun v s H Q => ∃ (ro : List Addr) (L : Loc) (S : Sto) (d : D), RelL ro H L s ∧ RelS g ro S H ∧ RelD ro H d v ∧
  ∃ L', t d L S = .ok L' S ∧ ∀ (H' : Hp) (s' : St), Ext H H' → RelS g ro S H' → RelL ro H' L' s' → L2.wipe s' vs = L2.wipe s vs → Q s' H'
def rdGws (g : G) (vs : List Nat) (t : List D → Loc → Sto → R Loc) : TGs := fun us s H Q => ∃ (ro : List Addr) (L : Loc) (S : Sto) (ds : List D), RelL ro H L s ∧ RelS g ro S H ∧ RelDs ro H ds us ∧
  ∃ L', t ds L S = .ok L' S ∧ ∀ (H' : Hp) (s' : St), Ext H H' → RelS g ro S H' → RelL ro H' L' s' → L2.wipe s' vs = L2.wipe s vs → Q s' H'
structure SGw (X : Cx) (g : G) (vs : List Nat) (tg : Expr) (t : TM) : Prop where
  run : PG X tg (rdGw g vs t)
structure SGws (X : Cx) (g : G) (vs : List Nat) (tg : List Expr) (t : List D → Loc → Sto → R Loc) : Prop where
  run : PGs X tg (rdGws g vs t)
/-- the store stays -/
class PureT (t : TM) : Prop where
  same : ∀ d L S L' S', t d L S = .ok L' S' → S' = S
class PureTs (t : List D → Loc → Sto → R Loc) : Prop where
  same : ∀ d L S L' S', t d L S = .ok L' S' → S' = S
instance (i : Nat) : PureT (gV i) := ⟨fun d L S L' S' h => by cases h; rfl⟩
instance : PureTs MP.gNil := ⟨fun d L S L' S' h => by
  unfold MP.gNil at h
  split at h
  · cases h; rfl
  · cases h⟩
instance (t : TM) (u : List D → Loc → Sto → R Loc) [p : PureT t] [q : PureTs u] : PureTs (MP.gCons t u) := ⟨fun d L S L' S' h => by
  unfold MP.gCons at h
  cases d with
  | nil => cases h
  | cons d ds =>
    simp only at h
    cases z : t d L S with
    | ok L1 S1 =>
      obtain rfl := p.same _ _ _ _ _ z
      rw [z] at h
      exact q.same _ _ _ _ _ h
    | exc x S1 => rw [z] at h; cases h
    | err => rw [z] at h; cases h⟩
instance (n : Nat) (u : List D → Loc → Sto → R Loc) [q : PureTs u] : PureT (MP.gTup n u) := ⟨fun d L S L' S' e1 => by
  unfold MP.gTup at e1
  cases d with
  | tup ds =>
    simp only at e1
    split at e1
    · exact q.same _ _ _ _ _ e1
    · cases e1
  | _ => cases e1⟩
theorem wipe_set {s : St} {i : Nat} {x : Option V} : ∀ {vs : List Nat}, i ∈ vs → L2.wipe (s.set i x) vs = L2.wipe s vs
  | [], h => by simp at h
  | v :: vs, h => by
    unfold L2.wipe
    by_cases hv : i ∈ vs
    · rw [wipe_set hv]
    · have e : i = v := by
        rcases List.mem_cons.mp h with h | h
        · exact h
        · exact absurd h hv
      subst e
      have out : ∀ {ws : List Nat} {s : St} {y : Option V}, i ∉ ws → L2.wipe (s.set i y) ws = (L2.wipe s ws).set i y := by
        intro ws
        induction ws with
        | nil => intro s y _; rfl
        | cons w ws ih =>
          intro s y hn
          unfold L2.wipe
          rw [ih fun z => hn (List.mem_cons_of_mem _ z), List.set_comm _ _ (fun z => hn (by rw [z]; exact List.mem_cons_self))]
      rw [out hv, List.set_set]
theorem wipe_at {s : St} {i : Nat} : ∀ {vs : List Nat}, (L2.wipe s vs)[i]? = if i ∈ vs then s[i]?.map (fun _ => none) else s[i]?
  | [] => by simp [L2.wipe]
  | v :: vs => by
    unfold L2.wipe
    by_cases e : v = i
    · subst e
      rw [if_pos List.mem_cons_self]
      by_cases h : v < s.length
      · rw [List.getElem?_set_self (by rw [wipe_length]; exact h), List.getElem?_eq_getElem h]
        rfl
      · rw [List.getElem?_eq_none (by rw [List.length_set, wipe_length]; omega), List.getElem?_eq_none (by omega)]
        rfl
    · rw [List.getElem?_set_ne e, wipe_at]
      by_cases h : i ∈ vs
      · rw [if_pos h, if_pos (List.mem_cons_of_mem _ h)]
      · rw [if_neg h, if_neg (fun z => (List.mem_cons.mp z).elim (fun q => e q.symm) h)]
theorem wipe_wipe {s : St} {vs : List Nat} : L2.wipe (L2.wipe s vs) vs = L2.wipe s vs := by
  apply List.ext_getElem?
  intro i
  rw [wipe_at, wipe_at]
  split
  · cases s[i]? <;> rfl
  · rfl
section
variable {X : Cx} {g : G} {E : XK} {tg e a b o : Expr} {m ma mb : EM} {pos p : Pos} {vs : List Nat}
theorem sgw_name (i : Nat) {x : Str} (hv : i ∈ vs) (hN : X.N.Nodup) (hi : X.N[i]? = some x := by rfl) (hx : L2.Loc X.env.scope x := by first | exact Or.inl rfl | exact Or.inr rfl) (hf : X.fn x = true ∨ X.env.scope.names.lookup x = some .local := by first | exact Or.inr rfl | exact Or.inl rfl) : SGw X g vs (.Name x pos) (gV i) :=
  ⟨pg_imp (pg_name hN hi hx hf) fun v s H Q ⟨ro, L, S, d, hL, hS, rv, L', h1, h2⟩ => by
    cases h1
    exact h2 H _ (.refl _) hS (hL.set i rv) (wipe_set hv)⟩
theorem sgws_nil : SGws X g vs [] MP.gNil := ⟨pgs_imp pgs_nil fun v s H Q ⟨ro, L, S, ds, hL, hS, rv, L', h1, h2⟩ => by
  unfold MP.gNil at h1
  split at h1
  · rename_i e
    subst e
    cases h1
    exact ⟨rv.inv0, h2 H _ (.refl _) hS hL rfl⟩
  · cases h1⟩
theorem sgws_cons {es : List Expr} {t : TM} {u : List D → MP.Loc → Sto → R MP.Loc} [pt : PureT t] (h1 : SGw X g vs e t) (h2 : SGws X g vs es u) (hs : (assignEach (e :: es) X.env).map (·.2) = assign e X.env :: (assignEach es X.env).map (·.2) := by rfl) : SGws X g vs (e :: es) (MP.gCons t u) :=
  ⟨pgs_imp (pgs_cons h1.run h2.run hs) fun v s H Q ⟨ro, L, S, ds, hL, hS, rv, L', e1, e2⟩ => by
    unfold MP.gCons at e1
    cases ds with
    | nil => cases e1
    | cons d ds =>
      obtain ⟨x, r, rfl, r1, r2⟩ := rv.inv
      refine ⟨x, r, rfl, ro, L, S, d, hL, hS, r1, ?_⟩
      simp only at e1
      cases q : t d L S with
      | ok L1 S1 =>
        obtain rfl := pt.same _ _ _ _ _ q
        rw [q] at e1
        exact ⟨L1, rfl, fun H' s' ex R rl w => ⟨ro, L1, S1, ds, rl, R, RelDs.mono (.refl _) ex.tup _ _ r2, L', e1, fun H2 s2 ex2 R2 rl2 w2 => e2 H2 s2 (ex.trans ex2) R2 rl2 (w2.trans w)⟩⟩
      | exc x S1 => rw [q] at e1; cases e1
      | err => rw [q] at e1; cases e1⟩
theorem sgw_tup {es : List Expr} {k : Nat} {u : List D → MP.Loc → Sto → R MP.Loc} {n : Nat} (hc : X.calm = true) (h : SGws X g vs es u) (hn : (assignEach es X.env).length = n := by rfl) (hst : (assignEach es X.env).findIdx? (·.1) = none := by rfl) : SGw X g vs (.Tuple es k pos) (MP.gTup n u) :=
  ⟨pg_imp (pg_tup hc h.run hn hst) fun v s H Q ⟨ro, L, S, d, hL, hS, rv, L', e1, e2⟩ => by
    cases d with
    | tup ds =>
      obtain ⟨a, ws, rfl, ha, r⟩ := rv.tup_inv
      unfold MP.gTup at e1
      simp only at e1
      split at e1
      · rename_i hn
        exact ⟨a, ws, rfl, SqT.of ha, by rw [← r.length]; exact hn, ro, L, S, ds, hL, hS, r, L', e1, e2⟩
      · cases e1
    | _ => cases e1⟩

/-! ### comprehensions -/
structure STs (X : Cx) (g : G) (E : XK) (ifs : List Expr) (t : BM) : Prop where
  run : PTs X ifs (rdT g E t)
theorem sts_nil : STs X g E [] MP.tYes := ⟨⟨fun pins s σ H Q I ⟨ro, L, S, hL, hS, h⟩ => pts_nil.run pins s σ H Q I (h ro H _ (.refl _) (.refl _) hS rfl)⟩⟩
theorem sts_one {t : BM} (h : ST X g E a t) : STs X g E [a] t := ⟨pts_one h.run⟩
theorem lc_rd {iter : Expr} {vs : List Nat} {w : WM} {t : TM} {tt : BM} {em : EM} [pt : PureT t] {s : St} {H : Hp} {Q : VK} (h : rdE g E (eLc w t tt em vs) s H Q) : tLc (rd (WkOk g) g E w) (rdGw g vs t) (rdT g E0 tt) (rdE g E0 em) vs s H Q := by
    obtain ⟨ro, L, S, hL, hS, h⟩ := h
    refine ⟨ro, L, S, hL, hS, Post.bind h fun k S1 ro1 H1 J gr ex hS1 wk h => ?_⟩
    intro D hD
    have hL1 := (RelL.mono gr ex.tup hL).wipe vs
    have hS2 : RelS g (ro1 ++ [D]) (S1 ++ [.lst []]) (upd H1 D (.lst [])) := hS1.push hD ⟨[], .nil, upd_same⟩
    have hDn : (ro1 ++ [D])[S1.length]? = some D := by rw [← hS1.len, List.getElem?_append_right (Nat.le_refl _), Nat.sub_self] <;> rfl
    generalize hn : S1.length = n at h hDn
    refine ⟨fun i m H' => m = k.items.length - i ∧ i ≤ k.items.length ∧ ∃ (ro' : List Addr) (S' : Sto), Gr (ro1 ++ [D]) ro' ∧ Ext (upd H1 D (.lst [])) H' ∧ RelS g ro' S' H' ∧ Post RelD g E ro' H' Q (lcL k.chk t tt em (MP.wipe L vs) n (k.items.drop i) S'),
      ⟨_, rfl, Nat.zero_le _, _, _, .refl _, .refl _, hS2, Post.mono (.snoc _ _) (.new hD) h⟩, ?_⟩
    rintro i m H' ⟨rfl, hi, ro', S', gr', ex', hS', h⟩
    have gr1 := (Gr.snoc ro1 D).trans gr'
    have ex1 := (Ext.new hD).trans ex'
    by_cases hlt : i < k.items.length
    · obtain ⟨d, hd, e⟩ := drop_at hlt
      rw [e] at h
      unfold lcL at h
      split at h
      · rename_i hk
        obtain ⟨go, yl⟩ := (wk i ro' S' H' gr1 ex1 hS' hk).1 d hd
        refine .inr ⟨go, fun H' => ∃ (ro' : List Addr) (S' : Sto), Gr (ro1 ++ [D]) ro' ∧ Ext (upd H1 D (.lst [])) H' ∧ RelS g ro' S' H' ∧ Post RelD g E ro' H' Q (lcL k.chk t tt em (MP.wipe L vs) n (k.items.drop (i + 1)) S'), fun H' n' => ⟨_, by omega, rfl, hlt, n'⟩, fun x H2 hy => ?_⟩
        obtain ⟨ex2, hS3, rv⟩ := yl x H2 hy
        cases q : t d (MP.wipe L vs) S' with
        | ok L1 S3 =>
          rw [q] at h
          obtain rfl : S3 = S' := pt.same _ _ _ _ _ q
          refine ⟨ro', _, S3, d, RelL.mono (.refl _) ex2.tup (RelL.mono gr1 ex1.tup hL1), hS3, rv, L1, q, fun H3 s3 ex3 hS4 hL4 hw => ⟨hw.trans wipe_wipe, ro', L1, S3, hL4, hS4, ?_⟩⟩
          simp only at h
          cases z : tt L1 S3 with
          | ok kb S4 =>
            rw [z] at h
            intro ro4 H4 v4 gr4 ex4 hS5 rv4
            obtain rfl : kb = v4 := rv4
            cases kb with
            | true =>
              rw [if_pos rfl]
              simp only at h
              refine ⟨ro4, L1, S4, RelL.mono gr4 ex4.tup hL4, hS5, ?_⟩
              cases y : em L1 S4 with
              | ok d5 S5 =>
                rw [y] at h
                intro ro5 H5 v5 gr5 ex5 hS6 rv5
                simp only at h
                split at h
                · rename_i acc ha
                  have hD5 : ro5[n]? = some D := gr5 _ _ (gr4 _ _ (gr' _ _ hDn))
                  obtain ⟨us, r5, q5⟩ := hS6.at hD5 ha
                  split at h
                  · rename_i hz
                    refine ⟨us, q5, by rw [← r5.length, ← sz_eq]; exact hz, ro5, S5.set n (.lst (acc ++ [d5])), gr'.trans (gr4.trans gr5), ?_, ?_, ?_⟩
                    · exact ex'.trans (ex2.trans (ex3.trans (ex4.trans (ex5.trans (.put q5 lst_tup lst_frz)))))
                    · exact hS6.put hD5 ha (fun z => z.elim) (fun z => z.elim) q5 ⟨us ++ [v5], RelDs.mono (.refl _) (.put q5 lst_tup) _ _ (r5.append (.cons rv5 .nil)), upd_same⟩ nu_lst
                    · exact Post.mono (gr4.trans gr5) (ex2.trans (ex3.trans (ex4.trans (ex5.trans (.put q5 lst_tup lst_frz))))) h
                  · exact h.elim
                · exact h.elim
              | exc x5 S5 => rw [y] at h; exact h.elim
              | err => rw [y] at h; exact h.elim
            | false =>
              rw [if_neg Bool.false_ne_true]
              exact ⟨ro4, S4, gr'.trans gr4, ex'.trans (ex2.trans (ex3.trans ex4)), hS5, Post.mono gr4 (ex2.trans (ex3.trans ex4)) h⟩
          | exc x4 S4 => rw [z] at h; exact h.elim
          | err => rw [z] at h; exact h.elim
        | exc x3 S3 => rw [q] at h; exact h.elim
        | err => rw [q] at h; exact h.elim
      · exact h.elim
    · have e : i = k.items.length := by omega
      subst e
      rw [List.drop_length] at h
      unfold lcL at h
      split at h
      · rename_i hk
        exact .inl ⟨(wk _ ro' S' H' gr1 ex1 hS' hk).2 rfl, h ro' H' _ (.refl _) (.refl _) hS' (.ref_mk (gr' _ _ hDn))⟩
      · exact h.elim
theorem se_lc {iter elt : Expr} {ifs : List Expr} {scope : Scope} {own : List (Str × Nat)} {w : WM} {t : TM} {tt : BM} {em : EM} [pt : PureT t] (hc : X.calm = true) (hN : X.N.Nodup) (hi : SI X g E tg iter w) (ok : BlkOk X.N X.env.scope scope own)
    (hg : ∀ (s : Shared) (H : Hp) (C : Addr) (cl : List (Str × Addr)) (fp : List Addr), SGw (X.blk s H scope (compEnvC scope cl C X.env) fp) g (own.map (·.2)) tg t) (ht : ∀ (s : Shared) (H : Hp) (C : Addr) (cl : List (Str × Addr)) (fp : List Addr), STs (X.blk s H scope (compEnvC scope cl C X.env) fp) g E0 ifs tt)
    (he : ∀ (s : Shared) (H : Hp) (C : Addr) (cl : List (Str × Addr)) (fp : List Addr), SE (X.blk s H scope (compEnvC scope cl C X.env) fp) g E0 elt em) (hs : ∀ x, foldedSetIterable iter X.env x = pure x := by intro _; rfl) :
    SE X g E (.ListComp elt [⟨tg, iter, ifs, 0⟩] scope pos) (eLc w t tt em (own.map (·.2))) :=
  ⟨pe_imp (pe_lc hc hN hi.run ok (fun s H C cl fp => (hg s H C cl fp).run) (fun s H C cl fp => (ht s H C cl fp).run) (fun s H C cl fp => (he s H C cl fp).run) hs) fun s H Q h => lc_rd (iter := iter) h⟩
end
end MP

namespace MP
open PySem L2 PySem.Spec PyProof.Rows
/-- the promise of a def that computes F -/
def spM (g : G) (F : Fn) : Sp := fun vs H Q E => ∃ (ro : List Addr) (S : Sto) (ds : List D), RelS g ro S H ∧ RelDs ro H ds vs ∧ Post RelD g E ro H Q (F ds S)
abbrev FOk (g : G) (k : Nat) (f : Addr) (fd : FuncData) (ps : List Str) (F : Fn) : Prop := FnOk g.P g.w g.K g.mg g.base (L2N.CX g.P g.w) k f fd ps (spM g F)
/-- the name x is a def that computes F -/
def Df (g : G) (k : Nat) (x : Str) (F : Fn) : Prop := ∃ (f : Addr) (fd : FuncData) (ps : List Str), FOk g k f fd ps F ∧ g.mg x = some (.ref f) ∧ PySem.W.keepIn g.K (.ref f) = true ∧ Binds g.K fd ps []
/-- a method m of the class c -/
def Me (g : G) (k : Nat) (c : Nat) (m : Str) (F : Fn) : Prop := ∃ (f : Addr) (fd : FuncData) (ps : List Str), FOk g k f fd ps F ∧ Cls g.K (g.cls c) ∧ Meth g.K (g.cls c) m f ∧ Binds g.K fd ps []
/-- the name x is the class c, its __init__ computes F -/
def Mi (g : G) (k : Nat) (x : Str) (c : Nat) (F : Fn) : Prop := ∃ (f : Addr) (fd : FuncData) (ps : List Str), FOk g k f fd ps F ∧ g.mg x = some (.ref (g.cls c)) ∧ Mk g.K (g.cls c) f ∧ Binds g.K fd ps []
section
variable {X : Cx} {g : G} {E : XK} {e o : Expr} {es : List Expr} {m mo : EM} {ms : AM} {pos p apos : Pos} {k : Nat} {x : Str} {F : Fn}
theorem passM (c : Ctx g E X) : Passes (L2N.CX X.prog X.w) X E := L2N.passes_call c.takes fun _ _ _ _ h => h
theorem FOk.at (c : Ctx g E X) {f : Addr} {fd : FuncData} {ps : List Str} (h : FOk g k f fd ps F) : FnOk X.prog X.w X.K X.mg X.base (L2N.CX X.prog X.w) k f fd ps (spM g F) := by
  rw [c.P, c.w, c.K, c.mg, c.base]
  exact h
/-- f(e, ..) -/
theorem se_call (c : Ctx g E X) (d : Df g k x F) (hr : Room k X.A) (hg : Gl X x) (ha : SA X g E (e :: es) ms) (hdb : (x == ("__debug__" : Str)) = false := by decide) (he : starEach (e :: es) X.env = (false, eval e X.env) :: starEach es X.env := by rfl)
    (hpl : (backTo pos (starEach es X.env)).any (·.1) = false := by rfl) : SE X g E (.Call (.Name x p) (e :: es) [] pos) (eCall F ms) := by
  obtain ⟨f, fd, ps, h, hm, hk, hb⟩ := d
  refine ⟨pe_imp (pe_call (h.at c) hr hg (by rw [c.mg]; exact hm) (by rw [c.K]; exact hk) (by rw [c.K]; exact hb) .nil (passM c) ha.run hdb he hpl) fun s H Q ⟨ro, L, S, hL, hS, h⟩ => ?_⟩
  refine ⟨ro, L, S, hL, hS, Post.bind h fun ds S1 ro1 H1 vs gr ex hS1 rv h => ⟨ro1, S1, ds, hS1, by rw [List.append_nil]; exact rv, h⟩⟩
theorem se_call0 (c : Ctx g E X) (d : Df g k x F) (hr : Room k X.A) (hg : Gl X x) (hdb : (x == ("__debug__" : Str)) = false := by decide) : SE X g E (.Call (.Name x p) [] [] pos) (eCall F aNil) := by
  obtain ⟨f, fd, ps, h, hm, hk, hb⟩ := d
  exact ⟨pe_imp (pe_call0 (h.at c) hr hg (by rw [c.mg]; exact hm) (by rw [c.K]; exact hk) (by rw [c.K]; exact hb) .nil (passM c) hdb) fun s H Q ⟨ro, L, S, hL, hS, h⟩ => ⟨ro, S, [], hS, .nil, h⟩⟩
theorem fget_rel {ro : List Addr} {H : Hp} {f : Nat} : ∀ {fs : List (Nat × D)} {ws : List (Str × V)}, RelF g ro H fs ws → (∀ d, fget f fs = some d → ∃ v, ws.lookup (g.fname f) = some v ∧ RelD ro H d v) ∧ (fget f fs = none → ws.lookup (g.fname f) = none)
  | _, _, .nil => ⟨fun d h => by simp [fget] at h, fun _ => rfl⟩
  | (n, d) :: fs, (y, v) :: ws, .cons ⟨h1, h2⟩ t => by
    have h1 : y = g.fname n := h1
    subst h1
    obtain ⟨i1, i2⟩ := fget_rel t
    unfold fget
    by_cases q : f = n
    · subst q
      rw [if_pos rfl]
      refine ⟨fun d' e => ?_, fun e => by cases e⟩
      cases e
      exact ⟨v, by simp [List.lookup], h2⟩
    · rw [if_neg q]
      have z : (g.fname f == g.fname n) = false := by simpa using fun w => q (g.finj _ _ w)
      have l : ∀ r, ws.lookup (g.fname f) = r → List.lookup (g.fname f) ((g.fname n, v) :: ws) = r := fun r e => by simp [List.lookup, z, e]
      exact ⟨fun d' e => let ⟨v', a, b⟩ := i1 d' e; ⟨v', l _ a, b⟩, fun e => l _ (i2 e)⟩
theorem fput_rel {ro : List Addr} {H : Hp} {f : Nat} {d : D} {v : V} (r : RelD ro H d v) : ∀ {fs : List (Nat × D)} {ws : List (Str × V)}, RelF g ro H fs ws → RelF g ro H (fput f d fs) (putF (g.fname f) v ws)
  | _, _, .nil => .cons ⟨rfl, r⟩ .nil
  | (n, d') :: fs, (y, v') :: ws, .cons ⟨h1, h2⟩ t => by
    have h1 : y = g.fname n := h1
    subst h1
    unfold fput putF
    by_cases q : n = f
    · subst q
      rw [if_pos rfl, if_pos rfl]
      exact .cons ⟨rfl, r⟩ t
    · rw [if_neg q, if_neg fun w => q (g.finj _ _ w)]
      exact .cons ⟨rfl, h2⟩ (fput_rel r t)
theorem RelF.len {ro : List Addr} {H : Hp} : ∀ {fs : List (Nat × D)} {ws : List (Str × V)}, RelF g ro H fs ws → fs.length = ws.length
  | _, _, .nil => rfl
  | _, _, .cons _ t => by simp only [List.length_cons, RelF.len t]
/-- o.m(..) -/
theorem se_meth {c mi : Nat} {mn : Str} (cx : Ctx g E X) (d : Me g k c mn F) (hr : Room k X.A) (hmn : mn = g.fname mi) (ho : SE X g E o mo) (ha : SA X g E (e :: es) ms) {pl : Sem Bool}
    (hst : starEach (e :: es) X.env = (false, eval e X.env) :: starEach es X.env := by rfl) (hpl : (backTo pos (starEach es X.env)).any (·.1) = false := by rfl)
    (ht : eval (.Call (.Attribute o mn apos) (e :: es) [] pos) X.env = (do
      let ov ← eval o X.env
      standAt apos.atName
      let (f, first) ← holding [ov] (getMethod ov mn pl)
      callWith pos f first (backTo pos (starEach (e :: es) X.env)) (backToKw pos (keywordEach [] X.env))) := by rfl) :
    SE X g E (.Call (.Attribute o mn apos) (e :: es) [] pos) (eMeth c mi F mo ms) := by
  obtain ⟨f, fd, ps, h, hc, hm, hb⟩ := d
  refine ⟨pe_imp (pe_meth ho.run (by rw [cx.K]; exact hc) (by rw [cx.K]; exact hm) (h.at cx) hr (by rw [cx.K]; exact hb) .nil (passM cx) ha.run hst hpl ht) fun s H Q ⟨ro, L, S, hL, hS, h⟩ => ?_⟩
  refine ⟨ro, L, S, hL, hS, Post.bind h fun d S1 ro1 H1 v gr ex hS1 rv w => ?_⟩
  clear h
  cases d with
  | ref n =>
    obtain ⟨a, ha, rfl⟩ := rv.ref_inv
    simp only at w
    split at w
    · rename_i c' fs e1
      split at w
      · rename_i hc'
        obtain ⟨rfl, hf⟩ := hc'
        obtain ⟨dx, ws, r, q⟩ := hS1.at ha e1
        refine ⟨a, dx, ws, rfl, q, by rw [hmn]; exact (fget_rel r).2 hf, ro1, L, S1, hL.mono gr ex, hS1, Post.bind w fun ds S2 ro2 H2 vs gr2 ex2 hS2 rv2 w => ?_⟩
        exact ⟨ro2, S2, .ref n :: ds, hS2, .cons (.ref_mk (gr2 _ _ ha)) (by rw [List.append_nil]; exact rv2), w⟩
      · exact w.elim
    · exact w.elim
  | _ => exact w.elim
theorem se_meth0 {c mi : Nat} {mn : Str} (cx : Ctx g E X) (d : Me g k c mn F) (hr : Room k X.A) (hmn : mn = g.fname mi) (ho : SE X g E o mo) {pl : Sem Bool}
    (ht : eval (.Call (.Attribute o mn apos) [] [] pos) X.env = (do
      let ov ← eval o X.env
      standAt apos.atName
      let (f, first) ← holding [ov] (getMethod ov mn pl)
      callWith pos f first (backTo pos (starEach [] X.env)) (backToKw pos (keywordEach [] X.env))) := by rfl) :
    SE X g E (.Call (.Attribute o mn apos) [] [] pos) (eMeth c mi F mo aNil) := by
  obtain ⟨f, fd, ps, h, hc, hm, hb⟩ := d
  refine ⟨pe_imp (pe_meth0 ho.run (by rw [cx.K]; exact hc) (by rw [cx.K]; exact hm) (h.at cx) hr (by rw [cx.K]; exact hb) .nil (passM cx) ht) fun s H Q ⟨ro, L, S, hL, hS, h⟩ => ?_⟩
  refine ⟨ro, L, S, hL, hS, Post.bind h fun d S1 ro1 H1 v gr ex hS1 rv w => ?_⟩
  clear h
  cases d with
  | ref n =>
    obtain ⟨a, ha, rfl⟩ := rv.ref_inv
    simp only at w
    split at w
    · rename_i c' fs e1
      split at w
      · rename_i hc'
        obtain ⟨rfl, hf⟩ := hc'
        obtain ⟨dx, ws, r, q⟩ := hS1.at ha e1
        exact ⟨a, dx, ws, rfl, q, by rw [hmn]; exact (fget_rel r).2 hf, ro1, S1, [.ref n], hS1, .cons (.ref_mk ha) .nil, w⟩
      · exact w.elim
    · exact w.elim
  | _ => exact w.elim
/-- what is wanted behind C(..) -/
theorem make_rd {c : Nat} {ro : List Addr} {H : Hp} {S : Sto} {ds : List D} {vs : List V} {Q : VK} (hS : RelS g ro S H) (rv : RelDs ro H ds vs)
    (h : Post RelD g E ro H Q ((F (.ref S.length :: ds) (S ++ [.ins c []])).bind fun v S2 => if v = .non then .ok (.ref S.length) S2 else .err)) (y dx : Addr) (hy : H y = none) (hdx : H dx = none) (ne : dx ≠ y) :
    spM g F (.ref y :: vs) (upd (upd H dx (.own y)) y (.ins (g.cls c) dx [])) (fun v H2 => v = .non ∧ Q (.ref y) H2) E := by
  have hS1 : RelS g ro S (upd H dx (.own y)) := hS.aside hdx
  have hy1 : upd H dx (.own y) y = none := by rw [upd_ne (Ne.symm ne)]; exact hy
  have hS2 : RelS g (ro ++ [y]) (S ++ [.ins c []]) (upd (upd H dx (.own y)) y (.ins (g.cls c) dx [])) := hS1.push hy1 ⟨dx, [], .nil, upd_same⟩
  have ex : Ext H (upd (upd H dx (.own y)) y (.ins (g.cls c) dx [])) := (Ext.new hdx).trans (.new hy1)
  have hat : (ro ++ [y])[S.length]? = some y := by rw [← hS.len, List.getElem?_append_right (Nat.le_refl _), Nat.sub_self] <;> rfl
  refine ⟨ro ++ [y], _, _, hS2, .cons (.ref_mk hat) (RelDs.mono (.snoc _ _) ex.tup _ _ rv), Post.bind (Post.mono (.snoc _ _) ex h) fun d S3 ro3 H3 v gr3 ex3 hS3 rv3 h => ?_⟩
  split at h
  · rename_i e
    subst e
    exact ⟨rv3.non_inv, h ro3 H3 _ (.refl _) (.refl _) hS3 (.ref_mk (gr3 _ _ hat))⟩
  · exact h.elim
theorem se_make {c : Nat} (cx : Ctx g E X) (d : Mi g k x c F) (hr : Room (k + 1) X.A) (hg : Gl X x) (ha : SA X g E (e :: es) ms) (hdb : (x == ("__debug__" : Str)) = false := by decide) (he : starEach (e :: es) X.env = (false, eval e X.env) :: starEach es X.env := by rfl)
    (hpl : (backTo pos (starEach es X.env)).any (·.1) = false := by rfl) : SE X g E (.Call (.Name x p) (e :: es) [] pos) (eMake c F ms) := by
  obtain ⟨f, fd, ps, h, hm, hk, hb⟩ := d
  refine ⟨pe_imp (pe_make (by rw [cx.K]; exact hk) (h.at cx) hr hg (by rw [cx.mg]; exact hm) (by rw [cx.K]; exact hb) .nil (passM cx) ha.run hdb he hpl) fun s H Q ⟨ro, L, S, hL, hS, h⟩ => ?_⟩
  refine ⟨ro, L, S, hL, hS, Post.bind h fun ds S1 ro1 H1 vs gr ex hS1 rv h => ?_⟩
  intro y dx hy hdx ne
  rw [List.append_nil]
  exact make_rd hS1 rv h y dx hy hdx ne
theorem se_make0 {c : Nat} (cx : Ctx g E X) (d : Mi g k x c F) (hr : Room (k + 1) X.A) (hg : Gl X x) (hdb : (x == ("__debug__" : Str)) = false := by decide) : SE X g E (.Call (.Name x p) [] [] pos) (eMake c F aNil) := by
  obtain ⟨f, fd, ps, h, hm, hk, hb⟩ := d
  refine ⟨pe_imp (pe_make0 (by rw [cx.K]; exact hk) (h.at cx) hr hg (by rw [cx.mg]; exact hm) (by rw [cx.K]; exact hb) .nil (passM cx) hdb) fun s H Q ⟨ro, L, S, hL, hS, h⟩ => ?_⟩
  intro y dx hy hdx ne
  exact make_rd hS .nil h y dx hy hdx ne

/-! ### fields -/
theorem se_fld {c fi : Nat} {f : Str} (cx : Ctx g E X) (hf : f = g.fname fi) (hc : Cls g.K (g.cls c)) (hn : NoAttr g.K (g.cls c) f) (ho : SE X g E o mo) (hb : attributeBase o f X.env (eval o X.env) = eval o X.env := by rfl) : SE X g E (.Attribute o f pos) (eUn (opFld c fi) mo) :=
  ⟨pe_imp (pe_fld ho.run hb) fun s H Q ⟨ro, L, S, hL, hS, h⟩ => by
    refine ⟨ro, L, S, hL, hS, Post.bind h fun d S1 ro1 H1 v gr ex hS1 rv w => ?_⟩
    clear h
    cases d with
    | ref n =>
      obtain ⟨a, ha, rfl⟩ := rv.ref_inv
      simp only [opFld] at w
      split at w
      · rename_i c' fs e1
        split at w
        · rename_i hc'
          subst hc'
          obtain ⟨dx, ws, r, q⟩ := hS1.at ha e1
          split at w
          · rename_i d2 e2
            obtain ⟨v, l, r2⟩ := (fget_rel r).1 _ e2
            exact ⟨a, _, dx, ws, v, rfl, q, by rw [cx.K]; exact hc, by rw [cx.K]; exact hn, by rw [hf]; exact l, w ro1 H1 v (.refl _) (.refl _) hS1 r2⟩
          · exact w.elim
        · exact w.elim
      · exact w.elim
    | _ => exact w.elim⟩
theorem ss_fld {c fi : Nat} {f : Str} {pos' : Pos} (cx : Ctx g E X) (hf : f = g.fname fi) (hc : Cls g.K (g.cls c)) (hn : NoAttr g.K (g.cls c) f) (ho : SE X g E o mo) (he : SE X g E e m) (hs : swapsWith e (some (.Attribute o f pos')) pos.line X.env = pure false := by rfl) :
    SS X g E (.Assign [.Attribute o f pos'] e pos) (sAsg m (gFld c fi mo)) := ⟨ps_imp (ps_fld ho.run he.run hs) fun D s H ⟨ro, L, S, hL, hS, h⟩ => by
  refine ⟨ro, L, S, hL, hS, PostS.st h fun d S1 ro1 H1 v gr ex hS1 rv w => ?_⟩
  clear h
  refine ⟨ro1, L, S1, hL.mono gr ex, hS1, ?_⟩
  unfold gFld at w
  cases z : mo L S1 with
  | ok d2 S2 =>
    rw [z] at w
    simp only [R.bind_ok] at w
    intro ro2 H2 v2 gr2 ex2 hS2 rv2
    cases d2 with
    | ref n =>
      obtain ⟨a, ha, rfl⟩ := rv2.ref_inv
      simp only at w
      cases e1 : S2[n]? with
      | none => rw [e1] at w; exact w.elim
      | some ob =>
        rw [e1] at w
        cases ob with
        | ins c' fs =>
          simp only at w
          by_cases hc' : c' = c ∧ fs.length < 1000
          · rw [if_pos hc'] at w
            obtain ⟨rfl, hz⟩ := hc'
            obtain ⟨dx, ws, r, q⟩ := hS2.at ha e1
            refine ⟨a, _, dx, ws, rfl, q, by rw [cx.K]; exact hc, by rw [cx.K]; exact hn, by rw [← r.len]; exact hz, ?_⟩
            have ex3 : Ext H2 (upd H2 a (.ins (g.cls c') dx (putF f v ws))) := .put q ins_tup ins_frz
            have up := RelD.mono gr2 ex2.tup _ _ rv
            refine w ro2 _ s gr2 (ex2.trans ex3) (hS2.put ha e1 (fun z => z.elim) (fun z => z.elim) q ⟨dx, _, ?_, upd_same⟩ nu_ins) (RelL.mono gr2 (ex2.trans ex3).tup (RelL.mono gr ex.tup hL))
            rw [hf] at ex3 ⊢
            exact RelF.mono (.refl _) ex3.tup (fput_rel up r)
          · rw [if_neg hc'] at w; exact w.elim
        | _ => exact w.elim
    | _ => exact w.elim
  | exc x S2 => rw [z] at w; exact w.elim
  | err => rw [z] at w; exact w.elim⟩

/-! ### a def by its body -/
theorem df_body {y qual : Str} {st : Stmt} {f : Addr} {fd : FuncData} {N ps : List Str} {body : SM} (fn : Fun g.K y qual st f fd) (S : FnScope N ps (defScope st))
    (hb : ∀ (X : Cx) (E : XK), (∃ (cdv : Value) (A : Around) (outer : List Env) (s : Shared) (H : Hp), Room k (A.deeper (envOfC qual (defScope st) s.heap.objs.size f cdv)) ∧ X = cxOf (L2N.CX g.P g.w) g.P g.w g.K g.mg g.base N qual (defScope st) f cdv A outer s H E) → SSs X g E (defBody st) body) :
    FOk g (k + 1) f fd ps (MP.fn ps.length N.length body) := by
  obtain ⟨oc, od, kV, doc, pm, an, cdv, ct, osl, rfl, lk, hcd⟩ := fn.ex
  refine fn_of lk hcd S (fun vs H Q E ⟨ro, S, ds, hS, rv, h⟩ => ?_) fun A outer s H vs Q E hr ⟨ro, S', ds, hS, rv, h⟩ => ⟨_, (hb _ E ⟨cdv, A, outer, s, H, hr, rfl⟩).run, ?_⟩
  · unfold MP.fn at h
    split at h
    · rename_i e
      rw [← rv.length, e]
    · exact h.elim
  · unfold MP.fn at h
    split at h
    · rename_i e
      rw [← e] at h
      refine ⟨ro, _, S', RelL.start N rv, hS, ?_⟩
      cases z : body (ds.map some ++ List.replicate (N.length - ds.length) none) S' with
      | nx L1 S1 => rw [z] at h; exact fun ro' H' s' gr ex R r => h ro' H' _ gr ex R .non_mk
      | rt d S1 => rw [z] at h; exact h
      | exc x L1 S1 => rw [z] at h; exact h
      | bk L1 S1 => rw [z] at h; exact h.elim
      | ct L1 S1 => rw [z] at h; exact h.elim
      | err => rw [z] at h; exact h.elim
    · exact h.elim
/-- the context of a def's body -/
theorem ctx_of {cdv : Value} {A : Around} {outer : List Env} {s : Shared} {H : Hp} {N : List Str} {qual : Str} {sc : Scope} {f : Addr} (hr : Room k (A.deeper (envOfC qual sc s.heap.objs.size f cdv))) :
    Ctx g E (cxOf (L2N.CX g.P g.w) g.P g.w g.K g.mg g.base N qual sc f cdv A outer s H E) := ⟨rfl, rfl, rfl, rfl, rfl, L2N.takes_of rfl rfl rfl rfl, by have := hr.un; show (A.deeper _).units + 66 < cLine; omega⟩
theorem own_of {cdv : Value} {A : Around} {outer : List Env} {s : Shared} {H : Hp} {N : List Str} {qual : Str} {sc : Scope} {f : Addr} :
    PassesOwn (model (cxOf (L2N.CX g.P g.w) g.P g.w g.K g.mg g.base N qual sc f cdv A outer s H E).prog (cxOf (L2N.CX g.P g.w) g.P g.w g.K g.mg g.base N qual sc f cdv A outer s H E).w) (cxOf (L2N.CX g.P g.w) g.P g.w g.K g.mg g.base N qual sc f cdv A outer s H E).A
      (cxOf (L2N.CX g.P g.w) g.P g.w g.K g.mg g.base N qual sc f cdv A outer s H E).env (cxOf (L2N.CX g.P g.w) g.P g.w g.K g.mg g.base N qual sc f cdv A outer s H E).xe := passes_of (K := fun e s' => L2N.CX g.P g.w outer H s E e s') rfl
/-- .. of a comprehension's block -/
theorem ctx_blk {s : Shared} {H : Hp} {scope : Scope} {cenv : Env} {fp : List Addr} (c : Ctx g E X) : Ctx g E0 (X.blk s H scope cenv fp) := ⟨c.P, c.w, c.K, c.mg, c.base, fun u s' x => by
  obtain ⟨_, _, _, _, _, _, _, _, _, _, _, _, _, _, _, _, z⟩ := x
  exact z.elim, c.units⟩
end
end MP

namespace MP
open PySem L2
section
variable {X : Cx} {g : G} {E : XK} {a b e c : Expr} {m ma mb : EM} {pos : Pos}
theorem o_ints {k : Value → Value → Sem Value} {f : Op2} (h : ∀ (i j : Int) (S : Sto) (pins : List (Addr × Obj)) (s : Shared) (σ : St) (H : Hp) (v u : Value) (Q : VK) (ro : List Addr), Inv X pins σ H s → RelV (.int i) v → RelV (.int j) u → RelS g ro S H → Post RelD g E ro H Q (f (.int i) (.int j) S) →
      wpAny (model X.prog X.w) X.A (k v u) (EP X pins σ Q) X.xe s) (hf : ∀ dx dy S, (∀ i j, ¬ (dx = .int i ∧ dy = .int j)) → f dx dy S = .err) : O2 X g E k f := by
  intro pins s σ H x y v u Q I rx ry ⟨ro, S, dx, dy, hS, r1, r2, w⟩
  by_cases q : ∃ i j, dx = .int i ∧ dy = .int j
  · obtain ⟨i, j, rfl, rfl⟩ := q
    rw [r1.int_inv] at rx
    rw [r2.int_inv] at ry
    exact h i j S pins s σ H v u Q ro I rx ry hS w
  · rw [hf dx dy S fun i j z => q ⟨i, j, z⟩] at w
    exact w.elim
theorem o_cmp {k : Value → Value → Sem Value} {p : Int → Int → Bool} (h : OpR X k (rI0 fun i j => .bl (p i j))) : O2 X g E k (opCmp p) :=
  o_ints (fun i j S pins s σ H v u Q ro I rx ry hS w => h pins s σ H _ _ v u Q I rx ry ⟨i, j, rfl, rfl, w ro H _ (.refl _) (.refl _) hS .bl_mk⟩) fun dx dy S q => by
    unfold opCmp
    split
    · exact (q _ _ ⟨rfl, rfl⟩).elim
    · rfl
theorem o_lt : O2 X g E (compareOp .Lt) opLt := o_cmp op_lt
theorem o_le : O2 X g E (compareOp .LtE) opLe := o_cmp op_le
theorem o_gt : O2 X g E (compareOp .Gt) opGt := o_cmp op_gt
theorem o_ge : O2 X g E (compareOp .GtE) opGe := o_cmp op_ge
theorem o_sub : O2 X g E (binaryOp .Sub) opSub :=
  o_ints (fun i j S pins s σ H v u Q ro I rx ry hS w => op_sub pins s σ H _ _ v u Q I rx ry ⟨i, j, rfl, rfl, w ro H _ (.refl _) (.refl _) hS .int_mk⟩) fun dx dy S q => by
    unfold opSub
    split
    · exact (q _ _ ⟨rfl, rfl⟩).elim
    · rfl
theorem o_mod : O2 X g E (binaryOp .Mod) opMod :=
  o_ints (fun i j S pins s σ H v u Q ro I rx ry hS w => by
    simp only [opMod] at w
    split at w
    · rename_i hj
      exact op_mod pins s σ H _ _ v u Q I rx ry ⟨i, j, rfl, rfl, hj, w ro H _ (.refl _) (.refl _) hS .int_mk⟩
    · exact w.elim) fun dx dy S q => by
    unfold opMod
    split
    · exact (q _ _ ⟨rfl, rfl⟩).elim
    · rfl
theorem o_div : O2 X g E (binaryOp .FloorDiv) opDiv :=
  o_ints (fun i j S pins s σ H v u Q ro I rx ry hS w => by
    simp only [opDiv] at w
    split at w
    · rename_i hj
      have z : j.natAbs < 2 ^ 200 := by
        have h1 := hj.1
        have h2 := hj.2
        omega
      exact op_fdivW pins s σ H _ _ v u Q I rx ry ⟨i, j, rfl, rfl, wide_div hj.1 z (by decide) (by decide), w ro H _ (.refl _) (.refl _) hS .int_mk⟩
    · exact w.elim) fun dx dy S q => by
    unfold opDiv
    split
    · exact (q _ _ ⟨rfl, rfl⟩).elim
    · rfl
theorem o_pow : O2 X g E (binaryOp .Pow) opPow :=
  o_ints (fun i j S pins s σ H v u Q ro I rx ry hS w => by
    simp only [opPow] at w
    split at w
    · rename_i hj
      exact op_pow pins s σ H _ _ v u Q I rx ry ⟨i, j, rfl, rfl, hj, w ro H _ (.refl _) (.refl _) hS .int_mk⟩
    · exact w.elim) fun dx dy S q => by
    unfold opPow
    split
    · exact (q _ _ ⟨rfl, rfl⟩).elim
    · rfl
theorem okS_app {x y : List Nat} (h1 : ∀ c ∈ x, c < 0x110000) (h2 : ∀ c ∈ y, c < 0x110000) : ∀ c ∈ x ++ y, c < 0x110000 := fun c hc => (List.mem_append.mp hc).elim (h1 c) (h2 c)
theorem str_len (x : List Nat) : (⟨x.toArray⟩ : Str).length = x.length := SX.S_len x
theorem o_add (cx : Ctx g E X) : O2 X g E (binaryOp .Add) opAdd := by
  intro pins s σ H x y v u Q I rx ry ⟨ro, S, dx, dy, hS, r1, r2, w⟩
  cases dx with
  | int i =>
    cases dy with
    | int j => exact op_add pins s σ H x y v u Q I rx ry ⟨i, j, r1.int_inv, r2.int_inv, w ro H _ (.refl _) (.refl _) hS .int_mk⟩
    | _ => exact w.elim
  | str i =>
    cases dy with
    | str j =>
      simp only [opAdd] at w
      split at w
      · rename_i hz
        obtain ⟨e1, k1⟩ := r1.str_inv
        obtain ⟨e2, k2⟩ := r2.str_inv
        refine op_add_str pins s σ H x y v u Q I rx ry ⟨_, _, e1, e2, by rw [str_len, str_len, ← sz_eq]; exact hz, ?_⟩
        have q := w ro H _ (.refl _) (.refl _) hS (.str_mk (okS_app k1 k2))
        rw [SX.S_cat]
        exact q
      · exact w.elim
    | _ => exact w.elim
  | tup i =>
    cases dy with
    | tup j =>
      simp only [opAdd] at w
      split at w
      · rename_i hz
        obtain ⟨p1, xs, e1, h1, q1⟩ := r1.tup_inv
        obtain ⟨p2, ys, e2, h2, q2⟩ := r2.tup_inv
        refine op_catA pins s σ H x y v u Q I rx ry ⟨p1, p2, xs, ys, e1, e2, SqT.of h1, SqT.of h2, by rw [← q1.length, ← q2.length, ← sz_eq]; exact hz, fun z => ?_, fun _ z => ?_, fun _ _ p hp => ?_⟩
        · subst z
          have : i = [] := List.length_eq_zero_iff.mp (by rw [q1.length]; rfl)
          subst this
          exact w ro H _ (.refl _) (.refl _) hS (.tup_mk h2 q2)
        · subst z
          have : j = [] := List.length_eq_zero_iff.mp (by rw [q2.length]; rfl)
          subst this
          rw [List.append_nil] at w
          exact w ro H _ (.refl _) (.refl _) hS (.tup_mk h1 q1)
        · exact w ro _ _ (.refl _) (.new hp) (hS.aside hp) (.tup_mk upd_same (RelDs.mono (.refl _) (.new hp) _ _ (q1.append q2)))
      · exact w.elim
    | _ => exact w.elim
  | ref i =>
    cases dy with
    | ref j =>
      obtain ⟨p1, h1, e1⟩ := r1.ref_inv
      obtain ⟨p2, h2, e2⟩ := r2.ref_inv
      simp only [opAdd] at w
      split at w
      · rename_i xs ys z1 z2
        split at w
        · rename_i hz
          obtain ⟨vs1, q1, t1⟩ := hS.at h1 z1
          obtain ⟨vs2, q2, t2⟩ := hS.at h2 z2
          refine op_cat pins s σ H x y v u Q I rx ry ⟨p1, p2, vs1, vs2, e1, e2, t1, t2, by rw [← q1.length, ← q2.length, ← sz_eq]; exact hz, fun p hp => ?_⟩
          exact w.push hS hp ⟨_, RelDs.mono (.snoc _ _) (.new hp) _ _ (q1.append q2), upd_same⟩
        · exact w.elim
      · exact w.elim
    | _ => exact w.elim
  | _ => cases dy <;> exact w.elim
theorem mulOk_ok {i j : Int} (h : mulOk i j = true) : IntMulOk i j := by
  unfold mulOk at h
  simp only [Bool.or_eq_true, Bool.and_eq_true, decide_eq_true_eq] at h
  rcases h with (⟨h1, h2⟩ | ⟨h1, h2⟩) | ⟨h1, h2⟩
  · exact CMul.ok (.inl ⟨h1, h2⟩)
  · exact CMul.ok (.inr ⟨h1, h2⟩)
  · exact CMulW.ok (wide_mul h1 h2 (by decide) (by decide) (by decide))
theorem flat_rep {ro : List Addr} {H : Hp} {ds : List D} {vs : List V} (h : RelDs ro H ds vs) : ∀ n : Nat, RelDs ro H (List.replicate n ds).flatten (List.replicate n vs).flatten
  | 0 => .nil
  | n + 1 => by
    rw [List.replicate_succ, List.replicate_succ, List.flatten_cons, List.flatten_cons]
    exact h.append (flat_rep h n)
theorem o_mul (cx : Ctx g E X) : O2 X g E (binaryOp .Mult) opMul := by
  intro pins s σ H x y v u Q I rx ry ⟨ro, S, dx, dy, hS, r1, r2, w⟩
  cases dx with
  | int i =>
    cases dy with
    | int j =>
      simp only [opMul] at w
      split at w
      · rename_i hz
        rw [r1.int_inv] at rx
        rw [r2.int_inv] at ry
        obtain ⟨t, rfl⟩ := rx
        obtain ⟨t', rfl⟩ := ry
        exact PyProof.Rows.mul_int ⟨.int (i * j), H, I.tok _, ⟨_, rfl⟩, w ro H _ (.refl _) (.refl _) hS .int_mk⟩ (mulOk_ok hz)
      · exact w.elim
    | _ => exact w.elim
  | tup i =>
    cases dy with
    | int k =>
      simp only [opMul] at w
      split at w
      · rename_i hz
        obtain ⟨p1, xs, e1, h1, q1⟩ := r1.tup_inv
        refine op_repT pins s σ H x y v u Q I rx ry ⟨p1, k, xs, e1, r2.int_inv, SqT.of h1, fun z => hz.1 (List.length_eq_zero_iff.mp (by rw [q1.length, z]; rfl)), hz.2.1, hz.2.2.1, by rw [← q1.length]; exact hz.2.2.2, fun p hp => ?_⟩
        exact w ro _ _ (.refl _) (.new hp) (hS.aside hp) (.tup_mk upd_same (RelDs.mono (.refl _) (.new hp) _ _ (flat_rep q1 _)))
      · exact w.elim
    | _ => exact w.elim
  | ref n =>
    cases dy with
    | int k =>
      obtain ⟨p1, h1, e1⟩ := r1.ref_inv
      simp only [opMul] at w
      split at w
      · rename_i xs z1
        split at w
        · rename_i hz
          obtain ⟨vs1, q1, t1⟩ := hS.at h1 z1
          refine op_rep pins s σ H x y v u Q I rx ry ⟨p1, k, vs1, e1, r2.int_inv, t1, hz.1, hz.2.1, by rw [← q1.length, ← sz_eq]; exact hz.2.2, fun p hp => ?_⟩
          exact w.push hS hp ⟨_, RelDs.mono (.snoc _ _) (.new hp) _ _ (flat_rep q1 _), upd_same⟩
        · exact w.elim
      · exact w.elim
    | _ => exact w.elim
  | _ => cases dy <;> exact w.elim

/-! ### data compared -/
theorem reify_dp {ro : List Addr} {S : Sto} {H : Hp} (hS : RelS g ro S H) : ∀ (n : Nat) (d : D) (v : V) (p : PyData), RelD ro H d v → reify n S d = some p → Dp g.K H v p ∧ p.canLay0 = true ∧ p.depth ≤ n := by
  have str : ∀ (n : Nat) (x : List Nat) (v : V) (p : PyData), RelD ro H (.str x) v → p = .str ⟨x.toArray⟩ → Dp g.K H v p ∧ p.canLay0 = true ∧ p.depth ≤ n := by
    intro n x v p r e
    subst e
    obtain ⟨e, k⟩ := r.str_inv
    subst e
    refine ⟨.str _, ?_, Nat.zero_le _⟩
    simp only [PyData.canLay0, PyData.strOk]
    rw [Array.all_eq_true']
    intro c hc
    simpa using k c (by simpa using hc)
  intro n
  induction n with
  | zero =>
    intro d v p r e
    cases d with
    | non => cases e; rw [r.non_inv]; exact ⟨.non, rfl, Nat.le_refl _⟩
    | bl b => cases e; rw [r.bl_inv]; exact ⟨.bl b, rfl, Nat.le_refl _⟩
    | int b => cases e; rw [r.int_inv]; exact ⟨.int b, rfl, Nat.le_refl _⟩
    | str x => exact str 0 x v p r (by simpa [reify] using e.symm)
    | _ => simp [reify] at e
  | succ n ih =>
    have all : ∀ (ds : List D) (vs : List V) (ps : List PyData), RelDs ro H ds vs → ds.mapM (reify n S) = some ps → DpAll g.K H vs ps ∧ PyData.canLayAll0 ps = true ∧ PyData.depthAll ps ≤ n := by
      intro ds
      induction ds with
      | nil =>
        intro vs ps r e
        rw [List.mapM_nil] at e
        cases e
        rw [r.inv0]
        exact ⟨.nil, rfl, Nat.zero_le _⟩
      | cons d ds ihd =>
        intro vs ps r e
        rw [List.mapM_cons] at e
        obtain ⟨x, us, rfl, r1, r2⟩ := r.inv
        cases h1 : reify n S d with
        | none => rw [h1] at e; cases e
        | some p =>
          cases h2 : ds.mapM (reify n S) with
          | none => rw [h1, h2] at e; cases e
          | some qs =>
            rw [h1, h2] at e
            cases e
            obtain ⟨a1, a2, a3⟩ := ih d x p r1 h1
            obtain ⟨b1, b2, b3⟩ := ihd us qs r2 h2
            refine ⟨.cons a1 b1, ?_, ?_⟩
            · simp only [PyData.canLayAll0, a2, b2, Bool.and_self]
            · simp only [PyData.depthAll]
              omega
    intro d v p r e
    cases d with
    | non => cases e; rw [r.non_inv]; exact ⟨.non, rfl, Nat.zero_le _⟩
    | bl b => cases e; rw [r.bl_inv]; exact ⟨.bl b, rfl, Nat.zero_le _⟩
    | int b => cases e; rw [r.int_inv]; exact ⟨.int b, rfl, Nat.zero_le _⟩
    | str x => exact str (n + 1) x v p r (by simpa [reify] using e.symm)
    | tup ds =>
      obtain ⟨a, vs, rfl, ha, rr⟩ := r.tup_inv
      simp only [reify] at e
      cases h1 : ds.mapM (reify n S) with
      | none => rw [h1] at e; cases e
      | some ps =>
        rw [h1] at e
        cases e
        obtain ⟨b1, b2, b3⟩ := all ds vs ps rr h1
        refine ⟨.tup (SqT.of ha) b1, b2, ?_⟩
        simp only [PyData.depth]
        omega
    | ref k =>
      obtain ⟨a, ha, rfl⟩ := r.ref_inv
      simp only [reify] at e
      have go : ∀ (xs : List D) (vs : List V), SqL g.K H a vs → RelDs ro H xs vs → (xs.mapM (reify n S)).map PyData.list = some p → Dp g.K H (.ref a) p ∧ p.canLay0 = true ∧ p.depth ≤ n + 1 := by
        intro xs vs hs rr e
        cases h1 : xs.mapM (reify n S) with
        | none => rw [h1] at e; cases e
        | some ps =>
          rw [h1] at e
          cases e
          obtain ⟨b1, b2, b3⟩ := all xs vs ps rr h1
          refine ⟨.lst hs b1, b2, ?_⟩
          simp only [PyData.depth]
          omega
      split at e
      · rename_i xs z
        obtain ⟨vs, q, t⟩ := hS.at ha z
        exact go xs vs (SqL.of t) q e
      · rename_i xs z
        obtain ⟨vs, q, t⟩ := hS.at ha z
        exact go xs vs t.sq q e
      · cases e
    | exn _ _ => simp [reify] at e
theorem shaped_of {p : PyData} (h1 : p.canLay0 = true) (h2 : p.depth ≤ 60) : SeqAt.shaped p = true := by
  unfold SeqAt.shaped
  rw [h1, decide_eq_true (by omega : p.depth ≤ 64)]
  rfl
theorem o_eq (cx : Ctx g E X) : O2 X g E (compareOp .Eq) opEq := by
  intro pins s σ H x y v u Q I rx ry ⟨ro, S, dx, dy, hS, r1, r2, w⟩
  unfold opEq at w
  split at w
  · rename_i p q h1 h2
    obtain ⟨a1, a2, a3⟩ := reify_dp hS 60 dx x p r1 h1
    obtain ⟨b1, b2, b3⟩ := reify_dp hS 60 dy y q r2 h2
    exact op_eqD (by have := cx.units; omega) pins s σ H x y v u Q I rx ry ⟨p, q, by rw [cx.K]; exact a1, by rw [cx.K]; exact b1, shaped_of a2 a3, shaped_of b2 b3, w ro H _ (.refl _) (.refl _) hS .bl_mk⟩
  · exact w.elim
theorem o_ne (cx : Ctx g E X) : O2 X g E (compareOp .NotEq) opNe := by
  intro pins s σ H x y v u Q I rx ry ⟨ro, S, dx, dy, hS, r1, r2, w⟩
  unfold opNe at w
  split at w
  · rename_i p q h1 h2
    obtain ⟨a1, a2, a3⟩ := reify_dp hS 60 dx x p r1 h1
    obtain ⟨b1, b2, b3⟩ := reify_dp hS 60 dy y q r2 h2
    exact op_neD (by have := cx.units; omega) pins s σ H x y v u Q I rx ry ⟨p, q, by rw [cx.K]; exact a1, by rw [cx.K]; exact b1, shaped_of a2 a3, shaped_of b2 b3, w ro H _ (.refl _) (.refl _) hS .bl_mk⟩
  · exact w.elim
/-- is None .. -/
theorem se_isN {j : Nat} {pos2 : Pos} (ha : SE X g E a ma) : SE X g E (.Compare a [.Is] [.Constant .none j pos2] pos) (eUn opIsN ma) := ⟨pe_imp (pe_cmp (pc_isN ha.run) rfl) fun s H Q ⟨ro, L, S, hL, hS, h⟩ =>
  ⟨ro, L, S, hL, hS, Post.bind h fun d S1 ro1 H1 v gr ex hS1 rv w => by
    have q := w ro1 H1 _ (.refl _) (.refl _) hS1 .bl_mk
    have e : decide (d = .non) = decide (v = .non) := by
      cases d with
      | non => rw [rv.non_inv] <;> rfl
      | bl b => rw [rv.bl_inv] <;> rfl
      | int b => rw [rv.int_inv] <;> rfl
      | str b => rw [rv.str_inv.1] <;> rfl
      | tup b => obtain ⟨_, _, e, _⟩ := rv.tup_inv; rw [e] <;> rfl
      | ref b => obtain ⟨_, _, e⟩ := rv.ref_inv; rw [e] <;> rfl
      | exn _ _ => rw [rv.exn_inv] <;> rfl
    rw [e] at q
    exact q⟩⟩
theorem se_notN {j : Nat} {pos2 : Pos} (ha : SE X g E a ma) : SE X g E (.Compare a [.IsNot] [.Constant .none j pos2] pos) (eUn opNotN ma) := ⟨pe_imp (pe_cmp (pc_notN ha.run) rfl) fun s H Q ⟨ro, L, S, hL, hS, h⟩ =>
  ⟨ro, L, S, hL, hS, Post.bind h fun d S1 ro1 H1 v gr ex hS1 rv w => by
    have q := w ro1 H1 _ (.refl _) (.refl _) hS1 .bl_mk
    have e : decide (d = .non) = decide (v = .non) := by
      cases d with
      | non => rw [rv.non_inv] <;> rfl
      | bl b => rw [rv.bl_inv] <;> rfl
      | int b => rw [rv.int_inv] <;> rfl
      | str b => rw [rv.str_inv.1] <;> rfl
      | tup b => obtain ⟨_, _, e, _⟩ := rv.tup_inv; rw [e] <;> rfl
      | ref b => obtain ⟨_, _, e⟩ := rv.ref_inv; rw [e] <;> rfl
      | exn _ _ => rw [rv.exn_inv] <;> rfl
    rw [e] at q
    exact q⟩⟩
end
end MP

namespace MP
open PySem L2
section
variable {X : Cx} {g : G} {E : XK} {a b e c o : Expr} {es : List Expr} {m ma mb mo : EM} {ms : AM} {pos p apos : Pos}
/-! ### subscripts by values -/
theorem ixN_eq (n : Nat) (i : Int) : MP.ixN n i = L2.ixN n i := rfl
theorem atI_rel {ro : List Addr} {H : Hp} {ds : List D} {vs : List V} {i : Int} {d : D} (h : RelDs ro H ds vs) (e : MP.atI ds i = some d) : ∃ v, L2.atI vs i = some v ∧ RelD ro H d v := by
  unfold MP.atI at e
  unfold L2.atI
  rw [← h.length]
  cases q : MP.ixN ds.length i with
  | none => rw [q] at e; cases e
  | some j =>
    rw [q] at e
    rw [ixN_eq] at q
    rw [q]
    exact h.get e
theorem se_ix (cx : Ctx g E X) (ha : SE X g E a ma) (hb : SE X g E b mb) (hs : PlainIx b := by intro _ _; rfl) : SE X g E (.Subscript a b pos) (eBin opIx ma mb) :=
  ⟨pe_imp (pe_ix ix_seq ha.run hb.run hs) fun s H Q h => rd_bin (fun x y H Q ⟨ro, S, dx, dy, hS, r1, r2, w⟩ => by
    cases dx with
    | tup xs =>
      cases dy with
      | int i =>
        obtain ⟨p1, vs, e1, h1, q1⟩ := r1.tup_inv
        simp only [opIx] at w
        split at w
        · rename_i d z
          obtain ⟨v, z2, r⟩ := atI_rel q1 z
          exact .inr (.inl ⟨p1, vs, i, v, e1, r2.int_inv, SqT.of h1, z2, w ro H v (.refl _) (.refl _) hS r⟩)
        · exact w.elim
      | _ => exact w.elim
    | str z =>
      cases dy with
      | int i =>
        obtain ⟨e1, k1⟩ := r1.str_inv
        simp only [opIx] at w
        split at w
        · rename_i hz
          split at w
          · rename_i c z2
            refine .inr (.inr ⟨_, i, c, e1, r2.int_inv, by rw [str_len, ← sz_eq]; exact hz, ?_, ?_⟩)
            · show L2.atI z i = some c
              unfold L2.atI
              rw [← ixN_eq]
              exact z2
            · refine w ro H _ (.refl _) (.refl _) hS (.str_mk fun c' hc => ?_)
              rw [List.mem_singleton] at hc
              subst hc
              unfold MP.atI at z2
              cases q : MP.ixN z.length i with
              | none => rw [q] at z2; cases z2
              | some j => rw [q] at z2; exact k1 _ (List.mem_of_getElem? z2)
          · exact w.elim
        · exact w.elim
      | _ => exact w.elim
    | ref n =>
      cases dy with
      | int i =>
        obtain ⟨p1, h1, e1⟩ := r1.ref_inv
        simp only [opIx] at w
        split at w
        · rename_i xs z
          obtain ⟨vs, q, t⟩ := hS.at h1 z
          split at w
          · rename_i d z1
            obtain ⟨v, z2, r⟩ := atI_rel q z1
            exact .inl ⟨p1, vs, i, v, e1, r2.int_inv, SqL.of t, z2, w ro H v (.refl _) (.refl _) hS r⟩
          · exact w.elim
        · rename_i xs z
          obtain ⟨vs, q, t⟩ := hS.at h1 z
          split at w
          · rename_i d z1
            obtain ⟨v, z2, r⟩ := atI_rel q z1
            exact .inl ⟨p1, vs, i, v, e1, r2.int_inv, by rw [cx.K]; exact t.sq, z2, w ro H v (.refl _) (.refl _) hS r⟩
          · exact w.elim
        · exact w.elim
      | _ => exact w.elim
    | _ => cases dy <;> exact w.elim) h⟩
/-- x is True .. -/
theorem se_isB {k : Bool} {j : Nat} {pos2 : Pos} (ha : SE X g E a ma) : SE X g E (.Compare a [.Is] [.Constant (.bool k) j pos2] pos) (eUn (opIsB k) ma) :=
  ⟨pe_imp (pe_cmpR op_is_bl ha.run (se_bl (g := g) (E := E)).run rfl) fun s H Q ⟨ro, L, S, hL, hS, h⟩ => ⟨ro, L, S, hL, hS, Post.bind h fun d S1 ro1 H1 v gr ex hS1 rv w => ⟨ro1, L, S1, hL.mono gr ex, hS1, fun ro2 H2 v2 gr2 ex2 hS2 rv2 => by
    cases d with
    | bl b => exact ⟨b, k, rv.bl_inv, rv2.bl_inv, w ro2 H2 _ gr2 ex2 hS2 .bl_mk⟩
    | _ => exact w.elim⟩⟩⟩
theorem se_notB {k : Bool} {j : Nat} {pos2 : Pos} (ha : SE X g E a ma) : SE X g E (.Compare a [.IsNot] [.Constant (.bool k) j pos2] pos) (eUn (opNotB k) ma) :=
  ⟨pe_imp (pe_cmpR op_isnot_bl ha.run (se_bl (g := g) (E := E)).run rfl) fun s H Q ⟨ro, L, S, hL, hS, h⟩ => ⟨ro, L, S, hL, hS, Post.bind h fun d S1 ro1 H1 v gr ex hS1 rv w => ⟨ro1, L, S1, hL.mono gr ex, hS1, fun ro2 H2 v2 gr2 ex2 hS2 rv2 => by
    cases d with
    | bl b => exact ⟨b, k, rv.bl_inv, rv2.bl_inv, w ro2 H2 _ gr2 ex2 hS2 .bl_mk⟩
    | _ => exact w.elim⟩⟩⟩
theorem se_neg (ha : SE X g E a ma) : SE X g E (.UnaryOp .USub a pos) (eUn opNeg ma) := ⟨pe_imp (pe_un un_neg ha.run) fun s H Q ⟨ro, L, S, hL, hS, h⟩ => ⟨ro, L, S, hL, hS, Post.bind h fun d S1 ro1 H1 v gr ex hS1 rv w => by
  cases d with
  | int i => exact ⟨i, rv.int_inv, w ro1 H1 _ (.refl _) (.refl _) hS1 .int_mk⟩
  | _ => exact w.elim⟩⟩

/-! ### slices -/
structure SP (X : Cx) (g : G) (E : XK) (e : Option Expr) (m : PM) : Prop where
  run : PO X e (rd (fun _ _ a b => a = b) g E m)
theorem sp_no : SP X g E none pNo := ⟨⟨fun pins s σ H Q I ⟨ro, L, S, hL, hS, h⟩ => po_none.run pins s σ H Q I (h ro H _ (.refl _) (.refl _) hS rfl)⟩⟩
theorem sp_some (ha : SE X g E a ma) : SP X g E (some a) (pSome ma) := ⟨⟨fun pins s σ H Q I ⟨ro, L, S, hL, hS, h⟩ => (po_some ha.run).run pins s σ H Q I ⟨ro, L, S, hL, hS, Post.bind h fun d S1 ro1 H1 v gr ex hS1 rv w => by
  cases d with
  | int i => exact ⟨i, rv.int_inv, w ro1 H1 _ (.refl _) (.refl _) hS1 rfl⟩
  | _ => exact w.elim⟩⟩⟩
theorem sIx_eq (n d : Nat) (o : Option Int) : MP.sIx n d o = HT.sIx n d o := by cases o <;> rfl
theorem cut_rel {ro : List Addr} {H : Hp} {ds : List D} {vs : List V} (h : RelDs ro H ds vs) (lo hi : Option Int) : RelDs ro H (cut ds lo hi) (cutV vs lo hi) := by
  unfold cut cutV
  rw [sIx_eq, sIx_eq, h.length]
  exact (h.drop _).take _
theorem se_sl {lo hi : Option Expr} {ml mh : PM} {pos2 : Pos} (cx : Ctx g E X) (ha : SE X g E a ma) (hl : SP X g E lo ml) (hh : SP X g E hi mh) : SE X g E (.Subscript a (.Slice lo hi none pos2) pos) (eSl ma ml mh) :=
  ⟨pe_imp (pe_slice (sl_list.or (sl_tupA.or sl_str)) ha.run hl.run hh.run) fun s H Q ⟨ro, L, S, hL, hS, h⟩ => by
    refine ⟨ro, L, S, hL, hS, Post.bind h fun d S1 ro1 H1 v gr ex hS1 rv w => ⟨ro1, L, S1, hL.mono gr ex, hS1, Post.bind w fun l S2 ro2 H2 l' gr2 ex2 hS2 el w => ⟨ro2, L, S2, RelL.mono gr2 ex2.tup (hL.mono gr ex), hS2, Post.bind w fun u S3 ro3 H3 u' gr3 ex3 hS3 eu w => ?_⟩⟩⟩
    subst el eu
    have rv := RelD.mono gr3 ex3.tup _ _ (RelD.mono gr2 ex2.tup _ _ rv)
    cases d with
    | tup xs =>
      obtain ⟨p1, vs, e1, h1, q1⟩ := rv.tup_inv
      refine .inr (.inl ⟨p1, vs, e1, SqT.of h1, fun z => ?_, fun _ p hp => ?_⟩)
      · have e : cut xs l u = xs := by
          unfold cut
          rw [sIx_eq, sIx_eq, q1.length, z.1, z.2, List.drop_zero, ← q1.length, Nat.sub_zero, List.take_length]
        have w : Post RelD g E ro3 H3 Q (.ok (.tup (cut xs l u)) S3) := w
        rw [e] at w
        exact w ro3 H3 _ (.refl _) (.refl _) hS3 (.tup_mk h1 q1)
      · exact w ro3 _ _ (.refl _) (.new hp) (hS3.aside hp) (.tup_mk upd_same (RelDs.mono (.refl _) (.new hp) _ _ (cut_rel q1 l u)))
    | str z =>
      obtain ⟨e1, k1⟩ := rv.str_inv
      simp only [opSl] at w
      split at w
      · rename_i hz
        refine .inr (.inr ⟨_, e1, by rw [str_len, ← sz_eq]; exact hz, ?_⟩)
        have q := w ro3 H3 _ (.refl _) (.refl _) hS3 (.str_mk (x := cut z l u) fun c hc => k1 c ?_)
        · have e : (⟨(cut z l u).toArray⟩ : Str) = cutS ⟨z.toArray⟩ l u := by
            unfold cut cutS
            rw [sIx_eq, sIx_eq, str_len]
          rw [e] at q
          exact q
        · unfold cut at hc
          exact List.mem_of_mem_drop (List.mem_of_mem_take hc)
      · exact w.elim
    | ref n =>
      obtain ⟨p1, h1, e1⟩ := rv.ref_inv
      simp only [opSl] at w
      split at w
      · rename_i xs z
        obtain ⟨vs, q, t⟩ := hS3.at h1 z
        exact .inl ⟨p1, vs, e1, SqL.of t, fun p hp => w.push hS3 hp ⟨_, RelDs.mono (.snoc _ _) (.new hp) _ _ (cut_rel q l u), upd_same⟩⟩
      · exact w.elim
    | _ => exact w.elim⟩

/-! ### builtins -/
def rN (g : G) (E : XK) (F : Fn) : List V → Hp → VK → Prop := fun vs H Q => ∃ (ro : List Addr) (S : Sto) (ds : List D), RelS g ro S H ∧ RelDs ro H ds vs ∧ Post RelD g E ro H Q (F ds S)
theorem se_callB {x : Str} {id : String} {F : Fn} (hc : CallR X (.builtin id) (rN g E F)) (hg : Gl X x) (hm : X.mg x = none) (hv : bootBuiltins x = some (.builtin id)) (ha : SA X g E (e :: es) ms) (hn : x ≠ "__name__" := by decide) (hdb : (x == ("__debug__" : Str)) = false := by decide)
    (he : starEach (e :: es) X.env = (false, eval e X.env) :: starEach es X.env := by rfl) (hpl : (backTo pos (starEach es X.env)).any (·.1) = false := by rfl) : SE X g E (.Call (.Name x p) (e :: es) [] pos) (eCall F ms) :=
  ⟨pe_imp (pe_callB hc hg hm hv ha.run hn hdb he hpl) fun s H Q ⟨ro, L, S, hL, hS, h⟩ => ⟨ro, L, S, hL, hS, Post.bind h fun ds S1 ro1 H1 vs gr ex hS1 rv w => ⟨ro1, S1, ds, hS1, rv, w⟩⟩⟩
theorem se_callT {x : Str} {T : String} {F : Fn} (hc : CallR X (.type T) (rN g E F)) (hg : Gl X x) (hm : X.mg x = none) (hv : bootBuiltins x = some (.type T)) (ha : SA X g E (e :: es) ms) (hn : x ≠ "__name__" := by decide) (hdb : (x == ("__debug__" : Str)) = false := by decide)
    (he : starEach (e :: es) X.env = (false, eval e X.env) :: starEach es X.env := by rfl) (hpl : (backTo pos (starEach es X.env)).any (·.1) = false := by rfl) : SE X g E (.Call (.Name x p) (e :: es) [] pos) (eCall F ms) :=
  ⟨pe_imp (pe_callTy hc hg hm hv ha.run hn hdb he hpl) fun s H Q ⟨ro, L, S, hL, hS, h⟩ => ⟨ro, L, S, hL, hS, Post.bind h fun ds S1 ro1 H1 vs gr ex hS1 rv w => ⟨ro1, S1, ds, hS1, rv, w⟩⟩⟩
theorem callR_imp {f : Value} {r r' : List V → Hp → VK → Prop} (h : CallR X f r) (i : ∀ xs H Q, r' xs H Q → r xs H Q) : CallR X f r' := fun pins s σ H xs us Q I rv q => h pins s σ H xs us Q I rv (i _ _ _ q)
theorem c_len (cx : Ctx g E X) : CallR X (.builtin "len") (rN g E fLen) := callR_imp call_len fun xs H Q ⟨ro, S, ds, hS, rv, w⟩ => by
  unfold fLen at w
  split at w
  · rename_i z
    obtain ⟨v, r, rfl, r1, r2⟩ := rv.inv
    cases r2.inv0
    split at w
    · rename_i hz
      rw [r1.str_inv.1]
      exact ⟨_, z.length, rfl, ⟨by rw [str_len, ← sz_eq]; exact hz, (str_len z).symm⟩, w ro H _ (.refl _) (.refl _) hS .int_mk⟩
    · exact w.elim
  · rename_i ys
    obtain ⟨v, r, rfl, r1, r2⟩ := rv.inv
    cases r2.inv0
    obtain ⟨p1, vs, rfl, h1, q1⟩ := r1.tup_inv
    exact ⟨_, ys.length, rfl, .inr ⟨vs, SqT.of h1, q1.length⟩, w ro H _ (.refl _) (.refl _) hS .int_mk⟩
  · rename_i n
    obtain ⟨v, r, rfl, r1, r2⟩ := rv.inv
    cases r2.inv0
    obtain ⟨p1, h1, rfl⟩ := r1.ref_inv
    split at w
    · rename_i ys z
      obtain ⟨vs, q, t⟩ := hS.at h1 z
      exact ⟨_, ys.length, rfl, .inl ⟨vs, SqL.of t, q.length⟩, w ro H _ (.refl _) (.refl _) hS .int_mk⟩
    · rename_i ys z
      obtain ⟨vs, q, t⟩ := hS.at h1 z
      exact ⟨_, ys.length, rfl, .inl ⟨vs, by rw [cx.K]; exact t.sq, q.length⟩, w ro H _ (.refl _) (.refl _) hS .int_mk⟩
    · exact w.elim
  · exact w.elim
theorem c_max2 (hc : X.calm = true) : CallR X (.builtin "max") (rN g E fMax2) := callR_imp (call_max2 hc) fun xs H Q ⟨ro, S, ds, hS, rv, w⟩ => by
  unfold fMax2 at w
  split at w
  · obtain ⟨v, r, rfl, r1, rr⟩ := rv.inv
    obtain ⟨v2, r', rfl, r2, rr2⟩ := rr.inv
    cases rr2.inv0
    exact ⟨_, _, by rw [r1.int_inv, r2.int_inv], w ro H _ (.refl _) (.refl _) hS .int_mk⟩
  · exact w.elim
theorem c_min2 (hc : X.calm = true) : CallR X (.builtin "min") (rN g E fMin2) := callR_imp (call_min2 hc) fun xs H Q ⟨ro, S, ds, hS, rv, w⟩ => by
  unfold fMin2 at w
  split at w
  · obtain ⟨v, r, rfl, r1, rr⟩ := rv.inv
    obtain ⟨v2, r', rfl, r2, rr2⟩ := rr.inv
    cases rr2.inv0
    exact ⟨_, _, by rw [r1.int_inv, r2.int_inv], w ro H _ (.refl _) (.refl _) hS .int_mk⟩
  · exact w.elim
theorem c_int : CallR X (.type "int") (rN g E fInt) := callR_imp call_int1 fun xs H Q ⟨ro, S, ds, hS, rv, w⟩ => by
  unfold fInt at w
  split at w
  · obtain ⟨v, r, rfl, r1, rr⟩ := rv.inv
    cases rr.inv0
    exact .inl ⟨_, by rw [r1.int_inv], w ro H _ (.refl _) (.refl _) hS .int_mk⟩
  · obtain ⟨v, r, rfl, r1, rr⟩ := rv.inv
    cases rr.inv0
    exact .inr ⟨_, by rw [r1.bl_inv], w ro H _ (.refl _) (.refl _) hS .int_mk⟩
  · exact w.elim
theorem allB_rel {ro : List Addr} {H : Hp} : ∀ {ds : List D} {vs : List V} {b : Bool}, RelDs ro H ds vs → allB ds = some b → ∃ bs : List Bool, vs = bs.map V.bl ∧ b = bs.all id
  | [], vs, b, h, e => by cases e; exact ⟨[], by rw [h.inv0] <;> rfl, rfl⟩
  | d :: ds, vs, b, h, e => by
    obtain ⟨v, r, rfl, h2, h3⟩ := h.inv
    cases d with
    | bl k =>
      simp only [allB] at e
      cases q : allB ds with
      | none => rw [q] at e; cases e
      | some b' =>
        rw [q] at e
        cases e
        obtain ⟨bs, e1, e2⟩ := allB_rel h3 q
        exact ⟨k :: bs, by rw [h2.bl_inv, e1] <;> rfl, by rw [e2] <;> rfl⟩
    | _ => simp [allB] at e
theorem c_all (hc : X.calm = true) : CallR X (.builtin "all") (rN g E fAll) := callR_imp (cr_all hc) fun xs H Q ⟨ro, S, ds, hS, rv, w⟩ => by
  unfold fAll at w
  split at w
  · rename_i n
    obtain ⟨v, r, rfl, r1, r2⟩ := rv.inv
    cases r2.inv0
    obtain ⟨p1, h1, rfl⟩ := r1.ref_inv
    split at w
    · rename_i ys z
      obtain ⟨vs, q, t⟩ := hS.at h1 z
      split at w
      · rename_i b hb
        obtain ⟨bs, e1, e2⟩ := allB_rel q hb
        subst e1 e2
        exact ⟨p1, bs, rfl, SqL.of t, w ro H _ (.refl _) (.refl _) hS .bl_mk⟩
      · exact w.elim
    · exact w.elim
  · exact w.elim
theorem intsOf_rel {ro : List Addr} {H : Hp} : ∀ {ds : List D} {vs : List V} {is : List Int}, RelDs ro H ds vs → intsOf ds = some is → vs = is.map V.int
  | [], vs, b, h, e => by cases e; rw [h.inv0] <;> rfl
  | d :: ds, vs, b, h, e => by
    obtain ⟨v, r, rfl, h2, h3⟩ := h.inv
    cases d with
    | int k =>
      simp only [intsOf] at e
      cases q : intsOf ds with
      | none => rw [q] at e; cases e
      | some b' =>
        rw [q] at e
        cases e
        rw [h2.int_inv, intsOf_rel h3 q] <;> rfl
    | _ => simp [intsOf] at e
theorem c_sum (hc : X.calm = true) : CallR X (.builtin "sum") (rN g E fSum) := callR_imp (cr_sum hc) fun xs H Q ⟨ro, S, ds, hS, rv, w⟩ => by
  unfold fSum at w
  split at w
  · rename_i n
    obtain ⟨v, r, rfl, r1, r2⟩ := rv.inv
    cases r2.inv0
    obtain ⟨p1, h1, rfl⟩ := r1.ref_inv
    split at w
    · rename_i ys z
      obtain ⟨vs, q, t⟩ := hS.at h1 z
      split at w
      · rename_i b hb
        have e1 := intsOf_rel q hb
        subst e1
        exact ⟨p1, _, rfl, SqL.of t, w ro H _ (.refl _) (.refl _) hS .int_mk⟩
      · exact w.elim
    · exact w.elim
  · exact w.elim
theorem c_list : CallR X (.type "list") (rN g E fList) := callR_imp call_list_of fun xs H Q ⟨ro, S, ds, hS, rv, w⟩ => by
  unfold fList at w
  split at w
  · rename_i n
    obtain ⟨v, r, rfl, r1, r2⟩ := rv.inv
    cases r2.inv0
    obtain ⟨p1, h1, rfl⟩ := r1.ref_inv
    split at w
    · rename_i ys z
      obtain ⟨vs, q, t⟩ := hS.at h1 z
      exact ⟨p1, vs, rfl, .inl (SqL.of t), fun l hl => w.push hS hl ⟨vs, RelDs.mono (.snoc _ _) (.new hl) _ _ q, upd_same⟩⟩
    · exact w.elim
  · rename_i ys
    obtain ⟨v, r, rfl, r1, r2⟩ := rv.inv
    cases r2.inv0
    obtain ⟨p1, vs, rfl, h1, q⟩ := r1.tup_inv
    exact ⟨p1, vs, rfl, .inr (SqT.of h1), fun l hl => w.push hS hl ⟨vs, RelDs.mono (.snoc _ _) (.new hl) _ _ q, upd_same⟩⟩
  · exact w.elim
theorem c_tuple : CallR X (.type "tuple") (rN g E fTuple) := callR_imp call_tuple_of fun xs H Q ⟨ro, S, ds, hS, rv, w⟩ => by
  unfold fTuple at w
  split at w
  · rename_i n
    obtain ⟨v, r, rfl, r1, r2⟩ := rv.inv
    cases r2.inv0
    obtain ⟨p1, h1, rfl⟩ := r1.ref_inv
    split at w
    · rename_i ys z
      obtain ⟨vs, q, t⟩ := hS.at h1 z
      exact ⟨p1, vs, rfl, .inl ⟨SqL.of t, fun l hl => w ro _ _ (.refl _) (.new hl) (hS.aside hl) (.tup_mk upd_same (RelDs.mono (.refl _) (.new hl) _ _ q))⟩⟩
    · exact w.elim
  · rename_i ys
    obtain ⟨v, r, rfl, r1, r2⟩ := rv.inv
    cases r2.inv0
    obtain ⟨p1, vs, rfl, h1, q⟩ := r1.tup_inv
    exact ⟨p1, vs, rfl, .inr ⟨SqT.of h1, w ro H _ (.refl _) (.refl _) hS (.tup_mk h1 q)⟩⟩
  · exact w.elim
/-- isinstance(x, T) -/
theorem tyNm_rel {ro : List Addr} {S : Sto} {H : Hp} (hS : RelS g ro S H) {d : D} {v : V} {t : String} (r : RelD ro H d v) (e : tyNm S d = some t) : TyX g.K H v (.type t) ∧ t ∈ ["NoneType", "bool", "int", "str", "tuple", "list", "dict"] := by
  cases d with
  | non => cases e; rw [r.non_inv]; exact ⟨.base .non, by simp⟩
  | bl b => cases e; rw [r.bl_inv]; exact ⟨.base (.bl b), by simp⟩
  | int b => cases e; rw [r.int_inv]; exact ⟨.base (.int b), by simp⟩
  | str b => cases e; rw [r.str_inv.1]; exact ⟨.base (.str _), by simp⟩
  | tup b => cases e; obtain ⟨_, _, rfl, h1, _⟩ := r.tup_inv; exact ⟨.base (.tup h1), by simp⟩
  | ref n =>
    obtain ⟨a, h1, rfl⟩ := r.ref_inv
    simp only [tyNm] at e
    split at e
    · rename_i xs z
      cases e
      obtain ⟨vs, q, t⟩ := hS.at h1 z
      exact ⟨.base (.lst t), by simp⟩
    · rename_i t' kvs z
      cases e
      have q := hS.at h1 z
      cases t' with
      | true => obtain ⟨ws, _, q⟩ := (show ∃ ws, RelTV ro H kvs ws ∧ AtL H a false (.dT ws) from q); exact ⟨.base (.dT q), by simp⟩
      | false => obtain ⟨ws, _, q⟩ := (show ∃ ws, RelKV ro H kvs ws ∧ AtL H a false (.dK ws) from q); exact ⟨.base (.dK q), by simp⟩
    · cases e
  | exn _ _ => cases e
theorem se_isi {T : String} {x : Str} {p2 : Pos} (cx : Ctx g E X) (hT : T ∈ ["int", "bool", "str", "tuple", "list"]) (ha : SE X g E a ma) (hm : X.mg "isinstance" = none) (hm2 : X.mg x = none) (hv : bootBuiltins x = some (.type T)) (hg : Gl X "isinstance" := by rfl) (hg2 : Gl X x := by rfl) (hn : x ≠ "__name__" := by decide) (hdb : (x == ("__debug__" : Str)) = false := by decide)
    (h1 : starEach [a, .Name x p2] X.env = (false, eval a X.env) :: starEach [.Name x p2] X.env := by rfl) (h2 : starEach [.Name x p2] X.env = (false, eval (.Name x p2) X.env) :: starEach [] X.env := by rfl) (hpl : (backTo pos (starEach [.Name x p2] X.env)).any (·.1) = false := by rfl) :
    SE X g E (.Call (.Name "isinstance" p) [a, .Name x p2] [] pos) (eUn (opIsi T) ma) := by
  have ht : PE X (.Name x p2) (tC (.ty T)) := pe_bltn hg2 hm2 hv rfl hn hdb
  refine ⟨pe_imp (pe_callB call_isi hg hm (by decide +kernel) (pa_cons ha.run (pa_cons ht pa_nil h2) h1) (by decide) (by decide) h1 hpl) fun s H Q ⟨ro, L, S, hL, hS, h⟩ => ?_⟩
  refine ⟨ro, L, S, hL, hS, Post.bind h fun d S1 ro1 H1 v gr ex hS1 rv w => ?_⟩
  unfold opIsi at w
  split at w
  · rename_i t ht
    obtain ⟨q1, q2⟩ := tyNm_rel hS1 rv ht
    refine ⟨v, .ty T, .type t, .type T, _, rfl, .ty T, by rw [cx.K]; exact q1, kit_ty ?_, w ro1 H1 _ (.refl _) (.refl _) hS1 .bl_mk⟩
    simp only [List.mem_cons, List.not_mem_nil, or_false] at q2 hT
    rcases q2 with rfl | rfl | rfl | rfl | rfl | rfl | rfl <;> rcases hT with rfl | rfl | rfl | rfl | rfl <;> decide +kernel
  · exact w.elim
end
end MP

namespace MP
open PySem L2
section
variable {X : Cx} {g : G} {E : XK} {a b e c o : Expr} {es : List Expr} {m ma mb mo : EM} {ms : AM} {pos p apos : Pos}
/-! ### methods of lists -/
def rM (g : G) (E : XK) (F : Fn) : V → List V → Hp → VK → Prop := fun x vs H Q => rN g E F (x :: vs) H Q
theorem mtr_imp {id : String} {r r' : V → List V → Hp → VK → Prop} (h : MtR X id r) (i : ∀ x xs H Q, r' x xs H Q → r x xs H Q) : MtR X id r' := fun pins s σ H x xs v us Q I rx rv q => h pins s σ H x xs v us Q I rx rv (i _ _ _ _ q)
theorem rd_bm {T : String} {F : Fn} {s : St} {H : Hp} {Q : VK} (hK : X.K = g.K) (hT : T = "list" ∨ T = "str") (h : rdE g E (eBM T F mo ms) s H Q) : tBM X.K T (rM g E F) (rdE g E mo) (rdA g E ms) s H Q := by
  obtain ⟨ro, L, S, hL, hS, h⟩ := h
  refine ⟨ro, L, S, hL, hS, Post.bind h fun d S1 ro1 H1 v gr ex hS1 rv w => ?_⟩
  split at w
  · rename_i ht
    refine ⟨?_, ro1, L, S1, hL.mono gr ex, hS1, Post.bind w fun ds S2 ro2 H2 vs gr2 ex2 hS2 rv2 w => ⟨ro2, S2, d :: ds, hS2, .cons (rv.mono gr2 ex2) rv2, w⟩⟩
    cases d with
    | non => cases ht; rcases hT with q | q <;> exact absurd q (by decide)
    | bl b => cases ht; rcases hT with q | q <;> exact absurd q (by decide)
    | int b => cases ht; rcases hT with q | q <;> exact absurd q (by decide)
    | str b => cases ht; rw [rv.str_inv.1] <;> rfl
    | tup b => cases ht; rcases hT with q | q <;> exact absurd q (by decide)
    | ref n =>
      obtain ⟨p1, h1, rfl⟩ := rv.ref_inv
      simp only [tyNm] at ht
      split at ht
      · rename_i xs z
        cases ht
        obtain ⟨vs, q, t⟩ := hS1.at h1 z
        exact .inl ⟨rfl, vs, SqL.of t⟩
      · cases ht; rcases hT with q | q <;> exact absurd q (by decide)
      · cases ht
    | exn _ _ => cases ht
  · exact w.elim
theorem se_bm {T id : String} {name : Str} {F : Fn} (cx : Ctx g E X) (pa : PlainAttrs T) (slot : Slot T name id) (hty : typeOf (.builtin id) = pure (.type "method_descriptor")) (hm : MtR X id (rM g E F)) (hT : T = "list" ∨ T = "str") (ho : SE X g E o mo) (ha : SA X g E (e :: es) ms)
    (hbase : attributeBase o name X.env (eval o X.env) = eval o X.env := by rfl)
    (hfew : ((backTo pos (starEach (e :: es) X.env)).all (fun x => !x.1) && (backToKw pos (keywordEach [] X.env)).all (fun x => x.1.isSome)
      && decide ((e :: es).length + ([] : List Keyword).length + (if ([] : List Keyword).isEmpty then 0 else 1) < 30)) = true := by rfl)
    (hline : (apos.endLine == pos.line) = true := by rfl) (hs : starEach (e :: es) X.env = (false, eval e X.env) :: starEach es X.env := by rfl) (hplain : (backTo pos (starEach es X.env)).any (·.1) = false := by rfl) :
    SE X g E (.Call (.Attribute o name apos) (e :: es) [] pos) (eBM T F mo ms) := ⟨pe_imp (pe_bm pa slot hty hm ho.run ha.run hbase hfew hline hs hplain) fun s H Q h => rd_bm cx.K hT h⟩
theorem RelS.putL {ro : List Addr} {S : Sto} {H : Hp} (hS : RelS g ro S H) {n : Nat} {a : Addr} {xs ys : List D} {vs us : List V} (hn : ro[n]? = some a) (e : S[n]? = some (.lst xs)) (h : H a = some (.lst vs)) (r : RelDs ro H ys us) : RelS g ro (S.set n (.lst ys)) (upd H a (.lst us)) :=
  hS.put hn e (fun z => z.elim) (fun z => z.elim) h ⟨us, RelDs.mono (.refl _) (.put h lst_tup) _ _ r, upd_same⟩ nu_lst
theorem m_append : MtR X "list.append" (rM g E fAppend) := mtr_imp mt_append fun x xs H Q ⟨ro, S, ds, hS, rv, w⟩ => by
  unfold fAppend at w
  split at w
  · rename_i n y
    obtain ⟨v, r, e1, r1, rr⟩ := rv.inv
    obtain ⟨v2, r', rfl, r2, rr2⟩ := rr.inv
    cases rr2.inv0
    cases e1
    obtain ⟨p1, h1, rfl⟩ := r1.ref_inv
    split at w
    · rename_i ys z
      obtain ⟨vs, q, t⟩ := hS.at h1 z
      split at w
      · rename_i hz
        exact ⟨p1, vs, v2, rfl, rfl, t, by rw [← q.length, ← sz_eq]; exact hz, w ro _ _ (.refl _) (.put t lst_tup lst_frz) (hS.putL h1 z t (q.append (.cons r2 .nil))) .non_mk⟩
      · exact w.elim
    · exact w.elim
  · exact w.elim
theorem m_insert : MtR X "list.insert" (rM g E fInsert) := mtr_imp mt_insert fun x xs H Q ⟨ro, S, ds, hS, rv, w⟩ => by
  unfold fInsert at w
  split at w
  · rename_i n i y
    obtain ⟨v, r, e1, r1, rr⟩ := rv.inv
    obtain ⟨v2, r', rfl, r2, rr2⟩ := rr.inv
    obtain ⟨v3, r'', rfl, r3, rr3⟩ := rr2.inv
    cases rr3.inv0
    cases e1
    obtain ⟨p1, h1, rfl⟩ := r1.ref_inv
    split at w
    · rename_i ys z
      obtain ⟨vs, q, t⟩ := hS.at h1 z
      split at w
      · rename_i hz
        exact ⟨p1, vs, i, v3, rfl, by rw [r2.int_inv], t, by rw [← q.length, ← sz_eq]; exact hz.1, hz.2.1, hz.2.2, w ro _ _ (.refl _) (.put t lst_tup lst_frz) (hS.putL h1 z t (((q.take _).append (.cons r3 .nil)).append (q.drop _))) .non_mk⟩
      · exact w.elim
    · exact w.elim
  · exact w.elim
theorem m_pop0 : MtR X "list.pop" (rM g E fPopAt) := mtr_imp mt_popAt fun x xs H Q ⟨ro, S, ds, hS, rv, w⟩ => by
  unfold fPopAt at w
  split at w
  · rename_i n i
    obtain ⟨v, r, e1, r1, rr⟩ := rv.inv
    obtain ⟨v2, r', rfl, r2, rr2⟩ := rr.inv
    cases rr2.inv0
    cases e1
    obtain ⟨p1, h1, rfl⟩ := r1.ref_inv
    split at w
    · rename_i ys z
      obtain ⟨vs, q, t⟩ := hS.at h1 z
      split at w
      · rename_i y rest
        split at w
        · rename_i hi
          subst hi
          obtain ⟨u, us, rfl, q1, q2⟩ := q.inv
          refine ⟨p1, _, 0, 0, u, rfl, by rw [r2.int_inv], t, by decide, by decide, ?_, rfl, w ro _ _ (.refl _) (.put t lst_tup lst_frz) (hS.putL h1 z t q2) (q1.mono (.refl _) (Ext.put t lst_tup lst_frz).tup)⟩
          simp [seqIndex?]
        · exact w.elim
      · exact w.elim
    · exact w.elim
  · exact w.elim
/-- xs[i] = v -/
theorem sg_setL {i : Expr} {mi : EM} (cx : Ctx g E X) (ho : SE X g E o mo) (hi : SE X g E i mi)
    (ha : ∀ v, assign (.Subscript o i pos) X.env v = (do
      let ov ← holding [v] (eval o X.env)
      let iv ← holding [v, ov] (eval i X.env)
      standAt pos
      holding [v, ov, iv] (setItem ov iv v)
      release [v, ov, iv] []) := by intro _; rfl) : SG X g (.Subscript o i pos) (gSub setL mo mi) :=
  ⟨pg_imp (pg_sub ho.run hi.run set_list ha) fun v s H Q ⟨ro, L, S, d, hL, hS, rv, w⟩ => by
    refine ⟨ro, L, S, hL, hS, ?_⟩
    unfold MP.gSub at w
    cases z : mo L S with
    | ok d1 S1 =>
      rw [z] at w
      simp only [R.bind_ok] at w
      intro ro1 H1 v1 gr1 ex1 hS1 rv1
      refine ⟨ro1, L, S1, hL.mono gr1 ex1, hS1, ?_⟩
      cases z2 : mi L S1 with
      | ok d2 S2 =>
        rw [z2] at w
        simp only [R.bind_ok] at w
        intro ro2 H2 v2 gr2 ex2 hS2 rv2
        unfold setL at w
        split at w
        · rename_i n i
          obtain ⟨p1, h1, rfl⟩ := rv1.ref_inv
          have h2 := gr2 _ _ h1
          cases z3 : S2[n]? with
          | none => rw [z3] at w; exact w.elim
          | some ob =>
            rw [z3] at w
            cases ob with
            | lst xs =>
              simp only at w
              obtain ⟨vs, q, t⟩ := hS2.at h2 z3
              cases z4 : MP.ixN xs.length i with
              | none => rw [z4] at w; exact w.elim
              | some j =>
                rw [z4] at w
                simp only [R.bind_ok] at w
                have r3 := RelD.mono gr2 ex2.tup _ _ (RelD.mono gr1 ex1.tup _ _ rv)
                refine ⟨p1, vs, i, j, rfl, rv2.int_inv, t, by rw [← q.length]; exact z4, ?_⟩
                exact w ro2 _ s (gr1.trans gr2) (ex1.trans (ex2.trans (.put t lst_tup lst_frz))) (hS2.putL h2 z3 t (RelDs.set r3 j q)) (RelL.mono (gr1.trans gr2) (ex1.trans (ex2.trans (.put t lst_tup lst_frz))).tup hL)
            | _ => exact w.elim
        · exact w.elim
      | exc x S2 => rw [z2] at w; exact w.elim
      | err => rw [z2] at w; exact w.elim
    | exc x S1 => rw [z] at w; exact w.elim
    | err => rw [z] at w; exact w.elim⟩

/-! ### in -/
theorem all_dp {ro : List Addr} {S : Sto} {H : Hp} (hS : RelS g ro S H) : ∀ (ds : List D) (vs : List V) (ps : List PyData) (n : Nat), RelDs ro H ds vs → ds.mapM (reify n S) = some ps → DpAll g.K H vs ps ∧ PyData.canLayAll0 ps = true ∧ PyData.depthAll ps ≤ n
  | [], vs, ps, n, r, e => by
    rw [List.mapM_nil] at e
    cases e
    rw [r.inv0]
    exact ⟨.nil, rfl, Nat.zero_le _⟩
  | d :: ds, vs, ps, n, r, e => by
    rw [List.mapM_cons] at e
    obtain ⟨x, us, rfl, r1, r2⟩ := r.inv
    cases h1 : reify n S d with
    | none => rw [h1] at e; cases e
    | some p =>
      cases h2 : ds.mapM (reify n S) with
      | none => rw [h1, h2] at e; cases e
      | some qs =>
        rw [h1, h2] at e
        cases e
        obtain ⟨a1, a2, a3⟩ := reify_dp hS n d x p r1 h1
        obtain ⟨b1, b2, b3⟩ := all_dp hS ds us qs n r2 h2
        refine ⟨.cons a1 b1, ?_, ?_⟩
        · simp only [PyData.canLayAll0, a2, b2, Bool.and_self]
        · simp only [PyData.depthAll]
          omega
theorem o_inL (cx : Ctx g E X) : O2 X g E (compareOp .In) (inL false) := by
  intro pins s σ H x y v u Q I rx ry ⟨ro, S, dx, dy, hS, r1, r2, w⟩
  unfold inL at w
  split at w
  · rename_i n
    obtain ⟨p1, h1, rfl⟩ := r2.ref_inv
    split at w
    · rename_i xs z
      obtain ⟨vs, q, t⟩ := hS.at h1 z
      split at w
      · rename_i p ps e1 e2
        obtain ⟨a1, a2, a3⟩ := reify_dp hS 60 dx x p r1 e1
        obtain ⟨b1, b2, b3⟩ := all_dp hS xs vs ps 59 q e2
        refine op_inD (by have := cx.units; omega) pins s σ H x _ v u Q I rx ry ⟨p, ps, by rw [cx.K]; exact a1, by rw [cx.K]; exact .lst (SqL.of t) b1, shaped_of a2 a3, shaped_of (p := .list ps) b2 (by simp only [PyData.depth]; omega), ?_⟩
        exact w ro H _ (.refl _) (.refl _) hS .bl_mk
      · exact w.elim
    · exact w.elim
  · exact w.elim
theorem o_notInL (cx : Ctx g E X) : O2 X g E (compareOp .NotIn) (inL true) := by
  intro pins s σ H x y v u Q I rx ry ⟨ro, S, dx, dy, hS, r1, r2, w⟩
  unfold inL at w
  split at w
  · rename_i n
    obtain ⟨p1, h1, rfl⟩ := r2.ref_inv
    split at w
    · rename_i xs z
      obtain ⟨vs, q, t⟩ := hS.at h1 z
      split at w
      · rename_i p ps e1 e2
        obtain ⟨a1, a2, a3⟩ := reify_dp hS 60 dx x p r1 e1
        obtain ⟨b1, b2, b3⟩ := all_dp hS xs vs ps 59 q e2
        refine op_notInD (by have := cx.units; omega) pins s σ H x _ v u Q I rx ry ⟨p, ps, by rw [cx.K]; exact a1, by rw [cx.K]; exact .lst (SqL.of t) b1, shaped_of a2 a3, shaped_of (p := .list ps) b2 (by simp only [PyData.depth]; omega), ?_⟩
        exact w ro H _ (.refl _) (.refl _) hS .bl_mk
      · exact w.elim
    · exact w.elim
  · exact w.elim
theorem o_inS : O2 X g E (compareOp .In) (inS false) := by
  intro pins s σ H x y v u Q I rx ry ⟨ro, S, dx, dy, hS, r1, r2, w⟩
  unfold inS at w
  split at w
  · rename_i c z
    refine op_in_sign pins s σ H x y v u Q I rx ry ⟨c, ⟨z.toArray⟩, r1.str_inv.1, r2.str_inv.1, ?_⟩
    exact w ro H _ (.refl _) (.refl _) hS .bl_mk
  · exact w.elim
theorem o_notInS : O2 X g E (compareOp .NotIn) (inS true) := by
  intro pins s σ H x y v u Q I rx ry ⟨ro, S, dx, dy, hS, r1, r2, w⟩
  unfold inS at w
  split at w
  · rename_i c z
    refine op_notIn_sign pins s σ H x y v u Q I rx ry ⟨c, ⟨z.toArray⟩, r1.str_inv.1, r2.str_inv.1, ?_⟩
    exact w ro H _ (.refl _) (.refl _) hS .bl_mk
  · exact w.elim

/-! ### raise C('..') -/
structure Xc (g : G) (x : Str) (c : Nat) : Prop where
  mgx : g.mg x = some (.ref (g.ecls c))
  ex : PySem.W.excIn g.K (g.ecls c) [.type "ValueError", .type "Exception", .type "BaseException", .type "object"] "ValueError.__new__" = true
  kp : PySem.W.keepIn g.K (.ref (g.ecls c)) = true
  sub : PySem.W.subIn g.K (.ref (g.ecls c)) (.type "BaseException") = some true
  ty : PySem.W.typeIn g.K (.ref (g.ecls c)) = some (.type "type")
theorem ss_raise {x m : Str} {c j : Nat} {p2 pos2 : Pos} (cx : Ctx g E X) (h : Xc g x c) (hc : X.calm = true) (hg : Gl X x) (hdb : (x == ("__debug__" : Str)) = false := by decide) : SS X g E (.Raise (some (.Call (.Name x p) [.Constant (.str m) j p2] [] pos)) none pos2) (sRaise c aNil) :=
  ⟨ps_imp (L2N.ps_raise hc cx.takes (L2N.pmk_own PySem.F.excBase_ValueError (by rw [cx.K]; exact h.ex) (by rw [cx.mg]; exact h.mgx) (by rw [cx.K]; exact h.kp) (raises_own (by rw [cx.K]; exact h.sub) (by rw [cx.K]; exact h.ty)) hg hdb)) fun D s H ⟨ro, L, S, hL, hS, h⟩ =>
    h ro H _ _ (.refl _) (.refl _) hS ⟨rfl, rfl⟩⟩

/-! ### calls by defaults -/
def DfD (g : G) (k : Nat) (x : Str) (F : Fn) (dd : List D) : Prop := ∃ (f : Addr) (fd : FuncData) (ps : List Str) (ds : List Value) (dvs : List V), FOk g k f fd ps F ∧ g.mg x = some (.ref f) ∧ PySem.W.keepIn g.K (.ref f) = true ∧ Binds g.K fd ps ds ∧ Vals dvs ds ∧ ∀ ro H, RelDs ro H dd dvs
theorem se_callD {k : Nat} {x : Str} {F : Fn} {dd : List D} (c : Ctx g E X) (d : DfD g k x F dd) (hr : Room k X.A) (hg : Gl X x) (ha : SA X g E (e :: es) ms) (hdb : (x == ("__debug__" : Str)) = false := by decide) (he : starEach (e :: es) X.env = (false, eval e X.env) :: starEach es X.env := by rfl)
    (hpl : (backTo pos (starEach es X.env)).any (·.1) = false := by rfl) : SE X g E (.Call (.Name x p) (e :: es) [] pos) (eCall (withD F dd) ms) := by
  obtain ⟨f, fd, ps, dvl, dvs, h, hm, hk, hb, hv, hd⟩ := d
  refine ⟨pe_imp (pe_call (h.at c) hr hg (by rw [c.mg]; exact hm) (by rw [c.K]; exact hk) (by rw [c.K]; exact hb) hv (passM c) ha.run hdb he hpl) fun s H Q ⟨ro, L, S, hL, hS, h⟩ => ?_⟩
  refine ⟨ro, L, S, hL, hS, Post.bind h fun ds S1 ro1 H1 vs gr ex hS1 rv h => ⟨ro1, S1, ds ++ dd, hS1, rv.append (hd _ _), h⟩⟩
/-- as df_body, for a def with defaults -/
theorem df_bodyD {k : Nat} {y qual : Str} {params : Arguments} {bd : List Stmt} {sc : Scope} {dvs : List V} {kws : List (Str × V)} {f : Addr} {fd : FuncData} {N ps : List Str} {body : SM} (fn : FunD g.K y qual params bd sc dvs kws f fd) (S : FnScope N ps sc)
    (hb : ∀ (X : Cx) (E : XK), (∃ (cdv : Value) (A : Around) (outer : List Env) (s : Shared) (H : Hp), Room k (A.deeper (PyProof.Rows.envOfC qual sc s.heap.objs.size f cdv)) ∧ X = cxOf (L2N.CX g.P g.w) g.P g.w g.K g.mg g.base N qual sc f cdv A outer s H E) → SSs X g E bd body) :
    FOk g (k + 1) f fd ps (MP.fn ps.length N.length body) := by
  obtain ⟨oc, od, dV, kV, doc, pm, an, cdv, ct, osl, rfl, lk, hcd, _, _⟩ := fn.ex
  refine fn_of lk hcd S (fun vs H Q E ⟨ro, S, ds, hS, rv, h⟩ => ?_) fun A outer s H vs Q E hr ⟨ro, S', ds, hS, rv, h⟩ => ⟨_, (hb _ E ⟨cdv, A, outer, s, H, hr, rfl⟩).run, ?_⟩
  · unfold MP.fn at h
    split at h
    · rename_i e
      rw [← rv.length, e]
    · exact h.elim
  · unfold MP.fn at h
    split at h
    · rename_i e
      rw [← e] at h
      refine ⟨ro, _, S', RelL.start N rv, hS, ?_⟩
      cases z : body (ds.map some ++ List.replicate (N.length - ds.length) none) S' with
      | nx L1 S1 => rw [z] at h; exact fun ro' H' s' gr ex R r => h ro' H' _ gr ex R .non_mk
      | rt d S1 => rw [z] at h; exact h
      | exc x L1 S1 => rw [z] at h; exact h
      | bk L1 S1 => rw [z] at h; exact h.elim
      | ct L1 S1 => rw [z] at h; exact h.elim
      | err => rw [z] at h; exact h.elim
    · exact h.elim
end
end MP

namespace MP
open PySem L2
section
variable {X : Cx} {g : G} {E : XK} {a b c e o i : Expr} {es : List Expr} {m ma mb mc mo mi : EM} {ms : AM} {pos p apos : Pos}
theorem se_chain {op op' : CmpOp} {f f' : Op2} (ho : O2 X g E (compareOp op) f) (ho' : O2 X g E (compareOp op') f') (ha : SE X g E a ma) (hb : SE X g E b mb) (hc : SE X g E c mc) (hm : lastMarks [op, op'] [b, c] = false := by with_unfolding_all rfl) :
    SE X g E (.Compare a [op, op'] [b, c] pos) (eChain f f' ma mb mc) := ⟨pe_imp (pe_chain ho ho' ha.run hb.run hc.run hm) fun s H Q ⟨ro, L, S, hL, hS, h⟩ => by
  refine ⟨ro, L, S, hL, hS, Post.bind h fun d S1 ro1 H1 v gr ex hS1 rv w => ⟨ro1, L, S1, hL.mono gr ex, hS1, Post.bind w fun d2 S2 ro2 H2 v2 gr2 ex2 hS2 rv2 w => ?_⟩⟩
  refine ⟨ro2, S2, d, d2, hS2, rv.mono gr2 ex2, rv2, Post.bind w fun d3 S3 ro3 H3 v3 gr3 ex3 hS3 rv3 w => ?_⟩
  cases d3 with
  | bl k =>
    refine ⟨k, rv3.bl_inv, ?_⟩
    cases k with
    | true =>
      rw [if_pos rfl]
      refine ⟨ro3, L, S3, RelL.mono gr3 ex3.tup (RelL.mono gr2 ex2.tup (hL.mono gr ex)), hS3, Post.bind w fun d4 S4 ro4 H4 v4 gr4 ex4 hS4 rv4 w => ?_⟩
      exact ⟨ro4, S4, d2, d4, hS4, RelD.mono gr4 ex4.tup _ _ (RelD.mono gr3 ex3.tup _ _ rv2), rv4, w⟩
    | false =>
      rw [if_neg Bool.false_ne_true]
      exact w ro3 H3 _ (.refl _) (.refl _) hS3 .bl_mk
  | _ => exact w.elim⟩
theorem se_rev {k : Nat} {p1 p2 p3 : Pos} (hK : X.K = g.K) (ha : SE X g E a ma) : SE X g E (.Subscript a (.Slice none none (some (.UnaryOp .USub (.Constant (.int 1) k p1) p2)) p3) pos) (eUn opRev ma) := ⟨pe_imp (pe_revL ha.run) fun s H Q ⟨ro, L, S, hL, hS, h⟩ => by
  refine ⟨ro, L, S, hL, hS, Post.bind h fun d S1 ro1 H1 v gr ex hS1 rv w => ?_⟩
  cases d with
  | ref n =>
    obtain ⟨p1, h1, e1⟩ := rv.ref_inv
    simp only [opRev] at w
    split at w
    · rename_i xs z
      obtain ⟨vs, q, t⟩ := hS1.at h1 z
      have rr : ∀ {ds : List D} {us : List V}, RelDs ro1 H1 ds us → RelDs ro1 H1 ds.reverse us.reverse := by
        intro ds
        induction ds with
        | nil => intro us h; rw [h.inv0]; exact .nil
        | cons d ds ih =>
          intro us h
          obtain ⟨v, r, rfl, h2, h3⟩ := h.inv
          rw [List.reverse_cons, List.reverse_cons]
          exact (ih h3).append (.cons h2 .nil)
      exact ⟨p1, vs, e1, SqL.of t, fun p hp => w.push hS1 hp ⟨_, RelDs.mono (.snoc _ _) (.new hp) _ _ (rr q), upd_same⟩⟩
    · exact w.elim
  | _ => exact w.elim⟩
/-- y = [..], y a local name -/
theorem ss_setLc (j : Nat) {y : Str} {py spos : Pos} {tg iter elt : Expr} {ifs : List Expr} {scope : Scope} {own : List (Str × Nat)} {w : WM} {t : TM} {tt : BM} {em : EM} [pt : PureT t] (hc : X.calm = true) (hN : X.N.Nodup) (hi : SI X g E tg iter w) (ok : BlkOk X.N X.env.scope scope own)
    (hg : ∀ (s : Shared) (H : Hp) (C : Addr) (cl : List (Str × Addr)) (fp : List Addr), SGw (X.blk s H scope (compEnvC scope cl C X.env) fp) g (own.map (·.2)) tg t) (ht : ∀ (s : Shared) (H : Hp) (C : Addr) (cl : List (Str × Addr)) (fp : List Addr), STs (X.blk s H scope (compEnvC scope cl C X.env) fp) g E0 ifs tt)
    (he : ∀ (s : Shared) (H : Hp) (C : Addr) (cl : List (Str × Addr)) (fp : List Addr), SE (X.blk s H scope (compEnvC scope cl C X.env) fp) g E0 elt em) (hy : X.N[j]? = some y := by rfl) (hyl : X.env.scope.names.lookup y = some .local := by rfl)
    (hsw : swapsWith (.ListComp elt [⟨tg, iter, ifs, 0⟩] scope pos) (some (.Name y py)) spos.line X.env = pure true := by exact sw_true rfl rfl rfl (by decide +kernel)) (hs : ∀ x, foldedSetIterable iter X.env x = pure x := by intro _; rfl) :
    SS X g E (.Assign [.Name y py] (.ListComp elt [⟨tg, iter, ifs, 0⟩] scope pos) spos) (sAsg (eLc w t tt em (own.map (·.2))) (gV j)) :=
  ⟨ps_imp (ps_setLc hc hN hy hyl hsw hi.run ok (fun s H C cl fp => (hg s H C cl fp).run) (fun s H C cl fp => (ht s H C cl fp).run) (fun s H C cl fp => (he s H C cl fp).run) hs) fun D s H ⟨ro, L, S, hL, hS, h⟩ =>
    lc_rd (iter := iter) ⟨ro, L, S, hL, hS, PostS.st h fun d S1 ro1 H1 v gr ex hS1 rv w => w ro1 H1 _ (.refl _) (.refl _) hS1 ((hL.mono gr ex).set j rv)⟩⟩
/-- a, b, c = x, y, z: three names -/
theorem ss_par3 {i j l : Nat} {x y z : Str} {p q r : Expr} {mp mq mr : EM} {px py pz pt : Pos} {kt k2 : Nat} {pt2 : Pos} (hc : X.calm = true) (hN : X.N.Nodup) (hp : SE X g E p mp) (hq : SE X g E q mq) (hr : SE X g E r mr) (hij : i ≠ j) (hil : i ≠ l) (hjl : j ≠ l)
    (hi : X.N[i]? = some x := by rfl) (hj : X.N[j]? = some y := by rfl) (hl : X.N[l]? = some z := by rfl)
    (hx : X.env.scope.names.lookup x = some .local := by rfl) (hy : X.env.scope.names.lookup y = some .local := by rfl) (hz : X.env.scope.names.lookup z = some .local := by rfl)
    (hw : swappedStores [.Tuple [.Name x px, .Name y py, .Name z pz] kt pt] (.Tuple [p, q, r] k2 pt2) X.env = pure (some [x, y, z]) := by rfl) (hs : swapsWithSole [.Tuple [.Name x px, .Name y py, .Name z pz] kt pt] (.Tuple [p, q, r] k2 pt2) pos.line X.env = pure false := by rfl)
    (h1 : starEach [p, q, r] X.env = (false, eval p X.env) :: starEach [q, r] X.env := by rfl) (h2 : starEach [q, r] X.env = (false, eval q X.env) :: starEach [r] X.env := by rfl) (h3 : starEach [r] X.env = (false, eval r X.env) :: starEach [] X.env := by rfl) :
    SS X g E (.Assign [.Tuple [.Name x px, .Name y py, .Name z pz] kt pt] (.Tuple [p, q, r] k2 pt2) pos) (sAsg (eTup (aCons mp (aCons mq (aCons mr aNil)))) (gTup 3 (gCons (gV i) (gCons (gV j) (gCons (gV l) gNil))))) :=
  ⟨ps_imp (ps_par3 hc hN hi hj hl hij hil hjl hx hy hz (sa_cons hp (sa_cons hq (sa_cons hr sa_nil h3) h2) h1).run hw hs) fun D s H ⟨ro, L, S, hL, hS, h⟩ => by
    refine ⟨ro, L, S, hL, hS, ?_⟩
    unfold sAsg MP.eTup at h
    cases z : aCons mp (aCons mq (aCons mr aNil)) L S with
    | ok ds S1 =>
      rw [z] at h
      simp only [R.bind_ok] at h
      intro ro1 H1 vs gr ex hS1 rv
      split at h
      · match ds with
        | [d1, d2, d3] =>
          obtain ⟨v1, _, rfl, r1, rr⟩ := rv.inv
          obtain ⟨v2, _, rfl, r2, rr2⟩ := rr.inv
          obtain ⟨v3, _, rfl, r3, rr3⟩ := rr2.inv
          cases rr3.inv0
          simp only [R.st_ok, MP.gTup, MP.gCons, MP.gV, MP.gNil, R.bind_ok, List.length_cons, List.length_nil, if_true] at h
          exact ⟨v1, v2, v3, rfl, h ro1 H1 _ gr ex hS1 ((((hL.mono gr ex).set i r1).set j r2).set l r3)⟩
        | [] => exact absurd h (by simp [R.st_ok, MP.gTup, PostS])
        | [_] => exact absurd h (by simp [R.st_ok, MP.gTup, PostS])
        | [_, _] => exact absurd h (by simp [R.st_ok, MP.gTup, PostS])
        | _ :: _ :: _ :: _ :: _ => exact absurd h (by simp [R.st_ok, MP.gTup, PostS])
      · exact h.elim
    | exc x S1 => rw [z] at h; exact h
    | err => rw [z] at h; exact h⟩
/-- constants of the module -/
theorem se_globI {x : Str} {k : Int} (hg : Gl X x) (h : ∃ t, X.mg x = some (.int k t)) (hd : (x == ("__debug__" : Str)) = false := by decide) : SE X g E (.Name x pos) (eC (.int k)) := by
  obtain ⟨t, h⟩ := h
  exact se_glob (v := .int k) hg h ⟨t, rfl⟩ (fun _ _ => .int_mk) hd
theorem se_globS {x y : Str} {z : List Nat} (hg : Gl X x) (h : ∃ t, X.mg x = some (.str y t)) (hy : y = ⟨z.toArray⟩ := by decide +kernel) (hz : okS z = true := by decide +kernel) (hd : (x == ("__debug__" : Str)) = false := by decide) : SE X g E (.Name x pos) (eC (.str z)) := by
  obtain ⟨t, h⟩ := h
  subst hy
  exact se_glob (v := .str ⟨z.toArray⟩) hg h ⟨t, rfl⟩ (fun _ _ => .str_mk fun c hc => by simpa using List.all_eq_true.mp hz c hc) hd

/-! ### keys of dicts -/
theorem dkey_kV {ro : List Addr} {H : Hp} {d : D} {v : V} (r : RelD ro H d v) (h : isKey d = true) : ∃ k, dkey d = some k ∧ v = kV k := by
  cases d with
  | int n => exact ⟨.inl n, rfl, r.int_inv⟩
  | str x => exact ⟨.inr ⟨x.toArray⟩, if_pos h, r.str_inv.1⟩
  | _ => exact absurd h Bool.false_ne_true
theorem tkey_kV {ro : List Addr} {H : Hp} {d : D} {v : V} (r : RelD ro H d v) (h : keyOk true d = true) : ∃ k b, tkey d = some k ∧ v = .ref b ∧ H b = some (.tup (k.map kV)) := by
  cases d with
  | tup ds =>
    obtain ⟨p1, vs, e1, h1, q1⟩ := r.tup_inv
    have go : ∀ {ds : List D} {vs : List V}, RelDs ro H ds vs → ds.all isKey = true → ∃ k, ds.mapM dkey = some k ∧ vs = k.map kV := by
      intro ds
      induction ds with
      | nil => intro vs r _; exact ⟨[], rfl, by rw [r.inv0] <;> rfl⟩
      | cons d ds ih =>
        intro vs r h
        obtain ⟨v, us, rfl, r1, r2⟩ := r.inv
        rw [List.all_cons, Bool.and_eq_true] at h
        obtain ⟨k, h1, h2⟩ := dkey_kV r1 h.1
        obtain ⟨ks, h3, h4⟩ := ih r2 h.2
        refine ⟨k :: ks, ?_, by rw [h2, h4] <;> rfl⟩
        rw [List.mapM_cons, h1, h3] <;> rfl
    obtain ⟨k, h2, h3⟩ := go q1 (show ds.all isKey = true from h)
    exact ⟨k, p1, h2, e1, by rw [← h3]; exact h1⟩
  | _ => exact absurd h Bool.false_ne_true
theorem dkey_inj {x y : D} {k : L2.Key} (hx : dkey x = some k) (hy : dkey y = some k) : x = y := by
  have str : ∀ {z : List Nat} {k}, (if okS z = true then some (.inr ⟨z.toArray⟩ : L2.Key) else none) = some k → k = .inr ⟨z.toArray⟩ := fun {z k} h => by
    split at h
    · cases h; rfl
    · cases h
  cases x with
  | int n =>
    cases hx
    cases y with
    | int m => cases hy; rfl
    | str z => cases str hy
    | _ => cases hy
  | str z =>
    have e := str hx
    subst e
    cases y with
    | int m => cases hy
    | str z' =>
      have e := str hy
      have e2 : z = z' := by
        have := Sum.inr.inj e
        exact SX.S_inj this
      rw [e2]
    | _ => cases hy
  | _ => cases hx
theorem mapM_inj : ∀ {xs ys : List D} {k : List L2.Key}, xs.mapM dkey = some k → ys.mapM dkey = some k → xs = ys := by
  have cons : ∀ {x : D} {xs : List D} {k : List L2.Key}, (x :: xs).mapM dkey = some k → ∃ a r, k = a :: r ∧ dkey x = some a ∧ xs.mapM dkey = some r := fun {x xs k} h => by
    rw [List.mapM_cons] at h
    cases h1 : dkey x with
    | none => rw [h1] at h; cases h
    | some a =>
      cases h2 : xs.mapM dkey with
      | none => rw [h1, h2] at h; cases h
      | some r => rw [h1, h2] at h; cases h; exact ⟨a, r, rfl, rfl, rfl⟩
  intro xs
  induction xs with
  | nil =>
    intro ys k h1 h2
    cases ys with
    | nil => rfl
    | cons y ys =>
      obtain ⟨a, r, e, _⟩ := cons h2
      rw [e] at h1
      cases h1
  | cons x xs ih =>
    intro ys k h1 h2
    obtain ⟨a, r, e, q1, q2⟩ := cons h1
    cases ys with
    | nil =>
      rw [e] at h2
      cases h2
    | cons y ys =>
      obtain ⟨a', r', e', q1', q2'⟩ := cons h2
      rw [e] at e'
      cases e'
      rw [dkey_inj q1 q1', ih q2 q2']
theorem tkey_inj {x y : D} {k : List L2.Key} (hx : tkey x = some k) (hy : tkey y = some k) : x = y := by
  cases x with
  | tup xs =>
    cases y with
    | tup ys => rw [mapM_inj hx hy]
    | _ => cases hy
  | _ => cases hx
/-- one theory for both kinds -/
theorem kget_rel {κ : Type} [DecidableEq κ] {kf : D → Option κ} (inj : ∀ {x y : D} {k : κ}, kf x = some k → kf y = some k → x = y) {ro : List Addr} {H : Hp} {x : D} {k : κ} (hx : kf x = some k) :
    ∀ {kvs : List (D × D)} {ws : List (κ × V)}, Paired (fun p q => kf p.1 = some q.1 ∧ RelD ro H p.2 q.2) kvs ws → (∀ d, kget x kvs = some d → ∃ v, valV ws k = some v ∧ RelD ro H d v) ∧ (kget x kvs = none → valV ws k = none)
  | _, _, .nil => ⟨fun d h => by simp [kget] at h, fun _ => rfl⟩
  | (y, d) :: kvs, (k', v) :: ws, .cons ⟨h1, h2⟩ t => by
    have h1 : kf y = some k' := h1
    obtain ⟨i1, i2⟩ := kget_rel inj hx t
    unfold kget
    by_cases q : y = x
    · subst q
      rw [hx] at h1
      cases h1
      rw [if_pos rfl]
      refine ⟨fun d' e => ?_, fun e => by cases e⟩
      cases e
      exact ⟨v, by simp [valV], h2⟩
    · rw [if_neg q]
      have ne : ¬ k' = k := fun z => q (inj (z ▸ h1) hx)
      have l : valV ((k', v) :: ws) k = valV ws k := by
        unfold valV
        rw [List.find?_cons]
        simp [ne]
      rw [l]
      exact ⟨i1, i2⟩
theorem kput_rel {κ : Type} [DecidableEq κ] {kf : D → Option κ} (inj : ∀ {x y : D} {k : κ}, kf x = some k → kf y = some k → x = y) {ro : List Addr} {H : Hp} {x d : D} {k : κ} {v : V} (hx : kf x = some k) (r : RelD ro H d v)
    {kvs : List (D × D)} {ws : List (κ × V)} (h : Paired (fun p q => kf p.1 = some q.1 ∧ RelD ro H p.2 q.2) kvs ws) : Paired (fun p q => kf p.1 = some q.1 ∧ RelD ro H p.2 q.2) (kput x d kvs) (putK ws k v) := by
  have any : ∀ {kvs : List (D × D)} {ws : List (κ × V)}, Paired (fun p q => kf p.1 = some q.1 ∧ RelD ro H p.2 q.2) kvs ws → (kvs.any fun q => decide (q.1 = x)) = ws.any fun q => decide (q.1 = k) := by
    intro kvs ws h
    induction h with
    | nil => rfl
    | @cons p q l1 l2 hp _ ih =>
      rw [List.any_cons, List.any_cons, ih]
      congr 1
      rw [Bool.eq_iff_iff]
      simp only [decide_eq_true_eq]
      exact ⟨fun e => by rw [e, hx] at hp; exact (Option.some.inj hp.1).symm, fun e => inj (by rw [← e]; exact hp.1) hx⟩
  have map : ∀ {kvs : List (D × D)} {ws : List (κ × V)}, Paired (fun p q => kf p.1 = some q.1 ∧ RelD ro H p.2 q.2) kvs ws → Paired (fun p q => kf p.1 = some q.1 ∧ RelD ro H p.2 q.2) (kvs.map fun q => if q.1 = x then (q.1, d) else q) (ws.map fun kv => if kv.1 = k then (kv.1, v) else kv) := by
    intro kvs ws h
    induction h with
    | nil => exact .nil
    | @cons p q l1 l2 hp _ ih =>
      refine .cons ?_ ih
      by_cases e : p.1 = x
      · have e2 : q.1 = k := by
          have := hp.1
          rw [e, hx] at this
          exact (Option.some.inj this).symm
        dsimp only
        rw [if_pos e, if_pos e2]
        exact ⟨hp.1, r⟩
      · have e2 : ¬ q.1 = k := fun z => e (inj (by rw [← z]; exact hp.1) hx)
        dsimp only
        rw [if_neg e, if_neg e2]
        exact hp
  unfold kput putK
  rw [any h]
  split
  · exact map h
  · exact Paired.app h (.cons ⟨hx, r⟩ .nil)
theorem kdrop_rel {κ : Type} [DecidableEq κ] {kf : D → Option κ} (inj : ∀ {x y : D} {k : κ}, kf x = some k → kf y = some k → x = y) {ro : List Addr} {H : Hp} {x : D} {k : κ} (hx : kf x = some k)
    {kvs : List (D × D)} {ws : List (κ × V)} (h : Paired (fun p q => kf p.1 = some q.1 ∧ RelD ro H p.2 q.2) kvs ws) : Paired (fun p q => kf p.1 = some q.1 ∧ RelD ro H p.2 q.2) (kdrop x kvs) (dropK ws k) := by
  unfold kdrop dropK
  induction h with
  | nil => exact .nil
  | @cons p q l1 l2 hp _ ih =>
    rw [List.filter_cons, List.filter_cons]
    by_cases e : p.1 = x
    · have e2 : q.1 = k := by
        have := hp.1
        rw [e, hx] at this
        exact (Option.some.inj this).symm
      rw [if_neg (by simp [e]), if_neg (by simp [e2])]
      exact ih
    · have e2 : ¬ q.1 = k := fun z => e (inj (by rw [← z]; exact hp.1) hx)
      rw [if_pos (by simp [e]), if_pos (by simp [e2])]
      exact .cons hp ih
/-- a dict read -/
theorem dget_rel {ro : List Addr} {S : Sto} {H : Hp} (hS : RelS g ro S H) {n : Nat} {a : Addr} {t lk : Bool} {kvs : List (D × D)} {x : D} {y : V} (hn : ro[n]? = some a) (e : S[n]? = some (.dic t lk kvs)) (r : RelD ro H x y) (hk : keyOk t x = true) :
    (∀ d, kget x kvs = some d → ∃ v, DGet H a y (some v) ∧ RelD ro H d v) ∧ (kget x kvs = none → DGet H a y none) := by
  have q := hS.at hn e
  cases t with
  | true =>
    obtain ⟨ws, r2, q⟩ := (show ∃ ws, RelTV ro H kvs ws ∧ AtL H a lk (.dT ws) from q)
    obtain ⟨k, b, h1, h2, h3⟩ := tkey_kV r hk
    have rdd : Rd H a (.dT ws) := by
      cases lk with
      | true => exact .inr q
      | false => exact .inl q
    obtain ⟨i1, i2⟩ := kget_rel tkey_inj h1 r2
    exact ⟨fun d e => let ⟨v, e1, e2⟩ := i1 d e; ⟨v, .inr ⟨ws, k, b, rdd, h2, h3, e1.symm⟩, e2⟩, fun e => .inr ⟨ws, k, b, rdd, h2, h3, (i2 e).symm⟩⟩
  | false =>
    obtain ⟨ws, r2, q⟩ := (show ∃ ws, RelKV ro H kvs ws ∧ AtL H a lk (.dK ws) from q)
    obtain ⟨k, h1, h2⟩ := dkey_kV r hk
    have rdd : Rd H a (.dK ws) := by
      cases lk with
      | true => exact .inr q
      | false => exact .inl q
    obtain ⟨i1, i2⟩ := kget_rel dkey_inj h1 r2
    exact ⟨fun d e => let ⟨v, e1, e2⟩ := i1 d e; ⟨v, .inl ⟨ws, k, rdd, h2, e1.symm⟩, e2⟩, fun e => .inl ⟨ws, k, rdd, h2, (i2 e).symm⟩⟩
theorem dput_rel {ro : List Addr} {S : Sto} {H : Hp} (hS : RelS g ro S H) {n : Nat} {a : Addr} {t : Bool} {kvs : List (D × D)} {x d : D} {y v : V} (hn : ro[n]? = some a) (e : S[n]? = some (.dic t false kvs)) (r : RelD ro H x y) (hk : keyOk t x = true) (rv : RelD ro H d v) (hz : kvs.length < sz) :
    ∃ H', DPut H a y v H' ∧ Ext H H' ∧ RelS g ro (S.set n (.dic t false (kput x d kvs))) H' := by
  have q := hS.at hn e
  have len : ∀ {α β : Type} {F : α → β → Prop} {l : List α} {m : List β}, Paired F l m → l.length = m.length := by
    intro α β F l m h
    induction h with
    | nil => rfl
    | cons _ _ ih => simp only [List.length_cons, ih]
  cases t with
  | true =>
    obtain ⟨ws, r2, q⟩ := (show ∃ ws, RelTV ro H kvs ws ∧ AtL H a false (.dT ws) from q)
    obtain ⟨k, b, h1, h2, h3⟩ := tkey_kV r hk
    have q : H a = some (.dT ws) := q
    have ex : Ext H (upd H a (.dT (putK ws k v))) := .put q dT_tup dT_frz
    refine ⟨_, .inr ⟨ws, k, b, q, h2, h3, by rw [← len r2, ← sz_eq]; exact hz, rfl⟩, ex, ?_⟩
    refine hS.put hn e (fun z => z.elim) (fun z => z.elim) q (show ∃ ws', RelTV ro (upd H a (.dT (putK ws k v))) (kput x d kvs) ws' ∧ AtL (upd H a (.dT (putK ws k v))) a false (.dT ws') from ⟨_, RelTV.mono (.refl _) ex.tup (kput_rel tkey_inj h1 rv r2), upd_same⟩) nu_dT
  | false =>
    obtain ⟨ws, r2, q⟩ := (show ∃ ws, RelKV ro H kvs ws ∧ AtL H a false (.dK ws) from q)
    obtain ⟨k, h1, h2⟩ := dkey_kV r hk
    have q : H a = some (.dK ws) := q
    have ex : Ext H (upd H a (.dK (putK ws k v))) := .put q dK_tup dK_frz
    refine ⟨_, .inl ⟨ws, k, q, h2, by rw [← len r2, ← sz_eq]; exact hz, rfl⟩, ex, ?_⟩
    refine hS.put hn e (fun z => z.elim) (fun z => z.elim) q (show ∃ ws', RelKV ro (upd H a (.dK (putK ws k v))) (kput x d kvs) ws' ∧ AtL (upd H a (.dK (putK ws k v))) a false (.dK ws') from ⟨_, RelKV.mono (.refl _) ex.tup (kput_rel dkey_inj h1 rv r2), upd_same⟩) nu_dK
/-- d[k] -/
theorem se_dget (cx : Ctx g E X) (ho : SE X g E o mo) (hi : SE X g E i mi) (hs : NoSl i := by intro _ _; rfl) : SE X g E (.Subscript o i pos) (eBin opGet mo mi) := ⟨pe_imp (pe_dget (by have := cx.units; omega) ho.run hi.run hs) fun s H Q ⟨ro, L, S, hL, hS, h⟩ => by
  refine ⟨ro, L, S, hL, hS, Post.bind h fun d S1 ro1 H1 v gr ex hS1 rv w => ⟨ro1, L, S1, hL.mono gr ex, hS1, Post.bind w fun d2 S2 ro2 H2 v2 gr2 ex2 hS2 rv2 w => ?_⟩⟩
  unfold opGet at w
  split at w
  · rename_i n
    obtain ⟨p1, h1, rfl⟩ := rv.ref_inv
    split at w
    · rename_i t lk kvs e
      split at w
      · rename_i hk
        split at w
        · rename_i d3 e3
          obtain ⟨v3, g3, r3⟩ := (dget_rel hS2 (gr2 _ _ h1) e rv2 hk).1 _ e3
          exact ⟨p1, v3, rfl, g3, w ro2 H2 _ (.refl _) (.refl _) hS2 r3⟩
        · exact w.elim
      · exact w.elim
    · exact w.elim
  · exact w.elim⟩
end
end MP

namespace MP
open PySem L2
section
variable {X : Cx} {g : G} {E : XK} {a b e c o i : Expr} {m ma mb mc mo mi : EM} {pos p apos : Pos} {es : List Expr} {ms : AM} {k : Nat} {F : Fn}
theorem se_err : SE X g E e eErr := ⟨⟨fun pins s σ H Q I ⟨ro, L, S, hL, hS, h⟩ => h.elim⟩⟩
theorem ss_err {st : Stmt} : SS X g E st sErr := ⟨⟨fun pins s σ H D I ⟨ro, L, S, hL, hS, h⟩ => h.elim⟩⟩
theorem Ctx.free {x : Str} (cx : Ctx g E X) (h : g.mg x = none) : X.mg x = none := by rw [cx.mg]; exact h
theorem Ctx.gi {x : Str} {i : Int} (cx : Ctx g E X) (h : ∃ t, g.mg x = some (.int i t)) : ∃ t, X.mg x = some (.int i t) := by rw [cx.mg]; exact h
theorem Ctx.gs {x z : Str} (cx : Ctx g E X) (h : ∃ t, g.mg x = some (.str z t)) : ∃ t, X.mg x = some (.str z t) := by rw [cx.mg]; exact h
theorem is_non {ro : List Addr} {H : Hp} {d : D} {v : V} (rv : RelD ro H d v) : decide (d = .non) = decide (v = .non) := by
  cases d with
  | non => rw [rv.non_inv] <;> rfl
  | bl b => rw [rv.bl_inv] <;> rfl
  | int b => rw [rv.int_inv] <;> rfl
  | str b => rw [rv.str_inv.1] <;> rfl
  | tup b => obtain ⟨_, _, e, _⟩ := rv.tup_inv; rw [e] <;> rfl
  | ref b => obtain ⟨_, _, e⟩ := rv.ref_inv; rw [e] <;> rfl
  | exn _ _ => rw [rv.exn_inv] <;> rfl
theorem st_isN {j : Nat} {pos2 : Pos} (ha : SE X g E a ma) : ST X g E (.Compare a [.Is] [.Constant .none j pos2] pos) (tV (eUn opIsN ma)) := ⟨pt_imp (pt_cmp (pc_isN ha.run) rfl) fun s H Q h => by
  obtain ⟨ro, L, S, hL, hS, h⟩ := rd_tv h
  exact ⟨ro, L, S, hL, hS, Post.bind h fun d S1 ro1 H1 v gr ex hS1 rv w => by
    have q := w ro1 H1 _ (.refl _) (.refl _) hS1 .bl_mk
    rw [is_non rv] at q
    exact q⟩⟩
theorem st_notN {j : Nat} {pos2 : Pos} (ha : SE X g E a ma) : ST X g E (.Compare a [.IsNot] [.Constant .none j pos2] pos) (tV (eUn opNotN ma)) := ⟨pt_imp (pt_cmp (pc_notN ha.run) rfl) fun s H Q h => by
  obtain ⟨ro, L, S, hL, hS, h⟩ := rd_tv h
  exact ⟨ro, L, S, hL, hS, Post.bind h fun d S1 ro1 H1 v gr ex hS1 rv w => by
    have q := w ro1 H1 _ (.refl _) (.refl _) hS1 .bl_mk
    rw [is_non rv] at q
    exact q⟩⟩
theorem st_isB {k : Bool} {j : Nat} {pos2 : Pos} (ha : SE X g E a ma) : ST X g E (.Compare a [.Is] [.Constant (.bool k) j pos2] pos) (tV (eUn (opIsB k) ma)) :=
  ⟨pt_imp (pt_cmpR op_is_bl ha.run (se_bl (g := g) (E := E)).run rfl) fun s H Q h => by
    obtain ⟨ro, L, S, hL, hS, h⟩ := rd_tv h
    exact ⟨ro, L, S, hL, hS, Post.bind h fun d S1 ro1 H1 v gr ex hS1 rv w => ⟨ro1, L, S1, hL.mono gr ex, hS1, fun ro2 H2 v2 gr2 ex2 hS2 rv2 => by
      cases d with
      | bl b => exact ⟨b, k, rv.bl_inv, rv2.bl_inv, w ro2 H2 _ gr2 ex2 hS2 .bl_mk⟩
      | _ => exact w.elim⟩⟩⟩
theorem st_notB {k : Bool} {j : Nat} {pos2 : Pos} (ha : SE X g E a ma) : ST X g E (.Compare a [.IsNot] [.Constant (.bool k) j pos2] pos) (tV (eUn (opNotB k) ma)) :=
  ⟨pt_imp (pt_cmpR op_isnot_bl ha.run (se_bl (g := g) (E := E)).run rfl) fun s H Q h => by
    obtain ⟨ro, L, S, hL, hS, h⟩ := rd_tv h
    exact ⟨ro, L, S, hL, hS, Post.bind h fun d S1 ro1 H1 v gr ex hS1 rv w => ⟨ro1, L, S1, hL.mono gr ex, hS1, fun ro2 H2 v2 gr2 ex2 hS2 rv2 => by
      cases d with
      | bl b => exact ⟨b, k, rv.bl_inv, rv2.bl_inv, w ro2 H2 _ gr2 ex2 hS2 .bl_mk⟩
      | _ => exact w.elim⟩⟩⟩
theorem si_str {tg : Expr} (cx : Ctx g E X) (ha : SE X g E a ma) : SI X g E tg a (wStr ma) := ⟨pi_imp (pi_str ha.run) fun s H Q ⟨ro, L, S, hL, hS, h⟩ => by
  refine ⟨ro, L, S, hL, hS, Post.bind h fun d S1 ro1 H1 v gr ex hS1 rv h => ?_⟩
  cases d with
  | str z =>
    obtain ⟨e, k⟩ := rv.str_inv
    refine ⟨_, e, h ro1 H1 _ (.refl _) (.refl _) hS1 fun i ro' S' H' gr' ex' R hk => ?_⟩
    refine ⟨fun d hd => ?_, fun hi => ?_⟩
    · rw [List.getElem?_map] at hd
      cases q : z[i]? with
      | none => rw [q] at hd; cases hd
      | some c =>
        rw [q] at hd
        cases hd
        have q2 : z.toArray[i]? = some c := by simpa using q
        refine ⟨(Array.getElem?_eq_some_iff.mp q2).1, fun x H'' ⟨e1, c', e2, e3⟩ => ?_⟩
        subst e1 e3
        rw [q2] at e2
        cases e2
        exact ⟨.refl _, R, .str_mk fun b hb => by
          cases hb with
          | head => exact k _ (List.mem_of_getElem? q)
          | tail _ hb => cases hb⟩
    · show z.toArray.size ≤ i
      rw [hi]
      simp
  | _ => exact h.elim⟩
/-- all values are written, of a def with defaults -/
theorem binds_full {K : PySem.W.Frag} {x qual : Str} {params : Arguments} {body : List Stmt} {scope : Scope} {dvs : List V} {f : Addr} {fd : FuncData} {ps : List Str} (F : FunD K x qual params body scope dvs [] f fd) (n : Nat) (hd : dvs ≠ []) (hn : n = ps.length)
    (h : ∀ (T : Addr) (kV doc pm : Value) (an : Option Addr) (cdv ct : Value) (us its : List Value), us.length = n → its.length = dvs.length →
      ∃ k, bindArgs (PySem.W.fnOf x qual params body scope (.ref T) kV doc pm an cdv ct) ⟨us, []⟩ = seqItems? (.ref T) >>= k ∧ k (some its.toArray) = pure (ps.zip us)) : Binds K fd ps [] := by
  obtain ⟨ds, v, b⟩ := F.binds1 (ps := ps) n dvs.length hd (by omega) fun T kV doc pm an cdv ct us its h1 h2 => by
    obtain ⟨k, e1, e2⟩ := h T kV doc pm an cdv ct us its h1 h2
    refine ⟨k, e1, ?_⟩
    rw [e2, ← h2, List.drop_length, List.append_nil]
  rw [List.drop_length] at v
  cases v
  exact b
theorem c_lenOwn {c : Nat} (cx : Ctx g E X) (d : Me g k c "__len__" F) (hr : Room (k + 1) X.A) : CallR X (.builtin "len") (rN g E (fLenOwn c F)) := by
  obtain ⟨f, fd, ps, hF, hc, hm, hb⟩ := d
  have hF := hF.at cx
  rw [← cx.K] at hc hm hb
  intro pins s σ H xs us Q I rv ⟨ro, S, ds, hS, rd, w⟩
  unfold fLenOwn at w
  split at w
  · rename_i n
    obtain ⟨v, _, rfl, r1, r2⟩ := rd.inv
    cases r2.inv0
    obtain ⟨x, hx, rfl⟩ := r1.ref_inv
    obtain ⟨u, _, ru, rn, rfl⟩ := (show ∃ u us', RelV (.ref x) u ∧ Vals [] us' ∧ us = u :: us' from by cases rv; exact ⟨_, _, by assumption, by assumption, rfl⟩)
    cases rn
    cases ru
    split at w
    · rename_i c' fs e1
      split at w
      · rename_i hc'
        subst hc'
        obtain ⟨dx, ws, r, q⟩ := hS.at hx e1
        obtain ⟨mA, J, _⟩ := ins_get I.hok q
        obtain ⟨od, J, _⟩ := J.look
        refine Calls.call_function_entry kind_len plain_len entry_len (args_len1 _) ?_
        unfold Builtin.«len»
        refine wpAny_bind (m := oneArg "len" _) (wpAny_pure ?_)
        have env0 : Env0 X.prog X.w X.K X.mg X.base X.A.in1 X.stack s H := by
          have e := I.env0
          exact ⟨e.frames, e.mod, e.bs, e.bsz, e.funs, e.frf, e.hok, e.bare⟩
        have hsp : spM g F [.ref x] H (fun v H' => ∃ (i : Int), v = .int i ∧ 0 ≤ i ∧ i < 2 ^ 63 ∧ Q (.int i) H') E := by
          refine ⟨ro, S, [.ref n], hS, .cons (.ref_mk hx) .nil, Post.bind w fun d1 S1 ro1 H1 v1 gr ex hS1 rv1 w => ?_⟩
          split at w
          · rename_i i
            split at w
            · rename_i hi
              exact ⟨i, rv1.int_inv, hi.1, hi.2, w ro1 H1 _ (.refl _) (.refl _) hS1 .int_mk⟩
            · exact w.elim
          · exact w.elim
        have hl := hF.len _ _ _ _ hsp
        have r2 : Vals [V.ref x] [Value.ref x] := .cons rfl .nil
        refine wpAny_bind (m := callSpecial? (.ref x) (Str.ofString "__len__")) ?_
        simp only [callSpecial?]
        refine wpAny_bind (wpAny_bind (J.type.here ((PySem.W.looks_findIn I.kIn hm.at_).here ?_)))
        refine wpAny_holding (wpAny_bind ((PySem.W.bind_fn I.kIn _ (beq_iff_eq.mp hm.fn)).here ?_))
        refine wpAny_bind (wpAny_call (codeAny_mono (hF.run X.A.in1 X.stack s H ⟨[.ref x], []⟩ [.ref x] [.ref x] _ E (Room.in1 hr) env0 (by
          have := hb s [.ref x] I.kIn (by simpa using hl)
          simpa using this) r2 hsp) fun r s' hq => ?_))
        cases r with
        | error e => exact passM cx pins σ H s e s' I hq
        | ok fl =>
          cases fl with
          | ret w =>
            obtain ⟨z, H', I', rz, i, ez, h0, h1, hQ⟩ := I.after hq
            subst ez
            obtain ⟨t, rfl⟩ := rz
            refine wpAny_pure (wpAny_bind (wpAny_holding (wpAny_pure ?_)))
            refine wpAny_bind (wpAny_letGo ?_)
            show wpAny _ _ (if i < 0 then _ else _) _ _ _
            rw [if_neg (by omega)]
            show wpAny _ _ (if i ≥ 2 ^ 63 then _ else _) _ _ _
            rw [if_neg (by omega)]
            exact wpAny_bind (wpAny_mkInt (wpAny_pure ⟨_, rfl, .int i, H', I'.tok _, ⟨_, rfl⟩, hQ⟩))
          | next => exact False.elim hq
          | brk => exact False.elim hq
          | cont => exact False.elim hq
      · exact w.elim
    · exact w.elim
  · exact w.elim
end
end MP

namespace MP
open PySem L2
abbrev tS (x : List Nat) : Str := ⟨x.toArray⟩
theorem tS_join (a : List Nat) : ∀ ys : List (List Nat), Str.join (tS a) (ys.map tS) = tS (joinS a ys)
  | [] => rfl
  | [x] => rfl
  | x :: y :: r => by
    show tS x ++ tS a ++ Str.join (tS a) ((y :: r).map tS) = tS (x ++ a ++ joinS a (y :: r))
    rw [tS_join a (y :: r), SX.S_cat, SX.S_cat]
theorem strsOfD_rel {ro : List Addr} {H : Hp} : ∀ {ds : List D} {vs : List V} {zs : List (List Nat)}, RelDs ro H ds vs → strsOfD ds = some zs → vs = (zs.map tS).map V.str ∧ ∀ z ∈ zs, ∀ c ∈ z, c < 0x110000
  | [], vs, b, h, e => by cases e; exact ⟨by rw [h.inv0] <;> rfl, fun z hz => by cases hz⟩
  | d :: ds, vs, b, h, e => by
    obtain ⟨v, r, rfl, h2, h3⟩ := h.inv
    cases d with
    | str i =>
      simp only [strsOfD] at e
      cases q : strsOfD ds with
      | none => rw [q] at e; cases e
      | some c =>
        rw [q] at e
        cases e
        obtain ⟨e1, e2⟩ := strsOfD_rel h3 q
        obtain ⟨e3, e4⟩ := h2.str_inv
        refine ⟨by rw [e1, e3] <;> rfl, fun z hz => ?_⟩
        rcases List.mem_cons.mp hz with rfl | hz
        · exact e4
        · exact e2 z hz
    | _ => simp [strsOfD] at e
theorem joinS_ok {a : List Nat} (ha : ∀ c ∈ a, c < 0x110000) : ∀ {zs : List (List Nat)}, (∀ z ∈ zs, ∀ c ∈ z, c < 0x110000) → ∀ c ∈ joinS a zs, c < 0x110000
  | [], _, c, hc => by cases hc
  | [x], h, c, hc => h x (List.mem_cons_self ..) c hc
  | x :: y :: r, h, c, hc => by
    rcases List.mem_append.mp (show c ∈ (x ++ a) ++ joinS a (y :: r) from hc) with hc | hc
    · rcases List.mem_append.mp hc with hc | hc
      · exact h x (List.mem_cons_self ..) c hc
      · exact ha c hc
    · exact joinS_ok ha (fun z hz => h z (List.mem_cons_of_mem _ hz)) c hc
theorem txt_split (x : List Nat) (c : Nat) : Txt.split (tS x) ⟨#[c]⟩ = (splitC c x).map tS := by
  have un : ∀ l : List Str, ∃ ys : List (List Nat), l = ys.map tS := fun l => ⟨l.map fun z => z.cps.toList, by rw [List.map_map]; exact (List.map_id' l).symm.trans (List.map_congr_left fun z _ => by simp [tS])⟩
  obtain ⟨ys, e⟩ := un (Txt.split (tS x) ⟨#[c]⟩)
  have j : Str.join (tS [c]) (Txt.split (tS x) (tS [c])) = tS x := StrLaws.join_split _ _
  have e' : Txt.split (tS x) (tS [c]) = ys.map tS := e
  rw [e', tS_join] at j
  have j := SX.S_inj j
  have fr : ∀ p ∈ ys, c ∉ p := fun p hp => by
    have := StrLaws.split_free (tS x) c (tS p) (by rw [e]; exact List.mem_map_of_mem hp)
    simpa [tS] using this
  have ne : ys ≠ [] := fun z => by
    have := PyProof.Rows.split_pos (tS x) ⟨#[c]⟩
    rw [e, z] at this
    simp at this
  rw [e, join_inj ne (splitC_ne c x) fr (splitC_free c x) (j.trans (splitC_join c x).symm)]
theorem rel_strs {ro : List Addr} {H : Hp} : ∀ ys : List (List Nat), (∀ y ∈ ys, ∀ k ∈ y, k < 0x110000) → RelDs ro H (ys.map D.str) ((ys.map tS).map V.str)
  | [], _ => .nil
  | y :: ys, h => .cons (.str_mk (h y (List.mem_cons_self ..))) (rel_strs ys fun y hy => h y (List.mem_cons_of_mem _ hy))
section
variable {X : Cx} {g : G} {E : XK}
theorem m_join (cx : Ctx g E X) : MtR X "str.join" (rM g E fJoin) := mtr_imp mt_join fun x xs H Q ⟨ro, S, ds, hS, rv, w⟩ => by
  unfold fJoin at w
  split at w
  · rename_i a ys
    obtain ⟨v, _, e1, r1, r2⟩ := rv.inv
    obtain ⟨u, _, e2, r3, r4⟩ := r2.inv
    cases r4.inv0
    subst e2
    cases e1
    obtain ⟨p, vs, rfl, hp, rr⟩ := r3.tup_inv
    obtain ⟨ea, ka⟩ := r1.str_inv
    split at w
    · rename_i zs hz
      split at w
      · rename_i hle
        obtain ⟨e3, k3⟩ := strsOfD_rel rr hz
        refine ⟨tS a, p, zs.map tS, ea, rfl, .inr (by rw [← e3]; exact SqT.of hp), ?_, ?_⟩
        · have l1 : (zs.map tS).map (·.length) = zs.map (·.length) := by
            rw [List.map_map]
            exact List.map_congr_left fun z _ => SX.S_len z
          rw [l1, List.length_map, SX.S_len]
          exact hle
        · have e4 : Txt.join (tS a) (zs.map tS) = tS (joinS a zs) := by
            unfold Txt.join
            rw [StrLaws.glued_eq_join, tS_join]
          rw [e4]
          exact w ro H _ (.refl _) (.refl _) hS (.str_mk (joinS_ok ka k3))
      · exact w.elim
    · exact w.elim
  · exact w.elim
theorem m_split (cx : Ctx g E X) : MtR X "str.split" (rM g E fSplit) := mtr_imp mt_split fun x xs H Q ⟨ro, S, ds, hS, rv, w⟩ => by
  unfold fSplit at w
  split at w
  · rename_i z c
    obtain ⟨v, _, e1, r1, r2⟩ := rv.inv
    obtain ⟨u, _, e2, r3, r4⟩ := r2.inv
    cases r4.inv0
    subst e2
    cases e1
    obtain ⟨ea, ka⟩ := r1.str_inv
    obtain ⟨eb, kb⟩ := r3.str_inv
    subst eb
    split at w
    · rename_i hle
      refine ⟨tS z, ⟨#[c]⟩, ea, rfl, rfl, by rw [SX.S_len, ← sz_eq]; exact hle, fun p hp => ?_⟩
      rw [txt_split]
      refine w.push hS hp ⟨_, ?_, upd_same⟩
      have ok : ∀ y ∈ splitC c z, ∀ k ∈ y, k < 0x110000 := by
        have : ∀ x : List Nat, (∀ k ∈ x, k < 0x110000) → ∀ y ∈ splitC c x, ∀ k ∈ y, k < 0x110000 := by
          intro x
          induction x with
          | nil => intro _ y hy k hk; simp [splitC] at hy; subst hy; cases hk
          | cons a r ih =>
            intro h y hy k hk
            have ih := ih fun k hk => h k (List.mem_cons_of_mem _ hk)
            unfold splitC at hy
            split at hy
            · rcases List.mem_cons.mp hy with rfl | hy
              · cases hk
              · exact ih y hy k hk
            · split at hy
              · rename_i hd tl e
                rcases List.mem_cons.mp hy with rfl | hy
                · rcases List.mem_cons.mp hk with rfl | hk
                  · exact h _ (List.mem_cons_self ..)
                  · exact ih hd (by rw [e]; exact List.mem_cons_self ..) k hk
                · exact ih y (by rw [e]; exact List.mem_cons_of_mem _ hy) k hk
              · rename_i e
                exact absurd e (splitC_ne c r)
        exact this z ka
      exact rel_strs _ ok
    · exact w.elim
  · exact w.elim
end
end MP

namespace MP
open PySem PySem.W PySem.Calls PyProof.Rows PySem.SeqAt
section
variable {prog : Program} {w : World} {A : Around} {E : Value → Shared → Prop} {s : Shared}
theorem call_tuple_lt {Q : Value → Shared → Prop} {l b : Addr} {items items2 : Array Value} {e r : Nat → Bool} (hl : s.heap.IsTuple l items) (hb : s.heap.IsTuple b items2)
    (he : ∀ j (h1 : j < items.size) (h2 : j < items2.size), EqAt A.in1 s items[j] items2[j] (e j)) (hr : ∀ j (h1 : j < items.size) (h2 : j < items2.size), e j = false → RcLt A.in1 s items[j] items2[j] (r j))
    (h : Q (.bool (firstLt e r (decide (items.size < items2.size)) (List.range (min items.size items2.size)))) s) : wpAny (model prog w) A (call (.builtin "tuple.__lt__") [.ref l, .ref b]) Q E s := by
  obtain ⟨⟨cls, dd, data, sl⟩, ho, hc, n, hd⟩ := id hl
  obtain ⟨⟨cls2, dd2, data2, sl2⟩, ho2, hc2, n2, hd2⟩ := id hb
  simp only at hc hd hc2 hd2
  subst hc hd hc2 hd2
  exact call_meets F.slot_tuple_lt ⟨_, ho, rfl⟩ F.entry_tuple_lt (F.args_tuple_lt_2 _ _) (tuple_ltAt l b items items2 n n2 dd dd2 sl sl2 e r) ⟨ho, ho2, he, hr, h⟩
theorem oneLt_tup {xs ys : List PyData} {a b : Value} {as bs : List Addr} {Q : Bool → Shared → Prop} (ra : Reads s.heap a (.tuple xs) as) (rb : Reads s.heap b (.tuple ys) bs) (hal : alikeAll xs ys = true)
    (hu : A.units + min (PyData.tuple xs).depth (PyData.tuple ys).depth < cLine) (hq : Q (dataLt (.tuple xs) (.tuple ys)) s) : wpAny (model prog w) A (oneLt' true a b) Q E s := by
  cases ra with
  | @tuple l o vs n _ as₁ h1 h2 h3 h4 =>
    cases rb with
    | @tuple l' o' vs' n' _ bs₁ k1 k2 k3 k4 =>
      have n1 : vs.size = xs.length := by simpa using SeqAt.ReadsAll.length _ _ _ h4
      have n2 : vs'.size = ys.length := by simpa using SeqAt.ReadsAll.length _ _ _ k4
      rw [dataLt_tuple, ← firstLt_toks xs ys hal, ← n1, ← n2] at hq
      rw [oneLt'_eq]
      simp only [if_true]
      refine wpAny_bind (wpAny_cRoomFor (room_here hu) ?_)
      refine wpAny_bind (wpAny_callSpecialIfBound?_slot (T := "tuple") ⟨_, h1, h2⟩ F.slot_tuple_lt (call_tuple_lt (e := pairEq xs ys) (r := fun j => dataLt (xs.getD j .none) (ys.getD j .none)) ⟨_, h1, h2, _, h3⟩ ⟨_, k1, k2, _, k3⟩ (fun j j1 j2 => ?_) (fun j j1 j2 hj => ?_) ?_))
      · have := eqAt_alikeAll xs ys A.in1 s vs.toList vs'.toList _ _ h4 k4 hal (room_in hu) j (by simpa using j1) (by simpa using j2)
        simpa using this
      · have := rcLt_alikeAll xs ys A.in1 s vs.toList vs'.toList _ _ h4 k4 hal (room_in hu) j (by simpa using j1) (by simpa using j2) hj
        simpa using this
      · exact wpAny_truthy_bool hq
/-- an item at least -/
def neT : PyData → Bool
  | .tuple (_ :: _) => true
  | _ => false
theorem firsts_any : ∀ {vs : List Value} {ds : List PyData}, EachIs (fun v d => ∃ as, Reads s.heap v d as) vs ds → (∀ d ∈ ds, ∃ xs, d = .tuple xs) →
    ∃ fs : List (Option Value), fs.map (·.isSome) = ds.map neT ∧ ∀ {Q : List (Option Value) → Shared → Prop}, Q fs s → wpAny (model prog w) A (vs.mapM firstOfTuple') Q E s
  | _, _, .nil, _ => ⟨[], rfl, fun h => by rw [List.mapM_nil]; exact wpAny_pure h⟩
  | _, _, .cons (a := v) (b := d) ⟨as, r⟩ t, ht => by
    obtain ⟨fs, h1, h2⟩ := firsts_any t fun d hd => ht d (List.mem_cons_of_mem _ hd)
    obtain ⟨xs, rfl⟩ := ht d (List.mem_cons_self ..)
    cases r with
    | @tuple a o vs n _ _ ho hc hd hr =>
      refine ⟨vs[0]? :: fs, ?_, fun {Q} h => ?_⟩
      · rw [List.map_cons, List.map_cons, h1]
        congr 1
        have hl : vs.size = xs.length := by simpa using SeqAt.ReadsAll.length _ _ _ hr
        cases xs with
        | nil =>
          have : vs[0]? = none := Array.getElem?_eq_none (by rw [hl]; exact Nat.le_refl _)
          rw [this]
          rfl
        | cons x r =>
          have : 0 < vs.size := by rw [hl, List.length_cons]; omega
          rw [Array.getElem?_eq_getElem this]
          rfl
      · rw [List.mapM_cons]
        refine wpAny_bind ?_
        rw [kas_first_eq]
        refine wpAny_bind (Looks.here (show Looks _ s.heap (typeOf (.ref a)) o.cls from (Looks.ld ho).andThen .now) ?_)
        rw [hc, if_neg (by first | decide | simp)]
        refine wpAny_bind (listItems_at ho hd (wpAny_pure ?_))
        exact wpAny_bind (h2 (Q := fun bs s' => wpAny _ A (pure (vs[0]? :: bs)) Q E s') (wpAny_pure h))
/-- tuples, some of them empty: their kind -/
theorem kind_tups0 {vs : List Value} {ds : List PyData} {Q : SortKind → Shared → Prop} (e : EachIs (fun v d => ∃ as, Reads s.heap v d as) vs ds) (ht : ∀ d ∈ ds, ∃ xs, d = .tuple xs) (hn : ds.all neT = false)
    (h : Q (if (ds.head?.map neT) = some true then general' else oneType') s) : wpAny (model prog w) A (keyKind' vs.toArray) Q E s := by
  obtain ⟨fs, h1, h2⟩ := firsts_any (prog := prog) (w := w) (A := A) (E := E) e ht
  rw [kat_kind_eq, List.mapM_toArray, map_eq_pure_bind]
  refine wpAny_bind (wpAny_bind (h2 (wpAny_pure ?_)))
  have hall : (fs.toArray.all fun x => x.isSome) = false := by
    have e1 : fs.all (·.isSome) = (fs.map (·.isSome)).all id := by rw [List.all_map]; rfl
    have e2 : ds.all neT = (ds.map neT).all id := by rw [List.all_map]; rfl
    simp only [List.all_toArray]
    rw [e1, h1, ← e2, hn]
  rw [if_neg (by rw [hall]; decide)]
  have hne : (fs.toArray[0]?.bind id).isSome = decide ((ds.head?.map neT) = some true) := by
    cases fs with
    | nil =>
      cases ds with
      | nil => rfl
      | cons d ds => cases h1
    | cons f fs =>
      cases ds with
      | nil => cases h1
      | cons d ds =>
        simp only [List.map_cons, List.cons.injEq] at h1
        simp [h1.1]
  rw [hne]
  by_cases q : (ds.head?.map neT) = some true
  · rw [if_pos (by simp [q])]
    rw [if_pos q] at h
    exact wpAny_pure h
  · rw [if_neg (by simp [q])]
    rw [if_neg q] at h
    have hT : ∀ v ∈ vs, Looks (model prog w) s.heap (typeOf v) (.type "tuple") := fun v hv => by
      obtain ⟨d, hd, as, r⟩ := e.left v hv
      obtain ⟨xs, rfl⟩ := ht d hd
      exact looks_reads r
    rw [oneTypeOnly'_eq, List.mapM_toArray, map_eq_pure_bind]
    refine wpAny_bind (wpAny_bind (wpAny_bind (kas_mapM (r := .type "tuple") _ (fun v hv Q' hq => (hT v hv).here hq) (wpAny_pure ?_))))
    cases vs with
    | nil => cases e; simp at hn
    | cons v vs =>
      have hall : ((List.map (fun _ => Value.type "tuple") (v :: vs)).toArray.all fun x => x == Value.type "tuple") = true := by
        simp only [List.all_toArray, List.all_map, List.all_eq_true]
        intro _ _
        exact beq_self_eq_true _
      have h0 : (List.map (fun _ => Value.type "tuple") (v :: vs)).toArray[0]? = some (Value.type "tuple") := by simp
      rw [h0]
      simp only [hall, if_true]
      exact wpAny_pure (wpAny_pure h)
/-- alike tuples, some of them empty, can be sorted -/
theorem sortsAt_tups {vs : List Value} {ds : List PyData} (e : EachIs (fun v d => ∃ as, Reads s.heap v d as) vs ds) (hal : AllAlike ds) (ht : ∀ d ∈ ds, ∃ xs, d = .tuple xs) (hu : ∀ d, d ∈ ds → A.units + d.depth < cLine) :
    SortsAt prog w A s (dataKind s.heap ds) vs := by
  cases hn : ds.all neT with
  | true =>
    refine SortsAt.data e hal (.inl fun d hd => ?_) hu
    have q := List.all_eq_true.mp hn d hd
    obtain ⟨xs, rfl⟩ := ht d hd
    cases xs with
    | nil => cases q
    | cons x r => exact ⟨x, r, rfl⟩
  | false =>
    have room : ∀ {d d' : PyData}, d ∈ ds → A.units + min d.depth d'.depth < cLine := fun {d d'} hd => Nat.lt_of_le_of_lt (Nat.add_le_add_left (Nat.min_le_left _ _) _) (hu d hd)
    refine ⟨fun v hv => ?_, if (ds.head?.map neT) = some true then general' else oneType', ?_, fun _ E Q hq => kind_tups0 e ht hn hq⟩
    · obtain ⟨d, hd, as, r⟩ := e.left v hv
      exact ⟨_, dataKind_some hal hd r⟩
    · intro E x y a b Q ha hb hq
      obtain ⟨d, as, hd, ra, rfl⟩ := dataKind_inv ha
      obtain ⟨d', as', hd', rb, rfl⟩ := dataKind_inv hb
      obtain ⟨xs, rfl⟩ := ht d hd
      obtain ⟨ys, rfl⟩ := ht d' hd'
      have h := hal _ hd _ hd'
      have hq' : Q (dataLt (.tuple xs) (.tuple ys)) s := hq
      split
      · show wpAny _ _ (oneLt' false x y) _ _ _
        exact oneLt_alike (fun z => by cases z) ra rb h (by intro z; cases z) (room hd) hq'
      · rw [keyLt'_oneType]
        exact oneLt_tup ra rb (by simpa [alike] using h) (room hd) hq'
/-- what a walk yields, as a list -/
theorem collectK {T : String} {r d : Addr} {n : Nat} {P : Nat → Value → Prop} {OK : Heap → Prop} {R : List Value → Shared → Prop} (K : KdlSrc prog w T r d n P OK) (hh : A.handled = none) (hok : OK s.heap) (hn : n ≤ sizeLine)
    (h : ∀ (h' : Heap) (tk : Nat) (acc : Array Value), (∀ b o, s.heap.get? b = some o → h'.get? b = some o) → s.heap.objs.size ≤ h'.objs.size → ItemsOf P acc n → R acc.toList { s with heap := h', toks := tk }) :
    wpAny (model prog w) A (collect (.ref r)) R E s := by
  have hlt := K.there _ hok
  unfold collect
  refine wpAny_bind (wpAny_runValue (codeAny_builtin entry_proto_collect' ?_))
  rw [Around.under_plainId PySem.F.plain_proto_collect _]
  show wpAny _ A.in1 (newList [] >>= fun l => again (.builtin "list.__iadd__" ⟨[l, .ref r], []⟩)) _ _ s
  refine wpAny_bind (wpAny_newObj_type ?_)
  refine wpAny_pure ⟨plainId_quiet PySem.F.plain_list_iadd _, codeAny_builtin entry_list_iadd' ?_⟩
  rw [Around.under_plainId PySem.F.plain_list_iadd _]
  have hS₁ : (s.heap.push { cls := .type "list", data := .seq ([] : List Value).toArray }).get? s.heap.objs.size = some { cls := .type "list", data := .seq #[] } := Heap.get?_push_size _ rfl
  show wpAny _ A.in1 (Builtin.List.listExtendWith (.ref s.heap.objs.size) (.ref r) (.ref s.heap.objs.size)) _ _ _
  have key := kdl_extend (prog := prog) (w := w) (A := A) (s := { s with heap := s.heap.push { cls := .type "list", data := .seq ([] : List Value).toArray } }) K
    (R := fun (q : Result) (s' : Shared) => ∃ (h' : Heap) (tk : Nat) (acc' : Array Value) (c' : Nat), q = .ok (.ret (.ref s.heap.objs.size)) ∧ s' = { s with heap := h', toks := tk } ∧
      (∀ b o, s.heap.get? b = some o → h'.get? b = some o) ∧ h'.get? s.heap.objs.size = some { cls := .type "list", dict := none, data := .seq acc' c', slots := #[] } ∧ ItemsOf P acc' n)
    hh (K.keep _ _ hok fun b _ o e => Heap.get?_push_of_some _ e) s.heap.objs.size (Nat.ne_of_gt hlt.1) (Nat.ne_of_gt hlt.2) (.ref s.heap.objs.size) 0 hS₁
    (fun h' tk acc' c' hk hS' hacc => ⟨h', tk, acc', c', rfl, rfl, fun b o e => hk b o (Nat.ne_of_lt (Heap.lt_size e)) (Heap.get?_push_of_some _ e), hS', hacc⟩) hn
  refine wpAny_mono key (fun fin s' x => ?_) fun e s' x => ?_
  · cases fin with
    | done f =>
      obtain ⟨h', tk, acc', c', e, rfl, hk, hS', hacc⟩ := x
      cases e
      show wpAny _ A (load s.heap.objs.size >>= _) _ _ _
      refine wpAny_bind (wpAny_load hS' ?_)
      refine wpAny_pure ?_
      show R acc'.toList _
      exact h h' tk acc' hk (Nat.le_of_lt (Heap.lt_size hS')) hacc
    | again c₁ =>
      refine ⟨x.1, codeAny_mono x.2 fun q s₂ y => ?_⟩
      obtain ⟨h', tk, acc', c', rfl, rfl, hk, hS', hacc⟩ := y
      show wpAny _ A (load s.heap.objs.size >>= _) _ _ _
      refine wpAny_bind (wpAny_load hS' ?_)
      refine wpAny_pure ?_
      show R acc'.toList _
      exact h h' tk acc' hk (Nat.le_of_lt (Heap.lt_size hS')) hacc
  · obtain ⟨_, _, _, _, e', _⟩ := x
    cases e'
/-- sorted(x), by what is collected of x -/
theorem sorted_by {x : Value} {Q : Value → Shared → Prop} (G : List Value → Prop)
    (hc : ∀ (R : List Value → Shared → Prop), (∀ (h' : Heap) (tk : Nat) (vs : List Value), (∀ b o, s.heap.get? b = some o → h'.get? b = some o) → s.heap.objs.size ≤ h'.objs.size → G vs → R vs { s with heap := h', toks := tk }) → wpAny (model prog w) A.in1 (collect x) R E s)
    (hS : ∀ (tk : Nat) (vs : List Value) (h' : Heap), (∀ b o, s.heap.get? b = some o → h'.get? b = some o) → G vs → vs.length ≤ sizeLine ∧ ∃ κ, SortsAt prog w A.in1.in1 { s with heap := h', toks := tk } κ vs ∧
      ∀ (h3 : Heap) (d : Addr), (∀ b o, s.heap.get? b = some o → h3.get? b = some o) → s.heap.objs.size ≤ d → (∃ n, h3.get? d = some (seqObj "list" (sortVals κ false vs vs).toArray n)) → Q (.ref d) { s with heap := h3, toks := tk }) :
    wpAny (model prog w) A (call (.builtin "sorted") [x]) Q E s := by
  refine Calls.call_function_entry kind_sorted plain_sorted entry_sorted (args_sorted1 _) ?_
  unfold Builtin.«sorted»
  refine wpAny_bind (m := checkCount "sorted" 1 1 _) (wpAny_pure ?_)
  refine wpAny_bind (hc _ fun h' tk vs hk hle hG => ?_)
  refine wpAny_bind (wpAny_newList ?_ (hS tk vs h' hk hG).1)
  have ho : (h'.push (seqObj "list" vs.toArray 0)).get? h'.objs.size = some (seqObj "list" vs.toArray 0) := Heap.get?_push_size _ rfl
  have ne : ∀ {b : Addr} {o : Obj}, s.heap.get? b = some o → b ≠ h'.objs.size := fun e => Nat.ne_of_lt (Nat.lt_of_lt_of_le (Heap.lt_size e) hle)
  have kp : ∀ b o, s.heap.get? b = some o → (h'.push (seqObj "list" vs.toArray 0)).get? b = some o := fun b o e => Heap.get?_push_of_some _ (hk b o e)
  obtain ⟨hz, κ, S, q⟩ := hS tk vs (sortingHeap (h'.push (seqObj "list" vs.toArray 0)) h'.objs.size vs) (fun b o e => sortingHeap_old (ne e) (kp b o e)) hG
  show wpAny _ _ _ _ _ { s with heap := h'.push (seqObj "list" vs.toArray 0), toks := tk }
  refine wpAny_bind (wpAny_holding (wpAny_call_entry slot_list_sort ⟨_, ho, rfl⟩ entry_list_sort (list_sort_vals (s := { s with heap := h'.push (seqObj "list" vs.toArray 0), toks := tk }) ho S hz ⟨_, rfl, ?_⟩) (args_list_sort _)))
  exact wpAny_pure ⟨_, rfl, q _ _ (fun b o e => (sortedHeap_old (ne e) (Heap.lt_size (kp b o e))).trans (kp b o e)) hle (sortedHeap_at ho)⟩
end
end MP

namespace MP
open PySem L2
section
variable {X : Cx} {g : G} {E : XK} {a b e c o i tg : Expr} {es : List Expr} {m ma mb mo mi : EM} {ms : AM} {pos p apos : Pos}
/-! ### in, len, d[k] = v -/
theorem o_inD (cx : Ctx g E X) : O2 X g E (compareOp .In) (inD false) := by
  intro pins s σ H x y v u Q I rx ry ⟨ro, S, dx, dy, hS, r1, r2, w⟩
  unfold inD at w
  split at w
  · rename_i n
    obtain ⟨p1, h1, rfl⟩ := r2.ref_inv
    cases ry
    split at w
    · rename_i t lk kvs z
      split at w
      · rename_i hk
        obtain ⟨i1, i2⟩ := dget_rel hS h1 z r1 hk
        rw [if_neg (by decide)] at w
        cases q : kget dx kvs with
        | some d =>
          obtain ⟨v1, g1, _⟩ := i1 d q
          rw [q] at w
          exact d_in (by have := cx.units; omega) I g1 rx fun s' I' => ⟨.bl true, H, I', rfl, w ro H _ (.refl _) (.refl _) hS .bl_mk⟩
        | none =>
          rw [q] at w
          exact d_in (by have := cx.units; omega) I (i2 q) rx fun s' I' => ⟨.bl false, H, I', rfl, w ro H _ (.refl _) (.refl _) hS .bl_mk⟩
      · exact w.elim
    · exact w.elim
  · exact w.elim
theorem o_notInD (cx : Ctx g E X) : O2 X g E (compareOp .NotIn) (inD true) := by
  intro pins s σ H x y v u Q I rx ry ⟨ro, S, dx, dy, hS, r1, r2, w⟩
  unfold inD at w
  split at w
  · rename_i n
    obtain ⟨p1, h1, rfl⟩ := r2.ref_inv
    cases ry
    split at w
    · rename_i t lk kvs z
      split at w
      · rename_i hk
        obtain ⟨i1, i2⟩ := dget_rel hS h1 z r1 hk
        rw [if_pos rfl] at w
        cases q : kget dx kvs with
        | some d =>
          obtain ⟨v1, g1, _⟩ := i1 d q
          rw [q] at w
          exact d_notIn (by have := cx.units; omega) I g1 rx fun s' I' => ⟨.bl false, H, I', rfl, w ro H _ (.refl _) (.refl _) hS .bl_mk⟩
        | none =>
          rw [q] at w
          exact d_notIn (by have := cx.units; omega) I (i2 q) rx fun s' I' => ⟨.bl true, H, I', rfl, w ro H _ (.refl _) (.refl _) hS .bl_mk⟩
      · exact w.elim
    · exact w.elim
  · exact w.elim
theorem c_lenD (cx : Ctx g E X) : CallR X (.builtin "len") (rN g E fLenDT) := callR_imp call_len_dT fun xs H Q ⟨ro, S, ds, hS, rv, w⟩ => by
  unfold fLenDT at w
  split at w
  · rename_i n
    obtain ⟨v, r, rfl, r1, r2⟩ := rv.inv
    cases r2.inv0
    obtain ⟨p1, h1, rfl⟩ := r1.ref_inv
    split at w
    · rename_i kvs z
      obtain ⟨ws, rl, q⟩ := (show ∃ ws, RelTV ro H kvs ws ∧ AtL H p1 false (.dT ws) from hS.at h1 z)
      refine ⟨p1, ws, rfl, q, ?_⟩
      rw [← Paired.length rl]
      exact w ro H _ (.refl _) (.refl _) hS .int_mk
    · exact w.elim
  · exact w.elim
theorem sg_setD {i : Expr} {mi : EM} (cx : Ctx g E X) (ho : SE X g E o mo) (hi : SE X g E i mi)
    (ha : ∀ v, assign (.Subscript o i pos) X.env v = (do
      let ov ← holding [v] (eval o X.env)
      let iv ← holding [v, ov] (eval i X.env)
      standAt pos
      holding [v, ov, iv] (setItem ov iv v)
      release [v, ov, iv] []) := by intro _; rfl) : SG X g (.Subscript o i pos) (gSub setD mo mi) :=
  ⟨pg_imp (pg_sub ho.run hi.run (set_dict (by have := cx.units; omega)) ha) fun v s H Q ⟨ro, L, S, d, hL, hS, rv, w⟩ => by
    refine ⟨ro, L, S, hL, hS, ?_⟩
    unfold MP.gSub at w
    cases z : mo L S with
    | ok d1 S1 =>
      rw [z] at w
      simp only [R.bind_ok] at w
      intro ro1 H1 v1 gr1 ex1 hS1 rv1
      refine ⟨ro1, L, S1, hL.mono gr1 ex1, hS1, ?_⟩
      cases z2 : mi L S1 with
      | ok d2 S2 =>
        rw [z2] at w
        simp only [R.bind_ok] at w
        intro ro2 H2 v2 gr2 ex2 hS2 rv2
        unfold setD at w
        split at w
        · rename_i n
          obtain ⟨p1, h1, rfl⟩ := rv1.ref_inv
          have h2 := gr2 _ _ h1
          split at w
          · rename_i t kvs z3
            split at w
            · rename_i hk
              simp only [R.bind_ok] at w
              have r3 := RelD.mono gr2 ex2.tup _ _ (RelD.mono gr1 ex1.tup _ _ rv)
              obtain ⟨H', g1, ex3, hS3⟩ := dput_rel hS2 h2 z3 rv2 hk.1 r3 hk.2
              refine ⟨p1, H', rfl, g1, ?_⟩
              exact w ro2 _ s (gr1.trans gr2) (ex1.trans (ex2.trans ex3)) hS3 (RelL.mono (gr1.trans gr2) (ex1.trans (ex2.trans ex3)).tup hL)
            · exact w.elim
          · exact w.elim
        · exact w.elim
      | exc x S2 => rw [z2] at w; exact w.elim
      | err => rw [z2] at w; exact w.elim
    | exc x S1 => rw [z] at w; exact w.elim
    | err => rw [z] at w; exact w.elim⟩
/-! ### d.pop(k) -/
theorem rd_bmD {F : Fn} {s : St} {H : Hp} {Q : VK} (hK : X.K = g.K) (h : rdE g E (eBM "dict" F mo ms) s H Q) : tBM X.K "dict" (rM g E F) (rdE g E mo) (rdA g E ms) s H Q := by
  obtain ⟨ro, L, S, hL, hS, h⟩ := h
  refine ⟨ro, L, S, hL, hS, Post.bind h fun d S1 ro1 H1 v gr ex hS1 rv w => ?_⟩
  split at w
  · rename_i ht
    refine ⟨?_, ro1, L, S1, hL.mono gr ex, hS1, Post.bind w fun ds S2 ro2 H2 vs gr2 ex2 hS2 rv2 w => ⟨ro2, S2, d :: ds, hS2, .cons (rv.mono gr2 ex2) rv2, w⟩⟩
    cases d with
    | ref n =>
      obtain ⟨p1, h1, rfl⟩ := rv.ref_inv
      simp only [tyNm] at ht
      split at ht
      · exact absurd (Option.some.inj ht) (by decide)
      · rename_i t kvs z
        have q := hS1.at h1 z
        cases t with
        | true =>
          obtain ⟨ws, _, q⟩ := (show ∃ ws, RelTV ro1 H1 kvs ws ∧ AtL H1 p1 false (.dT ws) from q)
          exact .inr (.inr (.inl ⟨rfl, .inr ⟨ws, q⟩⟩))
        | false =>
          obtain ⟨ws, _, q⟩ := (show ∃ ws, RelKV ro1 H1 kvs ws ∧ AtL H1 p1 false (.dK ws) from q)
          exact .inr (.inr (.inl ⟨rfl, .inl ⟨ws, q⟩⟩))
      · cases ht
    | _ => first | (exact absurd (Option.some.inj ht) (by decide)) | (cases ht)
  · exact w.elim
theorem se_bmD {id : String} {name : Str} {F : Fn} (cx : Ctx g E X) (slot : Slot "dict" name id) (hty : typeOf (.builtin id) = pure (.type "method_descriptor")) (hm : MtR X id (rM g E F)) (ho : SE X g E o mo) (ha : SA X g E (e :: es) ms)
    (hbase : attributeBase o name X.env (eval o X.env) = eval o X.env := by rfl)
    (hfew : ((backTo pos (starEach (e :: es) X.env)).all (fun x => !x.1) && (backToKw pos (keywordEach [] X.env)).all (fun x => x.1.isSome)
      && decide ((e :: es).length + ([] : List Keyword).length + (if ([] : List Keyword).isEmpty then 0 else 1) < 30)) = true := by rfl)
    (hline : (apos.endLine == pos.line) = true := by rfl) (hs : starEach (e :: es) X.env = (false, eval e X.env) :: starEach es X.env := by rfl) (hplain : (backTo pos (starEach es X.env)).any (·.1) = false := by rfl) :
    SE X g E (.Call (.Attribute o name apos) (e :: es) [] pos) (eBM "dict" F mo ms) := ⟨pe_imp (pe_bm PySem.F.plainAttrs_dict slot hty hm ho.run ha.run hbase hfew hline hs hplain) fun s H Q h => rd_bmD cx.K h⟩
/-- pop of a key that is there -/
theorem mt_pop1 (hu : X.A.units + 1 < cLine) : MtR X "dict.pop" (fun x xs H Q => ∃ (a : Addr) (kvs : List (List L2.Key × V)) (k : List L2.Key) (b : Addr) (v : V), x = .ref a ∧ xs = [.ref b] ∧ H a = some (.dT kvs) ∧ H b = some (.tup (k.map kV)) ∧
    valV kvs k = some v ∧ Q v (upd H a (.dT (dropK kvs k)))) := by
  intro pins s σ H x xs v us Q I rx rxs h
  obtain ⟨a, kvs, k, b, v0, rfl, rfl, ha, hb, ev, q1⟩ := h
  cases rx
  obtain ⟨u1, rfl, r1⟩ := vals1 rxs
  cases r1
  obtain ⟨z, hd, xs', rel, dd⟩ := dt_of I.hok ha
  have hz : xs'.length ≤ sizeLine := by rw [← Paired.length rel]; exact z
  have r := rel.val k
  rw [ev] at r
  obtain ⟨w', hw, rw'⟩ := RelO.some_of (v := v0) (o := (atKey xs' k).map (·.2)) r
  obtain ⟨p, hp, hp2⟩ := Option.map_eq_some_iff.mp hw
  refine call_pop_heap (.inl rfl) (PySem.F.args_dict_pop_2 _ _) (tupleKind_room_in1 hu) (key_of I.hok hb) hd dd hp (fun h' dd' hs => ?_) hz
  obtain ⟨o, es, ep, hq, h2, h3, h4, _, h5⟩ := dd'
  have I2 : Inv X pins σ (upd H a (.dT (dropK kvs k))) { s with heap := h', toks := s.toks + (tupleKind (mixKind X.prog X.w)).draws k } :=
    d_write I (by rw [ha]; exact True.intro) hs ⟨o, hq⟩ ⟨Nat.le_trans (dropK_le kvs k) z, hd, _, (DX.KT_drop k rel).keeps (fun c ys ec => (by rw [upd_ne (ne_of ec ha (fun z => nomatch z))]; exact ec)), o, es, ep, hq, h2, h3, h4, h5⟩
  rw [hp2]
  exact ⟨v0, _, I2, rw', q1⟩
theorem m_pop1 (cx : Ctx g E X) : MtR X "dict.pop" (rM g E fPop1) := mtr_imp (mt_pop1 (by have := cx.units; omega)) fun x xs H Q ⟨ro, S, ds, hS, rv, w⟩ => by
  unfold fPop1 at w
  split at w
  · rename_i n k
    obtain ⟨v, r, e1, r1, rr⟩ := rv.inv
    obtain ⟨v2, r', rfl, r2, rr2⟩ := rr.inv
    cases rr2.inv0
    cases e1
    obtain ⟨p1, h1, rfl⟩ := r1.ref_inv
    split at w
    · rename_i kvs z
      split at w
      · rename_i hk
        split at w
        · rename_i d e3
          obtain ⟨ws, rl, q⟩ := (show ∃ ws, RelTV ro H kvs ws ∧ AtL H p1 false (.dT ws) from hS.at h1 z)
          have q : H p1 = some (.dT ws) := q
          obtain ⟨k', b, t1, rfl, t3⟩ := tkey_kV r2 hk
          obtain ⟨v3, g3, r3⟩ := (kget_rel tkey_inj t1 rl).1 _ e3
          have ex : Ext H (upd H p1 (.dT (dropK ws k'))) := .put q dT_tup dT_frz
          refine ⟨p1, ws, k', b, v3, rfl, rfl, q, t3, g3, w ro _ _ (.refl _) ex ?_ (r3.mono (.refl _) ex.tup)⟩
          exact hS.put h1 z (fun z => z.elim) (fun z => z.elim) q (show ∃ ws', RelTV ro (upd H p1 (.dT (dropK ws k'))) (kdrop k kvs) ws' ∧ AtL (upd H p1 (.dT (dropK ws k'))) p1 false (.dT ws') from ⟨_, RelTV.mono (.refl _) ex.tup (kdrop_rel tkey_inj t1 rl), upd_same⟩) nu_dT
        · exact w.elim
      · exact w.elim
    · exact w.elim
  · exact w.elim
/-! ### range(i, j, -1) -/
theorem rngDn_ok {ro : List Addr} {H : Hp} {lo : Int} {n : Nat} {chk : Sto → Bool} : WkOk g ro H ⟨rngDn lo n, chk⟩ (Itc lo (-1) n) := fun i ro' S' H' gr' ex' R hk => by
  refine ⟨fun d hd => ?_, fun hi => ?_⟩
  · unfold rngDn at hd
    rw [List.getElem?_map] at hd
    cases q : (List.range n)[i]? with
    | none => rw [q] at hd; cases hd
    | some j =>
      rw [q] at hd
      obtain ⟨h1, h2⟩ := List.getElem?_eq_some_iff.mp q
      rw [List.length_range] at h1
      rw [List.getElem_range] at h2
      subst h2
      cases hd
      refine ⟨h1, fun x H'' ⟨e1, e2⟩ => ?_⟩
      subst e1 e2
      have e : lo + ((i : Nat) : Int) * (-1) = lo - (i : Nat) := by omega
      rw [e]
      exact ⟨.refl _, R, .int_mk⟩
  · show n ≤ i
    rw [hi]
    simp [rngDn]
theorem si_rngDn (hg : Gl X "range") (hm : X.mg "range" = none) (ha : SE X g E a ma) (hb : SE X g E b mb) (hc : SE X g E c (eUn opNeg (eC (.int 1))))
    (h1 : starEach [a, b, c] X.env = (false, eval a X.env) :: starEach [b, c] X.env := by rfl) (h2 : starEach [b, c] X.env = (false, eval b X.env) :: starEach [c] X.env := by rfl) (h3 : starEach [c] X.env = (false, eval c X.env) :: starEach [] X.env := by rfl)
    (hpl : (backTo pos (starEach [b, c] X.env)).any (·.1) = false := by rfl) :
    SI X g E tg (.Call (.Name "range" p) [a, b, c] [] pos) (wRngDn ma mb) := ⟨pi_imp (pi_range3 hg hm (sa_cons ha (sa_cons hb (sa_cons hc sa_nil h3) h2) h1).run h1 hpl) fun s H Q ⟨ro, L, S, hL, hS, h⟩ => by
  refine ⟨ro, L, S, hL, hS, ?_⟩
  unfold wRngDn at h
  unfold aCons
  cases z : ma L S with
  | ok d S1 =>
    rw [z] at h
    simp only [R.bind_ok] at h ⊢
    cases z2 : mb L S1 with
    | ok d2 S2 =>
      rw [z2] at h
      simp only [R.bind_ok] at h ⊢
      simp only [eUn, eC, opNeg, R.bind_ok, aNil]
      intro ro1 H1 vs gr ex hS1 rv
      obtain ⟨v, r, rfl, r1, rr⟩ := rv.inv
      obtain ⟨v2, r', rfl, r2, rr2⟩ := rr.inv
      obtain ⟨v3, r'', rfl, r3, rr3⟩ := rr2.inv
      cases rr3.inv0
      cases d with
      | int i =>
        cases d2 with
        | int j =>
          simp only at h
          split at h
          · rename_i hj
            exact ⟨i, j, -1, (i - j).toNat, by rw [r1.int_inv, r2.int_inv, r3.int_inv], RgC.neg hj.1 hj.2.1 hj.2.2.1 hj.2.2.2, h ro1 H1 _ gr ex hS1 rngDn_ok⟩
          · exact h.elim
        | _ => exact h.elim
      | _ => cases d2 <;> exact h.elim
    | exc x S2 => rw [z2] at h; exact h
    | err => rw [z2] at h; exact h
  | exc x S1 => rw [z] at h; exact h
  | err => rw [z] at h; exact h⟩
/-! ### len(set(x)) -/
theorem nub_met (ns : List Int) : PyProof.Rows.firstMet (fun i => ns.getD i 0) ns.length = nubI ns := by
  unfold PyProof.Rows.firstMet nubI
  have e : (List.range ns.length).map (fun i => ns.getD i 0) = ns := by
    apply List.ext_getElem
    · simp
    · intro i h1 h2
      simp [List.getD_eq_getElem?_getD, h2]
  rw [e]
  congr 1
  funext acc k
  unfold PyProof.Rows.step_dedup
  have q : (acc.any (· == k)) = decide (k ∈ acc) := by
    rw [Bool.eq_iff_iff]
    simp
  rw [q]
  by_cases h : k ∈ acc <;> simp [h]
def tLenSetN (K : PySem.W.Frag) (ta : TE) : TE := fun σ H Q => ta σ H fun x H1 => ∃ (l : Addr) (ns : List Int), x = V.ref l ∧ SqL K H1 l (ns.map V.int) ∧ ns.length ≤ 1000 ∧ Q (.int (nubI ns).length) H1
theorem pe_lenSetN {a : Expr} {ta : TE} {p p2 q pos : Pos} (hc : X.calm = true) (hg : Gl X "len") (hm : X.mg "len" = none) (hg2 : Gl X "set") (hm2 : X.mg "set" = none) (ha : PE X a ta)
    (na : starEach [a] X.env = (false, eval a X.env) :: starEach [] X.env := by rfl) : PE X (.Call (.Name "len" p) [.Call (.Name "set" p2) [a] [] q] [] pos) (tLenSetN X.K ta) := by
  refine ⟨fun pins s σ H Q I h => ?_⟩
  refine PyProof.Rows.Call_ (ld_blt I hg hm PySem.boot_len ?_)
  refine PyProof.Rows.callWith_builtin1 (PyProof.Rows.args_cons ?_ rfl) rfl rfl
  refine PyProof.Rows.Call_ (ld_blt I hg2 hm2 PyProof.Rows.boot_set ?_)
  refine PyProof.Rows.callWith_type1 (PyProof.Rows.args_cons (thn (ha.run pins s σ H _ I h) fun v s1 ⟨x, H1, I1, r1, q1⟩ => PyProof.Rows.args_nil ?_) na) na rfl
  obtain ⟨l, ns, rfl, hq, h1, q1⟩ := q1
  cases r1
  obtain ⟨its, r, pl, hz⟩ := I1.list hq
  have hl : its.toArray.size = ns.length := by rw [List.size_toArray, ← r.length, List.length_map]
  refine call_set_list (I1.ok.hd hc) pl.isList (ns := ns) (by simpa using r.ints) (by unfold scanBound; omega) fun h' tk hS hk => ?_
  rw [hl, nub_met] at hS
  refine PyProof.Rows.args_nil ?_
  obtain ⟨o, es, ep, t, ho, hex, hd, _, _, _, hf, hn⟩ := hS
  have I2 : Inv X pins σ H1 { s1 with heap := h', toks := tk } := I1.kept fun b o e => hk b o (Heap.lt_size e) e
  have hle : (nubI ns).length ≤ ns.length := by rw [← nub_met]; exact PyProof.Rows.firstMet_length_le _ _
  refine call_len_set ho hex hd hf (by rw [hn] <;> omega) ⟨.int (nubI ns).length, H1, I2.tok _, ⟨_, by rw [hn]⟩, q1⟩
theorem intsOf_len : ∀ {ds : List D} {ns : List Int}, intsOf ds = some ns → ds.length = ns.length
  | [], ns, h => by cases h; rfl
  | d :: ds, ns, h => by
    cases d with
    | int i =>
      simp only [intsOf] at h
      cases q : intsOf ds with
      | none => rw [q] at h; cases h
      | some ms =>
        rw [q] at h
        cases h
        simp [intsOf_len q]
    | _ => cases h
theorem se_lenSet {p p2 q pos : Pos} (hc : X.calm = true) (hK : X.K = g.K) (hg : Gl X "len") (hm : X.mg "len" = none) (hg2 : Gl X "set") (hm2 : X.mg "set" = none) (ha : SE X g E a ma)
    (na : starEach [a] X.env = (false, eval a X.env) :: starEach [] X.env := by rfl) : SE X g E (.Call (.Name "len" p) [.Call (.Name "set" p2) [a] [] q] [] pos) (eUn opLenSet ma) :=
  ⟨pe_imp (pe_lenSetN hc hg hm hg2 hm2 ha.run na) fun s H Q ⟨ro, L, S, hL, hS, h⟩ => ⟨ro, L, S, hL, hS, Post.bind h fun d S1 ro1 H1 v gr ex hS1 rv w => by
    unfold opLenSet at w
    split at w
    · rename_i n
      obtain ⟨p1, h1, rfl⟩ := rv.ref_inv
      split at w
      · rename_i xs z
        obtain ⟨vs, r, t⟩ := hS1.at h1 z
        split at w
        · rename_i ns e
          split at w
          · rename_i hz
            have ev := intsOf_rel r e
            subst ev
            exact ⟨p1, ns, rfl, SqL.of t, hz, w ro1 H1 _ (.refl _) (.refl _) hS1 .int_mk⟩
          · exact w.elim
        · exact w.elim
      · exact w.elim
    · exact w.elim⟩⟩
end
end MP

namespace MP
open PySem L2
section
variable {X : Cx} {g : G} {E : XK}
theorem alike_flI {d d' : D} (h : flI d = true) (h' : flI d' = true) : PySem.W.alike (encF d) (encF d') = true := by
  cases d <;> first | (cases h; done) | skip
  cases d' <;> first | (cases h'; done) | rfl
theorem alike_flS {d d' : D} (h : flS d = true) (h' : flS d' = true) : PySem.W.alike (encF d) (encF d') = true := by
  cases d <;> first | (cases h; done) | skip
  cases d' <;> first | (cases h'; done) | rfl
theorem alikeAll_of {f : D → Bool} (hf : ∀ d d', f d = true → f d' = true → PySem.W.alike (encF d) (encF d') = true) : ∀ {ds es : List D}, ds.all f = true → es.all f = true → PySem.W.alikeAll (ds.map encF) (es.map encF) = true
  | [], _, _, _ => rfl
  | _ :: _, [], _, _ => rfl
  | d :: ds, e :: es, h, h' => by
    simp only [List.all_cons, Bool.and_eq_true] at h h'
    simp only [List.map_cons, PySem.W.alikeAll, Bool.and_eq_true]
    exact ⟨hf _ _ h.1 h'.1, alikeAll_of hf h.2 h'.2⟩
theorem depth_fl : ∀ d : D, (encF d).depth = 0
  | .int _ => rfl
  | .str _ => rfl
  | .non => rfl
  | .bl _ => rfl
  | .tup _ => rfl
  | .ref _ => rfl
  | .exn _ _ => rfl
theorem depthAll_fl : ∀ ds : List D, PyData.depthAll (ds.map encF) = 0
  | [] => rfl
  | d :: ds => by simp only [List.map_cons, PyData.depthAll, depth_fl, depthAll_fl ds]; rfl
theorem depth_enc (d : D) : (encD d).depth ≤ 1 := by
  cases d with
  | tup ds =>
    show PyData.depth (.tuple (ds.map encF)) ≤ 1
    simp only [PyData.depth, depthAll_fl]
    omega
  | _ => simp [encD, depth_fl]
theorem reads_fl {P : Program} {w : World} {ro : List Addr} {H : Hp} {h : Heap} {d : D} {x : V} {u : Value} (r : RelD ro H d x) (ru : RelV x u) (f : flI d = true ∨ flS d = true) : Reads h u (encF d) [] := by
  cases d with
  | int i =>
    rw [r.int_inv] at ru
    obtain ⟨t, rfl⟩ := ru
    exact .int i t
  | str z =>
    rw [r.str_inv.1] at ru
    obtain ⟨t, rfl⟩ := ru
    exact .str _ t
  | _ => rcases f with f | f <;> cases f
theorem readsAll_fl {P : Program} {w : World} {ro : List Addr} {H : Hp} {h : Heap} : ∀ {ds : List D} {xs : List V} {us : List Value}, RelDs ro H ds xs → Vals xs us → (∀ d ∈ ds, flI d = true ∨ flS d = true) → ReadsAll h us (ds.map encF) []
  | [], xs, us, r, ru, f => by
    rw [r.inv0] at ru
    cases ru
    exact .nil
  | d :: ds, xs, us, r, ru, f => by
    obtain ⟨v, r', rfl, r1, r2⟩ := r.inv
    cases ru with
    | cons q t =>
      have e : ([] : List Addr) = [] ++ [] := rfl
      rw [e]
      exact .cons (reads_fl (P := P) (w := w) r1 q (f d (List.mem_cons_self ..))) (readsAll_fl (P := P) (w := w) r2 t fun x hx => f x (List.mem_cons_of_mem _ hx))
theorem reads_tup {P : Program} {w : World} {ro : List Addr} {H : Hp} {h : Heap} (ok : HOk P w H h) {ds : List D} {x : V} {u : Value} (r : RelD ro H (.tup ds) x) (ru : RelV x u) (f : ∀ d ∈ ds, flI d = true ∨ flS d = true) : Reads h u (encD (.tup ds)) [] := by
  obtain ⟨a, vs, rfl, ha, rs⟩ := r.tup_inv
  cases ru
  obtain ⟨_, its, r2, o, ho, hc, n, hd⟩ := (show ObjOk P w H h a (.tup vs) from ok a _ ha)
  exact .tuple ho hc hd (by simpa using readsAll_fl (P := P) (w := w) rs r2 f)
/-- the three kinds -/
theorem srt_cases {ds : List D} (h : srtOk ds = true) : (∀ d ∈ ds, flI d = true) ∨ ((∀ d ∈ ds, ∃ r, d = .tup r ∧ ∀ e ∈ r, flI e = true ∨ flS e = true) ∧ ∀ d ∈ ds, ∀ d' ∈ ds, PySem.W.alike (encD d) (encD d') = true) := by
  unfold srtOk at h
  rw [Bool.or_eq_true, Bool.or_eq_true] at h
  rcases h with (h | h) | h
  · exact .inl fun d hd => List.all_eq_true.mp h d hd
  · have q : ∀ d ∈ ds, ∃ r, d = .tup r ∧ r.all flI = true := fun d hd => by
      have z := List.all_eq_true.mp h d hd
      cases d <;> first | (cases z; done) | exact ⟨_, rfl, z⟩
    refine .inr ⟨fun d hd => ?_, fun d hd d' hd' => ?_⟩
    · obtain ⟨r, rfl, z⟩ := q d hd
      exact ⟨r, rfl, fun e he => .inl (List.all_eq_true.mp z e he)⟩
    · obtain ⟨r, rfl, z⟩ := q d hd
      obtain ⟨r', rfl, z'⟩ := q d' hd'
      simp only [encD, PySem.W.alike]
      exact alikeAll_of (fun _ _ => alike_flI) z z'
  · have q : ∀ d ∈ ds, ∃ r, d = .tup r ∧ r.all flS = true := fun d hd => by
      have z := List.all_eq_true.mp h d hd
      cases d <;> first | (cases z; done) | exact ⟨_, rfl, z⟩
    refine .inr ⟨fun d hd => ?_, fun d hd d' hd' => ?_⟩
    · obtain ⟨r, rfl, z⟩ := q d hd
      exact ⟨r, rfl, fun e he => .inr (List.all_eq_true.mp z e he)⟩
    · obtain ⟨r, rfl, z⟩ := q d hd
      obtain ⟨r', rfl, z'⟩ := q d' hd'
      simp only [encD, PySem.W.alike]
      exact alikeAll_of (fun _ _ => alike_flS) z z'
def RVD (ro : List Addr) (H : Hp) (u : Value) (d : D) : Prop := ∃ x, RelV x u ∧ RelD ro H d x
theorem each_of {ro : List Addr} {H : Hp} : ∀ {ds : List D} {xs : List V} {us : List Value}, RelDs ro H ds xs → Vals xs us → PySem.W.EachIs (RVD ro H) us ds
  | [], xs, us, r, ru => by
    rw [r.inv0] at ru
    cases ru
    exact .nil
  | d :: ds, xs, us, r, ru => by
    obtain ⟨v, r', rfl, r1, r2⟩ := r.inv
    cases ru with
    | cons q t => exact .cons ⟨v, q, r1⟩ (each_of r2 t)
theorem each_to {ro : List Addr} {H : Hp} : ∀ {us : List Value} {ds : List D}, PySem.W.EachIs (RVD ro H) us ds → ∃ xs, Vals xs us ∧ RelDs ro H ds xs
  | _, _, .nil => ⟨[], .nil, .nil⟩
  | _, _, .cons ⟨x, h1, h2⟩ t => let ⟨xs, h3, h4⟩ := each_to t; ⟨x :: xs, .cons h1 h3, .cons h2 h4⟩
theorem each_reads {P : Program} {w : World} {ro : List Addr} {H : Hp} {h : Heap} (ok : HOk P w H h) {ds : List D} (hs : srtOk ds = true) : ∀ {us : List Value} {es : List D}, (∀ d ∈ es, d ∈ ds) → PySem.W.EachIs (RVD ro H) us es → PySem.W.EachIs (fun v d => ∃ as, Reads h v (encD d) as) us es
  | _, _, _, .nil => .nil
  | _, d :: _, hm, .cons ⟨x, h1, h2⟩ t => by
    refine .cons ?_ (each_reads ok hs (fun e he => hm e (List.mem_cons_of_mem _ he)) t)
    have hd := hm d (List.mem_cons_self ..)
    rcases srt_cases hs with q | ⟨q, _⟩
    · have z := q d hd
      cases d <;> first | (cases z; done) | skip
      exact ⟨[], reads_fl (P := P) (w := w) h2 h1 (.inl rfl)⟩
    · obtain ⟨r, rfl, z⟩ := q d hd
      exact ⟨[], reads_tup ok h2 h1 z⟩
theorem sorts_at {P : Program} {w : World} {A : Around} {s : Shared} {ds : List D} {us : List Value} (hs : srtOk ds = true) (hu : A.units + 2 < cLine) (e : PySem.W.EachIs (fun v d => ∃ as, Reads s.heap v (encD d) as) us ds) :
    PySem.W.AllAlike (ds.map encD) ∧ PySem.W.SortsAt P w A s (PySem.W.dataKind s.heap (ds.map encD)) us := by
  have e' := PySem.W.each_map (R := fun v d => ∃ as, Reads s.heap v d as) encD e
  have hb : ∀ d, d ∈ ds.map encD → A.units + d.depth < cLine := fun d hd => by
    obtain ⟨b, _, rfl⟩ := List.mem_map.mp hd
    have := depth_enc b
    omega
  rcases srt_cases hs with q | ⟨q, qa⟩
  · have q1 : ∀ d ∈ ds, ∃ i, d = .int i := fun d hd => by
      have z := q d hd
      cases d <;> first | (cases z; done) | exact ⟨_, rfl⟩
    have al : PySem.W.AllAlike (ds.map encD) := fun d hd d' hd' => by
      obtain ⟨b, hb, rfl⟩ := List.mem_map.mp hd
      obtain ⟨b', hb', rfl⟩ := List.mem_map.mp hd'
      obtain ⟨i, rfl⟩ := q1 b hb
      obtain ⟨j, rfl⟩ := q1 b' hb'
      rfl
    refine ⟨al, PySem.W.SortsAt.data e' al (.inr fun d hd => ?_) hb⟩
    obtain ⟨b, hb, rfl⟩ := List.mem_map.mp hd
    obtain ⟨i, rfl⟩ := q1 b hb
    exact ⟨(fun z => by cases z), (fun xs z => by cases z)⟩
  · have al : PySem.W.AllAlike (ds.map encD) := fun d hd d' hd' => by
      obtain ⟨b, hb, rfl⟩ := List.mem_map.mp hd
      obtain ⟨b', hb', rfl⟩ := List.mem_map.mp hd'
      exact qa b hb b' hb'
    refine ⟨al, sortsAt_tups e' al (fun d hd => ?_) hb⟩
    obtain ⟨b, hb, rfl⟩ := List.mem_map.mp hd
    obtain ⟨r, rfl, _⟩ := q b hb
    exact ⟨_, rfl⟩
/-- what sorted lays -/
theorem sorted_rel {pins : List (Addr × Obj)} {σ : St} {H : Hp} {s : Shared} {Q : VK} {x : Value} {ro : List Addr} {S : Sto} {ds : List D} (cx : Ctx g E X) (I : Inv X pins σ H s) (hS : RelS g ro S H) (hs : srtOk ds = true) (hz : ds.length ≤ sz)
    (hc : ∀ (R : List Value → Shared → Prop), (∀ (h' : Heap) (tk : Nat) (vs : List Value), (∀ b o, s.heap.get? b = some o → h'.get? b = some o) → s.heap.objs.size ≤ h'.objs.size → PySem.W.EachIs (RVD ro H) vs ds → R vs { s with heap := h', toks := tk }) →
      wpAny (model X.prog X.w) X.A.in1 (collect x) R X.xe s)
    (w : Post RelD g E ro H Q (.ok (.ref S.length) (S ++ [.lst (srtD ds)]))) : wpAny (model X.prog X.w) X.A (call (.builtin "sorted") [x]) (EP X pins σ Q) X.xe s := by
  refine sorted_by (fun vs => PySem.W.EachIs (RVD ro H) vs ds) hc fun tk vs h' hk e => ?_
  have ok' : HOk X.prog X.w H h' := (I.kept (t' := s.toks) hk).hok
  have er := each_reads ok' hs (fun _ z => z) e
  have hu : X.A.in1.in1.units + 2 < cLine := by
    have := cx.units
    show X.A.units + 1 + 1 + 2 < cLine
    omega
  obtain ⟨al, sa⟩ := sorts_at (P := X.prog) (w := X.w) (s := { s with heap := h', toks := tk }) hs hu er
  refine ⟨by rw [e.length, ← sz_eq]; exact hz, _, sa, fun h3 d k3 hd hn => ?_⟩
  have out := PySem.W.sortVals_data false e er al
  obtain ⟨ys, r1, r2⟩ := each_to out
  obtain ⟨n, hn⟩ := hn
  have hl : ys.length ≤ sizeLine := by
    rw [r1.length, PySem.W.sortVals_length false rfl, e.length, ← sz_eq]
    exact hz
  have fr : H d = none := I.hok.fresh hd
  exact ⟨.ref d, upd H d (.lst ys), I.laid k3 hd ⟨hl, _, n, r1, hn⟩, rfl, w.push hS fr ⟨ys, RelDs.mono (.snoc _ _) (.new fr) _ _ r2, upd_same⟩⟩
theorem dkey_rel {ro : List Addr} {H : Hp} {d : D} {k : L2.Key} (h : dkey d = some k) : RelD ro H d (kV k) := by
  cases d with
  | int i => cases h; exact .int_mk
  | str x =>
    simp only [dkey] at h
    split at h
    · rename_i q
      cases h
      exact .str_mk fun c hc => by
        have z := List.all_eq_true.mp q c hc
        exact of_decide_eq_true z
    · cases h
  | _ => cases h
theorem dkeys_rel {ro : List Addr} {H : Hp} : ∀ {ds : List D} {ks : List L2.Key}, ds.mapM dkey = some ks → RelDs ro H ds (ks.map kV)
  | [], ks, h => by
    simp at h
    subst h
    exact .nil
  | d :: ds, ks, h => by
    rw [List.mapM_cons] at h
    simp only [Option.bind_eq_bind, Option.pure_def, Option.bind_eq_some_iff, Option.some.injEq] at h
    obtain ⟨k, h1, r, h2, rfl⟩ := h
    exact .cons (dkey_rel h1) (dkeys_rel h2)
theorem tkey_rel {ro : List Addr} {H : Hp} {d : D} {ks : List L2.Key} {b : Addr} (h : tkey d = some ks) (hb : H b = some (.tup (ks.map kV))) : RelD ro H d (.ref b) := by
  cases d with
  | tup ds => exact .tup_mk hb (dkeys_rel h)
  | _ => cases h
theorem keys_each {ro : List Addr} {H : Hp} : ∀ {kvs : List (D × D)} {ws : List (List L2.Key × V)} {bs : List Addr}, RelTV ro H kvs ws → IsKeys H ws bs → PySem.W.EachIs (RVD ro H) (bs.map Value.ref) (kvs.map (·.1))
  | _, _, _, .nil, .nil => .nil
  | _, _, _, .cons a r, .cons b t => .cons ⟨.ref _, rfl, tkey_rel a.1 b⟩ (keys_each r t)
theorem c_sorted (cx : Ctx g E X) (hc : X.calm = true) : CallR X (.builtin "sorted") (rN g E fSorted) := by
  intro pins s σ H xs us Q I r ⟨ro, S, ds, hS, rv, w⟩
  unfold fSorted at w
  split at w
  · rename_i n
    obtain ⟨v, r', rfl, r1, r2⟩ := rv.inv
    cases r2.inv0
    obtain ⟨p1, h1, rfl⟩ := r1.ref_inv
    obtain ⟨u, rfl, ru⟩ := vals1 r
    cases ru
    split at w
    · rename_i ys z
      split at w
      · rename_i hk
        obtain ⟨vs, q, t⟩ := hS.at h1 z
        obtain ⟨its, rv2, pl, hz2⟩ := I.list (SqL.of t)
        refine sorted_rel cx I hS hk.1 hk.2 (fun R hR => PyProof.Rows.collect_list pl.isList ?_ (by rw [← rv2.length]; exact hz2)) w
        exact hR _ s.toks its (fun b o e => by
          have hlt := Heap.lt_size e
          rw [Heap.get?_update_ne _ _ _ _ (Nat.ne_of_lt hlt)]
          exact Heap.get?_push_of_some _ e) (by rw [Heap.size_update, PyProof.Rows.size_push']; exact Nat.le_succ _) (each_of q rv2)
      · exact w.elim
    · rename_i lk kvs z
      split at w
      · rename_i hk
        obtain ⟨ws, rl, q⟩ := (show ∃ ws, RelTV ro H kvs ws ∧ AtL H p1 lk (.dT ws) from hS.at h1 z)
        have rdd : Rd H p1 (.dT ws) := by
          cases lk with
          | true => exact .inr q
          | false => exact .inl q
        obtain ⟨z1, hs1, ks, pr, o, es, ep, ho, hx, hdt, he, hn⟩ := (show ObjOk X.prog X.w H s.heap p1 (.dT ws) from rdd.ok I.hok)
        have l1 : es.size = ks.length := size_of_entries he
        have l2 : ws.length = ks.length := Paired.length pr
        refine sorted_rel cx I hS hk.1 (by rw [List.length_map]; exact hk.2) (fun R hR => collectK (kdl_raw hs1 hx hdt) (I.ok.hd hc) ho (by omega) fun h' tk acc kp sz it => hR h' tk acc.toList kp sz ?_) w
        have ea : acc.toList = (ks.map fun x => x.2.1).map Value.ref := by
          rw [List.map_map]
          have hl : acc.toList.length = ks.length := by rw [Array.length_toList, it.1]; exact l1
          apply List.ext_getElem?
          intro j
          rw [List.getElem?_map]
          cases hj : acc.toList[j]? with
          | none =>
            have h1 := List.getElem?_eq_none_iff.mp hj
            rw [List.getElem?_eq_none (by omega)]
            all_goals rfl
          | some v =>
            obtain ⟨en, hen, hv⟩ := it.2 j v (by rw [← Array.getElem?_toList]; exact hj)
            have qe := entry_at he j
            rw [hen] at qe
            cases hb : ks[j]? with
            | none =>
              rw [hb] at qe
              exact nomatch (show some en = none from qe)
            | some b =>
              rw [hb] at qe
              have e2 : en = entryOfKey (tupleKind (mixKind X.prog X.w)) b := Option.some.inj qe
              rw [hv, e2]
              all_goals rfl
        rw [ea]
        exact keys_each rl (isKeys_of pr)
      · exact w.elim
    · exact w.elim
  · exact w.elim
end
end MP

namespace MP
open PySem L2
section
variable {X : Cx} {g : G} {E : XK} {tg e : Expr} {st : Stmt} {ma me : EM} {ms : SM} {pos p : Pos}
theorem si_dic (ha : SE X g E e ma) : SI X g E tg e (wDic ma) := ⟨pi_imp (pi_keys ha.run) fun s H Q ⟨ro, L, S, hL, hS, h⟩ => by
  refine ⟨ro, L, S, hL, hS, Post.bind h fun d S1 ro1 H1 v gr ex hS1 rv h => ?_⟩
  cases d with
  | ref n =>
    obtain ⟨p, hp, rfl⟩ := rv.ref_inv
    simp only at h
    split at h
    · rename_i kvs e
      obtain ⟨ws, rl, o, q⟩ := (show ∃ ws, RelTV ro1 H1 kvs ws ∧ AtL H1 p true (.dT ws) from hS1.at hp e)
      refine ⟨p, o, rfl, .inr ⟨ws, q, h ro1 H1 _ (.refl _) (.refl _) hS1 fun i ro' S' H' gr' ex' R hk => ?_⟩⟩
      have q' := ex'.frz _ _ _ q
      have lk : kvs.length = ws.length := Paired.length rl
      refine ⟨fun d hd => ?_, fun hi => ⟨q', by rw [hi, List.length_map, lk]; exact Nat.le_refl _⟩⟩
      rw [List.getElem?_map] at hd
      cases hk2 : kvs[i]? with
      | none => rw [hk2] at hd; cases hd
      | some kv =>
        rw [hk2] at hd
        cases hd
        obtain ⟨w, hw, h1, h2⟩ := Paired.get rl hk2
        refine ⟨⟨q', (List.getElem?_eq_some_iff.mp hw).1⟩, fun x H'' ⟨e1, k, v, b, e2, e3, e4⟩ => ?_⟩
        subst e1 e3
        rw [hw] at e2
        cases e2
        exact ⟨.refl _, R, tkey_rel h1 e4⟩
    · exact h.elim
  | _ => exact h.elim⟩
/-- what the lock does to the heap, and back -/
theorem lock_in {ro : List Addr} {S : Sto} {H : Hp} {n : Nat} {kvs : List (D × D)} (hS : RelS g ro S H) (e : S[n]? = some (.dic true false kvs)) :
    ∃ (d : Addr) (ws : List (List L2.Key × V)), ro[n]? = some d ∧ H d = some (.dT ws) ∧ ∀ od, RelS g ro (S.set n (.dic true true kvs)) (upd H d (.frz od (.dT ws))) ∧ TExt H (upd H d (.frz od (.dT ws))) ∧
      ∀ (ro' : List Addr) (S1 S2 : Sto) (H' : Hp), Gr ro ro' → Ext (upd H d (.frz od (.dT ws))) H' → RelS g ro' S1 H' → (Ext H H' ∧ H' d = some (.frz od (.dT ws)) ∧
        (unlD n kvs S1 = some S2 → Ext H (upd H' d (.dT ws)) ∧ RelS g ro' S2 (upd H' d (.dT ws)) ∧ TExt H' (upd H' d (.dT ws)))) := by
  obtain ⟨d, hn, q⟩ := hS.ob n _ e
  obtain ⟨ws, rl, q⟩ := (show ∃ ws, RelTV ro H kvs ws ∧ AtL H d false (.dT ws) from q)
  have q : H d = some (.dT ws) := q
  refine ⟨d, ws, hn, q, fun od => ?_⟩
  have te : TExt H (upd H d (.frz od (.dT ws))) := .put q dT_tup
  refine ⟨?_, te, fun ro' S1 S2 H' gr ex hS1 => ?_⟩
  · exact hS.put hn e (fun z => z.elim) (fun z => z.elim) q (show ∃ ws', RelTV ro (upd H d (.frz od (.dT ws))) kvs ws' ∧ AtL (upd H d (.frz od (.dT ws))) d true (.dT ws') from ⟨ws, rl.mono (.refl _) te, od, upd_same⟩) nu_dT
  · have hd' : H' d = some (.frz od (.dT ws)) := ex.frz _ _ _ upd_same
    have ne : ∀ {a : Addr} {o : HO}, H a = some o → o ≠ .dT ws → a ≠ d := fun h h' z => by rw [z, q] at h; exact h' (Option.some.inj h).symm
    have e1 : Ext H H' := ⟨te.trans ex.tup, fun a o u h => ex.frz _ _ _ (by rw [upd_ne (ne h (fun z => nomatch z))]; exact h)⟩
    refine ⟨e1, hd', fun hu => ?_⟩
    have t2 : TExt H' (upd H' d (.dT ws)) := .put hd' (fun _ z => nomatch z)
    refine ⟨⟨e1.tup.trans t2, fun a o u h => ?_⟩, ?_, t2⟩
    · rw [upd_ne (ne h (fun z => nomatch z))]
      exact e1.frz _ _ _ h
    · unfold unlD at hu
      split at hu
      · rename_i kv1 z
        cases hu
        exact hS1.put (gr _ _ hn) z (fun z => z.elim) (fun z => z.elim) hd' (show ∃ ws', RelTV ro' (upd H' d (.dT ws)) kvs ws' ∧ AtL (upd H' d (.dT ws)) d false (.dT ws') from ⟨ws, rl.mono gr (e1.tup.trans t2), upd_same⟩) nu_frz
      · cases hu
theorem ss_lock (h : SS X g E st ms) : SS X g E st (sLock ma ms) := ⟨ps_imp (ps_lock h.run) fun D s H ⟨ro, L, S, hL, hS, w⟩ => by
  unfold sLock at w
  split at w
  · rename_i n S0 z0
    split at w
    · rename_i kvs e
      obtain ⟨d, ws, hn, q, k⟩ := lock_in hS e
      refine ⟨d, _, q, trivial, fun od => ?_⟩
      obtain ⟨r1, te, k⟩ := k od
      refine ⟨ro, L, _, hL.mono (.refl _) te, r1, ?_⟩
      cases z : ms L (S.set n (.dic true true kvs)) with
      | err => rw [z] at w; exact w
      | exc x L1 S1 =>
        rw [z] at w
        exact fun ro' H' c dd gr ex hS1 rx => w ro' H' c dd gr (k ro' S1 S1 H' gr ex hS1).1 hS1 rx
      | nx L1 S1 =>
        rw [z] at w
        intro ro' H' s' gr ex hS1 rl
        simp only at w
        cases hu : unlD n kvs S1 with
        | none => rw [hu] at w; exact w.elim
        | some S2 =>
          rw [hu] at w
          obtain ⟨_, hd, k2⟩ := k ro' S1 S2 H' gr ex hS1
          obtain ⟨e2, r2, t2⟩ := k2 hu
          exact ⟨hd, w ro' _ _ gr e2 r2 (rl.mono (.refl _) t2)⟩
      | bk L1 S1 =>
        rw [z] at w
        intro ro' H' s' gr ex hS1 rl
        simp only at w
        cases hu : unlD n kvs S1 with
        | none => rw [hu] at w; exact w.elim
        | some S2 =>
          rw [hu] at w
          obtain ⟨_, hd, k2⟩ := k ro' S1 S2 H' gr ex hS1
          obtain ⟨e2, r2, t2⟩ := k2 hu
          exact ⟨hd, w ro' _ _ gr e2 r2 (rl.mono (.refl _) t2)⟩
      | ct L1 S1 =>
        rw [z] at w
        intro ro' H' s' gr ex hS1 rl
        simp only at w
        cases hu : unlD n kvs S1 with
        | none => rw [hu] at w; exact w.elim
        | some S2 =>
          rw [hu] at w
          obtain ⟨_, hd, k2⟩ := k ro' S1 S2 H' gr ex hS1
          obtain ⟨e2, r2, t2⟩ := k2 hu
          exact ⟨hd, w ro' _ _ gr e2 r2 (rl.mono (.refl _) t2)⟩
      | rt d1 S1 =>
        rw [z] at w
        intro ro' H' v gr ex hS1 rl
        simp only at w
        cases hu : unlD n kvs S1 with
        | none => rw [hu] at w; exact w.elim
        | some S2 =>
          rw [hu] at w
          obtain ⟨_, hd, k2⟩ := k ro' S1 S2 H' gr ex hS1
          obtain ⟨e2, r2, t2⟩ := k2 hu
          exact ⟨hd, w ro' _ _ gr e2 r2 (RelD.mono (.refl _) t2 _ _ rl)⟩
    · exact w.elim
  · exact w.elim⟩
theorem se_lock (h : SE X g E e me) : SE X g E e (eLock ma me) := ⟨pe_imp (pe_lock h.run) fun s H Q ⟨ro, L, S, hL, hS, w⟩ => by
  unfold eLock at w
  split at w
  · rename_i n S0 z0
    split at w
    · rename_i kvs e
      obtain ⟨d, ws, hn, q, k⟩ := lock_in hS e
      refine ⟨d, _, q, trivial, fun od => ?_⟩
      obtain ⟨r1, te, k⟩ := k od
      refine ⟨ro, L, _, hL.mono (.refl _) te, r1, ?_⟩
      cases z : me L (S.set n (.dic true true kvs)) with
      | err => rw [z] at w; exact w
      | exc x S1 =>
        rw [z] at w
        exact fun ro' H' c dd gr ex hS1 rx => w ro' H' c dd gr (k ro' S1 S1 H' gr ex hS1).1 hS1 rx
      | ok d1 S1 =>
        rw [z] at w
        intro ro' H' v gr ex hS1 rl
        simp only at w
        cases hu : unlD n kvs S1 with
        | none => rw [hu] at w; exact w.elim
        | some S2 =>
          rw [hu] at w
          obtain ⟨_, hd, k2⟩ := k ro' S1 S2 H' gr ex hS1
          obtain ⟨e2, r2, t2⟩ := k2 hu
          exact ⟨hd, w ro' _ _ gr e2 r2 (RelD.mono (.refl _) t2 _ _ rl)⟩
    · exact w.elim
  · exact w.elim⟩
end
end MP

namespace MP
open PySem L2
structure SK (X : Cx) (g : G) (E : XK) (kws : List Keyword) (m : AM) : Prop where
  run : PK X kws (rdA g E m)
/-- the name x is the class c; called with n values and the keywords ks its __init__ computes F -/
def MiK (g : G) (k : Nat) (x : Str) (c n : Nat) (ks : List Str) (F : Fn) (gD : List D → List D → List D) : Prop := ∃ (f : Addr) (fd : FuncData) (ps : List Str) (gv : List Value → List Value → List Value) (gV : List V → List V → List V),
  FOk g k f fd ps F ∧ g.mg x = some (.ref (g.cls c)) ∧ Mk g.K (g.cls c) f ∧ KBn g.K fd ps (n + 1) ks gv gV ∧
  ∀ (ro : List Addr) (H : Hp) (ds es : List D) (vs zs : List V) (v : V), RelDs ro H ds vs → RelDs ro H es zs → ∃ us, gV (v :: vs) zs = v :: us ∧ RelDs ro H (gD ds es) us
section
variable {X : Cx} {g : G} {E : XK} {e : Expr} {es : List Expr} {kws : List Keyword} {me : EM} {ms mk : AM} {pos p kpos : Pos} {nm : Option Str} {k n : Nat} {x : Str} {F : Fn} {ks : List Str} {gD : List D → List D → List D}
theorem pk_imp {t t' : TA} (h : PK X kws t) (i : ∀ s H Q, t' s H Q → t s H Q) : PK X kws t' := ⟨fun pos pins s σ H Q I q => h.run pos pins s σ H Q I (i _ _ _ q)⟩
theorem sk_nil : SK X g E [] aNil := ⟨pk_imp pk_nil fun s H Q ⟨ro, L, S, hL, hS, h⟩ => h ro H _ (.refl _) (.refl _) hS .nil⟩
theorem sk_cons (ha : SE X g E e me) (hr : SK X g E kws mk) : SK X g E (⟨nm, e, kpos⟩ :: kws) (aCons me mk) := ⟨pk_imp (pk_cons ha.run hr.run) fun s H Q h => by
  obtain ⟨ro, L, S, hL, hS, h⟩ := h
  refine ⟨ro, L, S, hL, hS, Post.bind h fun d S1 ro1 H1 v gr ex hS1 rv h => ?_⟩
  refine ⟨ro1, L, S1, hL.mono gr ex, hS1, Post.bind h fun ds S2 ro2 H2 vs gr2 ex2 hS2 rv2 h => ?_⟩
  exact h ro2 H2 _ (.refl _) (.refl _) hS2 (.cons (rv.mono gr2 ex2) rv2)⟩
theorem se_makeK {c : Nat} (cx : Ctx g E X) (d : MiK g k x c n ks F gD) (hr : Room (k + 1) X.A) (hg : Gl X x) (ha : SA X g E (e :: es) ms) (hkw : SK X g E kws mk)
    (hall : (backToKw pos (keywordEach kws X.env)).all (·.1.isSome) = true := by rfl) (hks : (backToKw pos (keywordEach kws X.env)).filterMap (·.1) = ks := by rfl) (hdb : (x == ("__debug__" : Str)) = false := by decide)
    (he : starEach (e :: es) X.env = (false, eval e X.env) :: starEach es X.env := by rfl) (hpl : ((backTo pos (starEach (e :: es) X.env)).any (·.1) || (backToKw pos (keywordEach kws X.env)).any (·.1.isNone)) = false := by rfl) :
    SE X g E (.Call (.Name x p) (e :: es) kws pos) (eMakeK c n ks.length F gD ms mk) := by
  obtain ⟨f, fd, ps, gv, gV, h, hm, hk, hb, hrel⟩ := d
  refine ⟨pe_imp (pe_makeK (by rw [cx.K]; exact hk) (h.at cx) hr hg (by rw [cx.mg]; exact hm) (by rw [cx.K]; exact hb) (passM cx) ha.run hkw.run hall hks hdb he hpl) fun s H Q ⟨ro, L, S, hL, hS, h⟩ => ?_⟩
  refine ⟨ro, L, S, hL, hS, Post.bind h fun ds S1 ro1 H1 vs gr ex hS1 rv h => ⟨ro1, L, S1, hL.mono gr ex, hS1, Post.bind h fun zs S2 ro2 H2 ws gr2 ex2 hS2 rv2 w => ?_⟩⟩
  split at w
  · rename_i hl
    have rv' := RelDs.mono gr2 ex2.tup _ _ rv
    refine ⟨by rw [← rv.length]; exact hl.1, by rw [← rv2.length]; exact hl.2, fun y dx hy hdx ne => ?_⟩
    obtain ⟨us, e1, r⟩ := hrel ro2 H2 ds zs vs ws (.ref y) rv' rv2
    rw [e1]
    exact make_rd hS2 r w y dx hy hdx ne
  · exact w.elim
/-! ### a text in a tuple of texts -/
theorem strsOf_rel {ro : List Addr} {H : Hp} : ∀ {ds : List D} {vs : List V} {zs : List (List Nat)}, RelDs ro H ds vs → strsOf ds = some zs → vs = zs.map fun z => V.str ⟨z.toArray⟩
  | [], vs, zs, r, e => by
    cases e
    rw [r.inv0]
    rfl
  | d :: ds, vs, zs, r, e => by
    obtain ⟨v, us, rfl, r1, r2⟩ := r.inv
    cases d with
    | str z =>
      simp only [strsOf] at e
      cases q : strsOf ds with
      | none => rw [q] at e; cases e
      | some ys =>
        rw [q] at e
        cases e
        rw [r1.str_inv.1, strsOf_rel r2 q]
        rfl
    | _ => cases e
theorem inV_strs (c : List Nat) : ∀ zs : List (List Nat), inV (.str ⟨c.toArray⟩) (zs.map fun z => V.str ⟨z.toArray⟩) = decide (c ∈ zs)
  | [] => by simp [inV]
  | z :: zs => by
    have ih := inV_strs c zs
    unfold inV at ih ⊢
    rw [List.map_cons, List.any_cons, ih]
    rw [Bool.eq_iff_iff]
    simp only [Bool.or_eq_true, decide_eq_true_eq, List.mem_cons]
    have e : eqV (.str ⟨z.toArray⟩) (.str ⟨c.toArray⟩) = true ↔ c = z := by
      simp [eqV]
      exact eq_comm
    rw [e]
theorem flat_strs (zs : List (List Nat)) : (zs.map fun z => V.str ⟨z.toArray⟩).all flatV = true := by
  simp [List.all_eq_true, flatV]
theorem o_inT (cx : Ctx g E X) : O2 X g E (compareOp .In) (inT false) := by
  intro pins s σ H x y v u Q I rx ry ⟨ro, S, dx, dy, hS, r1, r2, w⟩
  unfold inT at w
  split at w
  · rename_i c ys
    obtain ⟨p, vs, rfl, hp, r⟩ := r2.tup_inv
    split at w
    · rename_i zs e
      cases r1.str_inv.1
      have ev := strsOf_rel r e
      subst ev
      refine op_in_seq pins s σ H _ _ v u Q I rx ry ⟨p, _, rfl, .inr (SqT.of hp), rfl, flat_strs zs, ?_⟩
      rw [if_neg (by decide), inV_strs]
      rw [if_neg (by decide)] at w
      exact w ro H _ (.refl _) (.refl _) hS .bl_mk
    · exact w.elim
  · exact w.elim
theorem o_notInT (cx : Ctx g E X) : O2 X g E (compareOp .NotIn) (inT true) := by
  intro pins s σ H x y v u Q I rx ry ⟨ro, S, dx, dy, hS, r1, r2, w⟩
  unfold inT at w
  split at w
  · rename_i c ys
    obtain ⟨p, vs, rfl, hp, r⟩ := r2.tup_inv
    split at w
    · rename_i zs e
      cases r1.str_inv.1
      have ev := strsOf_rel r e
      subst ev
      refine op_notIn_seq pins s σ H _ _ v u Q I rx ry ⟨p, _, rfl, .inr (SqT.of hp), rfl, flat_strs zs, ?_⟩
      rw [if_pos rfl, inV_strs]
      rw [if_pos rfl] at w
      exact w ro H _ (.refl _) (.refl _) hS .bl_mk
    · exact w.elim
  · exact w.elim
end
end MP

namespace MP
open PySem PySem.Spec PyProof.Rows L2 L2H HotX
section
variable {prog : Program} {w : World} {A : Around} {E : Value → Shared → Prop} {s : Shared}
/-- a list's iterator at its end -/
theorem list_end_hot {it l x1 : Addr} {i : Nat} {items : Array Value} {Q : Option Value → Shared → Prop} (hot : HotAt A x1 s.heap) (ne : x1 ≠ it) (hit : s.heap.IsListIter it l i) (hl : s.heap.IsList l items) (hx : items[i]? = none)
    (hQ : ∀ h', Heap.ExtBut it s.heap h' → Q none { s with heap := h' }) : wpAny (model prog w) A (pyNext (.ref it)) Q E s := by
  obtain ⟨oi, gi, ci, di⟩ := id hit
  obtain ⟨ol, gl, _, nl, dl⟩ := hl
  obtain ⟨hh, o1, vs1, g1, d1, c1⟩ := hot
  unfold pyNext
  refine wpAny_bind (wpAny_attempt (wpAny_callSpecial?_slot (name := Str.ofString "__next__") hit.typeIs slot_listiter_next (wpAny_call_entry slot_listiter_next hit.typeIs entry_listiter_next ?_ (args_listiter_next _))))
  show wpAny _ _ (field (.ref it) 0 >>= fun _ => _) _ _ s
  refine wpAny_bind (wpAny_field (x := .ref l) gi di rfl ?_)
  show wpAny _ _ (if (Value.ref l == Value.none) = true then _ else _) _ _ s
  rw [if_neg (by exact Bool.false_ne_true)]
  show wpAny _ _ (field (.ref it) 1 >>= fun _ => _) _ _ s
  refine wpAny_bind (wpAny_field (x := .int i 0) gi di rfl ?_)
  show wpAny _ _ (seqItems? (.ref l) >>= fun _ => _) _ _ s
  refine wpAny_bind (wpAny_seqItems gl dl ?_)
  simp only [Int.toNat_natCast, hx]
  refine wpAny_bind (wpAny_rule (wpAny_bind (wpAny_setField gi di (by simp) ?_)))
  show wpAny _ _ (newExc (.type "StopIteration") [] >>= fun _ => _) _ _ _
  refine wpAny_bind ?_
  simp only [newExc, newTuple]
  refine wpAny_bind (wpAny_newObj_type ?_ (by size_fits))
  refine wpAny_bind (m := firstArgMember _ _) (wpAny_of_eq (a := Value.none) (by rfl) ?_)
  refine wpAny_newObj_type ?_ (by size_fits)
  refine raiseNew_hot ⟨hh, o1, vs1, Heap.get?_push_of_some _ (Heap.get?_push_of_some _ ((Heap.get?_update_other _ _ ne.symm).trans g1)), d1, c1⟩ (Nat.ne_of_lt (Heap.lt_size (Heap.get?_push_of_some _ ((Heap.get?_update_other _ _ ne.symm).trans g1)))) (Heap.get?_push_size _ rfl) rfl
    (by first | (simp; done) | (simp; omega) | (simp only [Array.size_append]; simp; omega)) ?_
  refine wpAny_bind (wpAny_isInstance (T := "StopIteration") (b := true) ⟨_, Heap.get?_update_self _ (Heap.get?_push_size _ rfl) rfl, rfl⟩ isSubtype_stop ?_)
  refine wpAny_pure (hQ _ fun b o nb e => ?_)
  rw [Heap.get?_update_other _ _ (Nat.ne_of_gt (Heap.lt_size (Heap.get?_push_of_some _ ((Heap.get?_update_other _ _ nb.symm).trans e))))]
  exact Heap.get?_push_of_some _ (Heap.get?_push_of_some _ ((Heap.get?_update_other _ _ nb.symm).trans e))
/-- .. as a walk -/
theorem walks_hot {x1 : Addr} {o1 : Obj} {vs1 : Array Value} (hh : A.handled = some (.ref x1)) (d1 : o1.data = .fields vs1) (c1 : vs1[2]? = some .none) (I ax : Addr) (na : ax ≠ I) (nx : x1 ≠ I) (items : Array Value) :
    Walks prog w A I [I, ax, x1] [I] items.size (fun i v => items[i]? = some v) (fun i h => h.IsListIter I ax i ∧ h.IsList ax items ∧ h.get? x1 = some o1) where
  sub := fun b hb => by simp at hb; simp [hb]
  frame := fun i h h' st k => ⟨st.1.at fun o e => k I (by simp) o e, st.2.1.at fun o e => k ax (by simp) o e, k x1 (by simp) _ st.2.2⟩
  item := fun i s Q E hi st hQ => by
    refine wpAny_pyNext_list_item st.1 st.2.1 (x := items[i]) (by simp [hi]) fun h' it' sb => hQ _ h' s.toks (by simp [hi]) ⟨it', st.2.1.extBut sb.extBut na, sb.extBut _ _ nx st.2.2⟩ fun b o hb e => sb.extBut b o (fun z => hb (by simp [z])) e
  done := fun s Q E st hQ => list_end_hot ⟨hh, o1, vs1, st.2.2, d1, c1⟩ nx st.1 st.2.1 (by simp) fun h' eb => hQ h' s.toks fun b o hb e => eb b o (fun z => hb (by simp [z])) e
  self := fun i s Q E st hQ => wpAny_pyIter_listiter st.1 hQ
end
section
variable {X : Cx} {g : G} {E : XK}
/-- sum of a list of ints there -/
theorem c_sumH (hc : HotC X) : CallR X (.builtin "sum") (rN g E fSum) := by
  intro pins s σ H xs us Q I rv ⟨ro, S, ds, hS, rd, w⟩
  unfold fSum at w
  split at w
  · rename_i n
    obtain ⟨v, _, rfl, r1, r2⟩ := rd.inv
    cases r2.inv0
    obtain ⟨l, hn, rfl⟩ := r1.ref_inv
    split at w
    · rename_i ys e1
      split at w
      · rename_i is e2
        obtain ⟨vs, rr, q⟩ := hS.at hn e1
        have ev := intsOf_rel rr e2
        subst ev
        obtain ⟨its, ri, hl, _⟩ := I.list (SqL.of q)
        rw [Vals.ref1 rv]
        obtain ⟨zs, ez⟩ := ri.ints.allInts.items
        have hnum : numsOf (intItems zs).toList = is := by rw [← ez]; exact ri.ints.numsOf
        rw [nums_intItems] at hnum
        have hL := hl.isList
        rw [ez] at hL
        obtain ⟨p, ⟨hh, ws, d1, c1⟩, hp⟩ := hc
        have P1 := (I.pin p (List.mem_append_left _ hp)).1
        refine call_sum_walkG (iter_intList hL fun s2 e st hfp hlI => ?_)
        subst e
        have np : p.1 ≠ s.heap.objs.size := Nat.ne_of_lt (Heap.lt_size P1)
        refine ⟨_, _, _, _, _, _, numAt zs, rfl, walks_hot (A := X.A.in1) hh d1 c1 _ l hlI np (intItems zs), ⟨st.1, st.2, Heap.get?_push_of_some _ P1⟩, fun b hb => ?_, (fun _ _ => intItems_at), fun h' tk t' hk => ?_⟩
        · simp only [List.mem_cons, List.not_mem_nil, or_false] at hb
          rcases hb with hb | hb | hb
          · exact hfp b (by simp [hb])
          · exact hfp b (by simp [hb])
          · subst hb
            exact Heap.lt_size (Heap.get?_push_of_some _ P1)
        · have hk2 : ∀ b o, s.heap.get? b = some o → h'.get? b = some o := fun b o eb => hk b o (by simp; exact Nat.ne_of_lt (Heap.lt_size eb)) (Heap.get?_push_of_some _ eb)
          have e3 : preSum (numAt zs) (intItems zs).size = is.sum := by
            have : (intItems zs).size = zs.size := by simp [intItems]
            rw [this, preSum_eq, List.take_of_length_le (by simp), hnum]
          rw [e3]
          exact ⟨.int is.sum, H, I.kept hk2, ⟨_, rfl⟩, w ro H _ (.refl _) (.refl _) hS .int_mk⟩
      · exact w.elim
    · exact w.elim
  · exact w.elim
end
end MP

namespace MP
open PySem PySem.Spec PyProof.Rows L2 L2H HotX
theorem blsOf_rel {ro : List Addr} {H : Hp} : ∀ {ds : List D} {vs : List V} {bs : List Bool}, RelDs ro H ds vs → blsOf ds = some bs → vs = bs.map V.bl
  | [], vs, b, h, e => by cases e; rw [h.inv0] <;> rfl
  | d :: ds, vs, b, h, e => by
    obtain ⟨v, r, rfl, h2, h3⟩ := h.inv
    cases d with
    | bl i =>
      simp only [blsOf] at e
      cases q : blsOf ds with
      | none => rw [q] at e; cases e
      | some c =>
        rw [q] at e
        cases e
        rw [h2.bl_inv, blsOf_rel h3 q]
        rfl
    | _ => simp [blsOf] at e
theorem ints_rel {ro : List Addr} {H : Hp} : ∀ bs : List Bool, RelDs ro H (bs.map fun b => D.int (if b = true then 1 else 0)) (bs.map fun b => V.int (if b = true then 1 else 0))
  | [] => .nil
  | b :: bs => .cons .int_mk (ints_rel bs)
theorem obj_there {P : Program} {w : World} {H : Hp} {h : Heap} {a : Addr} {o : HO} (x : ObjOk P w H h a o) : ∃ ob, h.get? a = some ob := by
  cases o with
  | lst xs => obtain ⟨_, _, _, _, e⟩ := x; exact ⟨_, e⟩
  | tup xs => obtain ⟨_, _, _, ob, e, _⟩ := x; exact ⟨_, e⟩
  | dK kvs => obtain ⟨_, _, _, _, o, _, _, e, _⟩ := x; exact ⟨_, e⟩
  | dT kvs => obtain ⟨_, _, _, _, o, _, _, e, _⟩ := x; exact ⟨_, e⟩
  | set S n => obtain ⟨o, _, _, _, e, _⟩ := x; exact ⟨_, e⟩
  | ins C dx fs => obtain ⟨_, _, _, e, _⟩ := x; exact ⟨_, e⟩
  | own y => obtain ⟨_, e⟩ := x; exact ⟨_, e⟩
  | xd fs => obtain ⟨_, ⟨_, _, _, e, _⟩, _⟩ := x; exact ⟨_, e⟩
  | rng lo hi => obtain ⟨_, _, _, e⟩ := x; exact ⟨_, e⟩
  | frz ob u => obtain ⟨e, _⟩ := x; exact ⟨_, e⟩
  | tbl ps => exact ⟨_, (show h.get? a = some _ from x)⟩
  | met f y => exact ⟨_, (show h.get? a = some _ from x)⟩
  | ext φ => obtain ⟨_, ⟨_, e⟩, _⟩ := x; exact ⟨_, e⟩
/-- an object laid where nothing stood -/
theorem laid_at {X : Cx} {pins : List (Addr × Obj)} {σ : L2.St} {H : Hp} {s : Shared} {a : Addr} {o : HO} {h' : Heap} {t' : Nat} (I : Inv X pins σ H s) (k : ∀ b u, s.heap.get? b = some u → h'.get? b = some u) (no : s.heap.get? a = none)
    (new : ObjOk X.prog X.w (upd H a o) h' a o) : Inv X pins σ (upd H a o) { s with heap := h', toks := t' } := by
  have hn : H a = none := by
    cases q : H a with
    | none => rfl
    | some u =>
      obtain ⟨ob, e⟩ := obj_there (I.hok a u q)
      rw [no] at e
      cases e
  have nb : ∀ {b u}, s.heap.get? b = some u → b ≠ a := fun e z => by rw [z, no] at e; cases e
  refine I.un ⟨fun b u q _ _ _ => k b u q, fun b u q _ _ _ => ⟨u.slots, k b u q⟩, fun b u q n _ => by rw [upd_ne (nb q)]; exact n, fun b u q _ => ⟨u, k b u q⟩, fun b xs q => by rw [upd_ne (ne_of_none q hn)]; exact q,
    fun b u xs q => by rw [upd_ne (ne_of_none q hn)]; exact q, fun b ps q => ⟨#[], by rw [upd_ne (ne_of_none q hn), q]; simp⟩⟩ fun b u e => ?_
  by_cases hb : b = a
  · subst hb
    rw [upd_same] at e
    cases e
    exact new
  · rw [upd_ne hb] at e
    exact (I.hok b u e).stay (fun c v _ q => k c v q) (fun c q => by rw [upd_ne (ne_of_none q hn)]; exact q) fun c xs q => by rw [upd_ne (ne_of_none q hn)]; exact q
section
variable {X : Cx} {g : G} {E : XK}
theorem se_intsH {x : Str} {q1 q2 q3 px pos : Pos} {iter : Expr} {scope : Scope} {mi : EM} (cx : Ctx g E X) (hc : HotC X) (hi : SE X g E iter mi) (hm : g.mg "int" = none)
    (hfree : ∀ y ∈ scope.names, y.2 ≠ .free) (hcell : ∀ y ∈ scope.names, y.2 ≠ .cell) (hkind : scope.kind = .function) (hnames : ∀ y ∈ scope.names, y.2 = .local → scope.names.lookup y.1 = some .local)
    (hx : scope.names.lookup x = some .local) (hint : scope.names.lookup ("int" : Str) = some .globalImplicit) (hd : (x == ("__debug__" : Str)) = false) (hs : ∀ z, foldedSetIterable iter X.env z = pure z := by intro _; rfl) :
    SE X g E (.ListComp (.Call (.Name "int" q1) [.Name x q2] [] q3) [⟨.Name x px, iter, [], 0⟩] scope pos) (eUn opInts mi) := by
  refine ⟨⟨fun pins s σ H Q I h => ?_⟩⟩
  obtain ⟨ro, L, S, hL, hS, h⟩ := h
  refine wpAny_ListComp_walk (p := fun _ => true) (F := fun v y => ∃ (b : Bool) (t : Tok), v = .bool b ∧ y = .int (if b = true then 1 else 0) t) hfree hcell hkind hnames hx
    (thn (hi.run.run pins s σ H (fun v H1 => ∃ (a : Addr) (bs : List Bool), v = .ref a ∧ H1 a = some (.lst (bs.map V.bl)) ∧ ∀ D, H1 D = none → Q (.ref D) (upd H1 D (.lst (bs.map fun b => V.int (if b = true then 1 else 0))))) I
      ⟨ro, L, S, hL, hS, Post.bind h fun d S1 ro1 H1 v gr ex hS1 rv w => ?_⟩) fun v s1 hq => ?_) hs
  · unfold opInts at w
    split at w
    · rename_i n
      obtain ⟨a, ha, rfl⟩ := rv.ref_inv
      split at w
      · rename_i ys e1
        split at w
        · rename_i bs e2
          obtain ⟨vs, rr, q⟩ := hS1.at ha e1
          have ev := blsOf_rel rr e2
          subst ev
          exact ⟨a, bs, rfl, q, fun D hD => w.push hS1 hD ⟨_, ints_rel bs, upd_same⟩⟩
        · exact w.elim
      · exact w.elim
    · exact w.elim
  · obtain ⟨y, H1, I1, r1, a, bs, rfl, hq, fin⟩ := hq
    cases r1
    obtain ⟨its, ri, hl, hz⟩ := I1.list (SqL.of hq)
    obtain ⟨p, ⟨hh, ws, d1, c1⟩, hp⟩ := hc
    have P1 := (I1.pin p (List.mem_append_left _ hp)).1
    have np : p.1 ≠ s1.heap.objs.size := Nat.ne_of_lt (Heap.lt_size P1)
    have na : a ≠ s1.heap.objs.size := Nat.ne_of_lt (by obtain ⟨_, e, _⟩ := hl.isList; exact Heap.lt_size e)
    have old : ∀ {b : Addr} {o : Obj}, s1.heap.get? b = some o → b ∉ [s1.heap.objs.size] := fun e => by
      simp
      exact Nat.ne_of_lt (Heap.lt_size e)
    refine wpAny_pyIter_list hl.isList ⟨_, _, _, _, _, _, rfl, walks_hot hh d1 c1 s1.heap.objs.size a na np its.toArray, ?_, ⟨⟨_, Heap.get?_push_size _ rfl, rfl, rfl⟩, hl.isList.push _, Heap.get?_push_of_some _ P1⟩, fun b hb => ?_, ⟨?_, ?_⟩, ?_⟩
    · have := ri.length
      simpa [← this] using hz
    · show b < (s1.heap.push _).objs.size
      rw [Heap.size_push]
      simp only [List.mem_cons, List.not_mem_nil, or_false] at hb
      rcases hb with rfl | rfl | rfl
      · exact Nat.lt_succ_self _
      · obtain ⟨_, e, _⟩ := hl.isList
        exact Nat.lt_succ_of_lt (Heap.lt_size e)
      · exact Nat.lt_succ_of_lt (Heap.lt_size P1)
    · intro C i v s3 m3 E' _ _ _ _ _
      simp only [List.forIn_nil]
      exact wpAny_pure ⟨rfl, ⟨s3.heap, s3.toks, rfl, fun _ _ e => e⟩⟩
    · intro C i v s3 m3 E' hv _ hn hm3 hk _
      have hk1 : ∀ b o, s1.heap.get? b = some o → s3.heap.get? b = some o := fun b o e => hk b o (old e) (Heap.get?_push_of_some _ e)
      have hbk : ∀ b o, X.base.get? b = some o → s3.heap.get? b = some o := fun b o e => hk1 b o (I1.bk b o e)
      obtain ⟨mb, b1, b2⟩ := I1.mod.blt
      obtain ⟨b, rfl⟩ : ∃ b : Bool, v = .bool b := by
        have h2 : its[i]? = some v := by simpa using hv
        have : ∀ {its : List Value} {bs : List Bool} {i : Nat}, Vals (bs.map V.bl) its → its[i]? = some v → ∃ b : Bool, v = .bool b := by
          intro its bs
          induction bs generalizing its with
          | nil => intro i r e; cases r; simp at e
          | cons b bs ih =>
            intro i r e
            cases r with
            | cons r1 r2 =>
              cases i with
              | zero => simp at e; subst e; exact ⟨b, r1⟩
              | succ i => exact ih r2 (by simpa using e)
        exact this ri h2
      refine wpAny_Call_Name_kw (Calls.Name_function_global (env := compEnv scope C X.env) hkind hint (Calls.loadGlobal_builtin (by show s3.heap.Ns X.env.globals _; rw [I1.ok.glob]; exact I1.mod.glob.keeps hbk) (by rw [cx.mg]; exact hm) (by show s3.heap.Ns X.env.builtins _; rw [I1.ok.blt]; exact b1.keeps hbk) ((b2 "int" (by decide)).trans (show bootBuiltins "int" = some (.type "int") by rfl)) ?_) (by decide))
      refine PyProof.Rows.callWith_type1 ?_ (by rfl) (by rfl)
      show wpAny _ _ (spliced ((false, eval (.Name x q2) (compEnv scope C X.env)) :: backTo q3 (starEach [] (compEnv scope C X.env)))) _ _ s3
      refine Calls.spliced_cons (wpAny_Name (wpAny_loadName_local hkind hx hn hm3 ?_) hd)
      exact Calls.spliced_nil (call_int_bool ⟨⟨b, _, rfl, rfl⟩, s3.heap, s3.toks + 1, rfl, fun _ _ e => e⟩)
    · intro D h' tk ys vs hD hl' hpl hlen hP hF hk
      have hk1 : ∀ b o, s1.heap.get? b = some o → h'.get? b = some o := fun b o e => hk b o (old e) (Heap.get?_push_of_some _ e)
      have noD : s1.heap.get? D = none := by
        cases e : s1.heap.get? D with
        | none => rfl
        | some o =>
          have e2 := Heap.get?_push_of_some { cls := .type "list_iterator", data := .fields #[.ref a, .int 0 0] } e
          exact absurd (hD.symm.trans e2) (by simp)
      have ev : vs = its := by
        refine List.ext_getElem? fun j => ?_
        cases e : vs[j]? with
        | some v => have := hP j v e; simpa using this.symm
        | none =>
          have h1 : vs.length ≤ j := List.getElem?_eq_none_iff.mp e
          have h2 : its.length ≤ j := by simpa [hlen] using h1
          rw [List.getElem?_eq_none h2]
      subst ev
      rw [List.filter_eq_self.mpr (fun _ _ => rfl)] at hF
      have vals : ∀ {bs : List Bool} {vs ws : List Value}, Vals (bs.map V.bl) vs → PySem.Paired (fun v y => ∃ (b : Bool) (t : Tok), v = Value.bool b ∧ y = Value.int (if b = true then 1 else 0) t) vs ws → Vals (bs.map fun b => V.int (if b = true then 1 else 0)) ws := by
        intro bs
        induction bs with
        | nil => intro vs ws r p; cases r; cases p; exact .nil
        | cons b bs ih =>
          intro vs ws r p
          cases r with
          | cons r1 r2 =>
            cases p with
            | cons p1 p2 =>
              obtain ⟨b', t, e1, e2⟩ := p1
              have r1 : _ = Value.bool b := r1
              rw [r1] at e1
              cases e1
              exact .cons ⟨t, e2⟩ (ih r2 p2)
      have vv := vals ri hF
      obtain ⟨n0, e0⟩ := hpl
      have hz2 : (bs.map fun b => V.int (if b = true then 1 else 0)).length ≤ sizeLine := by simpa using hz
      exact ⟨.ref D, _, laid_at (s := s1) (t' := tk) (o := .lst (bs.map fun b => V.int (if b = true then 1 else 0))) I1 hk1 noD ⟨hz2, ys.toList, n0, vv, by simpa using e0⟩, rfl, fin D (by
        cases q : H1 D with
        | none => rfl
        | some u =>
          obtain ⟨ob, e⟩ := obj_there (I1.hok D u q)
          rw [noD] at e
          cases e)⟩
end
end MP

namespace MP
open PySem PySem.Spec PyProof.Rows L2 L2H HotX
section
variable {X : Cx} {g : G} {E : XK} {e : Expr} {me : EM} {pos p1 p2 : Pos}
theorem m_index (cx : Ctx g E X) : MtR X "list.index" (rM g E fIndex) := mtr_imp (mt_indexD (by have := cx.units; omega)) fun x xs H Q ⟨ro, S, ds, hS, rv, w⟩ => by
  unfold fIndex at w
  split at w
  · rename_i n y
    obtain ⟨v, _, e1, r1, r2⟩ := rv.inv
    obtain ⟨u, _, e2, r3, r4⟩ := r2.inv
    cases r4.inv0
    subst e2
    cases e1
    obtain ⟨a, ha, rfl⟩ := r1.ref_inv
    split at w
    · rename_i ys e1
      obtain ⟨vs, q, t⟩ := hS.at ha e1
      split at w
      · rename_i p ps h1 h2
        split at w
        · rename_i j hj
          obtain ⟨a1, a2, a3⟩ := reify_dp hS 60 y u p r3 h1
          obtain ⟨b1, b2, b3⟩ := all_dp hS ys vs ps 59 q h2
          obtain ⟨hlt, hz, hno⟩ := List.findIdx?_eq_some_iff_getElem.mp hj
          rw [← cx.K] at a1 b1
          refine ⟨a, u, p, ps, j, ps[j], rfl, rfl, .lst (SqL.of t) b1, a1, shaped_of (p := .list ps) b2 (by simp only [PyData.depth]; omega), shaped_of a2 a3, List.getElem?_eq_getElem hlt, hz, fun m z' hm hz' => ?_, w ro H _ (.refl _) (.refl _) hS .int_mk⟩
          obtain ⟨hm2, rfl⟩ := List.getElem?_eq_some_iff.mp hz'
          simpa using hno m hm
        · exact w.elim
      · exact w.elim
    · exact w.elim
  · exact w.elim
/-- isinstance asked of the handled exception -/
theorem call_isEH {a C : Addr} {oe : Obj} (hp : (a, oe) ∈ X.pn) (ec : ExcC X.K C) (hz : Zc (.ref C) none oe) (hf : ∃ vs, oe.data = .fields vs) : CallR X (.builtin "isinstance") (rIsE X.K C a) := by
  rintro pins s σ H xs us Q I r ⟨c, cv, b, rfl, hcv, e, q⟩
  obtain ⟨u1, us, ru, rus, rfl⟩ : ∃ u1 us', RelV (.ref a) u1 ∧ Vals [c] us' ∧ us = u1 :: us' := by cases r; exact ⟨_, _, by assumption, by assumption, rfl⟩
  obtain ⟨u2, us, ru2, rus2, rfl⟩ : ∃ u2 us', RelV c u2 ∧ Vals [] us' ∧ us = u2 :: us' := by cases rus; exact ⟨_, _, by assumption, by assumption, rfl⟩
  cases rus2
  cases ru
  have e0 := hcv _ ru2
  subst e0
  have got := (I.pin (a, oe) (List.mem_append_left _ hp)).1
  obtain ⟨vs, hv⟩ := hf
  have at_ : PySem.W.InstAt s.heap a oe C none := by
    obtain ⟨o1, o2, o3, o4⟩ := oe
    obtain ⟨z1, z2⟩ := hz
    dsimp only at z1 z2 hv
    subst z1; subst z2; subst hv
    exact ⟨got, rfl, rfl, trivial⟩
  exact PySem.W.kia_one (PySem.W.handS_kitx_exc ec.hg ec.hk ec.hs ec.hd ec.ha ec.hn ec.ht ec.hm) I.kIn at_ e (fun z => nomatch z) fun tk => ⟨.bl b, H, I.kept (t' := tk) fun _ _ z => z, rfl, q⟩
/-- isinstance(e, C) there: cv the value of the name C -/
theorem se_isE {a C : Addr} {oe : Obj} {x : Str} {c : V} {b : Bool} {cv : Value} (cx : Ctx g E X) (hp : (a, oe) ∈ X.pn) (ec : ExcC g.K C) (hz : Zc (.ref C) none oe) (hf : ∃ vs, oe.data = .fields vs) (hm : g.mg "isinstance" = none)
    (he : SE X g E e me) (hc : PE X (.Name x p2) (tC c)) (hcv : ∀ u, RelV c u → u = cv) (hk : PySem.W.kitOne g.K (.ref C) cv = some b) (hg : Gl X "isinstance" := by rfl)
    (h1 : starEach [e, .Name x p2] X.env = (false, eval e X.env) :: starEach [.Name x p2] X.env := by rfl) (h2 : starEach [.Name x p2] X.env = (false, eval (.Name x p2) X.env) :: starEach [] X.env := by rfl) (hpl : (backTo pos (starEach [.Name x p2] X.env)).any (·.1) = false := by rfl) :
    SE X g E (.Call (.Name "isinstance" p1) [e, .Name x p2] [] pos) (eUn (opIsE a b) me) := by
  refine ⟨pe_imp (pe_callB (call_isEH hp (by rw [cx.K]; exact ec) hz hf) hg (by rw [cx.mg]; exact hm) PyProof.Rows.boot_isinstance (pa_cons he.run (pa_cons hc pa_nil h2) h1) (by decide) (by decide) h1 hpl) fun s H Q ⟨ro, L, S, hL, hS, h⟩ => ?_⟩
  refine ⟨ro, L, S, hL, hS, Post.bind h fun d S1 ro1 H1 v gr ex hS1 rv w => ?_⟩
  unfold opIsE at w
  split at w
  · rename_i a' p
    split at w
    · rename_i ea
      subst ea
      exact ⟨c, cv, b, by rw [rv.exn_inv], hcv, by rw [cx.K]; exact hk, w ro1 H1 _ (.refl _) (.refl _) hS1 .bl_mk⟩
    · exact w.elim
  · exact w.elim
/-- what a def computes while p is handled -/
def HFok (g : G) (k : Nat) (f : Addr) (fd : FuncData) (ps : List Str) (ks : List Nat) (F : Nat → Nat → Fn) : Prop := (∀ a c ds S, F a c ds S ≠ .err → ds.length = ps.length) ∧
  ∀ (A : Around) (outer : List Env) (s : Shared) (H : Hp) (args : Args) (us : List Value) (vs : List V) (Q : VK) (p : Addr × Obj) (c : Nat), RoomH k A → Hot1 A p → PinOk outer H s p → Zc (.ref (g.ecls c)) none p.2 → c ∈ ks → Env0 g.P g.w g.K g.mg g.base A outer s H →
    BindsTo s fd args (ps.zip us) → Vals vs us → vs.length = ps.length → spM g (F p.1 c) vs H Q E0 → codeAny (model g.P g.w) A (.call (.ref f) args) (CR (L2N.CX g.P g.w) outer g.P g.w H s Q E0) s
theorem hf_body {k : Nat} {y qual : Str} {params : Arguments} {bd : List Stmt} {sc : Scope} {dvs : List V} {kws : List (Str × V)} {f : Addr} {fd : FuncData} {N ps : List Str} {ks : List Nat} {body : Nat → Nat → SM} (F : FunD g.K y qual params bd sc dvs kws f fd) (S : FnScope N ps sc)
    (hb : ∀ (X : Cx) (p : Addr × Obj) (c : Nat), (∃ (cdv : Value) (A : Around) (outer : List Env) (s : Shared) (H : Hp), Hot1 A p ∧ RoomH k (A.deeper (PyProof.Rows.envOfC qual sc s.heap.objs.size f cdv)) ∧ X = cxH (L2N.CX g.P g.w) g.P g.w g.K g.mg g.base N qual sc f cdv A outer s H E0 p) →
      Zc (.ref (g.ecls c)) none p.2 → (∃ vs, p.2.data = .fields vs) → c ∈ ks → SSs X g E0 bd (body p.1 c)) : HFok g (k + 1) f fd ps ks (fun a c => MP.fn ps.length N.length (body a c)) := by
  obtain ⟨oc, od, dV, kV, doc, pm, an, cdv, ct, osl, rfl, lk, hcd, _, _⟩ := F.ex
  refine ⟨fun a c ds S h => Classical.byContradiction fun n => h (show MP.fn ps.length N.length (body a c) ds S = .err by unfold MP.fn; rw [if_neg n]), ?_⟩
  intro A outer s H args us vs Q p c hr hot pin hz hc e0 bnd rv hl ⟨ro, Sx, ds, hS, rd, w⟩
  have inK : g.K.In s.heap := e0.mod.kin.keeps fun b o q => (e0.bs b o q).1
  have nolim : s.heap.NoLimit := e0.mod.nolimit.keeps fun b o q => (e0.bs b o q).1
  refine codeAny_call_function hr.depth (inK _ _ lk) rfl S.co S.gen rfl (PySem.W.codeRec_of inK hcd) (bnd _ _ _ _ ?_)
  refine wpAny_newFunctionEnv_cells S.kind (fun y hy => ?_) fun env he s1 x => ?_
  · obtain ⟨n, v⟩ := y
    exact (S.par n (List.of_mem_zip hy).1).imp id fun q => ⟨q, PySem.W.cellsFrom_some _ _ _ (.inl q)⟩
  subst he
  refine ⟨nolim.keeps x.toInCall.keep, codeAny_func ?_⟩
  have I0 := inv_startH (CX := L2N.CX g.P g.w) (E := E0) S pin e0 hl rv x
  have der := hb _ p c ⟨cdv, A, outer, s, H, hot, hr.deeper _, rfl⟩ hz (by obtain ⟨_, vs, d, _⟩ := hot; exact ⟨vs, d⟩) hc
  have pre : rdS g E0 (body p.1 c) { nx := fun _ H' => Q .non H', rt := Q } (L2.start N vs) H := by
    have w : Post RelD g E0 ro H Q (MP.fn ps.length N.length (body p.1 c) ds Sx) := w
    unfold MP.fn at w
    have el : ds.length = ps.length := by rw [rd.length, hl]
    rw [if_pos el] at w
    refine ⟨ro, _, Sx, RelL.start N rd, hS, ?_⟩
    rw [← el] at w
    cases z : body p.1 c (ds.map some ++ List.replicate (N.length - ds.length) none) Sx with
    | nx L1 S1 => rw [z] at w; exact fun ro' H' s' gr ex R r => w ro' H' _ gr ex R .non_mk
    | rt d S1 => rw [z] at w; exact w
    | exc x L1 S1 => rw [z] at w; exact w
    | bk L1 S1 => rw [z] at w; exact w.elim
    | ct L1 S1 => rw [z] at w; exact w.elim
    | err => rw [z] at w; exact w.elim
  refine wpAny_mono (der.run.run [] s1 _ H _ I0 pre) (fun fl s' hs => ?_) fun _ _ h => h
  cases fl with
  | ret u =>
    obtain ⟨v, σ', H', J, r, q⟩ := hs
    exact ⟨v, H', J.os, J.bare, J.base, J.hok, r, q⟩
  | next =>
    obtain ⟨σ', H', J, q⟩ := hs
    exact ⟨.non, H', J.os, J.bare, J.base, J.hok, rfl, q⟩
  | brk => exact hs.choose_spec.choose_spec.2.elim
  | cont => exact hs.choose_spec.choose_spec.2.elim
/-- the name x is such a def -/
def HDf (g : G) (k : Nat) (x : Str) (ks : List Nat) (F : Nat → Nat → Fn) : Prop := ∃ (f : Addr) (fd : FuncData) (ps : List Str), HFok g k f fd ps ks F ∧ g.mg x = some (.ref f) ∧ PySem.W.keepIn g.K (.ref f) = true ∧ Binds g.K fd ps []
theorem se_callH {k : Nat} {x : Str} {ks : List Nat} {F : Nat → Nat → Fn} {p : Addr × Obj} {c : Nat} {es : List Expr} {ms : AM} {q : Pos} (cx : Ctx g E0 X) (d : HDf g k x ks F) (hot : Hot1 X.A p) (hp : p ∈ X.pn) (hz : Zc (.ref (g.ecls c)) none p.2) (hc : c ∈ ks) (hr : RoomH k X.A) (hg : Gl X x)
    (ha : SA X g E0 (e :: es) ms) (hdb : (x == ("__debug__" : Str)) = false := by decide) (he : starEach (e :: es) X.env = (false, eval e X.env) :: starEach es X.env := by rfl) (hpl : (backTo pos (starEach es X.env)).any (·.1) = false := by rfl) :
    SE X g E0 (.Call (.Name x q) (e :: es) [] pos) (eCall (F p.1 c) ms) := by
  obtain ⟨f, fd, ps, ⟨len, run⟩, hm, hk, hb⟩ := d
  refine ⟨⟨fun pins s σ H Q I ⟨ro, L, S, hL, hS, h⟩ => ?_⟩⟩
  refine wpAny_Call_Name_kw (ld_glob I hg (by rw [cx.mg]; exact hm) ?_ hdb)
  refine PySem.W.callWith_K (h₀ := X.base) I.ok.mod.kin (by rw [cx.K]; exact hk) (thn (ha.run.run pos pins s σ H (fun vs H1 => vs.length = ps.length ∧ spM g (F p.1 c) vs H1 Q E0) I ⟨ro, L, S, hL, hS, Post.bind h fun ds S1 ro1 H1 vs gr ex hS1 rv w => ?_⟩) fun us s1 ⟨vs, H1, I1, r, hl, sp⟩ => ⟨I1.kIn, ?_⟩) he hpl
  · exact ⟨by rw [← rv.length]; exact len _ _ _ S1 (fun z => by rw [z] at w; exact w.elim), ro1, S1, ds, hS1, rv, w⟩
  · have P1 := I1.pin p (List.mem_append_left _ hp)
    have pin : PinOk X.stack H1 s1 p := ⟨P1.1, P1.2.1, fun hm => (List.mem_cons.mp (I1.stkSub p.1 hm)).elim P1.2.2.1 P1.2.2.2.1, P1.2.2.2.2⟩
    have bnd := hb s1 us (by rw [← cx.K]; exact I1.kIn) (by rw [List.append_nil, ← r.length]; exact hl)
    rw [List.append_nil] at bnd
    have e0 := I1.env0
    have code := run X.A X.stack s1 H1 ⟨us, []⟩ us vs Q p c hr hot pin hz hc (by rw [← cx.P, ← cx.w, ← cx.K, ← cx.mg, ← cx.base]; exact e0) bnd r hl sp
    rw [← cx.P, ← cx.w] at code
    refine wpAny_call (codeAny_mono code fun r s2 hq => ?_)
    cases r with
    | error e =>
      obtain ⟨_, _, _, _, _, _, _, _, _, _, _, _, z⟩ := hq
      exact z.elim
    | ok fl =>
      cases fl with
      | ret u => exact I1.after hq
      | next => exact False.elim hq
      | brk => exact False.elim hq
      | cont => exact False.elim hq
end
/-- the context of such a def's body -/
theorem ctx_hot {g : G} {k : Nat} {cdv : Value} {A : Around} {outer : List Env} {s : Shared} {H : Hp} {N : List Str} {qual : Str} {sc : Scope} {f : Addr} {p : Addr × Obj} (hr : RoomH k (A.deeper (PyProof.Rows.envOfC qual sc s.heap.objs.size f cdv))) :
    Ctx g E0 (cxH (L2N.CX g.P g.w) g.P g.w g.K g.mg g.base N qual sc f cdv A outer s H E0 p) := ⟨rfl, rfl, rfl, rfl, rfl, fun _ _ x => by
    obtain ⟨_, _, _, _, _, _, _, _, _, _, _, _, _, _, _, _, z⟩ := x
    exact z.elim, by have := hr.un; show (A.deeper _).units + 66 < cLine; omega⟩
theorem hot_in {g : G} {cdv : Value} {A : Around} {outer : List Env} {s : Shared} {H : Hp} {N : List Str} {qual : Str} {sc : Scope} {f : Addr} {p : Addr × Obj} (h : Hot1 A p) : HotC (cxH (L2N.CX g.P g.w) g.P g.w g.K g.mg g.base N qual sc f cdv A outer s H E0 p) := ⟨p, h, List.mem_singleton_self _⟩
end MP

namespace MP
open PySem PySem.Spec PyProof.Rows L2 L2H HotX
section
variable {g : G} {ro : List Addr} {S : Sto} {H H' : Hp}
theorem Ext.ofN (e : LamX.ExtN H H') : Ext H H' := ⟨fun a vs h => e a _ h fun ps z => (by cases z), fun a o u h => e a _ h fun ps z => (by cases z)⟩
theorem RelS.extN (R : RelS g ro S H) (e : LamX.ExtN H H') (t : LamX.Tabs g.T H') : RelS g ro S H' := by
  have ex := Ext.ofN e
  refine ⟨R.len, fun n o h => ?_, R.inj, t⟩
  obtain ⟨a, h1, h2⟩ := R.ob n o h
  refine ⟨a, h1, ?_⟩
  cases o with
  | lst xs => obtain ⟨vs, r, q⟩ := h2; exact ⟨vs, RelDs.mono (.refl _) ex.tup _ _ r, e _ _ q fun ps z => (by cases z)⟩
  | frz xs => obtain ⟨vs, r, q⟩ := h2; exact ⟨vs, RelDs.mono (.refl _) ex.tup _ _ r, q.keep fun o u q => ex.frz _ _ _ q⟩
  | dic tt lk kvs =>
    have at_ : ∀ u : HO, (∀ ps, u ≠ .tbl ps) → AtL H a lk u → AtL H' a lk u := fun u n q => by
      cases lk with
      | true => obtain ⟨o, q⟩ := (show ∃ o, H a = some (.frz o u) from q); exact (show ∃ o, H' a = some (.frz o u) from ⟨o, ex.frz _ _ _ q⟩)
      | false => exact (show H' a = some u from e _ _ q n)
    cases tt with
    | true => obtain ⟨ws, r, q⟩ := (show ∃ ws, RelTV ro H kvs ws ∧ AtL H a lk (.dT ws) from h2); exact (show ∃ ws, RelTV ro H' kvs ws ∧ AtL H' a lk (.dT ws) from ⟨ws, RelTV.mono (.refl _) ex.tup r, at_ _ (fun ps z => by cases z) q⟩)
    | false => obtain ⟨ws, r, q⟩ := (show ∃ ws, RelKV ro H kvs ws ∧ AtL H a lk (.dK ws) from h2); exact (show ∃ ws, RelKV ro H' kvs ws ∧ AtL H' a lk (.dK ws) from ⟨ws, RelKV.mono (.refl _) ex.tup r, at_ _ (fun ps z => by cases z) q⟩)
  | ins c fs => obtain ⟨dx, ws, r, q⟩ := h2; exact ⟨dx, ws, RelF.mono (.refl _) ex.tup r, e _ _ q fun ps z => (by cases z)⟩
end
/-- the context of a lambda's body -/
abbrev lamN (X : Cx) (A : Around) (outer : List Env) (s : Shared) (H : Hp) (E : XK) (scope : Scope) (f c' : Addr) : Cx :=
  (LamX.lamCx X A outer s H E scope f c').wish fun e s' => wpAny (model X.prog X.w) (A.deeper (LamX.lamEnv X scope s.heap.objs.size f c')) (leaving (LamX.lamEnv X scope s.heap.objs.size f c') e) (fun _ s'' => L2N.CX X.prog X.w outer H s E e s'') (fun e' s'' => L2N.CX X.prog X.w outer H s E e' s'') s'
section
variable {X : Cx} {pins : List (Addr × Obj)} {σ : L2.St} {H : Hp} {s : Shared} {g : G} {E : XK}
theorem ctx_lam {A : Around} {outer : List Env} {s' : Shared} {H' : Hp} {E' : XK} {scope : Scope} {f c' : Addr} {k : Nat} (cx : Ctx g E X) (hr : Room k (A.deeper (LamX.lamEnv X scope s'.heap.objs.size f c'))) : Ctx g E' (lamN X A outer s' H' E' scope f c') :=
  ⟨cx.P, cx.w, cx.K, cx.mg, cx.base, L2N.takes_of rfl rfl rfl rfl, by have := hr.un; show (A.deeper _).units + 66 < cLine; omega⟩
/-- a() in the def that got the lambda -/
theorem pe_actN {Ng : List Str} {qg : Str} {sg : Scope} {ga f c' : Addr} {cdg pm ctv : Value} {params : Arguments} {body : Expr} {scope : Scope} {k i : Nat} {a : Str} {pn : List (Addr × Obj)} {xe : Value → Shared → Prop} {W : WX} {Eg : XK} {tb : XK → TE} {p1 p2 : Pos}
    (I : Inv X pins σ H s) (L : LamX.LamS X.env.scope scope) (obf : s.heap.get? f = some (PySem.W.kla_obj "<lambda>" (X.env.qual ++ "<lambda>") params body scope (cloFrom X.env.cells scope.names []) pm c' ctv)) (hfn : H f = none) (hfr : f ∉ frs X.stack)
    (hbind : bindArgs (PySem.W.kla_fn "<lambda>" (X.env.qual ++ "<lambda>") params body scope (cloFrom X.env.cells scope.names []) pm (.ref c') ctv) ⟨[], []⟩ = pure [])
    (tk : L2N.Takes ((cxOf (L2N.CX X.prog X.w) X.prog X.w X.K X.mg X.base Ng qg sg ga cdg X.A X.stack s H Eg).tr pn xe) W) (hr : Room (k + 1) (X.A.deeper (envOfC qg sg s.heap.objs.size ga cdg)))
    (hbody : ∀ (A : Around) (outer : List Env) (s : Shared) (H : Hp) (E : XK), Room k (A.deeper (LamX.lamEnv X scope s.heap.objs.size f c')) → PE (lamN X A outer s H E scope f c') body (tb E))
    (hN : Ng[i]? = some a) (hv : Vis sg a) (hd : (a == ("__debug__" : Str)) = false := by decide) (hcd : (a == ("__classdict__" : Str)) = false := by decide) :
    PE ((cxOf (L2N.CX X.prog X.w) X.prog X.w X.K X.mg X.base Ng qg sg ga cdg X.A X.stack s H Eg).tr pn xe) (.Call (.Name a p1) [] [] p2)
      (fun σZ HZ Q => σZ[i]? = some (some (.ref f)) ∧ HZ c' = some (LamX.CodeO c' (X.env.qual ++ "<lambda>")) ∧ tb (fun cls d H' => W cls d σZ H') σ HZ Q) := by
  refine ⟨fun pz sz σz hz Q Iz ⟨slot, hc, ht⟩ => ?_⟩
  have look := (pe_var (pos := p1) (i := i) hN hv hd hcd).run pz sz σz hz (fun v H1 => v = .ref f ∧ H1 = hz) Iz ⟨.ref f, slot, rfl, rfl⟩
  refine wpAny_Call_Name_kw (thn look fun u s1 ⟨v, H1, I1, r1, ev, eH⟩ => ?_)
  subst ev; subst eH
  obtain rfl : u = Value.ref f := r1
  have un : Un (frs X.stack) [] H H1 s.heap s1.heap := I1.base
  have ob1 := I1.base.keep f _ obf hfn hfr (fun z => nomatch (show f ∈ ([] : List Addr) from z))
  refine PySem.W.callWith_F0 ⟨_, _, _, _, ob1⟩ ?_
  obtain ⟨⟨oc, vs, t, hoc, hdc, hvc⟩, _, _⟩ := I1.hok c' _ hc
  have inner : codeAny (model X.prog X.w) (X.A.deeper (envOfC qg sg s.heap.objs.size ga cdg)) (.call (.ref f) ⟨[], []⟩) (CR (L2N.CX X.prog X.w) (envOfC qg sg s.heap.objs.size ga cdg :: X.stack) X.prog X.w H1 s1 Q (fun cls d H' => W cls d σz H')) s1 := by
    refine PySem.W.kla_callFunE hr.depth ob1 rfl L.co L.gen rfl ⟨c', oc, vs, t, rfl, hoc, hdc, hvc⟩ ?_
    rw [hbind]
    refine wpAny_pure (wpAny_newFunctionEnv (fun y hy => (L.own y hy).2) (fun y hy => absurd hy (by simp)) (fun h2 ns sb => ⟨I1.nolimit.fresh _ sb, ?_⟩) L.kind)
    show codeAny _ _ (.expr body (LamX.lamEnv X scope s1.heap.objs.size f c')) _ _
    have kp : ∀ b o, s1.heap.get? b = some o → h2.get? b = some o := fun b o e => sb.extBut b o (Nat.ne_of_lt (Heap.lt_size e)) (Heap.get?_push_of_some _ e)
    have J := (LamX.lam_start2 (f := f) (c' := c') (A := X.A.deeper (envOfC qg sg s.heap.objs.size ga cdg)) (outer := envOfC qg sg s.heap.objs.size ga cdg :: X.stack) (E := fun cls d H' => W cls d σz H') (tk := s1.toks + ([] : List (Str × Value)).length) I L I1.env0 hr.hd un ns kp)
    have run := (hbody (X.A.deeper (envOfC qg sg s.heap.objs.size ga cdg)) (envOfC qg sg s.heap.objs.size ga cdg :: X.stack) s1 H1 (fun cls d H' => W cls d σz H') (hr.deeper _)).run [] _ _ H1 Q (J.wish _) ht
    refine PySem.W.kla_codeExpr (wpAny_mono run (fun v s' hq => ?_) fun e s' hq => hq)
    obtain ⟨w', H', J', rv, q⟩ := hq
    exact ⟨w', H', J'.os, J'.bare, J'.base, J'.hok, rv, q⟩
  refine wpAny_call (codeAny_mono inner fun r s' hq => ?_)
  cases r with
  | error e => exact L2N.passAt tk σz pz H1 s1 e s' I1 hq
  | ok fl =>
    cases fl with
    | ret u => exact I1.after hq
    | next => exact hq.elim
    | brk => exact hq.elim
    | cont => exact hq.elim
end
end MP

namespace MP
open PySem PySem.Spec PyProof.Rows L2 L2H HotX
/-- what is wanted of an exception that the told def takes -/
def toldE (g : G) (ks : List Nat) (WT : Nat → D) (WO : Nat → List Ob) (Q : VK) : XK := fun cls d H =>
  ∃ (c : Nat) (ro : List Addr) (S : Sto), cls = .ref (g.ecls c) ∧ d = none ∧ c ∈ ks ∧ RelS g ro S H ∧ Post RelD g E0 ro H Q (.ok (WT c) (S ++ WO c))
/-- the told def, run with a lambda that was made at s -/
def ToldFn (g : G) (k : Nat) (x : Str) (ks : List Nat) (WT : Nat → D) (WO : Nat → List Ob) : Prop :=
  ∃ (ga : Addr) (fd : FuncData) (a : Str), g.mg x = some (.ref ga) ∧ PySem.W.keepIn g.K (.ref ga) = true ∧ Binds g.K fd [a] [] ∧
    ∀ (X : Cx) (pins : List (Addr × Obj)) (σ : L2.St) (H : Hp) (s : Shared) (f c' : Addr) (pm ctv : Value) (params : Arguments) (body : Expr) (scope : Scope) (Q : VK) (tb : XK → TE),
      X.prog = g.P → X.w = g.w → X.K = g.K → X.mg = g.mg → X.base = g.base → Room (k + 2) X.A → Inv X pins σ H s → LamX.LamS X.env.scope scope →
      s.heap.get? f = some (PySem.W.kla_obj "<lambda>" (X.env.qual ++ "<lambda>") params body scope (cloFrom X.env.cells scope.names []) pm c' ctv) → H f = none → f ∉ frs X.stack → H c' = some (LamX.CodeO c' (X.env.qual ++ "<lambda>")) →
      bindArgs (PySem.W.kla_fn "<lambda>" (X.env.qual ++ "<lambda>") params body scope (cloFrom X.env.cells scope.names []) pm (.ref c') ctv) ⟨[], []⟩ = pure [] →
      (∀ (A : Around) (outer : List Env) (s : Shared) (H : Hp) (E : XK), Room k (A.deeper (LamX.lamEnv X scope s.heap.objs.size f c')) → PE (lamN X A outer s H E scope f c') body (tb E)) →
      (∀ (E1 E2 : XK) (σ : L2.St) (H : Hp) (Q : VK), (∀ c d H, E1 c d H → E2 c d H) → tb E1 σ H Q → tb E2 σ H Q) → tb (toldE g ks WT WO Q) σ H Q → codeAny (model X.prog X.w) X.A (.call (.ref ga) ⟨[.ref f], []⟩) (CR (L2N.CX X.prog X.w) X.stack X.prog X.w H s Q E0) s
theorem takesN {X : Cx} : L2N.Takes X (fun _ _ _ _ => False) := fun _ _ x => by
  obtain ⟨_, _, _, _, _, _, _, _, _, _, _, _, _, _, _, _, z⟩ := x
  exact z.elim
section
variable {g : G}
theorem told_fn {k : Nat} {x a en xn : Str} {params : Arguments} {sc : Scope} {ga cs : Addr} {fd : FuncData} {ks : List Nat} {WT : Nat → D} {WO : Nat → List Ob} {b0 : Stmt} {suite : List Stmt} {p1 p2 p3 p4 p7 p8 : Pos} {hc : Nat → Nat → SM}
    (F : FunD g.K x x params [.Try [.Return (some (.Call (.Name a p1) [] [] p2)) p3] [.ExceptHandler (some (.Name xn p4)) (some en) (b0 :: suite) p7] [] [] p8] sc [] [] ga fd) (hm : g.mg x = some (.ref ga)) (hb : Binds g.K fd [a] []) (S : FnScope [a, en] [a] sc)
    (hen : sc.names.lookup en = some .local) (hxn : sc.names.lookup xn = some .globalImplicit) (hxm : g.mg xn = some (.ref cs)) (hxd : (xn == ("__debug__" : Str)) = false) (hva : Vis sc a) (had : (a == ("__debug__" : Str)) = false) (hac : (a == ("__classdict__" : Str)) = false)
    (hex : ∀ c ∈ ks, PySem.W.exmOne g.K (.ref (g.ecls c)) (.ref cs) = some true)
    (hH : ∀ (X : Cx) (p : Addr × Obj) (c : Nat), (∃ (cdv : Value) (A : Around) (outer : List Env) (s : Shared) (H : Hp) (pn : List (Addr × Obj)), RoomH (k + 1) X.A ∧ X = (cxOf (L2N.CX g.P g.w) g.P g.w g.K g.mg g.base [a, en] x sc ga cdv A outer s H E0).suite p.1 (p :: pn)) → Ctx g E0 X → Hot1 X.A p → p ∈ X.pn →
      Zc (.ref (g.ecls c)) none p.2 → (∃ vs, p.2.data = .fields vs) → c ∈ ks → SSs X g E0 (b0 :: suite) (hc p.1 c))
    (hw : ∀ (f' a' c : Nat) (S' : Sto), c ∈ ks → hc a' c [some (.exn f' []), some (.exn a' [])] S' = .rt (WT c) (S' ++ WO c)) : ToldFn g k x ks WT WO := by
  obtain ⟨oc, od, dV, kV, doc, pm0, an, cdv, ct, osl, rfl, lk, hcd, _, _⟩ := F.ex
  refine ⟨ga, _, a, hm, F.kp, hb, ?_⟩
  intro X pins σ H s f c' pm ctv lps body scope Q tb eP ew eK em eb hr I L obf hfn hfr hco hbind hbody mono ht
  refine LamX.run_ofS (CX := L2N.CX X.prog X.w) (N := [a, en]) (ps := [a]) (us := [.ref f]) (vs := [.ref f]) (by rw [eK]; exact lk) (by rw [eK]; exact hcd) S hr I.env0 (by
    have := hb s [.ref f] (by rw [← eK]; exact I.kIn) rfl
    exact this) (.cons rfl .nil) rfl fun hr' => ?_
  have hr2 : Room (k + 1) (X.A.deeper (envOfC x sc s.heap.objs.size ga cdv)) := hr'
  let Xt : Cx := cxOf (L2N.CX X.prog X.w) X.prog X.w X.K X.mg X.base [a, en] x sc ga cdv X.A X.stack s H E0
  let ts : Addr → Value → Option Addr → TS := fun b cls d D σ' H' => ∃ c : Nat, cls = .ref (g.ecls c) ∧ d = none ∧ c ∈ ks ∧ rdS g E0 (hc b c) D σ' H'
  have body2 : PS Xt (.Try [.Return (some (.Call (.Name a p1) [] [] p2)) p3] [.ExceptHandler (some (.Name xn p4)) (some en) (b0 :: suite) p7] [] [] p8) (fun D σ' H' =>
      σ'[0]? = some (some (.ref f)) ∧ H' c' = some (LamX.CodeO c' (X.env.qual ++ "<lambda>")) ∧ tb (fun cls d H2 => wAs Xt.K (.ref cs) 1 ts (fun _ _ _ _ => False) D cls d σ' H2) σ H' D.rt) := by
    refine L2N.ps_try_as (X := Xt) (i := 1) (n := en) (c := .ref cs) (ts := ts) (tb := fun W D σ' H' => σ'[0]? = some (some (.ref f)) ∧ H' c' = some (LamX.CodeO c' (X.env.qual ++ "<lambda>")) ∧ tb (fun cls d H2 => W cls d σ' H2) σ H' D.rt) (Wout := fun _ _ _ _ => False) rfl rfl S.nd rfl hen ⟨hxn, hxd, .inl (by show X.mg xn = _; rw [em]; exact hxm)⟩ takesN (fun W pn xe tk _ => ?_) fun b oe cls d pn zn dat => ?_
    · refine pss_one (ps_imp (ps_ret (pos := p3) (te := fun (σ' : L2.St) (H' : Hp) (Q' : VK) => σ'[0]? = some (some (V.ref f)) ∧ H' c' = some (LamX.CodeO c' (X.env.qual ++ "<lambda>")) ∧ tb (fun cls d H2 => W cls d σ' H2) σ H' Q') ?_) fun D s H h => h)
      exact pe_actN (i := 0) (tb := tb) I L obf hfn hfr hbind tk hr2 hbody rfl hva had hac
    · refine ⟨fun pz sz σz Hz D Iz ⟨c, e1, e2, hc', h⟩ => ?_⟩
      subst e1; subst e2
      have hot : Hot1 ((Xt.suite b ((b, oe) :: pn)).A) (b, oe) := by
        obtain ⟨vs, dv⟩ := dat
        exact ⟨rfl, vs, dv, zn.2.2 vs dv⟩
      have rh : RoomH (k + 1) ((Xt.suite b ((b, oe) :: pn)).A) := ⟨hr2.dp, hr2.un⟩
      have der := hH (Xt.suite b ((b, oe) :: pn)) (b, oe) c ⟨cdv, X.A, X.stack, s, H, pn, rh, by show Cx.suite (cxOf (L2N.CX X.prog X.w) X.prog X.w X.K X.mg X.base [a, en] x sc ga cdv X.A X.stack s H E0) b ((b, oe) :: pn) = _; rw [eP, ew, eK, em, eb] <;> rfl⟩ ⟨eP, ew, eK, em, eb, takesN, Nat.lt_of_le_of_lt (show (X.A.deeper (envOfC x sc s.heap.objs.size ga cdv)).units + 66 ≤ (X.A.deeper (envOfC x sc s.heap.objs.size ga cdv)).units + 16 * (k + 1) + 200 by omega) hr2.un⟩ hot List.mem_cons_self zn.zc dat hc'
      exact der.run.run pz sz σz Hz D Iz h
  have conv : ∀ cls d H', toldE g ks WT WO Q cls d H' → wAs Xt.K (.ref cs) 1 ts (fun _ _ _ _ => False) { nx := fun _ H' => Q .non H', rt := Q } cls d (L2.start [a, en] [.ref f]) H' := by
    rintro cls d H' ⟨c, ro, S', rfl, rfl, hc', hS, post⟩
    refine ⟨true, by show PySem.W.exmOne X.K _ _ = _; rw [eK]; exact hex c hc', fun _ b _ => ⟨c, rfl, rfl, hc', ro, [some (.exn f []), some (.exn b [])], S', ?_, hS, ?_⟩, fun z => by cases z⟩
    · exact .cons (show RelD _ _ _ _ from .exn_mk) (.cons (show RelD _ _ _ _ from .exn_mk) .nil)
    · rw [hw f b c S' hc']
      exact post
  exact ⟨_, pss_one body2, rfl, hco, mono _ _ σ H Q conv ht⟩
end
/-- what the making of lambdas asks of the def they are made in -/
structure LamAt (X : Cx) (g : G) : Prop where
  at_ : ∃ c P : Addr, X.env.code = .ref c ∧ LamX.TabB X.base X.mg c P ∧ (P, X.env.qual ++ "<lambda>") ∈ g.T ∧ ∀ p ∈ g.T, p.1 = P → p.2 = X.env.qual ++ "<lambda>"
section
variable {X : Cx} {g : G} {E : XK}
/-- told(lambda: e) -/
theorem se_told {k : Nat} {x : Str} {ks : List Nat} {WT : Nat → D} {WO : Nat → List Ob} {params : Arguments} {body : Expr} {scope : Scope} {p lpos pos : Pos} {m : EM} (cx : Ctx g E X) (T : ToldFn g k x ks WT WO) (lam : LamAt X g) (hr : Room (k + 2) X.A) (hg : Gl X x)
    (L : LamX.LamS X.env.scope scope) (hdef : defaultsOf params X.env = ([], [])) (hbind : ∀ (q : Str) (cl : List (Str × Addr)) (pm cv ctv : Value), bindArgs (PySem.W.kla_fn "<lambda>" q params body scope cl pm cv ctv) ⟨[], []⟩ = pure [])
    (hbody : ∀ (A : Around) (outer : List Env) (s : Shared) (H : Hp) (E : XK) (f c' : Addr), Room k (A.deeper (LamX.lamEnv X scope s.heap.objs.size f c')) → Ctx g E (lamN X A outer s H E scope f c') → SE (lamN X A outer s H E scope f c') g E body m)
    (hdb : (x == ("__debug__" : Str)) = false := by decide) : SE X g E (.Call (.Name x p) [.Lambda params body scope lpos] [] pos) (eTold ks WT WO m) := by
  obtain ⟨ga, fd, a, hm, hk, hb, run⟩ := T
  obtain ⟨c, P, hcode, TB, hmT, hu⟩ := lam.at_
  refine ⟨⟨fun pins s σ H Q I ⟨ro, Lc, S, hL, hS, h⟩ => ?_⟩⟩
  refine wpAny_Call_Name_kw (ld_glob I hg (by rw [cx.mg]; exact hm) ?_ hdb)
  refine PySem.W.callWith_K (h₀ := X.base) I.ok.mod.kin (by rw [cx.K]; exact hk) ?_ (by rfl) (by rfl)
  show wpAny _ _ (spliced ((false, eval (.Lambda params body scope lpos) X.env) :: backTo pos (starEach [] X.env))) _ _ s
  refine Calls.spliced_cons (LamX.lam_make2 I TB hcode hmT hu hS.tabs hdef (L.has I.ok) fun f c' pm ctv H1 s1 I1 eN T1 obf hfn hfr hco => ?_)
  refine Calls.spliced_nil ⟨I1.kIn, ?_⟩
  have ex := Ext.ofN eN
  have code := run X pins σ H1 s1 f c' pm ctv params body scope Q (fun E' => rdE g E' m) cx.P cx.w cx.K cx.mg cx.base hr I1 L obf hfn hfr hco (hbind _ _ _ _ _)
    (fun A outer s' H' E' hr' => (hbody A outer s' H' E' f c' hr' (ctx_lam cx hr')).run)
    (fun E1 E2 σ' H' Q' hE ⟨ro', L', S', a1, a2, a3⟩ => ⟨ro', L', S', a1, a2, by
      cases z : m L' S' with
      | ok d S1 => rw [z] at a3; exact a3
      | exc y S1 => rw [z] at a3; exact fun r1 h1 c1 d1 b1 b2 b3 b4 => hE _ _ _ (a3 r1 h1 c1 d1 b1 b2 b3 b4)
      | err => rw [z] at a3; exact a3⟩)
    ⟨ro, Lc, S, hL.mono (.refl _) ex.tup, hS.extN eN T1, by
      unfold eTold at h
      cases z : m Lc S with
      | ok d S1 =>
        rw [z] at h
        exact Post.mono (.refl _) ex h
      | exc y S1 =>
        rw [z] at h
        simp only at h
        split at h
        · rename_i hy
          intro ro' H' cc dd gr e' hS' rx
          obtain ⟨yc, yp⟩ := y
          obtain ⟨rfl, hks⟩ := hy
          obtain ⟨rfl, rfl⟩ := (show cc = .ref (g.ecls yc) ∧ dd = none from rx)
          exact ⟨yc, ro', S1, rfl, rfl, hks, hS', Post.mono (g := g) (E := E0) gr (ex.trans e') (show Post RelD g E0 ro H Q (.ok (WT yc) (S1 ++ WO yc)) from h)⟩
        · exact h.elim
      | err => rw [z] at h; exact h.elim⟩
  refine wpAny_call (codeAny_mono code fun r s2 hq => ?_)
  cases r with
  | error e =>
    obtain ⟨_, _, _, _, _, _, _, _, _, _, _, _, z⟩ := hq
    exact z.elim
  | ok fl =>
    cases fl with
    | ret u => exact I1.after hq
    | next => exact False.elim hq
    | brk => exact False.elim hq
    | cont => exact False.elim hq
end
theorem lamAt_of {g : G} {E : XK} {cdv : Value} {A : Around} {outer : List Env} {s : Shared} {H : Hp} {N : List Str} {qual : Str} {sc : Scope} {f c P : Addr} (ec : cdv = .ref c) (t1 : LamX.TabB g.base g.mg c P) (t2 : (P, (qual ++ ".<locals>.") ++ "<lambda>") ∈ g.T) (t3 : ∀ p ∈ g.T, p.1 = P → p.2 = (qual ++ ".<locals>.") ++ "<lambda>") :
    LamAt (cxOf (L2N.CX g.P g.w) g.P g.w g.K g.mg g.base N qual sc f cdv A outer s H E) g := by
  refine ⟨⟨c, P, ?_, ?_, ?_, ?_⟩⟩
  · exact ec
  · exact t1
  · exact t2
  · exact t3
/-- a def in which lambdas are made, by its body -/
theorem df_bodyT {g : G} {k : Nat} {y qual : Str} {params : Arguments} {bd : List Stmt} {sc : Scope} {dvs : List V} {kws : List (Str × V)} {f : Addr} {fd : FuncData} {N ps : List Str} {body : SM} (fn : FunD g.K y qual params bd sc dvs kws f fd) (S : FnScope N ps sc)
    (tb : ∀ (oc : Value) (od : Option Addr) (osl : Array (Option Value)) (c : Addr), g.K.lookup f = some ⟨oc, od, .func fd, osl⟩ → fd.code = .ref c → ∃ P : Addr, LamX.TabB g.base g.mg c P ∧ (P, (qual ++ ".<locals>.") ++ "<lambda>") ∈ g.T ∧ ∀ p ∈ g.T, p.1 = P → p.2 = (qual ++ ".<locals>.") ++ "<lambda>")
    (hb : ∀ (X : Cx) (E : XK), (∃ (cdv : Value) (A : Around) (outer : List Env) (s : Shared) (H : Hp), Room k (A.deeper (PyProof.Rows.envOfC qual sc s.heap.objs.size f cdv)) ∧ X = cxOf (L2N.CX g.P g.w) g.P g.w g.K g.mg g.base N qual sc f cdv A outer s H E) → LamAt X g → SSs X g E bd body) :
    FOk g (k + 1) f fd ps (MP.fn ps.length N.length body) := by
  obtain ⟨oc, od, dV, kV, doc, pm, an, cdv, ct, osl, rfl, lk, hcd, _, _⟩ := fn.ex
  obtain ⟨c, ec⟩ := He.codeIn_ref hcd
  obtain ⟨P, t1, t2, t3⟩ := tb oc od osl c lk ec
  refine fn_of lk hcd S (fun vs H Q E ⟨ro, S, ds, hS, rv, h⟩ => ?_) fun A outer s H vs Q E hr ⟨ro, S', ds, hS, rv, h⟩ => ⟨_, (hb _ E ⟨cdv, A, outer, s, H, hr, rfl⟩ (lamAt_of ec t1 t2 t3)).run, ?_⟩
  · unfold MP.fn at h
    split at h
    · rename_i e
      rw [← rv.length, e]
    · exact h.elim
  · unfold MP.fn at h
    split at h
    · rename_i e
      rw [← e] at h
      refine ⟨ro, _, S', RelL.start N rv, hS, ?_⟩
      cases z : body (ds.map some ++ List.replicate (N.length - ds.length) none) S' with
      | nx L1 S1 => rw [z] at h; exact fun ro' H' s' gr ex R r => h ro' H' _ gr ex R .non_mk
      | rt d S1 => rw [z] at h; exact h
      | exc x L1 S1 => rw [z] at h; exact h
      | bk L1 S1 => rw [z] at h; exact h.elim
      | ct L1 S1 => rw [z] at h; exact h.elim
      | err => rw [z] at h; exact h.elim
    · exact h.elim
end MP

namespace MP
open PySem L2
def fnames : List Str := ([Str.ofString "__eq__", Str.ofString "__init__", Str.ofString "__len__", Str.ofString "aged", Str.ofString "alive", Str.ofString "all_houses", Str.ofString "all_ways", Str.ofString "append", Str.ofString "ask", Str.ofString "asked", Str.ofString "asked_by", Str.ofString "at_house", Str.ofString "clock", Str.ofString "come", Str.ofString "count", Str.ofString "cut", Str.ofString "cuts", Str.ofString "disown", Str.ofString "drop", Str.ofString "end", Str.ofString "ends", Str.ofString "find", Str.ofString "forget", Str.ofString "found", Str.ofString "fresh", Str.ofString "get", Str.ofString "got", Str.ofString "house", Str.ofString "index", Str.ofString "insert", Str.ofString "is_cut", Str.ofString "join", Str.ofString "joined", Str.ofString "keep", Str.ofString "keeps", Str.ofString "leads", Str.ofString "lean", Str.ofString "leave", Str.ofString "lines", Str.ofString "longest", Str.ofString "lose", Str.ofString "me", Str.ofString "mend", Str.ofString "most", Str.ofString "near", Str.ofString "need_house", Str.ofString "need_in", Str.ofString "need_way", Str.ofString "next_houses", Str.ofString "no_from", Str.ofString "noes", Str.ofString "now", Str.ofString "oldest", Str.ofString "on_way", Str.ofString "out", Str.ofString "own", Str.ofString "owns", Str.ofString "parted", Str.ofString "pending", Str.ofString "pop", Str.ofString "posts", Str.ofString "put", Str.ofString "remove", Str.ofString "roads", Str.ofString "room", Str.ofString "rows", Str.ofString "send", Str.ofString "settle", Str.ofString "shelf", Str.ofString "sides", Str.ofString "since", Str.ofString "size", Str.ofString "split", Str.ofString "table", Str.ofString "table_sides", Str.ofString "take_out", Str.ofString "teach", Str.ofString "tell", Str.ofString "tell_all", Str.ofString "thing_from", Str.ofString "things", Str.ofString "tick", Str.ofString "waits", Str.ofString "way", Str.ofString "ways", Str.ofString "who"] : List Str)
def FN (i : Nat) : Str := fnames.getD i ⟨(List.replicate (100 + i) 97).toArray⟩
theorem FN_inj : ∀ i j, FN i = FN j → i = j := by
  have nd : fnames.Nodup := by decide +kernel
  have sh : ∀ x ∈ fnames, x.cps.size < 100 := by decide +kernel
  have lg : ∀ i, fnames.length ≤ i → (FN i).cps.size = 100 + i := fun i h => by
    unfold FN
    rw [List.getD_eq_getElem?_getD, List.getElem?_eq_none h]
    simp
  have st : ∀ i, (h : i < fnames.length) → FN i = fnames[i] := fun i h => by
    unfold FN
    rw [List.getD_eq_getElem?_getD, List.getElem?_eq_getElem h]
    rfl
  intro i j e
  rcases Nat.lt_or_ge i fnames.length with hi | hi <;> rcases Nat.lt_or_ge j fnames.length with hj | hj
  · rw [st i hi, st j hj] at e
    exact (List.getElem_inj nd).mp e
  · have h1 := sh _ (List.getElem_mem hi)
    rw [← st i hi, e, lg j hj] at h1
    omega
  · have h1 := sh _ (List.getElem_mem hj)
    rw [← st j hj, ← e, lg i hi] at h1
    omega
  · have h1 := lg i hi
    rw [e, lg j hj] at h1
    omega
def lamQ (x : Str) : Str := (x ++ ".<locals>.") ++ "<lambda>"
def clsN : List Str := ([Str.ofString "House", Str.ofString "Keeps", Str.ofString "Net", Str.ofString "Table", Str.ofString "Wait"] : List Str)
def excN : List Str := ([Str.ofString "BadLetter", Str.ofString "BadName", Str.ofString "BadNumber", Str.ofString "BadSides", Str.ofString "BadStory", Str.ofString "Gone", Str.ofString "NoHouse", Str.ofString "NoLetter", Str.ofString "NoWay", Str.ofString "WantError"] : List Str)
end MP

namespace MP
open PySem L2
theorem cx_no {P : Program} {w : World} (H : Hp) (s : Shared) (e : Value) (s' : Shared) (h : L2N.CX P w [] H s (fun _ _ _ => False) e s') : False := by
  obtain ⟨_, _, _, _, _, _, _, _, _, _, _, _, z⟩ := h
  exact z
/-- what is promised of a law: it answers True -/
def spL (K : PySem.W.Frag) (T : List (Addr × Str)) : Sp := fun vs H Q _ => ∃ (a : Addr) (ns : List Int), vs = [.ref a] ∧ ns.length ≤ 63 ∧ SqL K H a (ns.map V.int) ∧ LamX.Tabs T H ∧ ∀ H', Q (.bl true) H'
theorem rel_ints {ro : List Addr} {H : Hp} : ∀ ns : List Int, RelDs ro H (ns.map D.int) (ns.map V.int)
  | [] => .nil
  | n :: ns => .cons .int_mk (rel_ints ns)
theorem law_sp {g : G} {F : Fn} (h : ∀ {S : Sto} {n : Nat} {ns : List Int}, isL S n (ns.map .int) → ns.length ≤ 63 → wR (F [.ref n] S) (fun d _ => d = .bl true) Fl) (vs : List V) (H : Hp) (Q : VK) (E : XK) (q : spL g.K g.T vs H Q E) : spM g F vs H Q E := by
  obtain ⟨a, ns, rfl, hz, hS, hT, q⟩ := q
  have key : ∀ ob : Ob, RelOb g [a] H a ob → isL [ob] 0 (ns.map .int) → spM g F [.ref a] H Q E := fun ob ho hl => by
    refine ⟨[a], [ob], [.ref 0], ⟨rfl, fun n o e => ?_, fun n m b ne e1 e2 => ?_, hT⟩, .cons (.ref_mk rfl) .nil, ?_⟩
    · cases n with
      | zero => cases e; exact ⟨a, rfl, ho⟩
      | succ n => cases e
    · cases n with
      | zero =>
        cases m with
        | zero => exact absurd rfl ne
        | succ m => cases e2
      | succ n => cases e1
    · have w := h hl hz
      cases z : F [.ref 0] [ob] with
      | ok d S' =>
        rw [z] at w
        have w : d = .bl true := w
        subst w
        intro ro' H' v _ _ _ rv
        rw [rv.bl_inv]
        exact q H'
      | exc x S' => rw [z] at w; exact w.elim
      | err => rw [z] at w; exact w.elim
  rcases hS with (hS | hS) | hS
  · exact key (.lst (ns.map .int)) ⟨_, rel_ints ns, hS⟩ (.inl rfl)
  · exact key (.frz (ns.map .int)) ⟨_, rel_ints ns, .inl hS⟩ (.inr rfl)
  · exact key (.frz (ns.map .int)) ⟨_, rel_ints ns, .inr hS⟩ (.inr rfl)
theorem FOk.law {g : G} {k : Nat} {f : Addr} {fd : FuncData} {ps : List Str} {F : Fn} (o : FOk g k f fd ps F) (h : ∀ {S : Sto} {n : Nat} {ns : List Int}, isL S n (ns.map .int) → ns.length ≤ 63 → wR (F [.ref n] S) (fun d _ => d = .bl true) Fl) :
    FnOk g.P g.w g.K g.mg g.base (L2N.CX g.P g.w) k f fd ps (spL g.K g.T) :=
  FnOk.imp o fun vs H Q E q => law_sp h vs H Q E q
end MP

namespace MP
open PySem L2
def excAt (K : PySem.W.Frag) (i : Nat) : Addr := He.ga K (excN.getD i "object")
def excCB (K : PySem.W.Frag) (C : Addr) : Bool :=
  decide (PySem.W.findIn K (.ref C) "__getattribute__" = some (some (.builtin "BaseException.__getattribute__"))) && (decide (PySem.W.findIn K (.ref C) "__getattr__" = some none) && (decide (PySem.W.subIn K (.ref C) (.type "BaseException") = some true) &&
  (PySem.W.hasDictIn K C && (decide (PySem.W.findIn K (.ref C) "__class__" = some (some (.builtin "object.__class__"))) && (decide (PySem.W.specialIn K (.builtin "object.__class__") "__get__" = some (some (.builtin "getset_descriptor.__get__"))) &&
  (decide (PySem.W.takesIn K (.builtin "object.__class__") = some true) && decide (PySem.W.mroIn K C (.type "object") = some true)))))))
theorem excCB_ok {K : PySem.W.Frag} {C : Addr} (h : excCB K C = true) : ExcC K C := by
  unfold excCB at h
  simp only [Bool.and_eq_true, decide_eq_true_eq] at h
  obtain ⟨h1, h2, h3, h4, h5, h6, h7, h8⟩ := h
  exact ⟨h1, h2, h3, h4, h5, h6, h7, h8⟩
/-- all that the told def asks of the classes; W: the number of WantError -/
def exB (W : Nat) (K : PySem.W.Frag) : Bool := exKs.all fun c => excCB K (excAt K c) && ((exAll.all fun j => decide (PySem.W.kitOne K (.ref (excAt K c)) (.ref (excAt K j)) = some (decide (c = j)))) &&
  (decide (PySem.W.kitOne K (.ref (excAt K c)) (.type "ValueError") = some true) && decide (PySem.W.exmOne K (.ref (excAt K c)) (.ref (excAt K W)) = some true)))
theorem exB_ok {W : Nat} {K : PySem.W.Frag} (h : exB W K = true) {c : Nat} (hc : c ∈ exKs) : ExcC K (excAt K c) ∧ (∀ j ∈ exAll, PySem.W.kitOne K (.ref (excAt K c)) (.ref (excAt K j)) = some (decide (c = j))) ∧
    PySem.W.kitOne K (.ref (excAt K c)) (.type "ValueError") = some true ∧ PySem.W.exmOne K (.ref (excAt K c)) (.ref (excAt K W)) = some true := by
  have q := List.all_eq_true.mp h c hc
  simp only [Bool.and_eq_true, decide_eq_true_eq, List.all_eq_true] at q
  exact ⟨excCB_ok q.1, q.2.1, q.2.2.1, q.2.2.2⟩
/-- .. and the tables of the lambdas are apart -/
def exN (W : Nat) (tfs : List He.Defn) (K : PySem.W.Frag) : Bool := exB W K && decide ((tfs.map fun p => (He.cT K p).2).Nodup)
theorem exN_ok {W : Nat} {tfs : List He.Defn} {K : PySem.W.Frag} (h : exN W tfs K = true) : exB W K = true := (Bool.and_eq_true _ _ |>.mp h).1
theorem exN_nodup {W : Nat} {tfs : List He.Defn} {K : PySem.W.Frag} (h : exN W tfs K = true) : (tfs.map fun p => (He.cT K p).2).Nodup := of_decide_eq_true (Bool.and_eq_true _ _ |>.mp h).2
theorem nodup_map_inj {α β : Type} {f : α → β} : ∀ {l : List α} {a b : α}, (l.map f).Nodup → a ∈ l → b ∈ l → f a = f b → a = b
  | x :: l, a, b, h, ha, hb, e => by
    rw [List.map_cons, List.nodup_cons] at h
    rcases List.mem_cons.mp ha with ea | ha <;> rcases List.mem_cons.mp hb with eb | hb
    · rw [ea, eb]
    · exact absurd (List.mem_map.mpr ⟨b, hb, by rw [← e, ea]⟩) h.1
    · exact absurd (List.mem_map.mpr ⟨a, ha, by rw [e, eb]⟩) h.1
    · exact nodup_map_inj h.2 ha hb e
/-- a law's promise where tables of lambdas are tracked -/
theorem tabs_of {T : List (Addr × Str)} {cs : List (Addr × Addr)} {H : Hp} (h : ∀ p ∈ cs, H p.2 = some (.tbl #[])) (e : ∀ q ∈ T, ∃ p ∈ cs, p.2 = q.1) : LamX.Tabs T H := fun q hq => by
  obtain ⟨p, hp, e⟩ := e q hq
  exact LamX.TabS.nil (by rw [← e]; exact h p hp)
end MP

namespace MP
open PySem L2
def top (i : Nat) : Stmt := PySem.Challenge.pw_namewants_k43_houses_refused.main.body.getD i (.Pass ⟨0, 0, 0, 0⟩)
def inCls : Stmt → List Stmt
  | .ClassDef _ _ _ b _ _ _ _ _ _ _ => b
  | _ => []
def mth (i j : Nat) : Stmt := (inCls (top i)).getD j (.Pass ⟨0, 0, 0, 0⟩)
abbrev st_is_number : Stmt := top 16
abbrev st_need_number : Stmt := top 17
abbrev st_Table___len__ : Stmt := mth 28 1
abbrev st_Keeps___len__ : Stmt := mth 26 1
abbrev st_is_part : Stmt := top 18
abbrev st_is_beginning : Stmt := top 19
abbrev st_is_name : Stmt := top 20
abbrev st_need_name : Stmt := top 21
abbrev st_is_side : Stmt := top 22
abbrev st_need_sides : Stmt := top 23
abbrev st_Keeps___init__ : Stmt := mth 26 0
abbrev st_Keeps_rows : Stmt := mth 26 8
abbrev st_Table___init__ : Stmt := mth 28 0
abbrev st_Table_rows : Stmt := mth 28 9
abbrev st_is_letter : Stmt := top 31
abbrev st_House___init__ : Stmt := mth 33 0
abbrev st_House_ask : Stmt := mth 33 8
abbrev st_House_come : Stmt := mth 33 9
abbrev st_House_tick : Stmt := mth 33 10
abbrev st_House_own : Stmt := mth 33 11
abbrev st_House_disown : Stmt := mth 33 12
abbrev st_House_end : Stmt := mth 33 15
abbrev st_House_waits : Stmt := mth 33 16
abbrev st_House_keeps : Stmt := mth 33 17
abbrev st_House_owns : Stmt := mth 33 18
abbrev st_House_table : Stmt := mth 33 19
abbrev st__law_cell : Stmt := top 35
abbrev st__law_drawn : Stmt := top 36
abbrev st__law_roll : Stmt := top 37
abbrev st__law_rounds : Stmt := top 38
abbrev st__law_word : Stmt := top 39
abbrev st__law_told : Stmt := top 40
abbrev st__law_number_doors : Stmt := top 41
abbrev st__law_letters_none : Stmt := top 42
abbrev st_law : Stmt := top 43
structure Tx (g : G) : Prop where
  fn : g.fname = FN
  b_isinstance : g.mg "isinstance" = none
  b_int : g.mg "int" = none
  b_bool : g.mg "bool" = none
  x_BadNumber : Xc g "BadNumber" 2
  b_len : g.mg "len" = none
  k_Table : Cls g.K (g.cls 3)
  n_Table_lines : NoAttr g.K (g.cls 3) "lines"
  k_Keeps : Cls g.K (g.cls 1)
  n_Keeps_lines : NoAttr g.K (g.cls 1) "lines"
  b_str : g.mg "str" = none
  b_all : g.mg "all" = none
  c_SIGNS : ∃ t, g.mg "SIGNS" = some (.str "abcdefghijklmnopqrstuvwxyz0123456789" t)
  b_tuple : g.mg "tuple" = none
  c_MOST_PARTS : ∃ t, g.mg "MOST_PARTS" = some (.int 5 t)
  x_BadName : Xc g "BadName" 1
  c_HOUSES : ∃ t, g.mg "HOUSES" = some (.int 8 t)
  b_list : g.mg "list" = none
  b_set : g.mg "set" = none
  x_BadSides : Xc g "BadSides" 3
  n_Keeps_room : NoAttr g.K (g.cls 1) "room"
  b_sorted : g.mg "sorted" = none
  c_MOST_VALUE : ∃ t, g.mg "MOST_VALUE" = some (.int 999 t)
  k_House : Cls g.K (g.cls 0)
  n_House_me : NoAttr g.K (g.cls 0) "me"
  n_House_near : NoAttr g.K (g.cls 0) "near"
  n_House_shelf : NoAttr g.K (g.cls 0) "shelf"
  n_House_most : NoAttr g.K (g.cls 0) "most"
  n_House_roads : NoAttr g.K (g.cls 0) "roads"
  n_House_things : NoAttr g.K (g.cls 0) "things"
  n_House_pending : NoAttr g.K (g.cls 0) "pending"
  n_House_fresh : NoAttr g.K (g.cls 0) "fresh"
  n_House_ends : NoAttr g.K (g.cls 0) "ends"
  x_NoWay : Xc g "NoWay" 8
  x_BadLetter : Xc g "BadLetter" 0
  c_MOST_LIFE : ∃ t, g.mg "MOST_LIFE" = some (.int 99 t)
  k_Wait : Cls g.K (g.cls 4)
  n_Wait_since : NoAttr g.K (g.cls 4) "since"
  n_Wait_who : NoAttr g.K (g.cls 4) "who"
  n_Wait_asked : NoAttr g.K (g.cls 4) "asked"
  n_Wait_noes : NoAttr g.K (g.cls 4) "noes"
  b_range : g.mg "range" = none
  b_max : g.mg "max" = none
  b_min : g.mg "min" = none
  gx_BadName : g.mg "BadName" = some (.ref (g.ecls 1))
  gx_BadSides : g.mg "BadSides" = some (.ref (g.ecls 3))
  gx_BadNumber : g.mg "BadNumber" = some (.ref (g.ecls 2))
  gx_BadLetter : g.mg "BadLetter" = some (.ref (g.ecls 0))
  gx_NoHouse : g.mg "NoHouse" = some (.ref (g.ecls 6))
  gx_NoWay : g.mg "NoWay" = some (.ref (g.ecls 8))
  gx_NoLetter : g.mg "NoLetter" = some (.ref (g.ecls 7))
  gx_Gone : g.mg "Gone" = some (.ref (g.ecls 5))
  gx_BadStory : g.mg "BadStory" = some (.ref (g.ecls 4))
  b_sum : g.mg "sum" = none
  b_ValueError : g.mg "ValueError" = none
  gx_WantError : g.mg "WantError" = some (.ref (g.ecls 9))
  d_is_number : ∃ f fd, FunD g.K "is_number" "is_number" (defArgs st_is_number) (defBody st_is_number) (defScope st_is_number) [.non] [] f fd ∧ g.mg "is_number" = some (.ref f)
  d_need_number : ∃ f fd, FunD g.K "need_number" "need_number" (defArgs st_need_number) (defBody st_need_number) (defScope st_need_number) [.non] [] f fd ∧ g.mg "need_number" = some (.ref f)
  d_Table___len__ : ∃ f fd, FunD g.K "__len__" "Table.__len__" (defArgs st_Table___len__) (defBody st_Table___len__) (defScope st_Table___len__) [] [] f fd ∧ Cls g.K (g.cls 3) ∧ Meth g.K (g.cls 3) "__len__" f
  d_Keeps___len__ : ∃ f fd, FunD g.K "__len__" "Keeps.__len__" (defArgs st_Keeps___len__) (defBody st_Keeps___len__) (defScope st_Keeps___len__) [] [] f fd ∧ Cls g.K (g.cls 1) ∧ Meth g.K (g.cls 1) "__len__" f
  d_is_part : ∃ f fd, FunD g.K "is_part" "is_part" (defArgs st_is_part) (defBody st_is_part) (defScope st_is_part) [] [] f fd ∧ g.mg "is_part" = some (.ref f)
  d_is_beginning : ∃ f fd, FunD g.K "is_beginning" "is_beginning" (defArgs st_is_beginning) (defBody st_is_beginning) (defScope st_is_beginning) [] [] f fd ∧ g.mg "is_beginning" = some (.ref f)
  d_is_name : ∃ f fd, FunD g.K "is_name" "is_name" (defArgs st_is_name) (defBody st_is_name) (defScope st_is_name) [] [] f fd ∧ g.mg "is_name" = some (.ref f)
  d_need_name : ∃ f fd, FunD g.K "need_name" "need_name" (defArgs st_need_name) (defBody st_need_name) (defScope st_need_name) [] [] f fd ∧ g.mg "need_name" = some (.ref f)
  d_is_side : ∃ f fd, FunD g.K "is_side" "is_side" (defArgs st_is_side) (defBody st_is_side) (defScope st_is_side) [] [] f fd ∧ g.mg "is_side" = some (.ref f)
  d_need_sides : ∃ f fd, FunD g.K "need_sides" "need_sides" (defArgs st_need_sides) (defBody st_need_sides) (defScope st_need_sides) [] [] f fd ∧ g.mg "need_sides" = some (.ref f)
  d_Keeps___init__ : ∃ f fd, FunD g.K "__init__" "Keeps.__init__" (defArgs st_Keeps___init__) (defBody st_Keeps___init__) (defScope st_Keeps___init__) [] [] f fd ∧ g.mg "Keeps" = some (.ref (g.cls 1)) ∧ Mk g.K (g.cls 1) f
  d_Keeps_rows : ∃ f fd, FunD g.K "rows" "Keeps.rows" (defArgs st_Keeps_rows) (defBody st_Keeps_rows) (defScope st_Keeps_rows) [] [] f fd ∧ Cls g.K (g.cls 1) ∧ Meth g.K (g.cls 1) "rows" f
  d_Table___init__ : ∃ f fd, FunD g.K "__init__" "Table.__init__" (defArgs st_Table___init__) (defBody st_Table___init__) (defScope st_Table___init__) [] [] f fd ∧ g.mg "Table" = some (.ref (g.cls 3)) ∧ Mk g.K (g.cls 3) f
  d_Table_rows : ∃ f fd, FunD g.K "rows" "Table.rows" (defArgs st_Table_rows) (defBody st_Table_rows) (defScope st_Table_rows) [] [] f fd ∧ Cls g.K (g.cls 3) ∧ Meth g.K (g.cls 3) "rows" f
  d_is_letter : ∃ f fd, FunD g.K "is_letter" "is_letter" (defArgs st_is_letter) (defBody st_is_letter) (defScope st_is_letter) [] [] f fd ∧ g.mg "is_letter" = some (.ref f)
  d_House___init__ : ∃ f fd, FunD g.K "__init__" "House.__init__" (defArgs st_House___init__) (defBody st_House___init__) (defScope st_House___init__) [] [("room", .int 4), ("wait", .int 6)] f fd ∧ g.mg "House" = some (.ref (g.cls 0)) ∧ Mk g.K (g.cls 0) f
  d_House_ask : ∃ f fd, FunD g.K "ask" "House.ask" (defArgs st_House_ask) (defBody st_House_ask) (defScope st_House_ask) [] [] f fd ∧ Cls g.K (g.cls 0) ∧ Meth g.K (g.cls 0) "ask" f
  d_House_come : ∃ f fd, FunD g.K "come" "House.come" (defArgs st_House_come) (defBody st_House_come) (defScope st_House_come) [] [] f fd ∧ Cls g.K (g.cls 0) ∧ Meth g.K (g.cls 0) "come" f
  d_House_tick : ∃ f fd, FunD g.K "tick" "House.tick" (defArgs st_House_tick) (defBody st_House_tick) (defScope st_House_tick) [] [] f fd ∧ Cls g.K (g.cls 0) ∧ Meth g.K (g.cls 0) "tick" f
  d_House_own : ∃ f fd, FunD g.K "own" "House.own" (defArgs st_House_own) (defBody st_House_own) (defScope st_House_own) [] [] f fd ∧ Cls g.K (g.cls 0) ∧ Meth g.K (g.cls 0) "own" f
  d_House_disown : ∃ f fd, FunD g.K "disown" "House.disown" (defArgs st_House_disown) (defBody st_House_disown) (defScope st_House_disown) [] [] f fd ∧ Cls g.K (g.cls 0) ∧ Meth g.K (g.cls 0) "disown" f
  d_House_end : ∃ f fd, FunD g.K "end" "House.end" (defArgs st_House_end) (defBody st_House_end) (defScope st_House_end) [] [] f fd ∧ Cls g.K (g.cls 0) ∧ Meth g.K (g.cls 0) "end" f
  d_House_waits : ∃ f fd, FunD g.K "waits" "House.waits" (defArgs st_House_waits) (defBody st_House_waits) (defScope st_House_waits) [] [] f fd ∧ Cls g.K (g.cls 0) ∧ Meth g.K (g.cls 0) "waits" f
  d_House_keeps : ∃ f fd, FunD g.K "keeps" "House.keeps" (defArgs st_House_keeps) (defBody st_House_keeps) (defScope st_House_keeps) [] [] f fd ∧ Cls g.K (g.cls 0) ∧ Meth g.K (g.cls 0) "keeps" f
  d_House_owns : ∃ f fd, FunD g.K "owns" "House.owns" (defArgs st_House_owns) (defBody st_House_owns) (defScope st_House_owns) [] [] f fd ∧ Cls g.K (g.cls 0) ∧ Meth g.K (g.cls 0) "owns" f
  d_House_table : ∃ f fd, FunD g.K "table" "House.table" (defArgs st_House_table) (defBody st_House_table) (defScope st_House_table) [] [] f fd ∧ Cls g.K (g.cls 0) ∧ Meth g.K (g.cls 0) "table" f
  d__law_cell : ∃ f fd, FunD g.K "_law_cell" "_law_cell" (defArgs st__law_cell) (defBody st__law_cell) (defScope st__law_cell) [] [] f fd ∧ g.mg "_law_cell" = some (.ref f)
  d__law_drawn : ∃ f fd, FunD g.K "_law_drawn" "_law_drawn" (defArgs st__law_drawn) (defBody st__law_drawn) (defScope st__law_drawn) [] [] f fd ∧ g.mg "_law_drawn" = some (.ref f)
  d__law_roll : ∃ f fd, FunD g.K "_law_roll" "_law_roll" (defArgs st__law_roll) (defBody st__law_roll) (defScope st__law_roll) [] [] f fd ∧ g.mg "_law_roll" = some (.ref f)
  d__law_rounds : ∃ f fd, FunD g.K "_law_rounds" "_law_rounds" (defArgs st__law_rounds) (defBody st__law_rounds) (defScope st__law_rounds) [] [] f fd ∧ g.mg "_law_rounds" = some (.ref f)
  d__law_word : ∃ f fd, FunD g.K "_law_word" "_law_word" (defArgs st__law_word) (defBody st__law_word) (defScope st__law_word) [] [] f fd ∧ g.mg "_law_word" = some (.ref f)
  d__law_told : ∃ f fd, FunD g.K "_law_told" "_law_told" (defArgs st__law_told) (defBody st__law_told) (defScope st__law_told) [] [] f fd ∧ g.mg "_law_told" = some (.ref f)
  d__law_number_doors : ∃ f fd, FunD g.K "_law_number_doors" "_law_number_doors" (defArgs st__law_number_doors) (defBody st__law_number_doors) (defScope st__law_number_doors) [] [] f fd ∧ g.mg "_law_number_doors" = some (.ref f) ∧ ∀ (oc : Value) (od : Option Addr) (osl : Array (Option Value)) (c : Addr), g.K.lookup f = some ⟨oc, od, .func fd, osl⟩ → fd.code = .ref c → ∃ P : Addr, LamX.TabB g.base g.mg c P ∧ (P, lamQ "_law_number_doors") ∈ g.T ∧ ∀ p ∈ g.T, p.1 = P → p.2 = lamQ "_law_number_doors"
  d__law_letters_none : ∃ f fd, FunD g.K "_law_letters_none" "_law_letters_none" (defArgs st__law_letters_none) (defBody st__law_letters_none) (defScope st__law_letters_none) [] [] f fd ∧ g.mg "_law_letters_none" = some (.ref f)
  d_law : ∃ f fd, FunD g.K "law" "law" (defArgs st_law) (defBody st_law) (defScope st_law) [] [] f fd ∧ g.mg "law" = some (.ref f) ∧ ∀ (oc : Value) (od : Option Addr) (osl : Array (Option Value)) (c : Addr), g.K.lookup f = some ⟨oc, od, .func fd, osl⟩ → fd.code = .ref c → ∃ P : Addr, LamX.TabB g.base g.mg c P ∧ (P, lamQ "law") ∈ g.T ∧ ∀ p ∈ g.T, p.1 = P → p.2 = lamQ "law"
  w_exc : ∀ c ∈ exKs, ExcC g.K (g.ecls c)
  w_kit : ∀ c ∈ exKs, ∀ j ∈ exAll, PySem.W.kitOne g.K (.ref (g.ecls c)) (.ref (g.ecls j)) = some (decide (c = j))
  w_ve : ∀ c ∈ exKs, PySem.W.kitOne g.K (.ref (g.ecls c)) (.type "ValueError") = some true
  w_exm : ∀ c ∈ exKs, PySem.W.exmOne g.K (.ref (g.ecls c)) (.ref (g.ecls 9)) = some true
theorem Tx.nm {g : G} (t : Tx g) (i : Nat) {x : Str} (h : x = FN i := by rfl) : x = g.fname i := by rw [t.fn]; exact h
section
variable {g : G}
def N_is_number : List Str := ["thing", "low", "high"]
theorem sc_is_number : FnScope N_is_number ["thing", "low", "high"] (defScope st_is_number) := ⟨rfl, rfl, rfl, by decide +kernel, rfl, by decide +kernel, by decide +kernel⟩
theorem fk_is_number (t : Tx g) {f : Addr} {fd : FuncData} (F : FunD g.K "is_number" "is_number" (defArgs st_is_number) (defBody st_is_number) (defScope st_is_number) [.non] [] f fd) : FOk g 1 f fd ["thing", "low", "high"] f_is_number := by
  refine df_bodyD F sc_is_number fun X E ⟨cdv, A, outer, s, H, hr, hX⟩ => ?_
  have cx : Ctx g E X := by rw [hX]; exact ctx_of hr
  subst hX
  exact (ss_cons (ss_if (st_bool (sw_or (st_not (st_val (se_isi cx (by decide) (se_var 0) (Ctx.free cx t.b_isinstance) (Ctx.free cx t.b_int) (by first | rfl | decide +kernel)))) (sw_or (st_val (se_isi cx (by decide) (se_var 0) (Ctx.free cx t.b_isinstance) (Ctx.free cx t.b_bool) (by first | rfl | decide +kernel))) (sw_one (st_cmp o_lt (se_var 0) (se_var 1) rfl))))) (ss_one (ss_ret se_bl)) ss_nil)
    (ss_one (ss_ret (se_or (se_isN (se_var 2)) (se_one (se_cmp o_le (se_var 0) (se_var 2) rfl))))))
theorem ok_is_number (t : Tx g) : Df g 1 "is_number" f_is_number := by
  obtain ⟨f, fd, F, hm⟩ := t.d_is_number
  exact ⟨f, fd, _, fk_is_number t F, hm, F.kp, binds_full F 3 (by decide) rfl fun _ _ _ _ _ _ _ us its h1 h2 => match us, its, h1, h2 with | [_, _, _], [_], _, _ => ⟨_, rfl, rfl⟩⟩
theorem ok_is_number_d2 (t : Tx g) : DfD g 1 "is_number" f_is_number [.non] := by
  obtain ⟨f, fd, F, hm⟩ := t.d_is_number
  obtain ⟨ds, h1, h2⟩ := F.binds1 2 0 (ps := ["thing", "low", "high"]) (by decide) rfl fun _ _ _ _ _ _ _ us its h1 h2 => match us, its, h1, h2 with | [_, _], [_], _, _ => ⟨_, rfl, rfl⟩
  exact ⟨f, fd, _, ds, _, fk_is_number t F, hm, F.kp, h2, h1, fun ro H => by simp [RelDs, RelD]⟩
def N_need_number : List Str := ["thing", "low", "high"]
theorem sc_need_number : FnScope N_need_number ["thing", "low", "high"] (defScope st_need_number) := ⟨rfl, rfl, rfl, by decide +kernel, rfl, by decide +kernel, by decide +kernel⟩
theorem fk_need_number (t : Tx g) {f : Addr} {fd : FuncData} (F : FunD g.K "need_number" "need_number" (defArgs st_need_number) (defBody st_need_number) (defScope st_need_number) [.non] [] f fd) : FOk g 2 f fd ["thing", "low", "high"] f_need_number := by
  refine df_bodyD F sc_need_number fun X E ⟨cdv, A, outer, s, H, hr, hX⟩ => ?_
  have cx : Ctx g E X := by rw [hX]; exact ctx_of hr
  subst hX
  exact (ss_one (ss_if (st_not (st_val (se_call cx (ok_is_number t) (hr.mono (by decide)) rfl (sa_cons (se_var 0) (sa_cons (se_var 1) (sa_cons (se_var 2) sa_nil)))))) (ss_one (ss_raise cx t.x_BadNumber rfl rfl)) ss_nil))
theorem ok_need_number (t : Tx g) : Df g 2 "need_number" f_need_number := by
  obtain ⟨f, fd, F, hm⟩ := t.d_need_number
  exact ⟨f, fd, _, fk_need_number t F, hm, F.kp, binds_full F 3 (by decide) rfl fun _ _ _ _ _ _ _ us its h1 h2 => match us, its, h1, h2 with | [_, _, _], [_], _, _ => ⟨_, rfl, rfl⟩⟩
theorem ok_need_number_d2 (t : Tx g) : DfD g 2 "need_number" f_need_number [.non] := by
  obtain ⟨f, fd, F, hm⟩ := t.d_need_number
  obtain ⟨ds, h1, h2⟩ := F.binds1 2 0 (ps := ["thing", "low", "high"]) (by decide) rfl fun _ _ _ _ _ _ _ us its h1 h2 => match us, its, h1, h2 with | [_, _], [_], _, _ => ⟨_, rfl, rfl⟩
  exact ⟨f, fd, _, ds, _, fk_need_number t F, hm, F.kp, h2, h1, fun ro H => by simp [RelDs, RelD]⟩
def N_Table___len__ : List Str := ["self"]
theorem sc_Table___len__ : FnScope N_Table___len__ ["self"] (defScope st_Table___len__) := ⟨rfl, rfl, rfl, by decide +kernel, rfl, by decide +kernel, by decide +kernel⟩
theorem fk_Table___len__ (t : Tx g) {f : Addr} {fd : FuncData} (F : FunD g.K "__len__" "Table.__len__" (defArgs st_Table___len__) (defBody st_Table___len__) (defScope st_Table___len__) [] [] f fd) : FOk g 1 f fd ["self"] f_Table___len__ := by
  refine df_bodyD F sc_Table___len__ fun X E ⟨cdv, A, outer, s, H, hr, hX⟩ => ?_
  have cx : Ctx g E X := by rw [hX]; exact ctx_of hr
  subst hX
  exact (ss_one (ss_ret (se_callB (c_lenD cx) rfl (Ctx.free cx t.b_len) boot_len (sa_cons (se_fld cx (t.nm 38) t.k_Table t.n_Table_lines (se_var 0)) sa_nil))))
theorem ok_Table___len__ (t : Tx g) : Me g 1 3 "__len__" f_Table___len__ := by
  obtain ⟨f, fd, F, hk, hm⟩ := t.d_Table___len__
  exact ⟨f, fd, _, fk_Table___len__ t F, hk, hm, F.bindsN fun _ _ _ _ _ _ us hl => match us, hl with | [_], _ => rfl⟩
def N_Keeps___len__ : List Str := ["self"]
theorem sc_Keeps___len__ : FnScope N_Keeps___len__ ["self"] (defScope st_Keeps___len__) := ⟨rfl, rfl, rfl, by decide +kernel, rfl, by decide +kernel, by decide +kernel⟩
theorem fk_Keeps___len__ (t : Tx g) {f : Addr} {fd : FuncData} (F : FunD g.K "__len__" "Keeps.__len__" (defArgs st_Keeps___len__) (defBody st_Keeps___len__) (defScope st_Keeps___len__) [] [] f fd) : FOk g 1 f fd ["self"] f_Keeps___len__ := by
  refine df_bodyD F sc_Keeps___len__ fun X E ⟨cdv, A, outer, s, H, hr, hX⟩ => ?_
  have cx : Ctx g E X := by rw [hX]; exact ctx_of hr
  subst hX
  exact (ss_one (ss_ret (se_callB (c_len cx) rfl (Ctx.free cx t.b_len) (by first | rfl | decide +kernel) (sa_cons (se_fld cx (t.nm 38) t.k_Keeps t.n_Keeps_lines (se_var 0)) sa_nil))))
theorem ok_Keeps___len__ (t : Tx g) : Me g 1 1 "__len__" f_Keeps___len__ := by
  obtain ⟨f, fd, F, hk, hm⟩ := t.d_Keeps___len__
  exact ⟨f, fd, _, fk_Keeps___len__ t F, hk, hm, F.bindsN fun _ _ _ _ _ _ us hl => match us, hl with | [_], _ => rfl⟩
def N_is_part : List Str := ["thing", "sign"]
theorem sc_is_part : FnScope N_is_part ["thing"] (defScope st_is_part) := ⟨rfl, rfl, rfl, by decide +kernel, rfl, by decide +kernel, by decide +kernel⟩
theorem fk_is_part (t : Tx g) {f : Addr} {fd : FuncData} (F : FunD g.K "is_part" "is_part" (defArgs st_is_part) (defBody st_is_part) (defScope st_is_part) [] [] f fd) : FOk g 1 f fd ["thing"] f_is_part := by
  refine df_bodyD F sc_is_part fun X E ⟨cdv, A, outer, s, H, hr, hX⟩ => ?_
  have cx : Ctx g E X := by rw [hX]; exact ctx_of hr
  subst hX
  exact (ss_one (ss_ret (se_and (se_isi cx (by decide) (se_var 0) (Ctx.free cx t.b_isinstance) (Ctx.free cx t.b_str) (by first | rfl | decide +kernel)) (se_and (se_chain o_le o_le se_int (se_callB (c_len cx) rfl (Ctx.free cx t.b_len) (by first | rfl | decide +kernel) (sa_cons (se_var 0) sa_nil)) se_int) (se_one (se_callB (c_all rfl) rfl (Ctx.free cx t.b_all) (by first | rfl | decide +kernel) (sa_cons (se_lc rfl sc_is_part.nd (si_str cx (se_var 0)) (own := [("sign", 1)]) (blkOk_by (N := N_is_part) (sc := defScope st_is_part) (by decide +kernel)) (fun s H C cl fp => (sgw_name 1 (by decide) sc_is_part.nd)) (fun s H C cl fp => sts_nil) (fun s H C cl fp => (se_cmp o_inS (se_var 1) (se_globS rfl (Ctx.gs (ctx_blk cx) t.c_SIGNS)) rfl))) sa_nil)))))))
theorem ok_is_part (t : Tx g) : Df g 1 "is_part" f_is_part := by
  obtain ⟨f, fd, F, hm⟩ := t.d_is_part
  exact ⟨f, fd, _, fk_is_part t F, hm, F.kp, F.bindsN fun _ _ _ _ _ _ us hl => match us, hl with | [_], _ => rfl⟩
def N_is_beginning : List Str := ["thing", "one"]
theorem sc_is_beginning : FnScope N_is_beginning ["thing"] (defScope st_is_beginning) := ⟨rfl, rfl, rfl, by decide +kernel, rfl, by decide +kernel, by decide +kernel⟩
theorem fk_is_beginning (t : Tx g) {f : Addr} {fd : FuncData} (F : FunD g.K "is_beginning" "is_beginning" (defArgs st_is_beginning) (defBody st_is_beginning) (defScope st_is_beginning) [] [] f fd) : FOk g 2 f fd ["thing"] f_is_beginning := by
  refine df_bodyD F sc_is_beginning fun X E ⟨cdv, A, outer, s, H, hr, hX⟩ => ?_
  have cx : Ctx g E X := by rw [hX]; exact ctx_of hr
  subst hX
  exact (ss_one (ss_ret (se_and (se_isi cx (by decide) (se_var 0) (Ctx.free cx t.b_isinstance) (Ctx.free cx t.b_tuple) (by first | rfl | decide +kernel)) (se_and (se_cmp o_le (se_callB (c_len cx) rfl (Ctx.free cx t.b_len) (by first | rfl | decide +kernel) (sa_cons (se_var 0) sa_nil)) (se_globI rfl (Ctx.gi cx t.c_MOST_PARTS)) rfl) (se_one (se_callB (c_all rfl) rfl (Ctx.free cx t.b_all) (by first | rfl | decide +kernel) (sa_cons (se_lc rfl sc_is_beginning.nd (si_tup cx.K (se_var 0)) (own := [("one", 1)]) (blkOk_by (N := N_is_beginning) (sc := defScope st_is_beginning) (by decide +kernel)) (fun s H C cl fp => (sgw_name 1 (by decide) sc_is_beginning.nd)) (fun s H C cl fp => sts_nil) (fun s H C cl fp => (se_call (ctx_blk cx) (ok_is_part t) (hr.mono (by decide)) rfl (sa_cons (se_var 1) sa_nil)))) sa_nil)))))))
theorem ok_is_beginning (t : Tx g) : Df g 2 "is_beginning" f_is_beginning := by
  obtain ⟨f, fd, F, hm⟩ := t.d_is_beginning
  exact ⟨f, fd, _, fk_is_beginning t F, hm, F.kp, F.bindsN fun _ _ _ _ _ _ us hl => match us, hl with | [_], _ => rfl⟩
def N_is_name : List Str := ["thing"]
theorem sc_is_name : FnScope N_is_name ["thing"] (defScope st_is_name) := ⟨rfl, rfl, rfl, by decide +kernel, rfl, by decide +kernel, by decide +kernel⟩
theorem fk_is_name (t : Tx g) {f : Addr} {fd : FuncData} (F : FunD g.K "is_name" "is_name" (defArgs st_is_name) (defBody st_is_name) (defScope st_is_name) [] [] f fd) : FOk g 3 f fd ["thing"] f_is_name := by
  refine df_bodyD F sc_is_name fun X E ⟨cdv, A, outer, s, H, hr, hX⟩ => ?_
  have cx : Ctx g E X := by rw [hX]; exact ctx_of hr
  subst hX
  exact (ss_one (ss_ret (se_and (se_call cx (ok_is_beginning t) (hr.mono (by decide)) rfl (sa_cons (se_var 0) sa_nil)) (se_one (se_cmp (o_ne cx) (se_var 0) (se_tup sa_nil) rfl)))))
theorem ok_is_name (t : Tx g) : Df g 3 "is_name" f_is_name := by
  obtain ⟨f, fd, F, hm⟩ := t.d_is_name
  exact ⟨f, fd, _, fk_is_name t F, hm, F.kp, F.bindsN fun _ _ _ _ _ _ us hl => match us, hl with | [_], _ => rfl⟩
def N_need_name : List Str := ["thing"]
theorem sc_need_name : FnScope N_need_name ["thing"] (defScope st_need_name) := ⟨rfl, rfl, rfl, by decide +kernel, rfl, by decide +kernel, by decide +kernel⟩
theorem fk_need_name (t : Tx g) {f : Addr} {fd : FuncData} (F : FunD g.K "need_name" "need_name" (defArgs st_need_name) (defBody st_need_name) (defScope st_need_name) [] [] f fd) : FOk g 4 f fd ["thing"] f_need_name := by
  refine df_bodyD F sc_need_name fun X E ⟨cdv, A, outer, s, H, hr, hX⟩ => ?_
  have cx : Ctx g E X := by rw [hX]; exact ctx_of hr
  subst hX
  exact (ss_one (ss_if (st_not (st_val (se_call cx (ok_is_name t) (hr.mono (by decide)) rfl (sa_cons (se_var 0) sa_nil)))) (ss_one (ss_raise cx t.x_BadName rfl rfl)) ss_nil))
theorem ok_need_name (t : Tx g) : Df g 4 "need_name" f_need_name := by
  obtain ⟨f, fd, F, hm⟩ := t.d_need_name
  exact ⟨f, fd, _, fk_need_name t F, hm, F.kp, F.bindsN fun _ _ _ _ _ _ us hl => match us, hl with | [_], _ => rfl⟩
def N_is_side : List Str := ["thing"]
theorem sc_is_side : FnScope N_is_side ["thing"] (defScope st_is_side) := ⟨rfl, rfl, rfl, by decide +kernel, rfl, by decide +kernel, by decide +kernel⟩
theorem fk_is_side (t : Tx g) {f : Addr} {fd : FuncData} (F : FunD g.K "is_side" "is_side" (defArgs st_is_side) (defBody st_is_side) (defScope st_is_side) [] [] f fd) : FOk g 2 f fd ["thing"] f_is_side := by
  refine df_bodyD F sc_is_side fun X E ⟨cdv, A, outer, s, H, hr, hX⟩ => ?_
  have cx : Ctx g E X := by rw [hX]; exact ctx_of hr
  subst hX
  exact (ss_one (ss_ret (se_call cx (ok_is_number t) (hr.mono (by decide)) rfl (sa_cons (se_var 0) (sa_cons se_int (sa_cons (se_bin o_sub (se_globI rfl (Ctx.gi cx t.c_HOUSES)) se_int) sa_nil))))))
theorem ok_is_side (t : Tx g) : Df g 2 "is_side" f_is_side := by
  obtain ⟨f, fd, F, hm⟩ := t.d_is_side
  exact ⟨f, fd, _, fk_is_side t F, hm, F.kp, F.bindsN fun _ _ _ _ _ _ us hl => match us, hl with | [_], _ => rfl⟩
def N_need_sides : List Str := ["thing", "one"]
theorem sc_need_sides : FnScope N_need_sides ["thing"] (defScope st_need_sides) := ⟨rfl, rfl, rfl, by decide +kernel, rfl, by decide +kernel, by decide +kernel⟩
theorem fk_need_sides (t : Tx g) {f : Addr} {fd : FuncData} (F : FunD g.K "need_sides" "need_sides" (defArgs st_need_sides) (defBody st_need_sides) (defScope st_need_sides) [] [] f fd) : FOk g 3 f fd ["thing"] f_need_sides := by
  refine df_bodyD F sc_need_sides fun X E ⟨cdv, A, outer, s, H, hr, hX⟩ => ?_
  have cx : Ctx g E X := by rw [hX]; exact ctx_of hr
  subst hX
  exact (ss_one (ss_if (st_bool (sw_or (st_not (st_val (se_isi cx (by decide) (se_var 0) (Ctx.free cx t.b_isinstance) (Ctx.free cx t.b_list) (by first | rfl | decide +kernel)))) (sw_or (st_not (st_val (se_callB (c_all rfl) rfl (Ctx.free cx t.b_all) (by first | rfl | decide +kernel) (sa_cons (se_lc rfl sc_need_sides.nd (si_lst cx.K (se_var 0)) (own := [("one", 1)]) (blkOk_by (N := N_need_sides) (sc := defScope st_need_sides) (by decide +kernel)) (fun s H C cl fp => (sgw_name 1 (by decide) sc_need_sides.nd)) (fun s H C cl fp => sts_nil) (fun s H C cl fp => (se_call (ctx_blk cx) (ok_is_side t) (hr.mono (by decide)) rfl (sa_cons (se_var 1) sa_nil)))) sa_nil)))) (sw_one (st_cmp o_lt (se_lenSet rfl cx.K rfl (Ctx.free cx t.b_len) rfl (Ctx.free cx t.b_set) (se_var 0)) (se_callB (c_len cx) rfl (Ctx.free cx t.b_len) (by first | rfl | decide +kernel) (sa_cons (se_var 0) sa_nil)) rfl))))) (ss_one (ss_raise cx t.x_BadSides rfl rfl)) ss_nil))
theorem ok_need_sides (t : Tx g) : Df g 3 "need_sides" f_need_sides := by
  obtain ⟨f, fd, F, hm⟩ := t.d_need_sides
  exact ⟨f, fd, _, fk_need_sides t F, hm, F.kp, F.bindsN fun _ _ _ _ _ _ us hl => match us, hl with | [_], _ => rfl⟩
def N_Keeps___init__ : List Str := ["self", "room"]
theorem sc_Keeps___init__ : FnScope N_Keeps___init__ ["self", "room"] (defScope st_Keeps___init__) := ⟨rfl, rfl, rfl, by decide +kernel, rfl, by decide +kernel, by decide +kernel⟩
theorem fk_Keeps___init__ (t : Tx g) {f : Addr} {fd : FuncData} (F : FunD g.K "__init__" "Keeps.__init__" (defArgs st_Keeps___init__) (defBody st_Keeps___init__) (defScope st_Keeps___init__) [] [] f fd) : FOk g 3 f fd ["self", "room"] f_Keeps___init__ := by
  refine df_bodyD F sc_Keeps___init__ fun X E ⟨cdv, A, outer, s, H, hr, hX⟩ => ?_
  have cx : Ctx g E X := by rw [hX]; exact ctx_of hr
  subst hX
  exact (ss_cons (ss_expr (se_call cx (ok_need_number t) (hr.mono (by decide)) rfl (sa_cons (se_var 1) (sa_cons se_int (sa_cons se_int sa_nil)))))
    (ss_cons (ss_fld cx (t.nm 64) t.k_Keeps t.n_Keeps_room (se_var 0) (se_var 1))
    (ss_one (ss_fld cx (t.nm 38) t.k_Keeps t.n_Keeps_lines (se_var 0) (se_lst sa_nil)))))
theorem ok_Keeps___init__ (t : Tx g) : Mi g 3 "Keeps" 1 f_Keeps___init__ := by
  obtain ⟨f, fd, F, hm, hk⟩ := t.d_Keeps___init__
  exact ⟨f, fd, _, fk_Keeps___init__ t F, hm, hk, F.bindsN fun _ _ _ _ _ _ us hl => match us, hl with | [_, _], _ => rfl⟩
def N_Keeps_rows : List Str := ["self"]
theorem sc_Keeps_rows : FnScope N_Keeps_rows ["self"] (defScope st_Keeps_rows) := ⟨rfl, rfl, rfl, by decide +kernel, rfl, by decide +kernel, by decide +kernel⟩
theorem fk_Keeps_rows (t : Tx g) {f : Addr} {fd : FuncData} (F : FunD g.K "rows" "Keeps.rows" (defArgs st_Keeps_rows) (defBody st_Keeps_rows) (defScope st_Keeps_rows) [] [] f fd) : FOk g 1 f fd ["self"] f_Keeps_rows := by
  refine df_bodyD F sc_Keeps_rows fun X E ⟨cdv, A, outer, s, H, hr, hX⟩ => ?_
  have cx : Ctx g E X := by rw [hX]; exact ctx_of hr
  subst hX
  exact (ss_one (ss_ret (se_callT (c_list) rfl (Ctx.free cx t.b_list) (by first | rfl | decide +kernel) (sa_cons (se_fld cx (t.nm 38) t.k_Keeps t.n_Keeps_lines (se_var 0)) sa_nil))))
theorem ok_Keeps_rows (t : Tx g) : Me g 1 1 "rows" f_Keeps_rows := by
  obtain ⟨f, fd, F, hk, hm⟩ := t.d_Keeps_rows
  exact ⟨f, fd, _, fk_Keeps_rows t F, hk, hm, F.bindsN fun _ _ _ _ _ _ us hl => match us, hl with | [_], _ => rfl⟩
def N_Table___init__ : List Str := ["self"]
theorem sc_Table___init__ : FnScope N_Table___init__ ["self"] (defScope st_Table___init__) := ⟨rfl, rfl, rfl, by decide +kernel, rfl, by decide +kernel, by decide +kernel⟩
theorem fk_Table___init__ (t : Tx g) {f : Addr} {fd : FuncData} (F : FunD g.K "__init__" "Table.__init__" (defArgs st_Table___init__) (defBody st_Table___init__) (defScope st_Table___init__) [] [] f fd) : FOk g 1 f fd ["self"] f_Table___init__ := by
  refine df_bodyD F sc_Table___init__ fun X E ⟨cdv, A, outer, s, H, hr, hX⟩ => ?_
  have cx : Ctx g E X := by rw [hX]; exact ctx_of hr
  subst hX
  exact (ss_one (ss_fld cx (t.nm 38) t.k_Table t.n_Table_lines (se_var 0) se_dicT))
theorem ok_Table___init__ (t : Tx g) : Mi g 1 "Table" 3 f_Table___init__ := by
  obtain ⟨f, fd, F, hm, hk⟩ := t.d_Table___init__
  exact ⟨f, fd, _, fk_Table___init__ t F, hm, hk, F.bindsN fun _ _ _ _ _ _ us hl => match us, hl with | [_], _ => rfl⟩
def N_Table_rows : List Str := ["self", "beginning"]
theorem sc_Table_rows : FnScope N_Table_rows ["self"] (defScope st_Table_rows) := ⟨rfl, rfl, rfl, by decide +kernel, rfl, by decide +kernel, by decide +kernel⟩
theorem fk_Table_rows (t : Tx g) {f : Addr} {fd : FuncData} (F : FunD g.K "rows" "Table.rows" (defArgs st_Table_rows) (defBody st_Table_rows) (defScope st_Table_rows) [] [] f fd) : FOk g 1 f fd ["self"] f_Table_rows := by
  refine df_bodyD F sc_Table_rows fun X E ⟨cdv, A, outer, s, H, hr, hX⟩ => ?_
  have cx : Ctx g E X := by rw [hX]; exact ctx_of hr
  subst hX
  exact (ss_one (ss_ret (se_lc rfl sc_Table_rows.nd (si_lst cx.K (se_callB (c_sorted cx rfl) rfl (Ctx.free cx t.b_sorted) (by first | rfl | decide +kernel) (sa_cons (se_fld cx (t.nm 38) t.k_Table t.n_Table_lines (se_var 0)) sa_nil))) (own := [("beginning", 1)]) (blkOk_by (N := N_Table_rows) (sc := defScope st_Table_rows) (by decide +kernel)) (fun s H C cl fp => (sgw_name 1 (by decide) sc_Table_rows.nd)) (fun s H C cl fp => sts_nil) (fun s H C cl fp => (se_tup (sa_cons (se_var 1) (sa_cons (se_callT (c_list) rfl (Ctx.free (ctx_blk cx) t.b_list) (by first | rfl | decide +kernel) (sa_cons (se_dget (ctx_blk cx) (se_fld (ctx_blk cx) (t.nm 38) t.k_Table t.n_Table_lines (se_var 0)) (se_var 1)) sa_nil)) sa_nil)))))))
theorem ok_Table_rows (t : Tx g) : Me g 1 3 "rows" f_Table_rows := by
  obtain ⟨f, fd, F, hk, hm⟩ := t.d_Table_rows
  exact ⟨f, fd, _, fk_Table_rows t F, hk, hm, F.bindsN fun _ _ _ _ _ _ us hl => match us, hl with | [_], _ => rfl⟩
def N_is_letter : List Str := ["thing"]
theorem sc_is_letter : FnScope N_is_letter ["thing"] (defScope st_is_letter) := ⟨rfl, rfl, rfl, by decide +kernel, rfl, by decide +kernel, by decide +kernel⟩
theorem fk_is_letter (t : Tx g) {f : Addr} {fd : FuncData} (F : FunD g.K "is_letter" "is_letter" (defArgs st_is_letter) (defBody st_is_letter) (defScope st_is_letter) [] [] f fd) : FOk g 4 f fd ["thing"] f_is_letter := by
  refine df_bodyD F sc_is_letter fun X E ⟨cdv, A, outer, s, H, hr, hX⟩ => ?_
  have cx : Ctx g E X := by rw [hX]; exact ctx_of hr
  subst hX
  exact (ss_cons (ss_if (st_bool (sw_or (st_not (st_val (se_isi cx (by decide) (se_var 0) (Ctx.free cx t.b_isinstance) (Ctx.free cx t.b_tuple) (by first | rfl | decide +kernel)))) (sw_or (st_cmp o_lt (se_callB (c_len cx) rfl (Ctx.free cx t.b_len) (by first | rfl | decide +kernel) (sa_cons (se_var 0) sa_nil)) se_int rfl) (sw_or (st_not (st_val (se_isi cx (by decide) (se_ix cx (se_var 0) se_int) (Ctx.free cx t.b_isinstance) (Ctx.free cx t.b_str) (by first | rfl | decide +kernel)))) (sw_one (st_not (st_val (se_call cx (ok_is_name t) (hr.mono (by decide)) rfl (sa_cons (se_ix cx (se_var 0) se_int) sa_nil))))))))) (ss_one (ss_ret se_bl)) ss_nil)
    (ss_cons (ss_if (st_cmp (o_eq cx) (se_ix cx (se_var 0) se_int) (se_str (x := [116, 104, 105, 110, 103])) rfl) (ss_one (ss_ret (se_and (se_cmp (o_eq cx) (se_callB (c_len cx) rfl (Ctx.free cx t.b_len) (by first | rfl | decide +kernel) (sa_cons (se_var 0) sa_nil)) se_int rfl) (se_and (se_call cx (ok_is_number t) (hr.mono (by decide)) rfl (sa_cons (se_ix cx (se_var 0) se_int) (sa_cons se_int (sa_cons (se_globI rfl (Ctx.gi cx t.c_MOST_VALUE)) sa_nil)))) (se_one (se_callD cx (ok_is_number_d2 t) (hr.mono (by decide)) rfl (sa_cons (se_ix cx (se_var 0) se_int) (sa_cons se_int sa_nil)))))))) ss_nil)
    (ss_one (ss_ret (se_and (se_cmp (o_inT cx) (se_ix cx (se_var 0) se_int) (se_tup (sa_cons (se_str (x := [97, 115, 107])) (sa_cons (se_str (x := [110, 111])) sa_nil))) rfl) (se_one (se_cmp (o_eq cx) (se_callB (c_len cx) rfl (Ctx.free cx t.b_len) (by first | rfl | decide +kernel) (sa_cons (se_var 0) sa_nil)) se_int rfl)))))))
theorem ok_is_letter (t : Tx g) : Df g 4 "is_letter" f_is_letter := by
  obtain ⟨f, fd, F, hm⟩ := t.d_is_letter
  exact ⟨f, fd, _, fk_is_letter t F, hm, F.kp, F.bindsN fun _ _ _ _ _ _ us hl => match us, hl with | [_], _ => rfl⟩
def N_House___init__ : List Str := ["self", "number", "sides", "room", "wait", "kept"]
theorem sc_House___init__ : FnScope N_House___init__ ["self", "number", "sides", "room", "wait"] (defScope st_House___init__) := ⟨rfl, rfl, rfl, by decide +kernel, rfl, by decide +kernel, by decide +kernel⟩
theorem fk_House___init__ (t : Tx g) {f : Addr} {fd : FuncData} (F : FunD g.K "__init__" "House.__init__" (defArgs st_House___init__) (defBody st_House___init__) (defScope st_House___init__) [] [("room", .int 4), ("wait", .int 6)] f fd) : FOk g 5 f fd ["self", "number", "sides", "room", "wait"] f_House___init__ := by
  refine df_bodyD F sc_House___init__ fun X E ⟨cdv, A, outer, s, H, hr, hX⟩ => ?_
  have cx : Ctx g E X := by rw [hX]; exact ctx_of hr
  subst hX
  exact (ss_cons (ss_expr (se_call cx (ok_need_number t) (hr.mono (by decide)) rfl (sa_cons (se_var 1) (sa_cons se_int (sa_cons se_int sa_nil)))))
    (ss_cons (ss_expr (se_call cx (ok_need_sides t) (hr.mono (by decide)) rfl (sa_cons (se_var 2) sa_nil)))
    (ss_cons (ss_if (st_cmp (o_inL cx) (se_var 1) (se_var 2) rfl) (ss_one (ss_raise cx t.x_BadSides rfl rfl)) ss_nil)
    (ss_cons (ss_set 5 sc_House___init__.nd (se_make cx (ok_Keeps___init__ t) (hr.mono (by decide)) rfl (sa_cons (se_var 3) sa_nil)))
    (ss_cons (ss_expr (se_call cx (ok_need_number t) (hr.mono (by decide)) rfl (sa_cons (se_var 4) (sa_cons se_int (sa_cons se_int sa_nil)))))
    (ss_cons (ss_fld cx (t.nm 41) t.k_House t.n_House_me (se_var 0) (se_var 1))
    (ss_cons (ss_fld cx (t.nm 44) t.k_House t.n_House_near (se_var 0) (se_callT (c_list) rfl (Ctx.free cx t.b_list) (by first | rfl | decide +kernel) (sa_cons (se_var 2) sa_nil)))
    (ss_cons (ss_fld cx (t.nm 68) t.k_House t.n_House_shelf (se_var 0) (se_var 5))
    (ss_cons (ss_fld cx (t.nm 43) t.k_House t.n_House_most (se_var 0) (se_var 4))
    (ss_cons (ss_fld cx (t.nm 63) t.k_House t.n_House_roads (se_var 0) (se_make0 cx (ok_Table___init__ t) (hr.mono (by decide)) rfl))
    (ss_cons (ss_fld cx (t.nm 80) t.k_House t.n_House_things (se_var 0) se_dicT)
    (ss_cons (ss_fld cx (t.nm 58) t.k_House t.n_House_pending (se_var 0) se_dicT)
    (ss_cons (ss_fld cx (t.nm 24) t.k_House t.n_House_fresh (se_var 0) se_dicT)
    (ss_one (ss_fld cx (t.nm 20) t.k_House t.n_House_ends (se_var 0) (se_lst sa_nil))))))))))))))))
theorem ok_House___init___k (t : Tx g) : MiK g 5 "House" 0 2 [] f_House___init__ (fun ds es => ds ++ [.int 4, .int 6]) := by
  obtain ⟨f, fd, F, hm, hk⟩ := t.d_House___init__
  obtain ⟨mv, hb⟩ := F.kbinds0 (ps := ["self", "number", "sides", "room", "wait"]) 3 [] [("room", .int 4), ("wait", .int 6)] (fun {_} => fun us mv ws => us ++ mv) (by decide) (by decide) (fun r1 r2 r3 => r1.append r2) (fun _ _ _ _ _ _ us mv ws h1 h2 h3 => match us, mv, ws, h1, h2, h3 with | [_, _, _], [_, _], [], _, _, _ => ⟨_, _, _, _, _, _, rfl, rfl, ⟨_, _, _, _, _, _, rfl, rfl, rfl⟩⟩)
  exact ⟨f, fd, _, _, _, fk_House___init__ t F, hm, hk, hb, fun ro H ds es vs zs v r1 r2 => ⟨_, rfl, r1.append (by simp [RelDs, RelD])⟩⟩
theorem ok_House___init___k_room (t : Tx g) : MiK g 5 "House" 0 2 ["room"] f_House___init__ (fun ds es => ds ++ (es ++ [.int 6])) := by
  obtain ⟨f, fd, F, hm, hk⟩ := t.d_House___init__
  obtain ⟨mv, hb⟩ := F.kbinds0 (ps := ["self", "number", "sides", "room", "wait"]) 3 ["room"] [("wait", .int 6)] (fun {_} => fun us mv ws => us ++ (ws ++ mv)) (by decide) (by decide) (fun r1 r2 r3 => r1.append (r3.append r2)) (fun _ _ _ _ _ _ us mv ws h1 h2 h3 => match us, mv, ws, h1, h2, h3 with | [_, _, _], [_], [_], _, _, _ => ⟨_, _, _, _, _, _, rfl, rfl, rfl⟩)
  exact ⟨f, fd, _, _, _, fk_House___init__ t F, hm, hk, hb, fun ro H ds es vs zs v r1 r2 => ⟨_, rfl, r1.append (r2.append (by simp [RelDs, RelD]))⟩⟩
theorem ok_House___init___k_room_wait (t : Tx g) : MiK g 5 "House" 0 2 ["room", "wait"] f_House___init__ (fun ds es => ds ++ es) := by
  obtain ⟨f, fd, F, hm, hk⟩ := t.d_House___init__
  obtain ⟨mv, hb⟩ := F.kbinds0 (ps := ["self", "number", "sides", "room", "wait"]) 3 ["room", "wait"] [] (fun {_} => fun us mv ws => us ++ ws) (by decide) (by decide) (fun r1 r2 r3 => r1.append r3) (fun _ _ _ _ _ _ us mv ws h1 h2 h3 => match us, mv, ws, h1, h2, h3 with | [_, _, _], [], [_, _], _, _, _ => rfl)
  exact ⟨f, fd, _, _, _, fk_House___init__ t F, hm, hk, hb, fun ro H ds es vs zs v r1 r2 => ⟨_, rfl, r1.append r2⟩⟩
theorem ok_House___init___k_wait (t : Tx g) : MiK g 5 "House" 0 2 ["wait"] f_House___init__ (fun ds es => ds ++ ([.int 4] ++ es)) := by
  obtain ⟨f, fd, F, hm, hk⟩ := t.d_House___init__
  obtain ⟨mv, hb⟩ := F.kbinds0 (ps := ["self", "number", "sides", "room", "wait"]) 3 ["wait"] [("room", .int 4)] (fun {_} => fun us mv ws => us ++ (mv ++ ws)) (by decide) (by decide) (fun r1 r2 r3 => r1.append (r2.append r3)) (fun _ _ _ _ _ _ us mv ws h1 h2 h3 => match us, mv, ws, h1, h2, h3 with | [_, _, _], [_], [_], _, _, _ => ⟨_, _, _, _, _, _, rfl, rfl, rfl⟩)
  exact ⟨f, fd, _, _, _, fk_House___init__ t F, hm, hk, hb, fun ro H ds es vs zs v r1 r2 => ⟨_, rfl, r1.append (.append (by simp [RelDs, RelD]) r2)⟩⟩
def N_House_ask : List Str := ["self", "name", "now", "asker"]
theorem sc_House_ask : FnScope N_House_ask ["self", "name", "now"] (defScope st_House_ask) := ⟨rfl, rfl, rfl, by decide +kernel, rfl, by decide +kernel, by decide +kernel⟩
theorem fk_House_ask (t : Tx g) {f : Addr} {fd : FuncData} (F : FunD g.K "ask" "House.ask" (defArgs st_House_ask) (defBody st_House_ask) (defScope st_House_ask) [] [] f fd) : FOk g 5 f fd ["self", "name", "now"] f_House_ask := by
  refine df_bodyD F sc_House_ask fun X E ⟨cdv, A, outer, s, H, hr, hX⟩ => ?_
  have cx : Ctx g E X := by rw [hX]; exact ctx_of hr
  subst hX
  exact (ss_cons (ss_expr (se_call cx (ok_need_name t) (hr.mono (by decide)) rfl (sa_cons (se_var 1) sa_nil)))
    (ss_cons (ss_expr (se_callD cx (ok_need_number_d2 t) (hr.mono (by decide)) rfl (sa_cons (se_var 2) (sa_cons se_int sa_nil))))
    (ss_cons ss_err
    (ss_cons ss_err
    (ss_one ss_err)))))
theorem ok_House_ask (t : Tx g) : Me g 5 0 "ask" f_House_ask := by
  obtain ⟨f, fd, F, hk, hm⟩ := t.d_House_ask
  exact ⟨f, fd, _, fk_House_ask t F, hk, hm, F.bindsN fun _ _ _ _ _ _ us hl => match us, hl with | [_, _, _], _ => rfl⟩
def N_House_come : List Str := ["self", "side", "letter", "now"]
theorem sc_House_come : FnScope N_House_come ["self", "side", "letter", "now"] (defScope st_House_come) := ⟨rfl, rfl, rfl, by decide +kernel, rfl, by decide +kernel, by decide +kernel⟩
theorem fk_House_come (t : Tx g) {f : Addr} {fd : FuncData} (F : FunD g.K "come" "House.come" (defArgs st_House_come) (defBody st_House_come) (defScope st_House_come) [] [] f fd) : FOk g 5 f fd ["self", "side", "letter", "now"] f_House_come := by
  refine df_bodyD F sc_House_come fun X E ⟨cdv, A, outer, s, H, hr, hX⟩ => ?_
  have cx : Ctx g E X := by rw [hX]; exact ctx_of hr
  subst hX
  exact (ss_cons (ss_if (st_bool (sw_or (st_not (st_val (se_call cx (ok_is_number t) (hr.mono (by decide)) rfl (sa_cons (se_var 1) (sa_cons se_int (sa_cons se_int sa_nil)))))) (sw_one (st_cmp (o_notInL cx) (se_var 1) (se_fld cx (t.nm 44) t.k_House t.n_House_near (se_var 0)) rfl)))) (ss_one (ss_raise cx t.x_NoWay rfl rfl)) ss_nil)
    (ss_cons (ss_if (st_not (st_val (se_call cx (ok_is_letter t) (hr.mono (by decide)) rfl (sa_cons (se_var 2) sa_nil)))) (ss_one (ss_raise cx t.x_BadLetter rfl rfl)) ss_nil)
    (ss_cons (ss_expr (se_callD cx (ok_need_number_d2 t) (hr.mono (by decide)) rfl (sa_cons (se_var 3) (sa_cons se_int sa_nil))))
    (ss_cons ss_err
    (ss_cons ss_err
    (ss_one ss_err))))))
theorem ok_House_come (t : Tx g) : Me g 5 0 "come" f_House_come := by
  obtain ⟨f, fd, F, hk, hm⟩ := t.d_House_come
  exact ⟨f, fd, _, fk_House_come t F, hk, hm, F.bindsN fun _ _ _ _ _ _ us hl => match us, hl with | [_, _, _, _], _ => rfl⟩
def N_House_tick : List Str := ["self", "now", "found", "name"]
theorem sc_House_tick : FnScope N_House_tick ["self", "now"] (defScope st_House_tick) := ⟨rfl, rfl, rfl, by decide +kernel, rfl, by decide +kernel, by decide +kernel⟩
theorem fk_House_tick (t : Tx g) {f : Addr} {fd : FuncData} (F : FunD g.K "tick" "House.tick" (defArgs st_House_tick) (defBody st_House_tick) (defScope st_House_tick) [] [] f fd) : FOk g 3 f fd ["self", "now"] f_House_tick := by
  refine df_bodyD F sc_House_tick fun X E ⟨cdv, A, outer, s, H, hr, hX⟩ => ?_
  have cx : Ctx g E X := by rw [hX]; exact ctx_of hr
  subst hX
  exact (ss_cons (ss_expr (se_callD cx (ok_need_number_d2 t) (hr.mono (by decide)) rfl (sa_cons (se_var 1) (sa_cons se_int sa_nil))))
    (ss_cons ss_err
    (ss_cons ss_err
    (ss_cons ss_err
    (ss_one ss_err)))))
theorem ok_House_tick (t : Tx g) : Me g 3 0 "tick" f_House_tick := by
  obtain ⟨f, fd, F, hk, hm⟩ := t.d_House_tick
  exact ⟨f, fd, _, fk_House_tick t F, hk, hm, F.bindsN fun _ _ _ _ _ _ us hl => match us, hl with | [_, _], _ => rfl⟩
def N_House_own : List Str := ["self", "name", "value", "life"]
theorem sc_House_own : FnScope N_House_own ["self", "name", "value", "life"] (defScope st_House_own) := ⟨rfl, rfl, rfl, by decide +kernel, rfl, by decide +kernel, by decide +kernel⟩
theorem fk_House_own (t : Tx g) {f : Addr} {fd : FuncData} (F : FunD g.K "own" "House.own" (defArgs st_House_own) (defBody st_House_own) (defScope st_House_own) [] [] f fd) : FOk g 5 f fd ["self", "name", "value", "life"] f_House_own := by
  refine df_bodyD F sc_House_own fun X E ⟨cdv, A, outer, s, H, hr, hX⟩ => ?_
  have cx : Ctx g E X := by rw [hX]; exact ctx_of hr
  subst hX
  exact (ss_cons (ss_expr (se_call cx (ok_need_name t) (hr.mono (by decide)) rfl (sa_cons (se_var 1) sa_nil)))
    (ss_cons (ss_expr (se_call cx (ok_need_number t) (hr.mono (by decide)) rfl (sa_cons (se_var 2) (sa_cons se_int (sa_cons (se_globI rfl (Ctx.gi cx t.c_MOST_VALUE)) sa_nil)))))
    (ss_cons (ss_expr (se_call cx (ok_need_number t) (hr.mono (by decide)) rfl (sa_cons (se_var 3) (sa_cons se_int (sa_cons (se_globI rfl (Ctx.gi cx t.c_MOST_LIFE)) sa_nil)))))
    (ss_one ss_err))))
theorem ok_House_own (t : Tx g) : Me g 5 0 "own" f_House_own := by
  obtain ⟨f, fd, F, hk, hm⟩ := t.d_House_own
  exact ⟨f, fd, _, fk_House_own t F, hk, hm, F.bindsN fun _ _ _ _ _ _ us hl => match us, hl with | [_, _, _, _], _ => rfl⟩
def N_House_disown : List Str := ["self", "name"]
theorem sc_House_disown : FnScope N_House_disown ["self", "name"] (defScope st_House_disown) := ⟨rfl, rfl, rfl, by decide +kernel, rfl, by decide +kernel, by decide +kernel⟩
theorem fk_House_disown (t : Tx g) {f : Addr} {fd : FuncData} (F : FunD g.K "disown" "House.disown" (defArgs st_House_disown) (defBody st_House_disown) (defScope st_House_disown) [] [] f fd) : FOk g 5 f fd ["self", "name"] f_House_disown := by
  refine df_bodyD F sc_House_disown fun X E ⟨cdv, A, outer, s, H, hr, hX⟩ => ?_
  have cx : Ctx g E X := by rw [hX]; exact ctx_of hr
  subst hX
  exact (ss_cons (ss_expr (se_call cx (ok_need_name t) (hr.mono (by decide)) rfl (sa_cons (se_var 1) sa_nil)))
    (ss_cons ss_err
    (ss_one ss_err)))
theorem ok_House_disown (t : Tx g) : Me g 5 0 "disown" f_House_disown := by
  obtain ⟨f, fd, F, hk, hm⟩ := t.d_House_disown
  exact ⟨f, fd, _, fk_House_disown t F, hk, hm, F.bindsN fun _ _ _ _ _ _ us hl => match us, hl with | [_, _], _ => rfl⟩
def N_House_end : List Str := ["self", "asker"]
theorem sc_House_end : FnScope N_House_end ["self", "asker"] (defScope st_House_end) := ⟨rfl, rfl, rfl, by decide +kernel, rfl, by decide +kernel, by decide +kernel⟩
theorem fk_House_end (t : Tx g) {f : Addr} {fd : FuncData} (F : FunD g.K "end" "House.end" (defArgs st_House_end) (defBody st_House_end) (defScope st_House_end) [] [] f fd) : FOk g 3 f fd ["self", "asker"] f_House_end := by
  refine df_bodyD F sc_House_end fun X E ⟨cdv, A, outer, s, H, hr, hX⟩ => ?_
  have cx : Ctx g E X := by rw [hX]; exact ctx_of hr
  subst hX
  exact (ss_cons (ss_expr (se_call cx (ok_need_number t) (hr.mono (by decide)) rfl (sa_cons (se_var 1) (sa_cons se_int (sa_cons (se_bin o_sub (se_callB (c_len cx) rfl (Ctx.free cx t.b_len) (by first | rfl | decide +kernel) (sa_cons (se_fld cx (t.nm 20) t.k_House t.n_House_ends (se_var 0)) sa_nil)) se_int) sa_nil)))))
    (ss_one ss_err))
theorem ok_House_end (t : Tx g) : Me g 3 0 "end" f_House_end := by
  obtain ⟨f, fd, F, hk, hm⟩ := t.d_House_end
  exact ⟨f, fd, _, fk_House_end t F, hk, hm, F.bindsN fun _ _ _ _ _ _ us hl => match us, hl with | [_, _], _ => rfl⟩
def N_House_waits : List Str := ["self", "found", "name", "wait"]
theorem sc_House_waits : FnScope N_House_waits ["self"] (defScope st_House_waits) := ⟨rfl, rfl, rfl, by decide +kernel, rfl, by decide +kernel, by decide +kernel⟩
theorem fk_House_waits (t : Tx g) {f : Addr} {fd : FuncData} (F : FunD g.K "waits" "House.waits" (defArgs st_House_waits) (defBody st_House_waits) (defScope st_House_waits) [] [] f fd) : FOk g 1 f fd ["self"] f_House_waits := by
  refine df_bodyD F sc_House_waits fun X E ⟨cdv, A, outer, s, H, hr, hX⟩ => ?_
  have cx : Ctx g E X := by rw [hX]; exact ctx_of hr
  subst hX
  exact (ss_cons (ss_set 1 sc_House_waits.nd (se_lst sa_nil))
    (ss_cons (ss_lock (ma := (eUn (opFld 0 58) (eV 0))) (ss_for own_of rfl (si_dic (se_fld cx (t.nm 58) t.k_House t.n_House_pending (se_var 0))) (sg_name 2 sc_House_waits.nd) (ss_cons (ss_set 3 sc_House_waits.nd (se_dget cx (se_fld cx (t.nm 58) t.k_House t.n_House_pending (se_var 0)) (se_var 2)))
    (ss_one (ss_expr (se_bm cx PySem.F.plainAttrs_list PySem.F.slot_list_append PySem.F.type_list_append m_append (.inl rfl) (se_var 1) (sa_cons (se_tup (sa_cons (se_var 2) (sa_cons (se_fld cx (t.nm 70) t.k_Wait t.n_Wait_since (se_var 3)) (sa_cons (se_callT (c_list) rfl (Ctx.free cx t.b_list) (by first | rfl | decide +kernel) (sa_cons (se_fld cx (t.nm 85) t.k_Wait t.n_Wait_who (se_var 3)) sa_nil)) (sa_cons (se_callT (c_list) rfl (Ctx.free cx t.b_list) (by first | rfl | decide +kernel) (sa_cons (se_fld cx (t.nm 9) t.k_Wait t.n_Wait_asked (se_var 3)) sa_nil)) (sa_cons (se_callT (c_list) rfl (Ctx.free cx t.b_list) (by first | rfl | decide +kernel) (sa_cons (se_fld cx (t.nm 50) t.k_Wait t.n_Wait_noes (se_var 3)) sa_nil)) sa_nil)))))) sa_nil)))))))
    (ss_one (ss_ret (se_var 1)))))
theorem ok_House_waits (t : Tx g) : Me g 1 0 "waits" f_House_waits := by
  obtain ⟨f, fd, F, hk, hm⟩ := t.d_House_waits
  exact ⟨f, fd, _, fk_House_waits t F, hk, hm, F.bindsN fun _ _ _ _ _ _ us hl => match us, hl with | [_], _ => rfl⟩
def N_House_keeps : List Str := ["self"]
theorem sc_House_keeps : FnScope N_House_keeps ["self"] (defScope st_House_keeps) := ⟨rfl, rfl, rfl, by decide +kernel, rfl, by decide +kernel, by decide +kernel⟩
theorem fk_House_keeps (t : Tx g) {f : Addr} {fd : FuncData} (F : FunD g.K "keeps" "House.keeps" (defArgs st_House_keeps) (defBody st_House_keeps) (defScope st_House_keeps) [] [] f fd) : FOk g 2 f fd ["self"] f_House_keeps := by
  refine df_bodyD F sc_House_keeps fun X E ⟨cdv, A, outer, s, H, hr, hX⟩ => ?_
  have cx : Ctx g E X := by rw [hX]; exact ctx_of hr
  subst hX
  exact (ss_one (ss_ret (se_meth0 cx (ok_Keeps_rows t) (hr.mono (by decide)) (t.nm 65) (se_fld cx (t.nm 68) t.k_House t.n_House_shelf (se_var 0)))))
theorem ok_House_keeps (t : Tx g) : Me g 2 0 "keeps" f_House_keeps := by
  obtain ⟨f, fd, F, hk, hm⟩ := t.d_House_keeps
  exact ⟨f, fd, _, fk_House_keeps t F, hk, hm, F.bindsN fun _ _ _ _ _ _ us hl => match us, hl with | [_], _ => rfl⟩
def N_House_owns : List Str := ["self", "name"]
theorem sc_House_owns : FnScope N_House_owns ["self"] (defScope st_House_owns) := ⟨rfl, rfl, rfl, by decide +kernel, rfl, by decide +kernel, by decide +kernel⟩
theorem fk_House_owns (t : Tx g) {f : Addr} {fd : FuncData} (F : FunD g.K "owns" "House.owns" (defArgs st_House_owns) (defBody st_House_owns) (defScope st_House_owns) [] [] f fd) : FOk g 1 f fd ["self"] f_House_owns := by
  refine df_bodyD F sc_House_owns fun X E ⟨cdv, A, outer, s, H, hr, hX⟩ => ?_
  have cx : Ctx g E X := by rw [hX]; exact ctx_of hr
  subst hX
  exact (ss_one (ss_ret (se_lc rfl sc_House_owns.nd (si_lst cx.K (se_callB (c_sorted cx rfl) rfl (Ctx.free cx t.b_sorted) (by first | rfl | decide +kernel) (sa_cons (se_fld cx (t.nm 80) t.k_House t.n_House_things (se_var 0)) sa_nil))) (own := [("name", 1)]) (blkOk_by (N := N_House_owns) (sc := defScope st_House_owns) (by decide +kernel)) (fun s H C cl fp => (sgw_name 1 (by decide) sc_House_owns.nd)) (fun s H C cl fp => sts_nil) (fun s H C cl fp => (se_bin (o_add (ctx_blk cx)) (se_tup (sa_cons (se_var 1) sa_nil)) (se_dget (ctx_blk cx) (se_fld (ctx_blk cx) (t.nm 80) t.k_House t.n_House_things (se_var 0)) (se_var 1)))))))
theorem ok_House_owns (t : Tx g) : Me g 1 0 "owns" f_House_owns := by
  obtain ⟨f, fd, F, hk, hm⟩ := t.d_House_owns
  exact ⟨f, fd, _, fk_House_owns t F, hk, hm, F.bindsN fun _ _ _ _ _ _ us hl => match us, hl with | [_], _ => rfl⟩
def N_House_table : List Str := ["self"]
theorem sc_House_table : FnScope N_House_table ["self"] (defScope st_House_table) := ⟨rfl, rfl, rfl, by decide +kernel, rfl, by decide +kernel, by decide +kernel⟩
theorem fk_House_table (t : Tx g) {f : Addr} {fd : FuncData} (F : FunD g.K "table" "House.table" (defArgs st_House_table) (defBody st_House_table) (defScope st_House_table) [] [] f fd) : FOk g 2 f fd ["self"] f_House_table := by
  refine df_bodyD F sc_House_table fun X E ⟨cdv, A, outer, s, H, hr, hX⟩ => ?_
  have cx : Ctx g E X := by rw [hX]; exact ctx_of hr
  subst hX
  exact (ss_one (ss_ret (se_meth0 cx (ok_Table_rows t) (hr.mono (by decide)) (t.nm 65) (se_fld cx (t.nm 63) t.k_House t.n_House_roads (se_var 0)))))
theorem ok_House_table (t : Tx g) : Me g 2 0 "table" f_House_table := by
  obtain ⟨f, fd, F, hk, hm⟩ := t.d_House_table
  exact ⟨f, fd, _, fk_House_table t F, hk, hm, F.bindsN fun _ _ _ _ _ _ us hl => match us, hl with | [_], _ => rfl⟩
def N__law_cell : List Str := ["_law_script", "_law_k"]
theorem sc__law_cell : FnScope N__law_cell ["_law_script", "_law_k"] (defScope st__law_cell) := ⟨rfl, rfl, rfl, by decide +kernel, rfl, by decide +kernel, by decide +kernel⟩
theorem fk__law_cell (t : Tx g) {f : Addr} {fd : FuncData} (F : FunD g.K "_law_cell" "_law_cell" (defArgs st__law_cell) (defBody st__law_cell) (defScope st__law_cell) [] [] f fd) : FOk g 1 f fd ["_law_script", "_law_k"] f__law_cell := by
  refine df_bodyD F sc__law_cell fun X E ⟨cdv, A, outer, s, H, hr, hX⟩ => ?_
  have cx : Ctx g E X := by rw [hX]; exact ctx_of hr
  subst hX
  exact (ss_cons (ss_if (st_cmp (o_eq cx) (se_var 0) (se_lst sa_nil) rfl) (ss_one (ss_ret (se_bin (o_mul cx) (se_var 1) se_int))) ss_nil)
    (ss_one (ss_ret (se_bin (o_add cx) (se_ix cx (se_var 0) (se_bin o_mod (se_var 1) (se_callB (c_len cx) rfl (Ctx.free cx t.b_len) (by first | rfl | decide +kernel) (sa_cons (se_var 0) sa_nil)))) (se_bin (o_mul cx) (se_bin o_div (se_var 1) (se_callB (c_len cx) rfl (Ctx.free cx t.b_len) (by first | rfl | decide +kernel) (sa_cons (se_var 0) sa_nil))) se_int)))))
theorem ok__law_cell (t : Tx g) : Df g 1 "_law_cell" f__law_cell := by
  obtain ⟨f, fd, F, hm⟩ := t.d__law_cell
  exact ⟨f, fd, _, fk__law_cell t F, hm, F.kp, F.bindsN fun _ _ _ _ _ _ us hl => match us, hl with | [_, _], _ => rfl⟩
def N__law_drawn : List Str := ["_law_cell_here", "_law_k", "_law_more"]
theorem sc__law_drawn : FnScope N__law_drawn ["_law_cell_here", "_law_k"] (defScope st__law_drawn) := ⟨rfl, rfl, rfl, by decide +kernel, rfl, by decide +kernel, by decide +kernel⟩
theorem fk__law_drawn (t : Tx g) {f : Addr} {fd : FuncData} (F : FunD g.K "_law_drawn" "_law_drawn" (defArgs st__law_drawn) (defBody st__law_drawn) (defScope st__law_drawn) [] [] f fd) : FOk g 1 f fd ["_law_cell_here", "_law_k"] f__law_drawn := by
  refine df_bodyD F sc__law_drawn fun X E ⟨cdv, A, outer, s, H, hr, hX⟩ => ?_
  have cx : Ctx g E X := by rw [hX]; exact ctx_of hr
  subst hX
  exact (ss_cons (ss_set 2 sc__law_drawn.nd (se_bin o_mod (se_bin (o_add cx) (se_bin (o_mul cx) (se_var 0) se_int) (se_bin (o_mul cx) (se_bin (o_add cx) (se_var 1) se_int) se_int)) se_int))
    (ss_cons (ss_set 2 sc__law_drawn.nd (se_bin o_mod (se_bin (o_mul cx) (se_var 2) (se_var 2)) se_int))
    (ss_cons (ss_set 2 sc__law_drawn.nd (se_bin (o_mul cx) (se_bin (o_mul cx) (se_bin (o_add cx) (se_bin o_mod (se_var 2) se_int) se_int) (se_bin (o_add cx) (se_bin o_div (se_var 2) se_int) se_int)) (se_var 2)))
    (ss_one (ss_ret (se_bin o_mod (se_var 2) se_int))))))
theorem ok__law_drawn (t : Tx g) : Df g 1 "_law_drawn" f__law_drawn := by
  obtain ⟨f, fd, F, hm⟩ := t.d__law_drawn
  exact ⟨f, fd, _, fk__law_drawn t F, hm, F.kp, F.bindsN fun _ _ _ _ _ _ us hl => match us, hl with | [_, _], _ => rfl⟩
def N__law_roll : List Str := ["_law_dice", "_law_many", "_law_told_here"]
theorem sc__law_roll : FnScope N__law_roll ["_law_dice", "_law_many"] (defScope st__law_roll) := ⟨rfl, rfl, rfl, by decide +kernel, rfl, by decide +kernel, by decide +kernel⟩
theorem fk__law_roll (t : Tx g) {f : Addr} {fd : FuncData} (F : FunD g.K "_law_roll" "_law_roll" (defArgs st__law_roll) (defBody st__law_roll) (defScope st__law_roll) [] [] f fd) : FOk g 2 f fd ["_law_dice", "_law_many"] f__law_roll := by
  refine df_bodyD F sc__law_roll fun X E ⟨cdv, A, outer, s, H, hr, hX⟩ => ?_
  have cx : Ctx g E X := by rw [hX]; exact ctx_of hr
  subst hX
  exact (ss_cons (ss_if (st_cmp o_ge (se_ix cx (se_var 0) se_int) (se_bin o_pow se_int se_int) rfl) (ss_cons (ss_set 2 sc__law_roll.nd (se_bin o_mod (se_ix cx (se_var 0) se_int) (se_var 1)))
    (ss_cons (ss_asg (se_bin o_div (se_ix cx (se_var 0) se_int) (se_var 1)) (sg_setL cx (se_var 0) se_int))
    (ss_one (ss_ret (se_var 2))))) ss_nil)
    (ss_cons (ss_asg (se_bin (o_add cx) (se_ix cx (se_var 0) se_int) se_int) (sg_setL cx (se_var 0) se_int))
    (ss_one (ss_ret (se_bin o_mod (se_bin o_div (se_call cx (ok__law_drawn t) (hr.mono (by decide)) rfl (sa_cons (se_ix cx (se_var 0) se_int) (sa_cons (se_ix cx (se_var 0) se_int) sa_nil))) se_int) (se_var 1))))))
theorem ok__law_roll (t : Tx g) : Df g 2 "_law_roll" f__law_roll := by
  obtain ⟨f, fd, F, hm⟩ := t.d__law_roll
  exact ⟨f, fd, _, fk__law_roll t F, hm, F.kp, F.bindsN fun _ _ _ _ _ _ us hl => match us, hl with | [_, _], _ => rfl⟩
def N__law_rounds : List Str := ["_law_script", "_law_most", "_law_k"]
theorem sc__law_rounds : FnScope N__law_rounds ["_law_script", "_law_most"] (defScope st__law_rounds) := ⟨rfl, rfl, rfl, by decide +kernel, rfl, by decide +kernel, by decide +kernel⟩
theorem fk__law_rounds (t : Tx g) {f : Addr} {fd : FuncData} (F : FunD g.K "_law_rounds" "_law_rounds" (defArgs st__law_rounds) (defBody st__law_rounds) (defScope st__law_rounds) [] [] f fd) : FOk g 2 f fd ["_law_script", "_law_most"] f__law_rounds := by
  refine df_bodyD F sc__law_rounds fun X E ⟨cdv, A, outer, s, H, hr, hX⟩ => ?_
  have cx : Ctx g E X := by rw [hX]; exact ctx_of hr
  subst hX
  exact (ss_one (ss_ret (se_lc rfl sc__law_rounds.nd (si_rng1 rfl (Ctx.free cx t.b_range) (se_callB (c_max2 rfl) rfl (Ctx.free cx t.b_max) (by first | rfl | decide +kernel) (sa_cons se_int (sa_cons (se_callB (c_min2 rfl) rfl (Ctx.free cx t.b_min) (by first | rfl | decide +kernel) (sa_cons (se_var 1) (sa_cons (se_callB (c_len cx) rfl (Ctx.free cx t.b_len) (by first | rfl | decide +kernel) (sa_cons (se_var 0) sa_nil)) sa_nil))) sa_nil)))) (own := [("_law_k", 2)]) (blkOk_by (N := N__law_rounds) (sc := defScope st__law_rounds) (by decide +kernel)) (fun s H C cl fp => (sgw_name 2 (by decide) sc__law_rounds.nd)) (fun s H C cl fp => sts_nil) (fun s H C cl fp => (se_lst (sa_cons (se_call (ctx_blk cx) (ok__law_cell t) (hr.mono (by decide)) rfl (sa_cons (se_var 0) (sa_cons (se_var 2) sa_nil))) (sa_cons se_int sa_nil)))))))
theorem ok__law_rounds (t : Tx g) : Df g 2 "_law_rounds" f__law_rounds := by
  obtain ⟨f, fd, F, hm⟩ := t.d__law_rounds
  exact ⟨f, fd, _, fk__law_rounds t F, hm, F.kp, F.bindsN fun _ _ _ _ _ _ us hl => match us, hl with | [_, _], _ => rfl⟩
def N__law_word : List Str := ["_law_e", "_law_flags", "_law_words", "_law_flag"]
theorem sc__law_word : FnScope N__law_word ["_law_e"] (defScope st__law_word) := ⟨rfl, rfl, rfl, by decide +kernel, rfl, by decide +kernel, by decide +kernel⟩
theorem hk_word (t : Tx g) : HDf g 1 "_law_word" exKs (fun a x => f__law_word a x) := by
  obtain ⟨f, fd, F, hm⟩ := t.d__law_word
  refine ⟨f, fd, _, hf_body (body := c__law_word) F sc__law_word (fun X p c ⟨cdv, A, outer, s, H, hot, hr, hX⟩ hz dat hc => ?_), hm, F.kp, F.bindsN fun _ _ _ _ _ _ us hl => match us, hl with | [_], _ => rfl⟩
  have cx : Ctx g E0 X := by rw [hX]; exact ctx_hot hr
  have hin : L2H.HotC X := by rw [hX]; exact hot_in hot
  have hp : (p.1, p.2) ∈ X.pn := by rw [hX]; exact List.mem_singleton_self _
  subst hX
  exact (ss_cons (ss_set 1 sc__law_word.nd (se_lst (sa_cons (se_isE cx hp (t.w_exc _ hc) hz dat t.b_isinstance (se_var 0) (pe_glob (v := .ref (g.ecls 1)) rfl (by rw [cx.mg]; exact t.gx_BadName) rfl) (fun u h => h) (t.w_kit _ hc 1 (by decide))) (sa_cons (se_isE cx hp (t.w_exc _ hc) hz dat t.b_isinstance (se_var 0) (pe_glob (v := .ref (g.ecls 3)) rfl (by rw [cx.mg]; exact t.gx_BadSides) rfl) (fun u h => h) (t.w_kit _ hc 3 (by decide))) (sa_cons (se_isE cx hp (t.w_exc _ hc) hz dat t.b_isinstance (se_var 0) (pe_glob (v := .ref (g.ecls 2)) rfl (by rw [cx.mg]; exact t.gx_BadNumber) rfl) (fun u h => h) (t.w_kit _ hc 2 (by decide))) (sa_cons (se_isE cx hp (t.w_exc _ hc) hz dat t.b_isinstance (se_var 0) (pe_glob (v := .ref (g.ecls 0)) rfl (by rw [cx.mg]; exact t.gx_BadLetter) rfl) (fun u h => h) (t.w_kit _ hc 0 (by decide))) sa_nil))))))
    (ss_cons (ss_set 1 sc__law_word.nd (se_bin (o_add cx) (se_var 1) (se_lst (sa_cons (se_isE cx hp (t.w_exc _ hc) hz dat t.b_isinstance (se_var 0) (pe_glob (v := .ref (g.ecls 6)) rfl (by rw [cx.mg]; exact t.gx_NoHouse) rfl) (fun u h => h) (t.w_kit _ hc 6 (by decide))) (sa_cons (se_isE cx hp (t.w_exc _ hc) hz dat t.b_isinstance (se_var 0) (pe_glob (v := .ref (g.ecls 8)) rfl (by rw [cx.mg]; exact t.gx_NoWay) rfl) (fun u h => h) (t.w_kit _ hc 8 (by decide))) (sa_cons (se_isE cx hp (t.w_exc _ hc) hz dat t.b_isinstance (se_var 0) (pe_glob (v := .ref (g.ecls 7)) rfl (by rw [cx.mg]; exact t.gx_NoLetter) rfl) (fun u h => h) (t.w_kit _ hc 7 (by decide))) (sa_cons (se_isE cx hp (t.w_exc _ hc) hz dat t.b_isinstance (se_var 0) (pe_glob (v := .ref (g.ecls 5)) rfl (by rw [cx.mg]; exact t.gx_Gone) rfl) (fun u h => h) (t.w_kit _ hc 5 (by decide))) sa_nil)))))))
    (ss_cons (ss_expr (se_bm cx PySem.F.plainAttrs_list PySem.F.slot_list_append PySem.F.type_list_append m_append (.inl rfl) (se_var 1) (sa_cons (se_isE cx hp (t.w_exc _ hc) hz dat t.b_isinstance (se_var 0) (pe_glob (v := .ref (g.ecls 4)) rfl (by rw [cx.mg]; exact t.gx_BadStory) rfl) (fun u h => h) (t.w_kit _ hc 4 (by decide))) sa_nil)))
    (ss_cons (ss_set 2 sc__law_word.nd (se_lst (sa_cons (se_str (x := [66, 97, 100, 78, 97, 109, 101])) (sa_cons (se_str (x := [66, 97, 100, 83, 105, 100, 101, 115])) (sa_cons (se_str (x := [66, 97, 100, 78, 117, 109, 98, 101, 114])) (sa_cons (se_str (x := [66, 97, 100, 76, 101, 116, 116, 101, 114])) (sa_cons (se_str (x := [78, 111, 72, 111, 117, 115, 101])) (sa_cons (se_str (x := [78, 111, 87, 97, 121])) (sa_cons (se_str (x := [78, 111, 76, 101, 116, 116, 101, 114])) (sa_cons (se_str (x := [71, 111, 110, 101])) (sa_cons (se_str (x := [66, 97, 100, 83, 116, 111, 114, 121])) sa_nil)))))))))))
    (ss_cons (ss_if (st_bool (sw_or (st_cmp (o_ne cx) (se_callB (c_sumH hin) rfl (Ctx.free cx t.b_sum) (by first | rfl | decide +kernel) (sa_cons (se_intsH cx hin (se_var 1) t.b_int (by decide +kernel) (by decide +kernel) rfl (by decide +kernel) rfl rfl (by decide)) sa_nil)) se_int rfl) (sw_one (st_not (st_val (se_isE cx hp (t.w_exc _ hc) hz dat t.b_isinstance (se_var 0) (pe_bltn (v := .ty "ValueError") rfl (Ctx.free cx t.b_ValueError) (by first | rfl | decide +kernel) rfl) (fun u h => h) (t.w_ve _ hc))))))) (ss_one (ss_ret (se_tup (sa_cons (se_str (x := [114, 101, 102, 117, 115, 101, 100])) (sa_cons (se_str (x := [111, 116, 104, 101, 114])) sa_nil))))) ss_nil)
    (ss_one (ss_ret (se_tup (sa_cons (se_str (x := [114, 101, 102, 117, 115, 101, 100])) (sa_cons (se_ix cx (se_var 2) (se_bm cx PySem.F.plainAttrs_list PySem.F.slot_list_index PySem.F.type_list_index (m_index cx) (.inl rfl) (se_var 1) (sa_cons se_bl sa_nil))) sa_nil))))))))))
def N__law_told : List Str := ["_law_deed", "_law_e"]
theorem sc__law_told : FnScope N__law_told ["_law_deed"] (defScope st__law_told) := ⟨rfl, rfl, rfl, by decide +kernel, rfl, by decide +kernel, by decide +kernel⟩
theorem told_ok (t : Tx g) {k : Nat} (hk : 1 ≤ k + 1) : ToldFn g k "_law_told" exKs wT wO := by
  obtain ⟨f, fd, F, hm⟩ := t.d__law_told
  refine told_fn (hc := c__law_told) F hm (F.bindsN fun _ _ _ _ _ _ us hl => match us, hl with | [_], _ => rfl) sc__law_told rfl rfl t.gx_WantError (by decide) (by first | exact Or.inl rfl | exact Or.inr (Or.inl rfl) | exact Or.inr (Or.inr rfl)) (by decide) (by decide) t.w_exm (fun X p c ⟨cdv, A, outer, s, H, pn, rh, hX⟩ cx hot hp hz dat hc => ?_) toldW
  have hp : (p.1, p.2) ∈ X.pn := hp
  subst hX
  exact ss_one (ss_ret (se_bin (o_add cx) (se_callH cx (hk_word t) hot hp hz hc (rh.mono hk) rfl (sa_cons (se_var 1) sa_nil)) (se_if (st_val (se_isE cx hp (t.w_exc _ hc) hz dat t.b_isinstance (se_var 1) (pe_glob (v := .ref (g.ecls 5)) rfl (by rw [cx.mg]; exact t.gx_Gone) rfl) (fun u h => h) (t.w_kit _ hc 5 (by decide)))) (se_tup (sa_cons se_err sa_nil)) (se_tup sa_nil))))
def N__law_number_doors : List Str := ["_law_house", "_law_bad", "_law_made"]
theorem sc__law_number_doors : FnScope N__law_number_doors ["_law_house", "_law_bad"] (defScope st__law_number_doors) := ⟨rfl, rfl, rfl, by decide +kernel, rfl, by decide +kernel, by decide +kernel⟩
theorem fk__law_number_doors (t : Tx g) {f : Addr} {fd : FuncData} (F : FunD g.K "_law_number_doors" "_law_number_doors" (defArgs st__law_number_doors) (defBody st__law_number_doors) (defScope st__law_number_doors) [] [] f fd) (tb : ∀ (oc : Value) (od : Option Addr) (osl : Array (Option Value)) (c : Addr), g.K.lookup f = some ⟨oc, od, .func fd, osl⟩ → fd.code = .ref c → ∃ P : Addr, LamX.TabB g.base g.mg c P ∧ (P, lamQ "_law_number_doors") ∈ g.T ∧ ∀ p ∈ g.T, p.1 = P → p.2 = lamQ "_law_number_doors") : FOk g 8 f fd ["_law_house", "_law_bad"] f__law_number_doors := by
  refine df_bodyT F sc__law_number_doors tb fun X E ⟨cdv, A, outer, s, H, hr, hX⟩ lam => ?_
  have cx : Ctx g E X := by rw [hX]; exact ctx_of hr
  subst hX
  exact (ss_cons (ss_set 2 sc__law_number_doors.nd (se_lst sa_nil))
    (ss_cons (ss_expr (se_bm cx PySem.F.plainAttrs_list PySem.F.slot_list_append PySem.F.type_list_append m_append (.inl rfl) (se_var 2) (sa_cons (se_told cx (told_ok t (k := 5) (by decide)) lam (hr.mono (by decide)) rfl (LamX.lamS_by (sc := defScope st__law_number_doors) (by decide +kernel)) rfl (fun q cl pm cv ctv => rfl) (fun A outer s H E f c' hr cx => (se_meth cx (ok_House_ask t) (hr.mono (by decide)) (t.nm 8) (se_var 0) (sa_cons (se_tup (sa_cons (se_str (x := [97])) sa_nil)) (sa_cons (se_var 1) sa_nil))))) sa_nil)))
    (ss_cons (ss_expr (se_bm cx PySem.F.plainAttrs_list PySem.F.slot_list_append PySem.F.type_list_append m_append (.inl rfl) (se_var 2) (sa_cons (se_told cx (told_ok t (k := 5) (by decide)) lam (hr.mono (by decide)) rfl (LamX.lamS_by (sc := defScope st__law_number_doors) (by decide +kernel)) rfl (fun q cl pm cv ctv => rfl) (fun A outer s H E f c' hr cx => (se_meth cx (ok_House_come t) (hr.mono (by decide)) (t.nm 13) (se_var 0) (sa_cons se_int (sa_cons (se_tup (sa_cons (se_str (x := [110, 111])) (sa_cons (se_tup (sa_cons (se_str (x := [97])) sa_nil)) sa_nil))) (sa_cons (se_var 1) sa_nil)))))) sa_nil)))
    (ss_cons (ss_expr (se_bm cx PySem.F.plainAttrs_list PySem.F.slot_list_append PySem.F.type_list_append m_append (.inl rfl) (se_var 2) (sa_cons (se_told cx (told_ok t (k := 3) (by decide)) lam (hr.mono (by decide)) rfl (LamX.lamS_by (sc := defScope st__law_number_doors) (by decide +kernel)) rfl (fun q cl pm cv ctv => rfl) (fun A outer s H E f c' hr cx => (se_meth cx (ok_House_tick t) (hr.mono (by decide)) (t.nm 81) (se_var 0) (sa_cons (se_var 1) sa_nil)))) sa_nil)))
    (ss_cons (ss_expr (se_bm cx PySem.F.plainAttrs_list PySem.F.slot_list_append PySem.F.type_list_append m_append (.inl rfl) (se_var 2) (sa_cons (se_told cx (told_ok t (k := 5) (by decide)) lam (hr.mono (by decide)) rfl (LamX.lamS_by (sc := defScope st__law_number_doors) (by decide +kernel)) rfl (fun q cl pm cv ctv => rfl) (fun A outer s H E f c' hr cx => (se_meth cx (ok_House_own t) (hr.mono (by decide)) (t.nm 55) (se_var 0) (sa_cons (se_tup (sa_cons (se_str (x := [97])) sa_nil)) (sa_cons (se_var 1) (sa_cons se_int sa_nil)))))) sa_nil)))
    (ss_cons (ss_expr (se_bm cx PySem.F.plainAttrs_list PySem.F.slot_list_append PySem.F.type_list_append m_append (.inl rfl) (se_var 2) (sa_cons (se_told cx (told_ok t (k := 5) (by decide)) lam (hr.mono (by decide)) rfl (LamX.lamS_by (sc := defScope st__law_number_doors) (by decide +kernel)) rfl (fun q cl pm cv ctv => rfl) (fun A outer s H E f c' hr cx => (se_meth cx (ok_House_own t) (hr.mono (by decide)) (t.nm 55) (se_var 0) (sa_cons (se_tup (sa_cons (se_str (x := [97])) sa_nil)) (sa_cons se_int (sa_cons (se_var 1) sa_nil)))))) sa_nil)))
    (ss_cons (ss_expr (se_bm cx PySem.F.plainAttrs_list PySem.F.slot_list_append PySem.F.type_list_append m_append (.inl rfl) (se_var 2) (sa_cons (se_told cx (told_ok t (k := 3) (by decide)) lam (hr.mono (by decide)) rfl (LamX.lamS_by (sc := defScope st__law_number_doors) (by decide +kernel)) rfl (fun q cl pm cv ctv => rfl) (fun A outer s H E f c' hr cx => (se_meth cx (ok_House_end t) (hr.mono (by decide)) (t.nm 19) (se_var 0) (sa_cons (se_var 1) sa_nil)))) sa_nil)))
    (ss_one (ss_ret (se_var 2))))))))))
theorem ok__law_number_doors (t : Tx g) : Df g 8 "_law_number_doors" f__law_number_doors := by
  obtain ⟨f, fd, F, hm, tb⟩ := t.d__law_number_doors
  exact ⟨f, fd, _, fk__law_number_doors t F tb, hm, F.kp, F.bindsN fun _ _ _ _ _ _ us hl => match us, hl with | [_, _], _ => rfl⟩
def N__law_letters_none : List Str := ["_law_bad"]
theorem sc__law_letters_none : FnScope N__law_letters_none [] (defScope st__law_letters_none) := ⟨rfl, rfl, rfl, by decide +kernel, rfl, by decide +kernel, by decide +kernel⟩
theorem fk__law_letters_none (t : Tx g) {f : Addr} {fd : FuncData} (F : FunD g.K "_law_letters_none" "_law_letters_none" (defArgs st__law_letters_none) (defBody st__law_letters_none) (defScope st__law_letters_none) [] [] f fd) : FOk g 1 f fd [] f__law_letters_none := by
  refine df_bodyD F sc__law_letters_none fun X E ⟨cdv, A, outer, s, H, hr, hX⟩ => ?_
  have cx : Ctx g E X := by rw [hX]; exact ctx_of hr
  subst hX
  exact (ss_cons (ss_set 0 sc__law_letters_none.nd (se_lst (sa_cons se_non (sa_cons se_int (sa_cons (se_str (x := [97, 115, 107])) (sa_cons (se_tup sa_nil) (sa_cons (se_tup (sa_cons (se_str (x := [97, 115, 107])) sa_nil)) (sa_cons (se_tup (sa_cons (se_str (x := [97, 115, 107])) (sa_cons (se_tup sa_nil) sa_nil))) (sa_cons (se_tup (sa_cons (se_str (x := [97, 115, 107])) (sa_cons (se_str (x := [97])) sa_nil))) (sa_cons (se_tup (sa_cons (se_str (x := [65, 115, 107])) (sa_cons (se_tup (sa_cons (se_str (x := [97])) sa_nil)) sa_nil))) sa_nil))))))))))
    (ss_cons (ss_set 0 sc__law_letters_none.nd (se_bin (o_add cx) (se_var 0) (se_lst (sa_cons (se_lst (sa_cons (se_str (x := [97, 115, 107])) (sa_cons (se_tup (sa_cons (se_str (x := [97])) sa_nil)) sa_nil))) (sa_cons (se_tup (sa_cons (se_str (x := [110, 111])) (sa_cons (se_tup (sa_cons (se_str (x := [97])) sa_nil)) (sa_cons se_int sa_nil)))) sa_nil)))))
    (ss_cons (ss_set 0 sc__law_letters_none.nd (se_bin (o_add cx) (se_var 0) (se_lst (sa_cons (se_tup (sa_cons (se_str (x := [116, 104, 105, 110, 103])) (sa_cons (se_tup (sa_cons (se_str (x := [97])) sa_nil)) sa_nil))) (sa_cons (se_tup (sa_cons (se_str (x := [116, 104, 105, 110, 103])) (sa_cons (se_tup (sa_cons (se_str (x := [97])) sa_nil)) (sa_cons se_int sa_nil)))) (sa_cons (se_tup (sa_cons (se_str (x := [116, 104, 105, 110, 103])) (sa_cons (se_tup (sa_cons (se_str (x := [97])) sa_nil)) (sa_cons se_int (sa_cons se_int sa_nil))))) sa_nil))))))
    (ss_cons (ss_set 0 sc__law_letters_none.nd (se_bin (o_add cx) (se_var 0) (se_lst (sa_cons (se_tup (sa_cons (se_str (x := [116, 104, 105, 110, 103])) (sa_cons (se_tup (sa_cons (se_str (x := [97])) sa_nil)) (sa_cons (se_neg se_int) (sa_cons se_int sa_nil))))) (sa_cons (se_tup (sa_cons se_non (sa_cons (se_tup (sa_cons (se_str (x := [97])) sa_nil)) sa_nil))) sa_nil)))))
    (ss_cons (ss_set 0 sc__law_letters_none.nd (se_bin (o_add cx) (se_var 0) (se_lst (sa_cons (se_tup (sa_cons (se_str (x := [116, 104, 105, 110, 103])) (sa_cons (se_tup (sa_cons (se_str (x := [97])) sa_nil)) (sa_cons se_bl (sa_cons se_int sa_nil))))) (sa_cons (se_tup (sa_cons (se_str (x := [116, 104, 105, 110, 103])) (sa_cons (se_tup (sa_cons (se_str (x := [97])) sa_nil)) (sa_cons se_int (sa_cons (se_neg se_int) sa_nil))))) (sa_cons (se_tup (sa_cons (se_str (x := [116, 104, 105, 110, 103])) (sa_cons (se_tup (sa_cons (se_str (x := [97])) sa_nil)) (sa_cons se_int (sa_cons se_non sa_nil))))) sa_nil))))))
    (ss_one (ss_ret (se_bin (o_add cx) (se_var 0) (se_lst (sa_cons (se_tup (sa_cons (se_str (x := [116, 104, 105, 110, 103])) (sa_cons (se_tup (sa_cons (se_str (x := [97])) sa_nil)) (sa_cons se_int (sa_cons se_int (sa_cons se_int sa_nil)))))) sa_nil))))))))))
theorem ok__law_letters_none (t : Tx g) : Df g 1 "_law_letters_none" f__law_letters_none := by
  obtain ⟨f, fd, F, hm⟩ := t.d__law_letters_none
  exact ⟨f, fd, _, fk__law_letters_none t F, hm, F.kp, F.bindsN fun _ _ _ _ _ _ us hl => match us, hl with | [], _ => rfl⟩
def N_law : List Str := ["_law_script", "_law_dice", "_law_bad", "_law_made", "_law_house", "_law_found"]
theorem sc_law : FnScope N_law ["_law_script"] (defScope st_law) := ⟨rfl, rfl, rfl, by decide +kernel, rfl, by decide +kernel, by decide +kernel⟩
theorem fk_law (t : Tx g) {f : Addr} {fd : FuncData} (F : FunD g.K "law" "law" (defArgs st_law) (defBody st_law) (defScope st_law) [] [] f fd) (tb : ∀ (oc : Value) (od : Option Addr) (osl : Array (Option Value)) (c : Addr), g.K.lookup f = some ⟨oc, od, .func fd, osl⟩ → fd.code = .ref c → ∃ P : Addr, LamX.TabB g.base g.mg c P ∧ (P, lamQ "law") ∈ g.T ∧ ∀ p ∈ g.T, p.1 = P → p.2 = lamQ "law") : FOk g 9 f fd ["_law_script"] f_law := by
  refine df_bodyT F sc_law tb fun X E ⟨cdv, A, outer, s, H, hr, hX⟩ lam => ?_
  have cx : Ctx g E X := by rw [hX]; exact ctx_of hr
  subst hX
  exact (ss_cons (ss_for own_of rfl (si_lst cx.K (se_call cx (ok__law_rounds t) (hr.mono (by decide)) rfl (sa_cons (se_var 0) (sa_cons se_int sa_nil)))) (sg_name 1 sc_law.nd) (ss_cons (ss_for own_of rfl (si_lst cx.K (se_lst (sa_cons (se_neg se_int) (sa_cons se_int (sa_cons se_bl (sa_cons se_non (sa_cons (se_str (x := [48])) sa_nil))))))) (sg_name 2 sc_law.nd) (ss_one (ss_if (st_cmp (o_ne cx) (se_told cx (told_ok t (k := 6) (by decide)) lam (hr.mono (by decide)) rfl (LamX.lamS_by (sc := defScope st_law) (by decide +kernel)) rfl (fun q cl pm cv ctv => rfl) (fun A outer s H E f c' hr cx => (se_makeK cx (ok_House___init___k t) (hr.mono (by decide)) rfl (sa_cons (se_var 2) (sa_cons se_non sa_nil)) sk_nil))) (se_tup (sa_cons (se_str (x := [114, 101, 102, 117, 115, 101, 100])) (sa_cons (se_str (x := [66, 97, 100, 78, 117, 109, 98, 101, 114])) sa_nil))) rfl) (ss_one (ss_ret se_bl)) ss_nil)))
    (ss_cons (ss_for own_of rfl (si_lst cx.K (se_lst (sa_cons se_non (sa_cons se_int (sa_cons (se_tup (sa_cons se_int sa_nil)) (sa_cons (se_lst (sa_cons se_int sa_nil)) (sa_cons (se_lst (sa_cons se_int (sa_cons se_int sa_nil))) (sa_cons (se_lst (sa_cons se_int (sa_cons se_int sa_nil))) (sa_cons (se_lst (sa_cons se_bl sa_nil)) sa_nil))))))))) (sg_name 2 sc_law.nd) (ss_one (ss_if (st_cmp (o_ne cx) (se_told cx (told_ok t (k := 6) (by decide)) lam (hr.mono (by decide)) rfl (LamX.lamS_by (sc := defScope st_law) (by decide +kernel)) rfl (fun q cl pm cv ctv => rfl) (fun A outer s H E f c' hr cx => (se_makeK cx (ok_House___init___k_room t) (hr.mono (by decide)) rfl (sa_cons se_int (sa_cons (se_var 2) sa_nil)) (sk_cons se_non sk_nil)))) (se_tup (sa_cons (se_str (x := [114, 101, 102, 117, 115, 101, 100])) (sa_cons (se_str (x := [66, 97, 100, 83, 105, 100, 101, 115])) sa_nil))) rfl) (ss_one (ss_ret se_bl)) ss_nil)))
    (ss_cons (ss_set 3 sc_law.nd (se_lst (sa_cons (se_told cx (told_ok t (k := 6) (by decide)) lam (hr.mono (by decide)) rfl (LamX.lamS_by (sc := defScope st_law) (by decide +kernel)) rfl (fun q cl pm cv ctv => rfl) (fun A outer s H E f c' hr cx => (se_makeK cx (ok_House___init___k_room_wait t) (hr.mono (by decide)) rfl (sa_cons se_int (sa_cons (se_lst (sa_cons se_int sa_nil)) sa_nil)) (sk_cons se_int (sk_cons se_int sk_nil))))) sa_nil)))
    (ss_cons (ss_expr (se_bm cx PySem.F.plainAttrs_list PySem.F.slot_list_append PySem.F.type_list_append m_append (.inl rfl) (se_var 3) (sa_cons (se_told cx (told_ok t (k := 6) (by decide)) lam (hr.mono (by decide)) rfl (LamX.lamS_by (sc := defScope st_law) (by decide +kernel)) rfl (fun q cl pm cv ctv => rfl) (fun A outer s H E f c' hr cx => (se_makeK cx (ok_House___init___k_room t) (hr.mono (by decide)) rfl (sa_cons se_int (sa_cons (se_lst (sa_cons se_int sa_nil)) sa_nil)) (sk_cons se_bl sk_nil)))) sa_nil)))
    (ss_cons (ss_expr (se_bm cx PySem.F.plainAttrs_list PySem.F.slot_list_append PySem.F.type_list_append m_append (.inl rfl) (se_var 3) (sa_cons (se_told cx (told_ok t (k := 6) (by decide)) lam (hr.mono (by decide)) rfl (LamX.lamS_by (sc := defScope st_law) (by decide +kernel)) rfl (fun q cl pm cv ctv => rfl) (fun A outer s H E f c' hr cx => (se_makeK cx (ok_House___init___k_wait t) (hr.mono (by decide)) rfl (sa_cons se_int (sa_cons (se_lst (sa_cons se_int sa_nil)) sa_nil)) (sk_cons se_int sk_nil)))) sa_nil)))
    (ss_cons (ss_set 4 sc_law.nd (se_makeK cx (ok_House___init___k_room_wait t) (hr.mono (by decide)) rfl (sa_cons se_int (sa_cons (se_lst (sa_cons se_int (sa_cons se_int sa_nil))) sa_nil)) (sk_cons (se_call cx (ok__law_roll t) (hr.mono (by decide)) rfl (sa_cons (se_var 1) (sa_cons se_int sa_nil))) (sk_cons (se_bin (o_add cx) se_int (se_call cx (ok__law_roll t) (hr.mono (by decide)) rfl (sa_cons (se_var 1) (sa_cons se_int sa_nil)))) sk_nil))))
    (ss_cons (ss_for own_of rfl (si_lst cx.K (se_lst (sa_cons (se_neg se_int) (sa_cons se_bl (sa_cons se_non (sa_cons (se_str (x := [48])) sa_nil)))))) (sg_name 2 sc_law.nd) (ss_one (ss_set 3 sc_law.nd (se_bin (o_add cx) (se_var 3) (se_call cx (ok__law_number_doors t) (hr.mono (by decide)) rfl (sa_cons (se_var 4) (sa_cons (se_var 2) sa_nil)))))))
    (ss_cons (ss_expr (se_bm cx PySem.F.plainAttrs_list PySem.F.slot_list_append PySem.F.type_list_append m_append (.inl rfl) (se_var 3) (sa_cons (se_told cx (told_ok t (k := 5) (by decide)) lam (hr.mono (by decide)) rfl (LamX.lamS_by (sc := defScope st_law) (by decide +kernel)) rfl (fun q cl pm cv ctv => rfl) (fun A outer s H E f c' hr cx => (se_meth cx (ok_House_own t) (hr.mono (by decide)) (t.nm 55) (se_var 4) (sa_cons (se_tup (sa_cons (se_str (x := [97])) sa_nil)) (sa_cons se_int (sa_cons se_non sa_nil)))))) sa_nil)))
    (ss_cons (ss_expr (se_bm cx PySem.F.plainAttrs_list PySem.F.slot_list_append PySem.F.type_list_append m_append (.inl rfl) (se_var 3) (sa_cons (se_told cx (told_ok t (k := 5) (by decide)) lam (hr.mono (by decide)) rfl (LamX.lamS_by (sc := defScope st_law) (by decide +kernel)) rfl (fun q cl pm cv ctv => rfl) (fun A outer s H E f c' hr cx => (se_meth cx (ok_House_own t) (hr.mono (by decide)) (t.nm 55) (se_var 4) (sa_cons (se_tup (sa_cons (se_str (x := [97])) sa_nil)) (sa_cons se_int (sa_cons se_int sa_nil)))))) sa_nil)))
    (ss_cons (ss_expr (se_bm cx PySem.F.plainAttrs_list PySem.F.slot_list_append PySem.F.type_list_append m_append (.inl rfl) (se_var 3) (sa_cons (se_told cx (told_ok t (k := 3) (by decide)) lam (hr.mono (by decide)) rfl (LamX.lamS_by (sc := defScope st_law) (by decide +kernel)) rfl (fun q cl pm cv ctv => rfl) (fun A outer s H E f c' hr cx => (se_meth cx (ok_House_end t) (hr.mono (by decide)) (t.nm 19) (se_var 4) (sa_cons se_int sa_nil)))) sa_nil)))
    (ss_cons (ss_if (st_cmp (o_ne cx) (se_var 3) (se_bin (o_mul cx) (se_lst (sa_cons (se_tup (sa_cons (se_str (x := [114, 101, 102, 117, 115, 101, 100])) (sa_cons (se_str (x := [66, 97, 100, 78, 117, 109, 98, 101, 114])) sa_nil))) sa_nil)) (se_callB (c_len cx) rfl (Ctx.free cx t.b_len) (by first | rfl | decide +kernel) (sa_cons (se_var 3) sa_nil))) rfl) (ss_one (ss_ret se_bl)) ss_nil)
    (ss_cons (ss_for own_of rfl (si_lst cx.K (se_lst (sa_cons se_non (sa_cons se_int (sa_cons (se_str (x := [97])) (sa_cons (se_tup sa_nil) (sa_cons (se_lst (sa_cons (se_str (x := [97])) sa_nil)) (sa_cons (se_tup (sa_cons (se_str (x := [65])) sa_nil)) (sa_cons (se_bin (o_mul cx) (se_tup (sa_cons (se_str (x := [97])) sa_nil)) se_int) sa_nil))))))))) (sg_name 2 sc_law.nd) (ss_cons (ss_set 5 sc_law.nd (se_lst (sa_cons (se_told cx (told_ok t (k := 5) (by decide)) lam (hr.mono (by decide)) rfl (LamX.lamS_by (sc := defScope st_law) (by decide +kernel)) rfl (fun q cl pm cv ctv => rfl) (fun A outer s H E f c' hr cx => (se_meth cx (ok_House_ask t) (hr.mono (by decide)) (t.nm 8) (se_var 4) (sa_cons (se_var 2) (sa_cons se_non sa_nil))))) sa_nil)))
    (ss_cons (ss_expr (se_bm cx PySem.F.plainAttrs_list PySem.F.slot_list_append PySem.F.type_list_append m_append (.inl rfl) (se_var 5) (sa_cons (se_told cx (told_ok t (k := 5) (by decide)) lam (hr.mono (by decide)) rfl (LamX.lamS_by (sc := defScope st_law) (by decide +kernel)) rfl (fun q cl pm cv ctv => rfl) (fun A outer s H E f c' hr cx => (se_meth cx (ok_House_own t) (hr.mono (by decide)) (t.nm 55) (se_var 4) (sa_cons (se_var 2) (sa_cons se_non (sa_cons se_non sa_nil)))))) sa_nil)))
    (ss_cons (ss_expr (se_bm cx PySem.F.plainAttrs_list PySem.F.slot_list_append PySem.F.type_list_append m_append (.inl rfl) (se_var 5) (sa_cons (se_told cx (told_ok t (k := 5) (by decide)) lam (hr.mono (by decide)) rfl (LamX.lamS_by (sc := defScope st_law) (by decide +kernel)) rfl (fun q cl pm cv ctv => rfl) (fun A outer s H E f c' hr cx => (se_meth cx (ok_House_disown t) (hr.mono (by decide)) (t.nm 17) (se_var 4) (sa_cons (se_var 2) sa_nil)))) sa_nil)))
    (ss_one (ss_if (st_cmp (o_ne cx) (se_var 5) (se_bin (o_mul cx) (se_lst (sa_cons (se_tup (sa_cons (se_str (x := [114, 101, 102, 117, 115, 101, 100])) (sa_cons (se_str (x := [66, 97, 100, 78, 97, 109, 101])) sa_nil))) sa_nil)) se_int) rfl) (ss_one (ss_ret se_bl)) ss_nil))))))
    (ss_cons (ss_for own_of rfl (si_lst cx.K (se_lst (sa_cons (se_neg se_int) (sa_cons se_int (sa_cons se_int (sa_cons se_bl (sa_cons se_non (sa_cons (se_str (x := [49])) sa_nil)))))))) (sg_name 2 sc_law.nd) (ss_one (ss_if (st_cmp (o_ne cx) (se_told cx (told_ok t (k := 5) (by decide)) lam (hr.mono (by decide)) rfl (LamX.lamS_by (sc := defScope st_law) (by decide +kernel)) rfl (fun q cl pm cv ctv => rfl) (fun A outer s H E f c' hr cx => (se_meth cx (ok_House_come t) (hr.mono (by decide)) (t.nm 13) (se_var 4) (sa_cons (se_var 2) (sa_cons se_non (sa_cons se_non sa_nil)))))) (se_tup (sa_cons (se_str (x := [114, 101, 102, 117, 115, 101, 100])) (sa_cons (se_str (x := [78, 111, 87, 97, 121])) sa_nil))) rfl) (ss_one (ss_ret se_bl)) ss_nil)))
    (ss_cons (ss_for own_of rfl (si_lst cx.K (se_call0 cx (ok__law_letters_none t) (hr.mono (by decide)) rfl)) (sg_name 2 sc_law.nd) (ss_cons (ss_if (st_cmp (o_ne cx) (se_told cx (told_ok t (k := 5) (by decide)) lam (hr.mono (by decide)) rfl (LamX.lamS_by (sc := defScope st_law) (by decide +kernel)) rfl (fun q cl pm cv ctv => rfl) (fun A outer s H E f c' hr cx => (se_meth cx (ok_House_come t) (hr.mono (by decide)) (t.nm 13) (se_var 4) (sa_cons se_int (sa_cons (se_var 2) (sa_cons se_non sa_nil)))))) (se_tup (sa_cons (se_str (x := [114, 101, 102, 117, 115, 101, 100])) (sa_cons (se_str (x := [66, 97, 100, 76, 101, 116, 116, 101, 114])) sa_nil))) rfl) (ss_one (ss_ret se_bl)) ss_nil)
    (ss_one (ss_if (st_notB (se_call cx (ok_is_letter t) (hr.mono (by decide)) rfl (sa_cons (se_var 2) sa_nil))) (ss_one (ss_ret se_bl)) ss_nil))))
    (ss_cons (ss_if (st_notB (se_call cx (ok_is_letter t) (hr.mono (by decide)) rfl (sa_cons (se_tup (sa_cons (se_str (x := [116, 104, 105, 110, 103])) (sa_cons (se_tup (sa_cons (se_str (x := [97])) sa_nil)) (sa_cons se_int (sa_cons (se_bin o_pow se_int se_int) sa_nil))))) sa_nil))) (ss_one (ss_ret se_bl)) ss_nil)
    (ss_cons (ss_if (st_notB (se_call cx (ok_is_letter t) (hr.mono (by decide)) rfl (sa_cons (se_tup (sa_cons (se_str (x := [110, 111])) (sa_cons (se_tup (sa_cons (se_str (x := [97])) sa_nil)) sa_nil))) sa_nil))) (ss_one (ss_ret se_bl)) ss_nil)
    (ss_one (ss_if (st_cmp (o_ne cx) (se_lst (sa_cons (se_meth0 cx (ok_House_waits t) (hr.mono (by decide)) (t.nm 82) (se_var 4)) (sa_cons (se_meth0 cx (ok_House_keeps t) (hr.mono (by decide)) (t.nm 34) (se_var 4)) (sa_cons (se_meth0 cx (ok_House_owns t) (hr.mono (by decide)) (t.nm 56) (se_var 4)) (sa_cons (se_meth0 cx (ok_House_table t) (hr.mono (by decide)) (t.nm 73) (se_var 4)) sa_nil))))) (se_bin (o_mul cx) (se_lst (sa_cons (se_lst sa_nil) sa_nil)) se_int) rfl) (ss_one (ss_ret se_bl)) ss_nil)))))))))))))))))))
    (ss_one (ss_ret se_bl)))
theorem ok_law (t : Tx g) : Df g 9 "law" f_law := by
  obtain ⟨f, fd, F, hm, tb⟩ := t.d_law
  exact ⟨f, fd, _, fk_law t F tb, hm, F.kp, F.bindsN fun _ _ _ _ _ _ us hl => match us, hl with | [_], _ => rfl⟩
end
end MP

namespace MPH
open PySem PySem.Spec PyProof.Rows L2 MP
def dfs_0 : He.DefD := ⟨("is_number", none), "is_number", "is_number", defArgs st_is_number, defBody st_is_number, defScope st_is_number, [.non], []⟩
def dfs_1 : He.DefD := ⟨("need_number", none), "need_number", "need_number", defArgs st_need_number, defBody st_need_number, defScope st_need_number, [.non], []⟩
def dfs_2 : He.DefD := ⟨("Table", some "__len__"), "__len__", "Table.__len__", defArgs st_Table___len__, defBody st_Table___len__, defScope st_Table___len__, [], []⟩
def dfs_3 : He.DefD := ⟨("Keeps", some "__len__"), "__len__", "Keeps.__len__", defArgs st_Keeps___len__, defBody st_Keeps___len__, defScope st_Keeps___len__, [], []⟩
def dfs_4 : He.DefD := ⟨("is_part", none), "is_part", "is_part", defArgs st_is_part, defBody st_is_part, defScope st_is_part, [], []⟩
def dfs_5 : He.DefD := ⟨("is_beginning", none), "is_beginning", "is_beginning", defArgs st_is_beginning, defBody st_is_beginning, defScope st_is_beginning, [], []⟩
def dfs_6 : He.DefD := ⟨("is_name", none), "is_name", "is_name", defArgs st_is_name, defBody st_is_name, defScope st_is_name, [], []⟩
def dfs_7 : He.DefD := ⟨("need_name", none), "need_name", "need_name", defArgs st_need_name, defBody st_need_name, defScope st_need_name, [], []⟩
def dfs_8 : He.DefD := ⟨("is_side", none), "is_side", "is_side", defArgs st_is_side, defBody st_is_side, defScope st_is_side, [], []⟩
def dfs_9 : He.DefD := ⟨("need_sides", none), "need_sides", "need_sides", defArgs st_need_sides, defBody st_need_sides, defScope st_need_sides, [], []⟩
def dfs_10 : He.DefD := ⟨("Keeps", some "__init__"), "__init__", "Keeps.__init__", defArgs st_Keeps___init__, defBody st_Keeps___init__, defScope st_Keeps___init__, [], []⟩
def dfs_11 : He.DefD := ⟨("Keeps", some "rows"), "rows", "Keeps.rows", defArgs st_Keeps_rows, defBody st_Keeps_rows, defScope st_Keeps_rows, [], []⟩
def dfs_12 : He.DefD := ⟨("Table", some "__init__"), "__init__", "Table.__init__", defArgs st_Table___init__, defBody st_Table___init__, defScope st_Table___init__, [], []⟩
def dfs_13 : He.DefD := ⟨("Table", some "rows"), "rows", "Table.rows", defArgs st_Table_rows, defBody st_Table_rows, defScope st_Table_rows, [], []⟩
def dfs_14 : He.DefD := ⟨("is_letter", none), "is_letter", "is_letter", defArgs st_is_letter, defBody st_is_letter, defScope st_is_letter, [], []⟩
def dfs_15 : He.DefD := ⟨("House", some "__init__"), "__init__", "House.__init__", defArgs st_House___init__, defBody st_House___init__, defScope st_House___init__, [], [("room", .int 4), ("wait", .int 6)]⟩
def dfs_16 : He.DefD := ⟨("House", some "ask"), "ask", "House.ask", defArgs st_House_ask, defBody st_House_ask, defScope st_House_ask, [], []⟩
def dfs_17 : He.DefD := ⟨("House", some "come"), "come", "House.come", defArgs st_House_come, defBody st_House_come, defScope st_House_come, [], []⟩
def dfs_18 : He.DefD := ⟨("House", some "tick"), "tick", "House.tick", defArgs st_House_tick, defBody st_House_tick, defScope st_House_tick, [], []⟩
def dfs_19 : He.DefD := ⟨("House", some "own"), "own", "House.own", defArgs st_House_own, defBody st_House_own, defScope st_House_own, [], []⟩
def dfs_20 : He.DefD := ⟨("House", some "disown"), "disown", "House.disown", defArgs st_House_disown, defBody st_House_disown, defScope st_House_disown, [], []⟩
def dfs_21 : He.DefD := ⟨("House", some "end"), "end", "House.end", defArgs st_House_end, defBody st_House_end, defScope st_House_end, [], []⟩
def dfs_22 : He.DefD := ⟨("House", some "waits"), "waits", "House.waits", defArgs st_House_waits, defBody st_House_waits, defScope st_House_waits, [], []⟩
def dfs_23 : He.DefD := ⟨("House", some "keeps"), "keeps", "House.keeps", defArgs st_House_keeps, defBody st_House_keeps, defScope st_House_keeps, [], []⟩
def dfs_24 : He.DefD := ⟨("House", some "owns"), "owns", "House.owns", defArgs st_House_owns, defBody st_House_owns, defScope st_House_owns, [], []⟩
def dfs_25 : He.DefD := ⟨("House", some "table"), "table", "House.table", defArgs st_House_table, defBody st_House_table, defScope st_House_table, [], []⟩
def dfs_26 : He.DefD := ⟨("_law_cell", none), "_law_cell", "_law_cell", defArgs st__law_cell, defBody st__law_cell, defScope st__law_cell, [], []⟩
def dfs_27 : He.DefD := ⟨("_law_drawn", none), "_law_drawn", "_law_drawn", defArgs st__law_drawn, defBody st__law_drawn, defScope st__law_drawn, [], []⟩
def dfs_28 : He.DefD := ⟨("_law_roll", none), "_law_roll", "_law_roll", defArgs st__law_roll, defBody st__law_roll, defScope st__law_roll, [], []⟩
def dfs_29 : He.DefD := ⟨("_law_rounds", none), "_law_rounds", "_law_rounds", defArgs st__law_rounds, defBody st__law_rounds, defScope st__law_rounds, [], []⟩
def dfs_30 : He.DefD := ⟨("_law_word", none), "_law_word", "_law_word", defArgs st__law_word, defBody st__law_word, defScope st__law_word, [], []⟩
def dfs_31 : He.DefD := ⟨("_law_told", none), "_law_told", "_law_told", defArgs st__law_told, defBody st__law_told, defScope st__law_told, [], []⟩
def dfs_32 : He.DefD := ⟨("_law_number_doors", none), "_law_number_doors", "_law_number_doors", defArgs st__law_number_doors, defBody st__law_number_doors, defScope st__law_number_doors, [], []⟩
def dfs_33 : He.DefD := ⟨("_law_letters_none", none), "_law_letters_none", "_law_letters_none", defArgs st__law_letters_none, defBody st__law_letters_none, defScope st__law_letters_none, [], []⟩
def dfs_34 : He.DefD := ⟨("law", none), "law", "law", defArgs st_law, defBody st_law, defScope st_law, [], []⟩
def dfs : List He.DefD := ([dfs_0, dfs_1, dfs_2, dfs_3, dfs_4, dfs_5, dfs_6, dfs_7, dfs_8, dfs_9, dfs_10, dfs_11, dfs_12, dfs_13, dfs_14, dfs_15, dfs_16, dfs_17, dfs_18, dfs_19, dfs_20, dfs_21, dfs_22, dfs_23, dfs_24, dfs_25, dfs_26, dfs_27, dfs_28, dfs_29, dfs_30, dfs_31, dfs_32, dfs_33, dfs_34] : List He.DefD)
def fas : List He.Fa := ([.free "isinstance", .free "int", .free "bool", .exc "BadNumber", .glo "BadNumber", .free "len", .cls "Table", .noat "Table" "lines", .cls "Keeps", .noat "Keeps" "lines", .free "str", .free "all", .str "SIGNS" "abcdefghijklmnopqrstuvwxyz0123456789", .free "tuple", .int "MOST_PARTS" 5, .exc "BadName", .glo "BadName", .int "HOUSES" 8, .free "list", .free "set", .exc "BadSides", .glo "BadSides", .noat "Keeps" "room", .free "sorted", .int "MOST_VALUE" 999, .cls "House", .noat "House" "me", .noat "House" "near", .noat "House" "shelf", .noat "House" "most", .noat "House" "roads", .noat "House" "things", .noat "House" "pending", .noat "House" "fresh", .noat "House" "ends", .exc "NoWay", .glo "NoWay", .exc "BadLetter", .glo "BadLetter", .int "MOST_LIFE" 99] : List He.Fa) ++ ([.cls "Wait", .noat "Wait" "since", .noat "Wait" "who", .noat "Wait" "asked", .noat "Wait" "noes", .free "range", .free "max", .free "min", .glo "NoHouse", .glo "NoLetter", .glo "Gone", .glo "BadStory", .free "sum", .free "ValueError", .glo "WantError", .glo "is_number", .glo "need_number", .meth "Table" "__len__", .meth "Keeps" "__len__", .glo "is_part", .glo "is_beginning", .glo "is_name", .glo "need_name", .glo "is_side", .glo "need_sides", .glo "Keeps", .mkr "Keeps", .meth "Keeps" "rows", .glo "Table", .mkr "Table", .meth "Table" "rows", .glo "is_letter", .glo "House", .mkr "House", .meth "House" "ask", .meth "House" "come", .meth "House" "tick", .meth "House" "own", .meth "House" "disown", .meth "House" "end"] : List He.Fa) ++ ([.meth "House" "waits", .meth "House" "keeps", .meth "House" "owns", .meth "House" "table", .glo "_law_cell", .glo "_law_drawn", .glo "_law_roll", .glo "_law_rounds", .glo "_law_word", .glo "_law_told", .glo "_law_number_doors", .glo "_law_letters_none", .glo "law"] : List He.Fa)
def loose : List PySem.Str := ([Str.ofString "_wall", Str.ofString "WantError", Str.ofString "Gone", Str.ofString "BadName", Str.ofString "BadSides", Str.ofString "BadNumber", Str.ofString "BadLetter", Str.ofString "NoHouse", Str.ofString "NoWay", Str.ofString "NoLetter", Str.ofString "BadStory", Str.ofString "SIGNS", Str.ofString "MOST_PARTS", Str.ofString "HOUSES", Str.ofString "is_number", Str.ofString "need_number", Str.ofString "is_part", Str.ofString "is_beginning", Str.ofString "is_name", Str.ofString "need_name", Str.ofString "is_side", Str.ofString "need_sides", Str.ofString "MOST_VALUE", Str.ofString "Keeps", Str.ofString "Table", Str.ofString "MOST_LIFE", Str.ofString "is_letter", Str.ofString "Wait", Str.ofString "House", Str.ofString "_law_cell", Str.ofString "_law_drawn", Str.ofString "_law_roll", Str.ofString "_law_rounds", Str.ofString "_law_word", Str.ofString "_law_told", Str.ofString "_law_number_doors", Str.ofString "_law_letters_none"] : List Str)
def tfs : List He.Defn := [("_law_number_doors", none), ("law", none)]
abbrev R : PySem.W.OpenRow := PySem.W.OpenLaw.row PySem.Challenge.rw_namewants_k43_houses_refused
abbrev hk : PySem.W.Hook := He.hookX 5 fas dfs [] tfs (exN 9 tfs)
def ob (s : PySem.W.SharedT) : He.AlX := He.obsX 5 fas dfs [] tfs (exN 9 tfs) (HandSHeadRun.getT s)
theorem ob_eq (s : PySem.W.SharedT) : ob s = hk.obs s.abs := He.obsX_eq (HandSHeadRun.getT_eq s)
theorem run (w : World) : HandSHeadRun.RunEq R (PySem.W.view R.prog [43]) hk ob 20000 loose w := by
  intro os
  kernel_rfl
def mkG (P : Program) (w : World) (K : PySem.W.Frag) (mg : Str → Option Value) (base : Heap) : G := ⟨P, w, K, mg, base, fun i => He.ga K (clsN.getD i "object"), FN, FN_inj, fun i => excAt K i, tfs.map fun p => ((He.cT K p).2, lamQ p.1)⟩
theorem tab_at {K : PySem.W.Frag} {mg : Str → Option Value} {base : Heap} {q : Str} {oc : Value} {od : Option Addr} {fd : FuncData} {osl : Array (Option Value)} {c : Addr} (lk : K.lookup (He.fAd K (q, none)) = some ⟨oc, od, .func fd, osl⟩) (e : fd.code = .ref c) (htb : ∀ p ∈ tfs.map (He.cT K), LamX.TabB base mg p.1 p.2) (hn : (tfs.map fun p => (He.cT K p).2).Nodup) (hq : (q, none) ∈ tfs) :
    ∃ P : Addr, LamX.TabB base mg c P ∧ (P, lamQ q) ∈ (tfs.map fun p => ((He.cT K p).2, lamQ p.1)) ∧ ∀ p ∈ (tfs.map fun p => ((He.cT K p).2, lamQ p.1)), p.1 = P → p.2 = lamQ q := by
  have ec := He.codeOf_eq (p := (q, none)) lk e
  subst ec
  refine ⟨(He.cT K (q, none)).2, htb _ (List.mem_map.mpr ⟨_, hq, rfl⟩), List.mem_map.mpr ⟨_, hq, rfl⟩, fun p hp e => ?_⟩
  obtain ⟨p1, h1, rfl⟩ := List.mem_map.mp hp
  have := MP.nodup_map_inj hn h1 hq e
  rw [this]
theorem facts {P : Program} {w : World} {K : PySem.W.Frag} {h : Heap} {mg : Str → Option Value} {base : Heap} (X : K.In h) (Gn : h.Ns mainGlobals mg) (cX : He.SaysX fas dfs [] tfs (exN 9 tfs) w h K) (htb : ∀ p ∈ tfs.map (He.cT K), LamX.TabB base mg p.1 p.2) : Tx (mkG P w K mg base) :=
  have c := cX.t.d
  ⟨rfl,
   He.free_ok X Gn (c.fact 0 (f := .free "isinstance") rfl),
   He.free_ok X Gn (c.fact 1 (f := .free "int") rfl),
   He.free_ok X Gn (c.fact 2 (f := .free "bool") rfl),
   ⟨He.glo_ok X Gn (c.fact 4 (f := .glo "BadNumber") rfl), (He.exc_ok (c.fact 3 (f := .exc "BadNumber") rfl)).1, (He.exc_ok (c.fact 3 (f := .exc "BadNumber") rfl)).2.1, (He.exc_ok (c.fact 3 (f := .exc "BadNumber") rfl)).2.2.1, (He.exc_ok (c.fact 3 (f := .exc "BadNumber") rfl)).2.2.2⟩,
   He.free_ok X Gn (c.fact 5 (f := .free "len") rfl),
   He.cls_ok (c.fact 6 (f := .cls "Table") rfl),
   He.noat_ok (c.fact 7 (f := .noat "Table" "lines") rfl),
   He.cls_ok (c.fact 8 (f := .cls "Keeps") rfl),
   He.noat_ok (c.fact 9 (f := .noat "Keeps" "lines") rfl),
   He.free_ok X Gn (c.fact 10 (f := .free "str") rfl),
   He.free_ok X Gn (c.fact 11 (f := .free "all") rfl),
   He.str_ok X Gn (c.fact 12 (f := .str "SIGNS" "abcdefghijklmnopqrstuvwxyz0123456789") rfl),
   He.free_ok X Gn (c.fact 13 (f := .free "tuple") rfl),
   He.int_ok X Gn (c.fact 14 (f := .int "MOST_PARTS" 5) rfl),
   ⟨He.glo_ok X Gn (c.fact 16 (f := .glo "BadName") rfl), (He.exc_ok (c.fact 15 (f := .exc "BadName") rfl)).1, (He.exc_ok (c.fact 15 (f := .exc "BadName") rfl)).2.1, (He.exc_ok (c.fact 15 (f := .exc "BadName") rfl)).2.2.1, (He.exc_ok (c.fact 15 (f := .exc "BadName") rfl)).2.2.2⟩,
   He.int_ok X Gn (c.fact 17 (f := .int "HOUSES" 8) rfl),
   He.free_ok X Gn (c.fact 18 (f := .free "list") rfl),
   He.free_ok X Gn (c.fact 19 (f := .free "set") rfl),
   ⟨He.glo_ok X Gn (c.fact 21 (f := .glo "BadSides") rfl), (He.exc_ok (c.fact 20 (f := .exc "BadSides") rfl)).1, (He.exc_ok (c.fact 20 (f := .exc "BadSides") rfl)).2.1, (He.exc_ok (c.fact 20 (f := .exc "BadSides") rfl)).2.2.1, (He.exc_ok (c.fact 20 (f := .exc "BadSides") rfl)).2.2.2⟩,
   He.noat_ok (c.fact 22 (f := .noat "Keeps" "room") rfl),
   He.free_ok X Gn (c.fact 23 (f := .free "sorted") rfl),
   He.int_ok X Gn (c.fact 24 (f := .int "MOST_VALUE" 999) rfl),
   He.cls_ok (c.fact 25 (f := .cls "House") rfl),
   He.noat_ok (c.fact 26 (f := .noat "House" "me") rfl),
   He.noat_ok (c.fact 27 (f := .noat "House" "near") rfl),
   He.noat_ok (c.fact 28 (f := .noat "House" "shelf") rfl),
   He.noat_ok (c.fact 29 (f := .noat "House" "most") rfl),
   He.noat_ok (c.fact 30 (f := .noat "House" "roads") rfl),
   He.noat_ok (c.fact 31 (f := .noat "House" "things") rfl),
   He.noat_ok (c.fact 32 (f := .noat "House" "pending") rfl),
   He.noat_ok (c.fact 33 (f := .noat "House" "fresh") rfl),
   He.noat_ok (c.fact 34 (f := .noat "House" "ends") rfl),
   ⟨He.glo_ok X Gn (c.fact 36 (f := .glo "NoWay") rfl), (He.exc_ok (c.fact 35 (f := .exc "NoWay") rfl)).1, (He.exc_ok (c.fact 35 (f := .exc "NoWay") rfl)).2.1, (He.exc_ok (c.fact 35 (f := .exc "NoWay") rfl)).2.2.1, (He.exc_ok (c.fact 35 (f := .exc "NoWay") rfl)).2.2.2⟩,
   ⟨He.glo_ok X Gn (c.fact 38 (f := .glo "BadLetter") rfl), (He.exc_ok (c.fact 37 (f := .exc "BadLetter") rfl)).1, (He.exc_ok (c.fact 37 (f := .exc "BadLetter") rfl)).2.1, (He.exc_ok (c.fact 37 (f := .exc "BadLetter") rfl)).2.2.1, (He.exc_ok (c.fact 37 (f := .exc "BadLetter") rfl)).2.2.2⟩,
   He.int_ok X Gn (c.fact 39 (f := .int "MOST_LIFE" 99) rfl),
   He.cls_ok (c.fact 40 (f := .cls "Wait") rfl),
   He.noat_ok (c.fact 41 (f := .noat "Wait" "since") rfl),
   He.noat_ok (c.fact 42 (f := .noat "Wait" "who") rfl),
   He.noat_ok (c.fact 43 (f := .noat "Wait" "asked") rfl),
   He.noat_ok (c.fact 44 (f := .noat "Wait" "noes") rfl),
   He.free_ok X Gn (c.fact 45 (f := .free "range") rfl),
   He.free_ok X Gn (c.fact 46 (f := .free "max") rfl),
   He.free_ok X Gn (c.fact 47 (f := .free "min") rfl),
   He.glo_ok X Gn (c.fact 16 (f := .glo "BadName") rfl),
   He.glo_ok X Gn (c.fact 21 (f := .glo "BadSides") rfl),
   He.glo_ok X Gn (c.fact 4 (f := .glo "BadNumber") rfl),
   He.glo_ok X Gn (c.fact 38 (f := .glo "BadLetter") rfl),
   He.glo_ok X Gn (c.fact 48 (f := .glo "NoHouse") rfl),
   He.glo_ok X Gn (c.fact 36 (f := .glo "NoWay") rfl),
   He.glo_ok X Gn (c.fact 49 (f := .glo "NoLetter") rfl),
   He.glo_ok X Gn (c.fact 50 (f := .glo "Gone") rfl),
   He.glo_ok X Gn (c.fact 51 (f := .glo "BadStory") rfl),
   He.free_ok X Gn (c.fact 52 (f := .free "sum") rfl),
   He.free_ok X Gn (c.fact 53 (f := .free "ValueError") rfl),
   He.glo_ok X Gn (c.fact 54 (f := .glo "WantError") rfl),
   (let ⟨fd, F⟩ := c.def_ 0 (d := dfs_0) rfl; ⟨_, fd, F, He.glo_ok X Gn (c.fact 55 (f := .glo "is_number") rfl)⟩),
   (let ⟨fd, F⟩ := c.def_ 1 (d := dfs_1) rfl; ⟨_, fd, F, He.glo_ok X Gn (c.fact 56 (f := .glo "need_number") rfl)⟩),
   (let ⟨fd, F⟩ := c.def_ 2 (d := dfs_2) rfl; ⟨_, fd, F, He.cls_ok (c.fact 6 (f := .cls "Table") rfl), He.meth_ok (c.fact 57 (f := .meth "Table" "__len__") rfl)⟩),
   (let ⟨fd, F⟩ := c.def_ 3 (d := dfs_3) rfl; ⟨_, fd, F, He.cls_ok (c.fact 8 (f := .cls "Keeps") rfl), He.meth_ok (c.fact 58 (f := .meth "Keeps" "__len__") rfl)⟩),
   (let ⟨fd, F⟩ := c.def_ 4 (d := dfs_4) rfl; ⟨_, fd, F, He.glo_ok X Gn (c.fact 59 (f := .glo "is_part") rfl)⟩),
   (let ⟨fd, F⟩ := c.def_ 5 (d := dfs_5) rfl; ⟨_, fd, F, He.glo_ok X Gn (c.fact 60 (f := .glo "is_beginning") rfl)⟩),
   (let ⟨fd, F⟩ := c.def_ 6 (d := dfs_6) rfl; ⟨_, fd, F, He.glo_ok X Gn (c.fact 61 (f := .glo "is_name") rfl)⟩),
   (let ⟨fd, F⟩ := c.def_ 7 (d := dfs_7) rfl; ⟨_, fd, F, He.glo_ok X Gn (c.fact 62 (f := .glo "need_name") rfl)⟩),
   (let ⟨fd, F⟩ := c.def_ 8 (d := dfs_8) rfl; ⟨_, fd, F, He.glo_ok X Gn (c.fact 63 (f := .glo "is_side") rfl)⟩),
   (let ⟨fd, F⟩ := c.def_ 9 (d := dfs_9) rfl; ⟨_, fd, F, He.glo_ok X Gn (c.fact 64 (f := .glo "need_sides") rfl)⟩),
   (let ⟨fd, F⟩ := c.def_ 10 (d := dfs_10) rfl; ⟨_, fd, F, He.glo_ok X Gn (c.fact 65 (f := .glo "Keeps") rfl), He.mkr_ok (c.fact 66 (f := .mkr "Keeps") rfl)⟩),
   (let ⟨fd, F⟩ := c.def_ 11 (d := dfs_11) rfl; ⟨_, fd, F, He.cls_ok (c.fact 8 (f := .cls "Keeps") rfl), He.meth_ok (c.fact 67 (f := .meth "Keeps" "rows") rfl)⟩),
   (let ⟨fd, F⟩ := c.def_ 12 (d := dfs_12) rfl; ⟨_, fd, F, He.glo_ok X Gn (c.fact 68 (f := .glo "Table") rfl), He.mkr_ok (c.fact 69 (f := .mkr "Table") rfl)⟩),
   (let ⟨fd, F⟩ := c.def_ 13 (d := dfs_13) rfl; ⟨_, fd, F, He.cls_ok (c.fact 6 (f := .cls "Table") rfl), He.meth_ok (c.fact 70 (f := .meth "Table" "rows") rfl)⟩),
   (let ⟨fd, F⟩ := c.def_ 14 (d := dfs_14) rfl; ⟨_, fd, F, He.glo_ok X Gn (c.fact 71 (f := .glo "is_letter") rfl)⟩),
   (let ⟨fd, F⟩ := c.def_ 15 (d := dfs_15) rfl; ⟨_, fd, F, He.glo_ok X Gn (c.fact 72 (f := .glo "House") rfl), He.mkr_ok (c.fact 73 (f := .mkr "House") rfl)⟩),
   (let ⟨fd, F⟩ := c.def_ 16 (d := dfs_16) rfl; ⟨_, fd, F, He.cls_ok (c.fact 25 (f := .cls "House") rfl), He.meth_ok (c.fact 74 (f := .meth "House" "ask") rfl)⟩),
   (let ⟨fd, F⟩ := c.def_ 17 (d := dfs_17) rfl; ⟨_, fd, F, He.cls_ok (c.fact 25 (f := .cls "House") rfl), He.meth_ok (c.fact 75 (f := .meth "House" "come") rfl)⟩),
   (let ⟨fd, F⟩ := c.def_ 18 (d := dfs_18) rfl; ⟨_, fd, F, He.cls_ok (c.fact 25 (f := .cls "House") rfl), He.meth_ok (c.fact 76 (f := .meth "House" "tick") rfl)⟩),
   (let ⟨fd, F⟩ := c.def_ 19 (d := dfs_19) rfl; ⟨_, fd, F, He.cls_ok (c.fact 25 (f := .cls "House") rfl), He.meth_ok (c.fact 77 (f := .meth "House" "own") rfl)⟩),
   (let ⟨fd, F⟩ := c.def_ 20 (d := dfs_20) rfl; ⟨_, fd, F, He.cls_ok (c.fact 25 (f := .cls "House") rfl), He.meth_ok (c.fact 78 (f := .meth "House" "disown") rfl)⟩),
   (let ⟨fd, F⟩ := c.def_ 21 (d := dfs_21) rfl; ⟨_, fd, F, He.cls_ok (c.fact 25 (f := .cls "House") rfl), He.meth_ok (c.fact 79 (f := .meth "House" "end") rfl)⟩),
   (let ⟨fd, F⟩ := c.def_ 22 (d := dfs_22) rfl; ⟨_, fd, F, He.cls_ok (c.fact 25 (f := .cls "House") rfl), He.meth_ok (c.fact 80 (f := .meth "House" "waits") rfl)⟩),
   (let ⟨fd, F⟩ := c.def_ 23 (d := dfs_23) rfl; ⟨_, fd, F, He.cls_ok (c.fact 25 (f := .cls "House") rfl), He.meth_ok (c.fact 81 (f := .meth "House" "keeps") rfl)⟩),
   (let ⟨fd, F⟩ := c.def_ 24 (d := dfs_24) rfl; ⟨_, fd, F, He.cls_ok (c.fact 25 (f := .cls "House") rfl), He.meth_ok (c.fact 82 (f := .meth "House" "owns") rfl)⟩),
   (let ⟨fd, F⟩ := c.def_ 25 (d := dfs_25) rfl; ⟨_, fd, F, He.cls_ok (c.fact 25 (f := .cls "House") rfl), He.meth_ok (c.fact 83 (f := .meth "House" "table") rfl)⟩),
   (let ⟨fd, F⟩ := c.def_ 26 (d := dfs_26) rfl; ⟨_, fd, F, He.glo_ok X Gn (c.fact 84 (f := .glo "_law_cell") rfl)⟩),
   (let ⟨fd, F⟩ := c.def_ 27 (d := dfs_27) rfl; ⟨_, fd, F, He.glo_ok X Gn (c.fact 85 (f := .glo "_law_drawn") rfl)⟩),
   (let ⟨fd, F⟩ := c.def_ 28 (d := dfs_28) rfl; ⟨_, fd, F, He.glo_ok X Gn (c.fact 86 (f := .glo "_law_roll") rfl)⟩),
   (let ⟨fd, F⟩ := c.def_ 29 (d := dfs_29) rfl; ⟨_, fd, F, He.glo_ok X Gn (c.fact 87 (f := .glo "_law_rounds") rfl)⟩),
   (let ⟨fd, F⟩ := c.def_ 30 (d := dfs_30) rfl; ⟨_, fd, F, He.glo_ok X Gn (c.fact 88 (f := .glo "_law_word") rfl)⟩),
   (let ⟨fd, F⟩ := c.def_ 31 (d := dfs_31) rfl; ⟨_, fd, F, He.glo_ok X Gn (c.fact 89 (f := .glo "_law_told") rfl)⟩),
   (let ⟨fd, F⟩ := c.def_ 32 (d := dfs_32) rfl; ⟨_, fd, F, He.glo_ok X Gn (c.fact 90 (f := .glo "_law_number_doors") rfl), fun oc od osl cc lk e => tab_at (q := "_law_number_doors") lk e htb (exN_nodup cX.more) (by decide)⟩),
   (let ⟨fd, F⟩ := c.def_ 33 (d := dfs_33) rfl; ⟨_, fd, F, He.glo_ok X Gn (c.fact 91 (f := .glo "_law_letters_none") rfl)⟩),
   (let ⟨fd, F⟩ := c.def_ 34 (d := dfs_34) rfl; ⟨_, fd, F, He.glo_ok X Gn (c.fact 92 (f := .glo "law") rfl), fun oc od osl cc lk e => tab_at (q := "law") lk e htb (exN_nodup cX.more) (by decide)⟩),
   fun _ hc => (exB_ok (exN_ok cX.more) hc).1,
   fun _ hc j hj => (exB_ok (exN_ok cX.more) hc).2.1 j hj,
   fun _ hc => (exB_ok (exN_ok cX.more) hc).2.2.1,
   fun _ hc => (exB_ok (exN_ok cX.more) hc).2.2.2⟩
theorem says {P : Program} {w : World} {K : PySem.W.Frag} {h : Heap} {mg : Str → Option Value} {f : Addr} (X : K.In h) (Gn : h.Ns mainGlobals mg) (hfa : mg ("law" : Str) = some (.ref f)) (cX : He.SaysX fas dfs [] tfs (exN 9 tfs) w h K) :
    ∃ fd : FuncData, (∀ (s : Shared) (v : Value), BindsTo s fd ⟨[v], []⟩ [("_law_script", v)]) ∧ ∀ base : Heap, K.In base → base.Ns mainGlobals mg → (∀ p ∈ tfs.map (He.cT K), LamX.TabB base mg p.1 p.2) → FnOk P w K mg base (L2N.CX P w) 9 f fd ["_law_script"] (spL K (tfs.map fun p => ((He.cT K p).2, lamQ p.1))) := by
  have c := cX.t.d
  obtain ⟨fd, F⟩ := c.def_ 34 (d := dfs_34) rfl
  have e := hfa.symm.trans (He.glo_ok X Gn (c.fact 92 (f := .glo "law") rfl))
  cases e
  have b := FunD.bindsA (ps := ["_law_script"]) F fun _ _ _ _ _ _ us hl => match us, hl with | [_], _ => rfl
  exact ⟨fd, fun s v => b s [v] rfl, fun base _ _ htb => FOk.law (g := mkG P w K mg base) (fk_law (g := mkG P w K mg base) (facts X Gn cX htb) F fun oc od osl cc lk e => tab_at (q := "law") lk e htb (exN_nodup cX.more) (by decide)) law_k43⟩
end MPH
open PySem PySem.W PySem.Calls PyProof.Rows
theorem PySem.Challenge.cw_namewants_k43_houses_refused_holds : PySem.Challenge.rw_namewants_k43_houses_refused.Holds := by
  w_on; o_law
  refine HandSHeadRun.head_any (r := OpenLaw.row PySem.Challenge.rw_namewants_k43_houses_refused) (q := view (OpenLaw.row PySem.Challenge.rw_namewants_k43_houses_refused).prog [43]) (H := MPH.hk) (ob := MPH.ob) (M := 20000) (loose := MPH.loose) (d := HandSHeadRun.topDef (OpenLaw.row PySem.Challenge.rw_namewants_k43_houses_refused).prog 43) (kwd := []) MPH.ob_eq
    (by kernel_rfl) (fun s => by kernel_rfl) MPH.run (by kernel_rfl) (by kernel_rfl) (by kernel_rfl) (by rfl) (by first | assumption | decide +kernel) (by decide +kernel) ⟨rfl, rfl, rfl, rfl, rfl, by decide +kernel⟩ ?hw ?hc
  case hw => w_witness2
  case hc =>
    refine LamX.walk_ofTsE (l := PySem.Challenge.rw_namewants_k43_houses_refused) (n := 63) (k := 9) (x := "_law_script") (CX := fun w => L2N.CX PySem.Challenge.rw_namewants_k43_houses_refused.prog w) rfl (by decide) (by kernel_rfl) ⟨rfl, by decide, by decide⟩ ?F (fun w => MP.cx_no)
    intro w mg fa h Y Gn hmg0
    obtain ⟨K, KX, c⟩ := Y
    have hmg : mg ("law" : PySem.Str) = some (.ref fa) := by
      have e : (HandSHeadRun.topDef (OpenLaw.row PySem.Challenge.rw_namewants_k43_houses_refused).prog 43).name = ("law" : PySem.Str) := by kernel_rfl
      rw [← e]
      exact hmg0
    obtain ⟨fd, hb, hF⟩ := MPH.says (P := (PySem.Challenge.rw_namewants_k43_houses_refused).prog) (w := w) KX Gn hmg c
    refine ⟨K, KX, fd, MPH.tfs.map (He.cT K), _, (fun p hp => ?_), (fun p hp => ?_), (fun p hp => ?_), hb, fun H a ns hl _ ht hS => ⟨a, ns, rfl, hl, hS, MP.tabs_of ht (fun q hq => ?_), fun _ => rfl⟩, fun base h1 h2 h3 => hF base h1 h2 h3⟩
    · obtain ⟨q, hq, rfl⟩ := List.mem_map.mp hp
      exact c.empty q hq
    · obtain ⟨q, hq, rfl⟩ := List.mem_map.mp hp
      exact c.out q hq
    · obtain ⟨q, hq, rfl⟩ := List.mem_map.mp hp
      exact PySem.W.codeHd_of_K KX (c.hd q hq)
    · obtain ⟨p, hp, rfl⟩ := List.mem_map.mp hq
      exact ⟨_, List.mem_map.mpr ⟨p, hp, rfl⟩, rfl⟩

