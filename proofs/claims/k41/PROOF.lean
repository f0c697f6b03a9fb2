import PyProof.Rows.All
import Wide.All
import OpenK.AllK
import Wide.FinOn
import PySem.Challenge.RW_namewants_k41_whole_joined_asks
import HandS.Conv
import HandS.Deep
import HandS.Defaults
import HandS.DictTup
import HandS.Exc
import HandS.ExcCtx
import HandS.ExcOwn
import HandS.ForDict
import HandS.ForMost
import HandS.Head0
import HandS.Head1
import HandS.Head2
import HandS.HeadEnd
import HandS.HeadHook1
import HandS.HeadHook2
import HandS.HeadWalk
import HandS.HotCalls
import HandS.IsInst
import HandS.Lambda
import HandS.MakeKwOnly
import HandS.More
import HandS.SetFor
import HandS.Small
import HandS.SortOrd
import HandS.Style
import HandS.Text
import HandS.TupAny
import HandS.TupLe
import HandS.TupLen
import HandS.TupMul
import HandS.Wide
import KE.KDictList
import KE.SortData
import KE.SortKeyed
import PyProof.DictMoreH
import PyProof.P3Statements
import PyProof.Rows.SetFrom
import PyProof.StrLawsChain
import PyProof.StrLawsTight
import PySem.Str
set_option Elab.async false
set_option linter.all false
set_option autoImplicit false
set_option maxRecDepth 100000
set_option maxHeartbeats 0
namespace MP
open PySem (PyData)

/-- a value: immutable things by structure, lists, dicts, instances by a place in the store -/
inductive D where
  | non | bl (b : Bool) | int (i : Int) | str (x : List Nat) | tup (xs : List D) | ref (n : Nat) | exn (c : Nat) (p : List D)
mutual
def D.beq : D → D → Bool
  | .non, .non => true
  | .bl a, .bl b => a == b
  | .int a, .int b => a == b
  | .str a, .str b => a == b
  | .tup a, .tup b => D.beqs a b
  | .ref a, .ref b => a == b
  | .exn a p, .exn b q => a == b && D.beqs p q
  | _, _ => false
def D.beqs : List D → List D → Bool
  | [], [] => true
  | a :: as, b :: bs => D.beq a b && D.beqs as bs
  | _, _ => false
end
mutual
theorem D.beq_refl : ∀ a : D, D.beq a a = true
  | .non => rfl
  | .bl b => by simp [D.beq]
  | .int i => by simp [D.beq]
  | .str x => by simp [D.beq]
  | .tup xs => by simp only [D.beq]; exact D.beqs_refl xs
  | .ref n => by simp [D.beq]
  | .exn c p => by simp only [D.beq, beq_self_eq_true, Bool.true_and]; exact D.beqs_refl p
theorem D.beqs_refl : ∀ a : List D, D.beqs a a = true
  | [] => rfl
  | a :: as => by simp only [D.beqs, Bool.and_eq_true]; exact ⟨D.beq_refl a, D.beqs_refl as⟩
end
mutual
theorem D.eq_of_beq : ∀ a b : D, D.beq a b = true → a = b
  | .non, b, h => by cases b <;> first | rfl | (simp [D.beq] at h)
  | .bl x, b, h => by cases b <;> simp [D.beq] at h; rw [h]
  | .int x, b, h => by cases b <;> simp [D.beq] at h; rw [h]
  | .str x, b, h => by cases b <;> simp [D.beq] at h; rw [h]
  | .tup xs, b, h => by
    cases b <;> simp only [D.beq, Bool.false_eq_true] at h
    rw [D.eq_of_beqs _ _ h]
  | .ref x, b, h => by cases b <;> simp [D.beq] at h; rw [h]
  | .exn c p, b, h => by
    cases b <;> simp only [D.beq, Bool.false_eq_true, Bool.and_eq_true, beq_iff_eq] at h
    rw [D.eq_of_beqs _ _ h.2, h.1]
theorem D.eq_of_beqs : ∀ a b : List D, D.beqs a b = true → a = b
  | [], b, h => by cases b <;> first | rfl | (simp [D.beqs] at h)
  | x :: xs, b, h => by
    cases b <;> simp only [D.beqs, Bool.false_eq_true, Bool.and_eq_true] at h
    rw [D.eq_of_beq _ _ h.1, D.eq_of_beqs _ _ h.2]
end
instance : DecidableEq D := fun a b => if h : D.beq a b = true then .isTrue (D.eq_of_beq a b h) else .isFalse (fun e => h (e ▸ D.beq_refl a))

/-- what stands in the store -/
inductive Ob where
  /-- a list; one that is only read (the script); a dict (its keys are tuples, it is walked just now); an instance -/
  | lst (xs : List D) | frz (xs : List D) | dic (t lk : Bool) (kvs : List (D × D)) | ins (c : Nat) (fs : List (Nat × D))
  deriving DecidableEq
abbrev Sto := List Ob
abbrev Loc := List (Option D)
/-- what is raised: its class, what it holds -/
structure Exc where
  c : Nat
  p : List D
  deriving DecidableEq
/-- how an expression ends -/
inductive R (α : Type) where
  | ok (a : α) (S : Sto) | exc (x : Exc) (S : Sto) | err
/-- how a statement ends -/
inductive RS where
  | nx (L : Loc) (S : Sto) | rt (d : D) (S : Sto) | bk (L : Loc) (S : Sto) | ct (L : Loc) (S : Sto) | exc (x : Exc) (L : Loc) (S : Sto) | err
def R.bind {α β : Type} (r : R α) (f : α → Sto → R β) : R β := match r with
  | .ok a S => f a S
  | .exc x S => .exc x S
  | .err => .err
@[simp] theorem R.bind_ok {α β : Type} (a : α) (S : Sto) (f : α → Sto → R β) : (R.ok a S).bind f = f a S := rfl
@[simp] theorem R.bind_exc {α β : Type} (x : Exc) (S : Sto) (f : α → Sto → R β) : (R.exc x S : R α).bind f = .exc x S := rfl
@[simp] theorem R.bind_err {α β : Type} (f : α → Sto → R β) : (R.err : R α).bind f = .err := rfl
def R.st {α : Type} (L : Loc) (r : R α) (f : α → Sto → RS) : RS := match r with
  | .ok a S => f a S
  | .exc x S => .exc x L S
  | .err => .err
@[simp] theorem R.st_ok {α : Type} (L : Loc) (a : α) (S : Sto) (f : α → Sto → RS) : (R.ok a S).st L f = f a S := rfl
@[simp] theorem R.st_exc {α : Type} (L : Loc) (x : Exc) (S : Sto) (f : α → Sto → RS) : (R.exc x S : R α).st L f = .exc x L S := rfl
@[simp] theorem R.st_err {α : Type} (L : Loc) (f : α → Sto → RS) : (R.err : R α).st L f = .err := rfl
abbrev EM := Loc → Sto → R D
abbrev AM := Loc → Sto → R (List D)
abbrev BM := Loc → Sto → R Bool
abbrev SM := Loc → Sto → RS
abbrev TM := D → Loc → Sto → R Loc
abbrev Fn := List D → Sto → R D
/-- a two-place operation on values -/
abbrev Op2 := D → D → Sto → R D
abbrev Op1 := D → Sto → R D

/-! ### expressions -/
def eC (d : D) : EM := fun _ S => .ok d S
def eV (i : Nat) : EM := fun L S => match L[i]? with
  | some (some d) => .ok d S
  | _ => .err
def eUn (f : Op1) (a : EM) : EM := fun L S => (a L S).bind fun x S1 => f x S1
def eBin (f : Op2) (a b : EM) : EM := fun L S => (a L S).bind fun x S1 => (b L S1).bind fun y S2 => f x y S2
def eIf (t : BM) (a b : EM) : EM := fun L S => (t L S).bind fun c S1 => if c = true then a L S1 else b L S1
def eAnd (a b : EM) : EM := fun L S => (a L S).bind fun x S1 => match x with
  | .bl true => b L S1
  | .bl false => .ok (.bl false) S1
  | _ => .err
def eOr (a b : EM) : EM := fun L S => (a L S).bind fun x S1 => match x with
  | .bl true => .ok (.bl true) S1
  | .bl false => b L S1
  | _ => .err
def eNot (a : EM) : EM := fun L S => (a L S).bind fun x S1 => match x with
  | .bl k => .ok (.bl (!k)) S1
  | _ => .err
def aNil : AM := fun _ S => .ok [] S
def aCons (a : EM) (as : AM) : AM := fun L S => (a L S).bind fun x S1 => (as L S1).bind fun xs S2 => .ok (x :: xs) S2
def sz : Nat := 16777216
def eTup (as : AM) : EM := fun L S => (as L S).bind fun xs S1 => if xs.length ≤ sz then .ok (.tup xs) S1 else .err
def eLst (as : AM) : EM := fun L S => (as L S).bind fun xs S1 => if xs.length ≤ sz then .ok (.ref S1.length) (S1 ++ [.lst xs]) else .err
def eDic (t : Bool) : EM := fun _ S => .ok (.ref S.length) (S ++ [.dic t false []])
def eCall (F : Fn) (as : AM) : EM := fun L S => (as L S).bind fun xs S1 => F xs S1
/-- C(..): a new instance, its __init__ -/
def eMake (c : Nat) (F : Fn) (as : AM) : EM := fun L S => (as L S).bind fun xs S1 =>
  (F (.ref S1.length :: xs) (S1 ++ [.ins c []])).bind fun v S2 => if v = .non then .ok (.ref S1.length) S2 else .err
def fget (f : Nat) : List (Nat × D) → Option D
  | [] => none
  | (g, d) :: r => if f = g then some d else fget f r
def fput (f : Nat) (v : D) : List (Nat × D) → List (Nat × D)
  | [] => [(f, v)]
  | (g, d) :: r => if g = f then (g, v) :: r else (g, d) :: fput f v r
/-- o.f, o of the class c -/
def opFld (c f : Nat) : Op1 := fun x S => match x with
  | .ref n => (match S[n]? with
    | some (.ins c' fs) => if c' = c then (match fget f fs with
      | some d => .ok d S
      | none => .err) else .err
    | _ => .err)
  | _ => .err
/-- o.m(..), o of the class c; m: the number of the method's name -/
def eMeth (c m : Nat) (F : Fn) (o : EM) (as : AM) : EM := fun L S => (o L S).bind fun x S1 => match x with
  | .ref n => (match S1[n]? with
    | some (.ins c' fs) => if c' = c ∧ fget m fs = none then (as L S1).bind fun xs S2 => F (.ref n :: xs) S2 else .err
    | _ => .err)
  | _ => .err

/-- a < b < c, b asked once -/
def eChain (f f' : Op2) (a b c : EM) : EM := fun L S => (a L S).bind fun x S1 => (b L S1).bind fun y S2 => (f x y S2).bind fun z S3 => match z with
  | .bl true => (c L S3).bind fun w S4 => f' y w S4
  | .bl false => .ok (.bl false) S3
  | _ => .err
/-- xs[::-1] -/
def opRev : Op1 := fun x S => match x with
  | .ref n => (match S[n]? with
    | some (.lst xs) => .ok (.ref S.length) (S ++ [.lst xs.reverse])
    | _ => .err)
  | _ => .err
/-! ### tests -/
def tV (a : EM) : BM := fun L S => (a L S).bind fun x S1 => match x with
  | .bl k => .ok k S1
  | _ => .err
def tAnd (a b : BM) : BM := fun L S => (a L S).bind fun c S1 => if c = true then b L S1 else .ok false S1
def tOr (a b : BM) : BM := fun L S => (a L S).bind fun c S1 => if c = true then .ok true S1 else b L S1
def tNot (a : BM) : BM := fun L S => (a L S).bind fun c S1 => .ok (!c) S1
def tYes : BM := fun _ S => .ok true S

/-! ### statements -/
def sNx : SM := fun L S => .nx L S
def sSeq (a b : SM) : SM := fun L S => match a L S with
  | .nx L1 S1 => b L1 S1
  | r => r
def sExpr (a : EM) : SM := fun L S => (a L S).st L fun _ S1 => .nx L S1
def sRet (a : EM) : SM := fun L S => (a L S).st L fun d S1 => .rt d S1
def sRetN : SM := fun _ S => .rt .non S
def sIf (t : BM) (a b : SM) : SM := fun L S => (t L S).st L fun c S1 => if c = true then a L S1 else b L S1
def sAsg (a : EM) (t : TM) : SM := fun L S => (a L S).st L fun d S1 => match t d L S1 with
  | .ok L1 S2 => .nx L1 S2
  | _ => .err
def sBrk : SM := fun L S => .bk L S
def sCnt : SM := fun L S => .ct L S
/-- raise C('..'), raise C(..) -/
def sRaise (c : Nat) (as : AM) : SM := fun L S => (as L S).st L fun xs S1 => .exc ⟨c, xs⟩ L S1

/-! ### targets -/
def gV (i : Nat) : TM := fun d L S => .ok (L.set i (some d)) S
def gNil : List D → Loc → Sto → R Loc := fun ds L S => if ds = [] then .ok L S else .err
def gCons (t : TM) (u : List D → Loc → Sto → R Loc) : List D → Loc → Sto → R Loc := fun ds L S => match ds with
  | d :: r => (t d L S).bind fun L1 S1 => u r L1 S1
  | [] => .err
def gTup (n : Nat) (u : List D → Loc → Sto → R Loc) : TM := fun d L S => match d with
  | .tup ds => if ds.length = n then u ds L S else .err
  | _ => .err
/-- o.f = .. -/
def gFld (c f : Nat) (o : EM) : TM := fun d L S => (o L S).bind fun x S1 => match x with
  | .ref n => (match S1[n]? with
    | some (.ins c' fs) => if c' = c ∧ fs.length < 1000 then .ok L (S1.set n (.ins c' (fput f d fs))) else .err
    | _ => .err)
  | _ => .err
/-- o[i] = .., by values -/
abbrev Set2 := D → D → D → Sto → R Unit
def gSub (f : Set2) (o i : EM) : TM := fun d L S => (o L S).bind fun x S1 => (i L S1).bind fun y S2 => (f x y d S2).bind fun _ S3 => .ok L S3

/-! ### loops -/
/-- what is walked: the items, what must stay true meanwhile -/
structure Wk where
  items : List D
  chk : Sto → Bool
abbrev WM := Loc → Sto → R Wk
def forL (chk : Sto → Bool) (tg : TM) (body : SM) : List D → SM
  | [], L, S => if chk S = true then .nx L S else .err
  | x :: xs, L, S => if chk S = true then (match tg x L S with
    | .ok L1 S1 => (match body L1 S1 with
      | .nx L2 S2 => forL chk tg body xs L2 S2
      | .ct L2 S2 => forL chk tg body xs L2 S2
      | .bk L2 S2 => .nx L2 S2
      | r => r)
    | _ => .err) else .err
def sFor (w : WM) (tg : TM) (body : SM) : SM := fun L S => (w L S).st L fun k S1 => forL k.chk tg body k.items L S1
def whileN (t : BM) (body : SM) : Nat → SM
  | 0, _, _ => .err
  | n + 1, L, S => (t L S).st L fun c S1 => if c = true then (match body L S1 with
    | .nx L2 S2 => whileN t body n L2 S2
    | .ct L2 S2 => whileN t body n L2 S2
    | .bk L2 S2 => .nx L2 S2
    | r => r) else .nx L S1
open Classical in
noncomputable def sWhile (t : BM) (body : SM) : SM := fun L S => if h : ∃ n, whileN t body n L S ≠ .err then whileN t body h.choose L S else .err
/-- what is walked is on its way changed by nobody -/
def wLst (a : EM) : WM := fun L S => (a L S).bind fun x S1 => match x with
  | .ref n => (match S1[n]? with
    | some (.lst xs) => .ok ⟨xs, fun S => decide (S[n]? = some (.lst xs))⟩ S1
    | _ => .err)
  | _ => .err
def wTup (a : EM) : WM := fun L S => (a L S).bind fun x S1 => match x with
  | .tup xs => .ok ⟨xs, fun _ => true⟩ S1
  | _ => .err
def rngD (lo : Int) (n : Nat) : List D := (List.range n).map fun i => .int (lo + (i : Nat))
def wRng1 (a : EM) : WM := fun L S => (a L S).bind fun x S1 => match x with
  | .int j => if -(2 ^ 62) ≤ j ∧ j < 2 ^ 62 then .ok ⟨rngD 0 j.toNat, fun _ => true⟩ S1 else .err
  | _ => .err
def wRng2 (a b : EM) : WM := fun L S => (a L S).bind fun x S1 => (b L S1).bind fun y S2 => match x, y with
  | .int i, .int j => if -(2 ^ 62) ≤ i ∧ i < 2 ^ 62 ∧ -(2 ^ 62) ≤ j ∧ j < 2 ^ 62 then .ok ⟨rngD i (j - i).toNat, fun _ => true⟩ S2 else .err
  | _, _ => .err

/-! ### comprehensions -/
def wipe (L : Loc) : List Nat → Loc
  | [] => L
  | v :: vs => (wipe L vs).set v none
/-- the list at n grows -/
def lcL (chk : Sto → Bool) (tg : TM) (t : BM) (e : EM) (L : Loc) (n : Nat) : List D → Sto → R D
  | [], S => if chk S = true then .ok (.ref n) S else .err
  | x :: xs, S => if chk S = true then (match tg x L S with
    | .ok L1 S1 => (match t L1 S1 with
      | .ok true S2 => (match e L1 S2 with
        | .ok y S3 => (match S3[n]? with
          | some (.lst acc) => if acc.length < sz then lcL chk tg t e L n xs (S3.set n (.lst (acc ++ [y]))) else .err
          | _ => .err)
        | _ => .err)
      | .ok false S2 => lcL chk tg t e L n xs S2
      | _ => .err)
    | _ => .err) else .err
def eLc (w : WM) (tg : TM) (t : BM) (e : EM) (vs : List Nat) : EM := fun L S => (w L S).bind fun k S1 => lcL k.chk tg t e (wipe L vs) S1.length k.items (S1 ++ [.lst []])

/-! ### defs -/
def fn (np nl : Nat) (body : SM) : Fn := fun ds S => if ds.length = np then (match body (ds.map some ++ List.replicate (nl - np) none) S with
  | .nx _ S1 => .ok .non S1
  | .rt d S1 => .ok d S1
  | .exc x _ S1 => .exc x S1
  | _ => .err) else .err

/-! ### data as it is compared -/
def reify : Nat → Sto → D → Option PyData
  | _, _, .non => some .none
  | _, _, .bl b => some (.bool b)
  | _, _, .int i => some (.int i)
  | _, _, .str x => some (.str ⟨x.toArray⟩)
  | n + 1, S, .tup xs => (xs.mapM (reify n S)).map .tuple
  | n + 1, S, .ref r => (match S[r]? with
    | some (.lst xs) => (xs.mapM (reify n S)).map .list
    | some (.frz xs) => (xs.mapM (reify n S)).map .list
    | _ => none)
  | _, _, _ => none
def opEq : Op2 := fun x y S => match reify 60 S x, reify 60 S y with
  | some p, some q => .ok (.bl (PyData.eqv p q)) S
  | _, _ => .err
def opNe : Op2 := fun x y S => match reify 60 S x, reify 60 S y with
  | some p, some q => .ok (.bl (!PyData.eqv p q)) S
  | _, _ => .err

/-! ### operators -/
def mulOk (i j : Int) : Bool := (decide (-(2 ^ 64) < i) && decide (i < 2 ^ 64)) || (decide (-(2 ^ 64) < j) && decide (j < 2 ^ 64)) || (decide (i.natAbs < 2 ^ 200) && decide (j.natAbs < 2 ^ 200))
def opAdd : Op2 := fun x y S => match x, y with
  | .int i, .int j => .ok (.int (i + j)) S
  | .str a, .str b => if a.length + b.length ≤ sz then .ok (.str (a ++ b)) S else .err
  | .tup a, .tup b => if a.length + b.length ≤ sz then .ok (.tup (a ++ b)) S else .err
  | .ref n, .ref m => (match S[n]?, S[m]? with
    | some (.lst a), some (.lst b) => if a.length + b.length ≤ sz then .ok (.ref S.length) (S ++ [.lst (a ++ b)]) else .err
    | _, _ => .err)
  | _, _ => .err
def opSub : Op2 := fun x y S => match x, y with
  | .int i, .int j => .ok (.int (i - j)) S
  | _, _ => .err
def opMul : Op2 := fun x y S => match x, y with
  | .int i, .int j => if mulOk i j = true then .ok (.int (i * j)) S else .err
  | .ref n, .int k => (match S[n]? with
    | some (.lst a) => if -(2 ^ 63) ≤ k ∧ k < 2 ^ 63 ∧ a.length * k.toNat ≤ sz then .ok (.ref S.length) (S ++ [.lst (List.replicate k.toNat a).flatten]) else .err
    | _ => .err)
  | .tup a, .int k => if a ≠ [] ∧ 2 ≤ k ∧ k ≤ 1000 ∧ a.length ≤ 1000 then .ok (.tup (List.replicate k.toNat a).flatten) S else .err
  | _, _ => .err
def opMod : Op2 := fun x y S => match x, y with
  | .int i, .int j => if 0 < j then .ok (.int (i % j)) S else .err
  | _, _ => .err
def opDiv : Op2 := fun x y S => match x, y with
  | .int i, .int j => if 0 < j ∧ j < 2 ^ 200 then .ok (.int (i / j)) S else .err
  | _, _ => .err
def opPow : Op2 := fun x y S => match x, y with
  | .int i, .int j => if 0 ≤ j ∧ j ≤ 1000000 ∧ i.natAbs < 2 ^ 64 then .ok (.int (i ^ j.toNat)) S else .err
  | _, _ => .err
def opNeg : Op1 := fun x S => match x with
  | .int i => .ok (.int (-i)) S
  | _ => .err
def opCmp (f : Int → Int → Bool) : Op2 := fun x y S => match x, y with
  | .int i, .int j => .ok (.bl (f i j)) S
  | _, _ => .err
abbrev opLt : Op2 := opCmp fun i j => decide (i < j)
abbrev opLe : Op2 := opCmp fun i j => decide (i ≤ j)
abbrev opGt : Op2 := opCmp fun i j => decide (j < i)
abbrev opGe : Op2 := opCmp fun i j => decide (j ≤ i)
def opIsN : Op1 := fun x S => .ok (.bl (decide (x = .non))) S
def opNotN : Op1 := fun x S => .ok (.bl (!decide (x = .non))) S
/-- a place by an index of any sign -/
def ixN (n : Nat) (i : Int) : Option Nat := if 0 ≤ i then (if i < n then some i.toNat else none) else (if -(n : Int) ≤ i then some (i + n).toNat else none)
def atI {α : Type} (xs : List α) (i : Int) : Option α := (ixN xs.length i).bind fun j => xs[j]?
def opIx : Op2 := fun x y S => match x, y with
  | .tup xs, .int i => (match atI xs i with
    | some d => .ok d S
    | none => .err)
  | .ref n, .int i => (match S[n]? with
    | some (.lst xs) => (match atI xs i with
      | some d => .ok d S
      | none => .err)
    | some (.frz xs) => (match atI xs i with
      | some d => .ok d S
      | none => .err)
    | _ => .err)
  | .str z, .int i => if z.length ≤ sz then (match atI z i with
    | some c => .ok (.str [c]) S
    | none => .err) else .err
  | _, _ => .err
/-- x is k, a truth -/
def opIsB (k : Bool) : Op1 := fun x S => match x with
  | .bl b => .ok (.bl (decide (b = k))) S
  | _ => .err
def opNotB (k : Bool) : Op1 := fun x S => match x with
  | .bl b => .ok (.bl (!decide (b = k))) S
  | _ => .err
/-! ### slices -/
def sIx (n d : Nat) : Option Int → Nat
  | none => d
  | some v => if v < 0 then (v + (n : Int)).toNat else min v.toNat n
def cut {α : Type} (xs : List α) (lo hi : Option Int) : List α := (xs.drop (sIx xs.length 0 lo)).take (sIx xs.length xs.length hi - sIx xs.length 0 lo)
abbrev PM := Loc → Sto → R (Option Int)
def pNo : PM := fun _ S => .ok none S
def pSome (a : EM) : PM := fun L S => (a L S).bind fun x S1 => match x with
  | .int i => .ok (some i) S1
  | _ => .err
def opSl (x : D) (lo hi : Option Int) (S : Sto) : R D := match x with
  | .tup xs => .ok (.tup (cut xs lo hi)) S
  | .str z => if z.length ≤ sz then .ok (.str (cut z lo hi)) S else .err
  | .ref n => (match S[n]? with
    | some (.lst xs) => .ok (.ref S.length) (S ++ [.lst (cut xs lo hi)])
    | _ => .err)
  | _ => .err
def eSl (a : EM) (lo hi : PM) : EM := fun L S => (a L S).bind fun x S1 => (lo L S1).bind fun l S2 => (hi L S2).bind fun h S3 => opSl x l h S3
/-- told(lambda: m): what m tells; of an exception the text WT -/
def eTold (ks : List Nat) (WT : Nat → D) (WO : Nat → List Ob) (m : EM) : EM := fun L S => match m L S with
  | .ok d S1 => .ok d S1
  | .exc x S1 => if x.p = [] ∧ x.c ∈ ks then .ok (WT x.c) (S1 ++ WO x.c) else .err
  | .err => .err
/-! ### builtins, by lists of arguments -/
def fLen : Fn := fun ds S => match ds with
  | [.str z] => if z.length ≤ sz then .ok (.int z.length) S else .err
  | [.tup xs] => .ok (.int xs.length) S
  | [.ref n] => (match S[n]? with
    | some (.lst xs) => .ok (.int xs.length) S
    | some (.frz xs) => .ok (.int xs.length) S
    | _ => .err)
  | _ => .err
/-- len of a dict -/
def fLenD : Fn := fun ds S => match ds with
  | [.ref n] => (match S[n]? with
    | some (.dic _ false kvs) => .ok (.int kvs.length) S
    | _ => .err)
  | _ => .err
def tyNm (S : Sto) : D → Option String
  | .non => some "NoneType"
  | .bl _ => some "bool"
  | .int _ => some "int"
  | .str _ => some "str"
  | .tup _ => some "tuple"
  | .ref n => (match S[n]? with
    | some (.lst _) => some "list"
    | some (.dic _ false _) => some "dict"
    | _ => none)
  | .exn _ _ => none
/-- isinstance(x, T), T a built-in type -/
def opIsi (T : String) : Op1 := fun x S => match tyNm S x with
  | some t => .ok (.bl (decide (t = T) || (decide (t = "bool") && decide (T = "int")))) S
  | none => .err
def allB : List D → Option Bool
  | [] => some true
  | .bl b :: r => (allB r).map fun c => b && c
  | _ => none
def fAll : Fn := fun ds S => match ds with
  | [.ref n] => (match S[n]? with
    | some (.lst xs) => (match allB xs with
      | some b => .ok (.bl b) S
      | none => .err)
    | _ => .err)
  | _ => .err
def intsOf : List D → Option (List Int)
  | [] => some []
  | .int i :: r => (intsOf r).map fun c => i :: c
  | _ => none
def fSum : Fn := fun ds S => match ds with
  | [.ref n] => (match S[n]? with
    | some (.lst xs) => (match intsOf xs with
      | some is => .ok (.int is.sum) S
      | none => .err)
    | _ => .err)
  | _ => .err
def fMax2 : Fn := fun ds S => match ds with
  | [.int i, .int j] => .ok (.int (if j > i then j else i)) S
  | _ => .err
def fMin2 : Fn := fun ds S => match ds with
  | [.int i, .int j] => .ok (.int (if j < i then j else i)) S
  | _ => .err
/-- int(x) of an int, a truth -/
def fInt : Fn := fun ds S => match ds with
  | [.int i] => .ok (.int i) S
  | [.bl k] => .ok (.int (if k then 1 else 0)) S
  | _ => .err
/-- list(xs), tuple(xs) -/
def fList : Fn := fun ds S => match ds with
  | [.ref n] => (match S[n]? with
    | some (.lst xs) => .ok (.ref S.length) (S ++ [.lst xs])
    | _ => .err)
  | [.tup xs] => .ok (.ref S.length) (S ++ [.lst xs])
  | _ => .err
def fTuple : Fn := fun ds S => match ds with
  | [.ref n] => (match S[n]? with
    | some (.lst xs) => .ok (.tup xs) S
    | _ => .err)
  | [.tup xs] => .ok (.tup xs) S
  | _ => .err
/-! ### methods of lists -/
def eBM (t : String) (F : Fn) (o : EM) (as : AM) : EM := fun L S => (o L S).bind fun x S1 => if tyNm S1 x = some t then (as L S1).bind fun xs S2 => F (x :: xs) S2 else .err
def fAppend : Fn := fun ds S => match ds with
  | [.ref n, y] => (match S[n]? with
    | some (.lst xs) => if xs.length < sz then .ok .non (S.set n (.lst (xs ++ [y]))) else .err
    | _ => .err)
  | _ => .err
def fInsert : Fn := fun ds S => match ds with
  | [.ref n, .int i, y] => (match S[n]? with
    | some (.lst xs) => if xs.length < sz ∧ 0 ≤ i ∧ i < 2 ^ 63 then .ok .non (S.set n (.lst (xs.take i.toNat ++ [y] ++ xs.drop i.toNat))) else .err
    | _ => .err)
  | _ => .err
/-- xs.pop(0) -/
def fPopAt : Fn := fun ds S => match ds with
  | [.ref n, .int i] => (match S[n]? with
    | some (.lst xs) => (match xs with
      | y :: r => if i = 0 then .ok y (S.set n (.lst r)) else .err
      | [] => .err)
    | _ => .err)
  | _ => .err
/-- xs[i] = v -/
def setL : Set2 := fun x i v S => match x, i with
  | .ref n, .int i => (match S[n]? with
    | some (.lst xs) => (match ixN xs.length i with
      | some j => .ok () (S.set n (.lst (xs.set j v)))
      | none => .err)
    | _ => .err)
  | _, _ => .err

/-- isinstance of the exception at a -/
def opIsE (a : Nat) (b : Bool) : Op1 := fun x S => match x with
  | .exn a' _ => if a' = a then .ok (.bl b) S else .err
  | _ => .err
def blsOf : List D → Option (List Bool)
  | [] => some []
  | .bl b :: r => (blsOf r).map fun c => b :: c
  | _ => none
/-- [int(x) for x in xs], xs a list of truths -/
def opInts : Op1 := fun x S => match x with
  | .ref n => (match S[n]? with
    | some (.lst xs) => (match blsOf xs with
      | some bs => .ok (.ref S.length) (S ++ [.lst (bs.map fun b => .int (if b = true then 1 else 0))])
      | none => .err)
    | _ => .err)
  | _ => .err
/-! ### texts -/
def strsOfD : List D → Option (List (List Nat))
  | [] => some []
  | .str i :: r => (strsOfD r).map fun c => i :: c
  | _ => none
def joinS (a : List Nat) : List (List Nat) → List Nat
  | [] => []
  | [x] => x
  | x :: y :: r => x ++ a ++ joinS a (y :: r)
def splitC (c : Nat) : List Nat → List (List Nat)
  | [] => [[]]
  | x :: r => if x = c then [] :: splitC c r else (match splitC c r with
    | h :: t => (x :: h) :: t
    | [] => [[x]])
/-- a.join(ys), ys a tuple of texts -/
def fJoin : Fn := fun ds S => match ds with
  | [.str a, .tup ys] => (match strsOfD ys with
    | some zs => if (zs.map (·.length)).sum + zs.length * a.length ≤ sz then .ok (.str (joinS a zs)) S else .err
    | none => .err)
  | _ => .err
/-- x.split(c), c one sign -/
def fSplit : Fn := fun ds S => match ds with
  | [.str x, .str [c]] => if x.length + 2 ≤ sz then .ok (.ref S.length) (S ++ [.lst ((splitC c x).map .str)]) else .err
  | _ => .err
/-! ### in -/
def mapR (S : Sto) (xs : List D) : Option (List PyData) := xs.mapM (reify 59 S)
/-- xs.index(x) -/
def fIndex : Fn := fun ds S => match ds with
  | [.ref n, x] => (match S[n]? with
    | some (.lst xs) => (match reify 60 S x, mapR S xs with
      | some p, some ps => (match ps.findIdx? fun z => PyData.eqv z p with
        | some j => .ok (.int j) S
        | none => .err)
      | _, _ => .err)
    | _ => .err)
  | _ => .err
/-- x in a list of data -/
def inL (neg : Bool) : Op2 := fun x y S => match y with
  | .ref n => (match S[n]? with
    | some (.lst xs) => (match reify 60 S x, mapR S xs with
      | some p, some ps => .ok (.bl (if neg = true then !(ps.any fun z => PyData.eqv z p) else ps.any fun z => PyData.eqv z p)) S
      | _, _ => .err)
    | _ => .err)
  | _ => .err
/-- a sign in a text -/
def inS (neg : Bool) : Op2 := fun x y S => match x, y with
  | .str [c], .str z => .ok (.bl (if neg = true then !decide (c ∈ z) else decide (c ∈ z))) S
  | _, _ => .err
def strsOf : List D → Option (List (List Nat))
  | [] => some []
  | .str i :: r => (strsOf r).map fun c => i :: c
  | _ => none
/-- a text in a tuple of texts -/
def inT (neg : Bool) : Op2 := fun x y S => match x, y with
  | .str c, .tup ys => (match strsOf ys with
    | some zs => .ok (.bl (if neg = true then !decide (c ∈ zs) else decide (c ∈ zs))) S
    | none => .err)
  | _, _ => .err
/-! ### dicts -/
def isKey : D → Bool
  | .int _ => true
  | .str x => x.all fun c => decide (c < 0x110000)
  | _ => false
/-- may it be a key of a dict with tuple keys (t), with others -/
def keyOk (t : Bool) (k : D) : Bool := if t = true then (match k with
  | .tup ds => ds.all isKey
  | _ => false) else isKey k
def kget (k : D) : List (D × D) → Option D
  | [] => none
  | (g, d) :: r => if g = k then some d else kget k r
def kput (k v : D) (kvs : List (D × D)) : List (D × D) := if (kvs.any fun q => decide (q.1 = k)) = true then kvs.map fun q => if q.1 = k then (q.1, v) else q else kvs ++ [(k, v)]
def kdrop (k : D) (kvs : List (D × D)) : List (D × D) := kvs.filter fun q => decide (q.1 ≠ k)
/-- d[k] -/
def opGet : Op2 := fun x k S => match x with
  | .ref n => (match S[n]? with
    | some (.dic t _ kvs) => if keyOk t k = true then (match kget k kvs with
      | some d => .ok d S
      | none => .err) else .err
    | _ => .err)
  | _ => .err
/-- k in d -/
def inD (neg : Bool) : Op2 := fun k x S => match x with
  | .ref n => (match S[n]? with
    | some (.dic t _ kvs) => if keyOk t k = true then .ok (.bl (if neg = true then !(kget k kvs).isSome else (kget k kvs).isSome)) S else .err
    | _ => .err)
  | _ => .err
/-- d[k] = v -/
def setD : Set2 := fun x k v S => match x with
  | .ref n => (match S[n]? with
    | some (.dic t false kvs) => if keyOk t k = true ∧ kvs.length < sz then .ok () (S.set n (.dic t false (kput k v kvs))) else .err
    | _ => .err)
  | _ => .err
/-- d.pop(k, x) -/
def fPop2 : Fn := fun ds S => match ds with
  | [.ref n, k, z] => (match S[n]? with
    | some (.dic t false kvs) => if keyOk t k = true then (match kget k kvs with
      | some d => .ok d (S.set n (.dic t false (kdrop k kvs)))
      | none => .ok z S) else .err
    | _ => .err)
  | _ => .err
/-- d.get(k, x) -/
def fGet2 : Fn := fun ds S => match ds with
  | [.ref n, k, z] => (match S[n]? with
    | some (.dic t _ kvs) => if keyOk t k = true then .ok ((kget k kvs).getD z) S else .err
    | _ => .err)
  | _ => .err
/-- a call that leaves the last arguments to their defaults -/
def withD (F : Fn) (dd : List D) : Fn := fun ds S => F (ds ++ dd) S
/-! ### what is never reached; signs of a text; len of an instance -/
def eErr : EM := fun _ _ => .err
def sErr : SM := fun _ _ => .err
/-- the signs of a text -/
def wStr (a : EM) : WM := fun L S => (a L S).bind fun x S1 => match x with
  | .str z => .ok ⟨z.map fun c => .str [c], fun _ => true⟩ S1
  | _ => .err
/-- len of an instance with its own __len__ -/
def fLenOwn (c : Nat) (F : Fn) : Fn := fun ds S => match ds with
  | [.ref n] => (match S[n]? with
    | some (.ins c' _) => if c' = c then (F [.ref n] S).bind fun v S1 => match v with
      | .int i => if 0 ≤ i ∧ i < 2 ^ 63 then .ok (.int i) S1 else .err
      | _ => .err else .err
    | _ => .err)
  | _ => .err
end MP

namespace MP
open PySem (PyData)
def encF : D → PyData
  | .int i => .int i
  | .str x => .str ⟨x.toArray⟩
  | _ => .none
def encD : D → PyData
  | .tup ds => .tuple (ds.map encF)
  | d => encF d
def flI : D → Bool
  | .int _ => true
  | _ => false
def flS : D → Bool
  | .str _ => true
  | _ => false
def tTI : D → Bool
  | .tup r => r.all flI
  | _ => false
def tTS : D → Bool
  | .tup r => r.all flS
  | _ => false
/-- what can be sorted: ints, tuples of ints, tuples of texts -/
def srtOk (ds : List D) : Bool := ds.all flI || ds.all tTI || ds.all tTS
def srtD (ds : List D) : List D := ds.mergeSort (PySem.W.dataLe false encD)
/-- sorted(a list), sorted(a dict with tuple keys) -/
def fSorted : Fn := fun ds S => match ds with
  | [.ref n] => (match S[n]? with
    | some (.lst xs) => if srtOk xs = true ∧ xs.length ≤ sz then .ok (.ref S.length) (S ++ [.lst (srtD xs)]) else .err
    | some (.dic true _ kvs) => if srtOk (kvs.map (·.1)) = true ∧ kvs.length ≤ sz then .ok (.ref S.length) (S ++ [.lst (srtD (kvs.map (·.1)))]) else .err
    | _ => .err)
  | _ => .err
def nubI (ns : List Int) : List Int := ns.foldl (fun acc k => if k ∈ acc then acc else acc ++ [k]) []
/-- len(set(x)), x a list of ints -/
def opLenSet : Op1 := fun x S => match x with
  | .ref n => (match S[n]? with
    | some (.lst xs) => (match intsOf xs with
      | some ns => if ns.length ≤ 1000 then .ok (.int (nubI ns).length) S else .err
      | none => .err)
    | _ => .err)
  | _ => .err
/-- range(i, j, -1) -/
def rngDn (i : Int) (n : Nat) : List D := (List.range n).map fun k => .int (i - (k : Nat))
def wRngDn (a b : EM) : WM := fun L S => (a L S).bind fun x S1 => (b L S1).bind fun y S2 => match x, y with
  | .int i, .int j => if -(2 ^ 62) ≤ i ∧ i < 2 ^ 62 ∧ -(2 ^ 62) ≤ j ∧ j < 2 ^ 62 then .ok ⟨rngDn i (i - j).toNat, fun _ => true⟩ S2 else .err
  | _, _ => .err
/-- len of a dict with tuple keys -/
def fLenDT : Fn := fun ds S => match ds with
  | [.ref n] => (match S[n]? with
    | some (.dic true false kvs) => .ok (.int kvs.length) S
    | _ => .err)
  | _ => .err
/-- d.pop(k), a dict with tuple keys -/
def fPop1 : Fn := fun ds S => match ds with
  | [.ref n, k] => (match S[n]? with
    | some (.dic true false kvs) => if keyOk true k = true then (match kget k kvs with
      | some d => .ok d (S.set n (.dic true false (kdrop k kvs)))
      | none => .err) else .err
    | _ => .err)
  | _ => .err
end MP

namespace MP
/-- the keys of a dict that is locked -/
def wDic (a : EM) : WM := fun L S => (a L S).bind fun x S1 => match x with
  | .ref n => (match S1[n]? with
    | some (.dic true true kvs) => .ok ⟨kvs.map (·.1), fun S => decide (S[n]? = some (.dic true true kvs))⟩ S1
    | _ => .err)
  | _ => .err
def unlD (n : Nat) (kvs : List (D × D)) (S : Sto) : Option Sto := match S[n]? with
  | some (.dic true true _) => some (S.set n (.dic true false kvs))
  | _ => none
/-- a statement runs while the dict that a tells is locked -/
def sLock (a : EM) (st : SM) : SM := fun L S => match a L S with
  | .ok (.ref n) _ => (match S[n]? with
    | some (.dic true false kvs) => (match st L (S.set n (.dic true true kvs)) with
      | .nx L1 S1 => (match unlD n kvs S1 with
        | some S2 => .nx L1 S2
        | none => .err)
      | .rt d S1 => (match unlD n kvs S1 with
        | some S2 => .rt d S2
        | none => .err)
      | .bk L1 S1 => (match unlD n kvs S1 with
        | some S2 => .bk L1 S2
        | none => .err)
      | .ct L1 S1 => (match unlD n kvs S1 with
        | some S2 => .ct L1 S2
        | none => .err)
      | .exc x L1 S1 => .exc x L1 S1
      | .err => .err)
    | _ => .err)
  | _ => .err
/-- .. an expression -/
def eLock (a : EM) (m : EM) : EM := fun L S => match a L S with
  | .ok (.ref n) _ => (match S[n]? with
    | some (.dic true false kvs) => (match m L (S.set n (.dic true true kvs)) with
      | .ok d S1 => (match unlD n kvs S1 with
        | some S2 => .ok d S2
        | none => .err)
      | .exc x S1 => .exc x S1
      | .err => .err)
    | _ => .err)
  | _ => .err
/-- C(.., k = v, ..): n values, m keywords; gD: in the turn of the parameters, what lacks filled up -/
def eMakeK (c n m : Nat) (F : Fn) (gD : List D → List D → List D) (as ks : AM) : EM := fun L S => (as L S).bind fun xs S1 => (ks L S1).bind fun zs S2 => if xs.length = n ∧ zs.length = m then
  (F (.ref S2.length :: gD xs zs) (S2 ++ [.ins c []])).bind fun v S3 => if v = .non then .ok (.ref S2.length) S3 else .err else .err
end MP

namespace MP
/-- xs.remove(k), a list of ints that has k -/
def fRemove : Fn := fun ds S => match ds with
  | [.ref n, .int k] => (match S[n]? with
    | some (.lst xs) => (match intsOf xs with
      | some is => if k ∈ is then .ok .non (S.set n (.lst ((is.erase k).map .int))) else .err
      | none => .err)
    | _ => .err)
  | _ => .err
/-- xs.count(k), a list of ints -/
def fCount : Fn := fun ds S => match ds with
  | [.ref n, .int k] => (match S[n]? with
    | some (.lst xs) => (match intsOf xs with
      | some is => .ok (.int (is.count k : Nat)) S
      | none => .err)
    | _ => .err)
  | _ => .err
end MP

namespace MP
/-- the exceptions but WantError; those without their own __init__ -/
def exAll : List Nat := [0, 1, 2, 3, 4, 5, 6, 7, 8]
def exKs : List Nat := [0, 1, 2, 3, 4, 6, 7, 8]
def exW : List (List Nat) := [[66, 97, 100, 76, 101, 116, 116, 101, 114], [66, 97, 100, 78, 97, 109, 101], [66, 97, 100, 78, 117, 109, 98, 101, 114], [66, 97, 100, 83, 105, 100, 101, 115], [66, 97, 100, 83, 116, 111, 114, 121], [71, 111, 110, 101], [78, 111, 72, 111, 117, 115, 101], [78, 111, 76, 101, 116, 116, 101, 114], [78, 111, 87, 97, 121], [87, 97, 110, 116, 69, 114, 114, 111, 114]]
def refd : List Nat := [114, 101, 102, 117, 115, 101, 100]
def wT (c : Nat) : D := .tup [.str refd, .str (exW.getD c [])]
def wO (c : Nat) : List Ob := [.lst [.bl (decide (c = 1)), .bl (decide (c = 3)), .bl (decide (c = 2)), .bl (decide (c = 0))], .lst [.bl (decide (c = 6)), .bl (decide (c = 8)), .bl (decide (c = 7)), .bl (decide (c = 5))], .lst [.bl (decide (c = 1)), .bl (decide (c = 3)), .bl (decide (c = 2)), .bl (decide (c = 0)), .bl (decide (c = 6)), .bl (decide (c = 8)), .bl (decide (c = 7)), .bl (decide (c = 5)), .bl (decide (c = 4))], .lst [.str [66, 97, 100, 78, 97, 109, 101], .str [66, 97, 100, 83, 105, 100, 101, 115], .str [66, 97, 100, 78, 117, 109, 98, 101, 114], .str [66, 97, 100, 76, 101, 116, 116, 101, 114], .str [78, 111, 72, 111, 117, 115, 101], .str [78, 111, 87, 97, 121], .str [78, 111, 76, 101, 116, 116, 101, 114], .str [71, 111, 110, 101], .str [66, 97, 100, 83, 116, 111, 114, 121]], .lst [.int (if decide (c = 1) = true then 1 else 0), .int (if decide (c = 3) = true then 1 else 0), .int (if decide (c = 2) = true then 1 else 0), .int (if decide (c = 0) = true then 1 else 0), .int (if decide (c = 6) = true then 1 else 0), .int (if decide (c = 8) = true then 1 else 0), .int (if decide (c = 7) = true then 1 else 0), .int (if decide (c = 5) = true then 1 else 0), .int (if decide (c = 4) = true then 1 else 0)]]
end MP

namespace MP
/-- is_number -/
def c_is_number : SM :=
  (sSeq (sIf (tOr (tNot (tV (eUn (opIsi "int") (eV 0)))) (tOr (tV (eUn (opIsi "bool") (eV 0))) (tV (eBin opLt (eV 0) (eV 1))))) (sRet (eC (.bl false))) sNx)
  (sRet (eOr (eUn opIsN (eV 2)) (eBin opLe (eV 0) (eV 2)))))
def f_is_number : Fn := fn 3 3 c_is_number
/-- need_number -/
def c_need_number : SM :=
  (sIf (tNot (tV (eCall f_is_number (aCons (eV 0) (aCons (eV 1) (aCons (eV 2) aNil)))))) (sRaise 2 aNil) sNx)
def f_need_number : Fn := fn 3 3 c_need_number
/-- Table.__len__ -/
def c_Table___len__ : SM :=
  (sRet (eCall fLenDT (aCons (eUn (opFld 3 38) (eV 0)) aNil)))
def f_Table___len__ : Fn := fn 1 1 c_Table___len__
/-- Keeps.__len__ -/
def c_Keeps___len__ : SM :=
  (sRet (eCall fLen (aCons (eUn (opFld 1 38) (eV 0)) aNil)))
def f_Keeps___len__ : Fn := fn 1 1 c_Keeps___len__
/-- is_part -/
def c_is_part : SM :=
  (sRet (eAnd (eUn (opIsi "str") (eV 0)) (eAnd (eChain opLe opLe (eC (.int 1)) (eCall fLen (aCons (eV 0) aNil)) (eC (.int 4))) (eCall fAll (aCons (eLc (wStr (eV 0)) (gV 1) tYes (eBin (inS false) (eV 1) (eC (.str [97, 98, 99, 100, 101, 102, 103, 104, 105, 106, 107, 108, 109, 110, 111, 112, 113, 114, 115, 116, 117, 118, 119, 120, 121, 122, 48, 49, 50, 51, 52, 53, 54, 55, 56, 57]))) [1]) aNil)))))
def f_is_part : Fn := fn 1 2 c_is_part
/-- is_beginning -/
def c_is_beginning : SM :=
  (sRet (eAnd (eUn (opIsi "tuple") (eV 0)) (eAnd (eBin opLe (eCall fLen (aCons (eV 0) aNil)) (eC (.int 5))) (eCall fAll (aCons (eLc (wTup (eV 0)) (gV 1) tYes (eCall f_is_part (aCons (eV 1) aNil)) [1]) aNil)))))
def f_is_beginning : Fn := fn 1 2 c_is_beginning
/-- is_name -/
def c_is_name : SM :=
  (sRet (eAnd (eCall f_is_beginning (aCons (eV 0) aNil)) (eBin opNe (eV 0) (eTup aNil))))
def f_is_name : Fn := fn 1 1 c_is_name
/-- need_beginning -/
def c_need_beginning : SM :=
  (sIf (tNot (tV (eCall f_is_beginning (aCons (eV 0) aNil)))) (sRaise 1 aNil) sNx)
def f_need_beginning : Fn := fn 1 1 c_need_beginning
/-- need_name -/
def c_need_name : SM :=
  (sIf (tNot (tV (eCall f_is_name (aCons (eV 0) aNil)))) (sRaise 1 aNil) sNx)
def f_need_name : Fn := fn 1 1 c_need_name
/-- is_side -/
def c_is_side : SM :=
  (sRet (eCall f_is_number (aCons (eV 0) (aCons (eC (.int 0)) (aCons (eBin opSub (eC (.int 8)) (eC (.int 1))) aNil)))))
def f_is_side : Fn := fn 1 1 c_is_side
/-- need_sides -/
def c_need_sides : SM :=
  (sIf (tOr (tNot (tV (eUn (opIsi "list") (eV 0)))) (tOr (tNot (tV (eCall fAll (aCons (eLc (wLst (eV 0)) (gV 1) tYes (eCall f_is_side (aCons (eV 1) aNil)) [1]) aNil)))) (tV (eBin opLt (eUn opLenSet (eV 0)) (eCall fLen (aCons (eV 0) aNil)))))) (sRaise 3 aNil) sNx)
def f_need_sides : Fn := fn 1 2 c_need_sides
/-- Keeps.__init__ -/
def c_Keeps___init__ : SM :=
  (sSeq (sExpr (eCall f_need_number (aCons (eV 1) (aCons (eC (.int 0)) (aCons (eC (.int 9)) aNil)))))
  (sSeq (sAsg (eV 1) (gFld 1 64 (eV 0)))
  (sAsg (eLst aNil) (gFld 1 38 (eV 0)))))
def f_Keeps___init__ : Fn := fn 2 2 c_Keeps___init__
/-- Keeps.take_out -/
def c_Keeps_take_out : SM :=
  (sSeq (sAsg (eLc (wLst (eUn (opFld 1 38) (eV 0))) (gV 3) (tV (eBin opEq (eBin opIx (eV 3) (eC (.int 0))) (eV 1))) (eV 3) [3]) (gV 2))
  (sSeq (sAsg (eLc (wLst (eUn (opFld 1 38) (eV 0))) (gV 3) (tV (eBin opNe (eBin opIx (eV 3) (eC (.int 0))) (eV 1))) (eV 3) [3]) (gFld 1 38 (eV 0)))
  (sRet (eIf (tV (eBin opNe (eV 2) (eLst aNil))) (eBin opIx (eV 2) (eC (.int 0))) (eC .non)))))
def f_Keeps_take_out : Fn := fn 2 4 c_Keeps_take_out
/-- Keeps.keep -/
def c_Keeps_keep : SM :=
  (sSeq (sExpr (eMeth 1 75 f_Keeps_take_out (eV 0) (aCons (eV 1) aNil)))
  (sIf (tAnd (tV (eBin opGt (eV 3) (eV 4))) (tV (eBin opGt (eUn (opFld 1 64) (eV 0)) (eC (.int 0))))) (sAsg (eSl (eBin opAdd (eUn (opFld 1 38) (eV 0)) (eLst (aCons (eTup (aCons (eV 1) (aCons (eV 2) (aCons (eV 3) aNil)))) aNil))) (pSome (eUn opNeg (eUn (opFld 1 64) (eV 0)))) pNo) (gFld 1 38 (eV 0))) sNx))
def f_Keeps_keep : Fn := fn 5 5 c_Keeps_keep
/-- Keeps.put -/
def c_Keeps_put : SM :=
  (sSeq (sExpr (eCall f_need_name (aCons (eV 1) aNil)))
  (sSeq (sExpr (eCall f_need_number (aCons (eV 2) (aCons (eC (.int 0)) (aCons (eC (.int 999)) aNil)))))
  (sSeq (sExpr (eCall (withD f_need_number [.non]) (aCons (eV 3) (aCons (eC (.int 0)) aNil))))
  (sSeq (sExpr (eCall (withD f_need_number [.non]) (aCons (eV 4) (aCons (eC (.int 0)) aNil))))
  (sExpr (eMeth 1 33 f_Keeps_keep (eV 0) (aCons (eV 1) (aCons (eV 2) (aCons (eV 3) (aCons (eV 4) aNil))))))))))
def f_Keeps_put : Fn := fn 5 5 c_Keeps_put
/-- Keeps.find -/
def c_Keeps_find : SM :=
  (sSeq (sAsg (eLc (wLst (eUn (opFld 1 38) (eV 0))) (gV 4) (tAnd (tV (eBin opEq (eBin opIx (eV 4) (eC (.int 0))) (eV 1))) (tV (eBin opGt (eBin opIx (eV 4) (eC (.int 2))) (eV 2)))) (eV 4) [4]) (gV 3))
  (sSeq (sIf (tV (eBin opEq (eV 3) (eLst aNil))) (sRet (eC .non)) sNx)
  (sSeq (sExpr (eMeth 1 75 f_Keeps_take_out (eV 0) (aCons (eV 1) aNil)))
  (sSeq (sAsg (eBin opAdd (eUn (opFld 1 38) (eV 0)) (eV 3)) (gFld 1 38 (eV 0)))
  (sRet (eSl (eBin opIx (eV 3) (eC (.int 0))) (pSome (eC (.int 1))) pNo))))))
def f_Keeps_find : Fn := fn 3 5 c_Keeps_find
/-- Keeps.rows -/
def c_Keeps_rows : SM :=
  (sRet (eCall fList (aCons (eUn (opFld 1 38) (eV 0)) aNil)))
def f_Keeps_rows : Fn := fn 1 1 c_Keeps_rows
/-- Table.__init__ -/
def c_Table___init__ : SM :=
  (sAsg (eDic true) (gFld 3 38 (eV 0)))
def f_Table___init__ : Fn := fn 1 1 c_Table___init__
/-- Table.put -/
def c_Table_put : SM :=
  (sSeq (sExpr (eCall f_need_beginning (aCons (eV 1) aNil)))
  (sSeq (sExpr (eCall f_need_sides (aCons (eV 2) aNil)))
  (sAsg (eCall fList (aCons (eV 2) aNil)) (gSub setD (eUn (opFld 3 38) (eV 0)) (eV 1)))))
def f_Table_put : Fn := fn 3 3 c_Table_put
/-- Table.longest -/
def c_Table_longest : SM :=
  (sSeq (sFor (wRngDn (eCall fLen (aCons (eV 1) aNil)) (eUn opNeg (eC (.int 1)))) (gV 2) (sIf (tV (eBin (inD false) (eSl (eV 1) pNo (pSome (eV 2))) (eUn (opFld 3 38) (eV 0)))) (sRet (eSl (eV 1) pNo (pSome (eV 2)))) sNx))
  (sRet (eC .non)))
def f_Table_longest : Fn := fn 2 3 c_Table_longest
/-- Table.found -/
def c_Table_found : SM :=
  (sSeq (sAsg (eMeth 3 39 f_Table_longest (eV 0) (aCons (eV 1) aNil)) (gV 2))
  (sRet (eIf (tV (eUn opIsN (eV 2))) (eLst aNil) (eCall fList (aCons (eBin opGet (eUn (opFld 3 38) (eV 0)) (eV 2)) aNil)))))
def f_Table_found : Fn := fn 2 3 c_Table_found
/-- Table.rows -/
def c_Table_rows : SM :=
  (sRet (eLc (wLst (eCall fSorted (aCons (eUn (opFld 3 38) (eV 0)) aNil))) (gV 1) tYes (eTup (aCons (eV 1) (aCons (eCall fList (aCons (eBin opGet (eUn (opFld 3 38) (eV 0)) (eV 1)) aNil)) aNil))) [1]))
def f_Table_rows : Fn := fn 1 2 c_Table_rows
/-- is_letter -/
def c_is_letter : SM :=
  (sSeq (sIf (tOr (tNot (tV (eUn (opIsi "tuple") (eV 0)))) (tOr (tV (eBin opLt (eCall fLen (aCons (eV 0) aNil)) (eC (.int 2)))) (tOr (tNot (tV (eUn (opIsi "str") (eBin opIx (eV 0) (eC (.int 0)))))) (tNot (tV (eCall f_is_name (aCons (eBin opIx (eV 0) (eC (.int 1))) aNil))))))) (sRet (eC (.bl false))) sNx)
  (sSeq (sIf (tV (eBin opEq (eBin opIx (eV 0) (eC (.int 0))) (eC (.str [116, 104, 105, 110, 103])))) (sRet (eAnd (eBin opEq (eCall fLen (aCons (eV 0) aNil)) (eC (.int 4))) (eAnd (eCall f_is_number (aCons (eBin opIx (eV 0) (eC (.int 2))) (aCons (eC (.int 0)) (aCons (eC (.int 999)) aNil)))) (eCall (withD f_is_number [.non]) (aCons (eBin opIx (eV 0) (eC (.int 3))) (aCons (eC (.int 0)) aNil)))))) sNx)
  (sRet (eAnd (eBin (inT false) (eBin opIx (eV 0) (eC (.int 0))) (eTup (aCons (eC (.str [97, 115, 107])) (aCons (eC (.str [110, 111])) aNil)))) (eBin opEq (eCall fLen (aCons (eV 0) aNil)) (eC (.int 2)))))))
def f_is_letter : Fn := fn 1 1 c_is_letter
/-- Wait.__init__ -/
def c_Wait___init__ : SM :=
  (sSeq (sAsg (eV 1) (gFld 4 70 (eV 0)))
  (sSeq (sAsg (eV 2) (gFld 4 85 (eV 0)))
  (sSeq (sAsg (eV 3) (gFld 4 9 (eV 0)))
  (sAsg (eLst aNil) (gFld 4 50 (eV 0))))))
def f_Wait___init__ : Fn := fn 4 4 c_Wait___init__
/-- House.__init__ -/
def c_House___init__ : SM :=
  (sSeq (sExpr (eCall f_need_number (aCons (eV 1) (aCons (eC (.int 0)) (aCons (eC (.int 7)) aNil)))))
  (sSeq (sExpr (eCall f_need_sides (aCons (eV 2) aNil)))
  (sSeq (sIf (tV (eBin (inL false) (eV 1) (eV 2))) (sRaise 3 aNil) sNx)
  (sSeq (sAsg (eMake 1 f_Keeps___init__ (aCons (eV 3) aNil)) (gV 5))
  (sSeq (sExpr (eCall f_need_number (aCons (eV 4) (aCons (eC (.int 1)) (aCons (eC (.int 20)) aNil)))))
  (sSeq (sAsg (eV 1) (gFld 0 41 (eV 0)))
  (sSeq (sAsg (eCall fList (aCons (eV 2) aNil)) (gFld 0 44 (eV 0)))
  (sSeq (sAsg (eV 5) (gFld 0 68 (eV 0)))
  (sSeq (sAsg (eV 4) (gFld 0 43 (eV 0)))
  (sSeq (sAsg (eMake 3 f_Table___init__ aNil) (gFld 0 63 (eV 0)))
  (sSeq (sAsg (eDic true) (gFld 0 80 (eV 0)))
  (sSeq (sAsg (eDic true) (gFld 0 58 (eV 0)))
  (sSeq (sAsg (eDic true) (gFld 0 24 (eV 0)))
  (sAsg (eLst aNil) (gFld 0 20 (eV 0))))))))))))))))
def f_House___init__ : Fn := fn 5 6 c_House___init__
/-- House.tell -/
def c_House_tell : SM :=
  (sSeq (sIf (tV (eUn (opIsi "tuple") (eV 1))) (sSeq (sAsg (eTup (aCons (eIf (tV (eBin opEq (eBin opIx (eV 2) (eC (.int 0))) (eC (.str [116, 104, 105, 110, 103])))) (eBin opIx (eV 2) (eC (.int 2))) (eC .non)) aNil)) (gSub setL (eUn (opFld 0 20) (eV 0)) (eBin opIx (eV 1) (eC (.int 1)))))
  (sRet (eLst aNil))) sNx)
  (sRet (eLst (aCons (eTup (aCons (eV 1) (aCons (eV 2) aNil))) aNil))))
def f_House_tell : Fn := fn 3 3 c_House_tell
/-- House.tell_all -/
def c_House_tell_all : SM :=
  (sSeq (sAsg (eLst aNil) (gV 3))
  (sSeq (sFor (wLst (eV 1)) (gV 4) (sAsg (eBin opAdd (eV 3) (eMeth 0 77 f_House_tell (eV 0) (aCons (eV 4) (aCons (eV 2) aNil)))) (gV 3)))
  (sRet (eV 3))))
def f_House_tell_all : Fn := fn 3 5 c_House_tell_all
/-- House.table_sides -/
def c_House_table_sides : SM :=
  (sRet (eLc (wLst (eMeth 3 23 f_Table_found (eUn (opFld 0 63) (eV 0)) (aCons (eV 1) aNil))) (gV 2) (tV (eBin (inL false) (eV 2) (eUn (opFld 0 44) (eV 0)))) (eV 2) [2]))
def f_House_table_sides : Fn := fn 2 3 c_House_table_sides
/-- House.joined -/
def c_House_joined : SM :=
  (sSeq (sAsg (eTup (aCons (eBin opGet (eUn (opFld 0 58) (eV 0)) (eV 2)) (aCons (eLst aNil) aNil))) (gTup 2 (gCons (gV 4) (gCons (gV 5) gNil))))
  (sSeq (sIf (tV (eBin (inL true) (eV 1) (eUn (opFld 4 85) (eV 4)))) (sExpr (eBM "list" fAppend (eUn (opFld 4 85) (eV 4)) (aCons (eV 1) aNil))) sNx)
  (sSeq (sFor (wLst (eMeth 0 74 f_House_table_sides (eV 0) (aCons (eV 2) aNil))) (gV 3) (sIf (tAnd (tV (eBin (inL true) (eV 3) (eUn (opFld 4 9) (eV 4)))) (tAnd (tV (eBin (inL true) (eV 3) (eUn (opFld 4 50) (eV 4)))) (tV (eBin opNe (eUn (opFld 4 85) (eV 4)) (eLst (aCons (eV 3) aNil)))))) (sSeq (sExpr (eBM "list" fAppend (eUn (opFld 4 9) (eV 4)) (aCons (eV 3) aNil)))
  (sExpr (eBM "list" fAppend (eV 5) (aCons (eTup (aCons (eV 3) (aCons (eTup (aCons (eC (.str [97, 115, 107])) (aCons (eV 2) aNil))) aNil))) aNil)))) sNx))
  (sRet (eV 5)))))
def f_House_joined : Fn := fn 3 6 c_House_joined
/-- House.asked_by -/
def c_House_asked_by : SM :=
  (sSeq (sIf (tV (eBin (inD false) (eV 2) (eUn (opFld 0 80) (eV 0)))) (sSeq (sAsg (eBin opGet (eUn (opFld 0 80) (eV 0)) (eV 2)) (gTup 2 (gCons (gV 6) (gCons (gV 7) gNil))))
  (sRet (eMeth 0 77 f_House_tell (eV 0) (aCons (eV 1) (aCons (eTup (aCons (eC (.str [116, 104, 105, 110, 103])) (aCons (eV 2) (aCons (eV 6) (aCons (eBin opAdd (eV 3) (eV 7)) aNil))))) aNil))))) sNx)
  (sSeq (sAsg (eMeth 1 21 f_Keeps_find (eUn (opFld 0 68) (eV 0)) (aCons (eV 2) (aCons (eV 3) aNil))) (gV 4))
  (sSeq (sIf (tAnd (tV (eUn opIsN (eV 4))) (tAnd (tV (eBin (inD false) (eV 2) (eUn (opFld 0 24) (eV 0)))) (tV (eBin opEq (eBin opIx (eBin opGet (eUn (opFld 0 24) (eV 0)) (eV 2)) (eC (.int 2))) (eV 3))))) (sAsg (eBin opGet (eUn (opFld 0 24) (eV 0)) (eV 2)) (gV 4)) sNx)
  (sSeq (sIf (tV (eUn opNotN (eV 4))) (sRet (eMeth 0 77 f_House_tell (eV 0) (aCons (eV 1) (aCons (eTup (aCons (eC (.str [116, 104, 105, 110, 103])) (aCons (eV 2) (aCons (eBin opIx (eV 4) (eC (.int 0))) (aCons (eBin opIx (eV 4) (eC (.int 1))) aNil))))) aNil)))) sNx)
  (sSeq (sIf (tV (eBin (inD false) (eV 2) (eUn (opFld 0 58) (eV 0)))) (sRet (eMeth 0 32 f_House_joined (eV 0) (aCons (eV 1) (aCons (eV 2) aNil)))) sNx)
  (sSeq (sAsg (eLc (wLst (eMeth 0 74 f_House_table_sides (eV 0) (aCons (eV 2) aNil))) (gV 8) (tV (eBin opNe (eV 8) (eV 1))) (eV 8) [8]) (gV 5))
  (sSeq (sIf (tV (eBin opEq (eV 5) (eLst aNil))) (sRet (eMeth 0 77 f_House_tell (eV 0) (aCons (eV 1) (aCons (eTup (aCons (eC (.str [110, 111])) (aCons (eV 2) aNil))) aNil)))) sNx)
  (sSeq (sAsg (eMake 4 f_Wait___init__ (aCons (eV 3) (aCons (eLst (aCons (eV 1) aNil)) (aCons (eCall fList (aCons (eV 5) aNil)) aNil)))) (gSub setD (eUn (opFld 0 58) (eV 0)) (eV 2)))
  (sRet (eLc (wLst (eV 5)) (gV 8) tYes (eTup (aCons (eV 8) (aCons (eTup (aCons (eC (.str [97, 115, 107])) (aCons (eV 2) aNil))) aNil))) [8]))))))))))
def f_House_asked_by : Fn := fn 4 9 c_House_asked_by
/-- House.thing_from -/
def c_House_thing_from : SM :=
  (sSeq (sAsg (eV 2) (gTup 4 (gCons (gV 5) (gCons (gV 6) (gCons (gV 7) (gCons (gV 8) gNil))))))
  (sSeq (sIf (tOr (tV (eBin (inD true) (eV 6) (eUn (opFld 0 58) (eV 0)))) (tV (eBin (inL true) (eV 1) (eUn (opFld 4 9) (eBin opGet (eUn (opFld 0 58) (eV 0)) (eV 6)))))) (sRet (eLst aNil)) sNx)
  (sSeq (sExpr (eMeth 1 33 f_Keeps_keep (eUn (opFld 0 68) (eV 0)) (aCons (eV 6) (aCons (eV 7) (aCons (eV 8) (aCons (eV 3) aNil))))))
  (sSeq (sAsg (eTup (aCons (eV 7) (aCons (eV 8) (aCons (eV 3) aNil)))) (gSub setD (eUn (opFld 0 24) (eV 0)) (eV 6)))
  (sSeq (sAsg (eBM "dict" fPop1 (eUn (opFld 0 58) (eV 0)) (aCons (eV 6) aNil)) (gV 4))
  (sRet (eMeth 0 78 f_House_tell_all (eV 0) (aCons (eLc (wLst (eUn (opFld 4 85) (eV 4))) (gV 9) (tV (eBin opNe (eV 9) (eV 1))) (eV 9) [9]) (aCons (eV 2) aNil)))))))))
def f_House_thing_from : Fn := fn 4 10 c_House_thing_from
/-- House.no_from -/
def c_House_no_from : SM :=
  (sSeq (sAsg (eBin opIx (eV 2) (eC (.int 1))) (gV 3))
  (sSeq (sIf (tOr (tV (eBin (inD true) (eV 3) (eUn (opFld 0 58) (eV 0)))) (tV (eBin (inL true) (eV 1) (eUn (opFld 4 9) (eBin opGet (eUn (opFld 0 58) (eV 0)) (eV 3)))))) (sRet (eLst aNil)) sNx)
  (sSeq (sAsg (eBin opGet (eUn (opFld 0 58) (eV 0)) (eV 3)) (gV 4))
  (sSeq (sExpr (eBM "list" fRemove (eUn (opFld 4 9) (eV 4)) (aCons (eV 1) aNil)))
  (sSeq (sExpr (eBM "list" fAppend (eUn (opFld 4 50) (eV 4)) (aCons (eV 1) aNil)))
  (sSeq (sIf (tV (eBin opNe (eUn (opFld 4 9) (eV 4)) (eLst aNil))) (sRet (eLst aNil)) sNx)
  (sSeq (sExpr (eBM "dict" fPop1 (eUn (opFld 0 58) (eV 0)) (aCons (eV 3) aNil)))
  (sRet (eMeth 0 78 f_House_tell_all (eV 0) (aCons (eUn (opFld 4 85) (eV 4)) (aCons (eV 2) aNil)))))))))))
def f_House_no_from : Fn := fn 3 5 c_House_no_from
/-- House.ask -/
def c_House_ask : SM :=
  (sSeq (sExpr (eCall f_need_name (aCons (eV 1) aNil)))
  (sSeq (sExpr (eCall (withD f_need_number [.non]) (aCons (eV 2) (aCons (eC (.int 0)) aNil))))
  (sSeq (sExpr (eBM "list" fAppend (eUn (opFld 0 20) (eV 0)) (aCons (eTup aNil) aNil)))
  (sSeq (sAsg (eBin opSub (eCall fLen (aCons (eUn (opFld 0 20) (eV 0)) aNil)) (eC (.int 1))) (gV 3))
  (sRet (eTup (aCons (eV 3) (aCons (eMeth 0 10 f_House_asked_by (eV 0) (aCons (eTup (aCons (eC (.str [111, 119, 110])) (aCons (eV 3) aNil))) (aCons (eV 1) (aCons (eV 2) aNil)))) aNil))))))))
def f_House_ask : Fn := fn 3 4 c_House_ask
/-- House.come -/
def c_House_come : SM :=
  (sSeq (sIf (tOr (tNot (tV (eCall f_is_number (aCons (eV 1) (aCons (eC (.int 0)) (aCons (eC (.int 7)) aNil)))))) (tV (eBin (inL true) (eV 1) (eUn (opFld 0 44) (eV 0))))) (sRaise 8 aNil) sNx)
  (sSeq (sIf (tNot (tV (eCall f_is_letter (aCons (eV 2) aNil)))) (sRaise 0 aNil) sNx)
  (sSeq (sExpr (eCall (withD f_need_number [.non]) (aCons (eV 3) (aCons (eC (.int 0)) aNil))))
  (sSeq (sIf (tV (eBin opEq (eBin opIx (eV 2) (eC (.int 0))) (eC (.str [97, 115, 107])))) (sRet (eMeth 0 10 f_House_asked_by (eV 0) (aCons (eV 1) (aCons (eBin opIx (eV 2) (eC (.int 1))) (aCons (eV 3) aNil))))) sNx)
  (sSeq (sIf (tAnd (tV (eBin opEq (eBin opIx (eV 2) (eC (.int 0))) (eC (.str [116, 104, 105, 110, 103])))) (tV (eBin opGe (eBin opIx (eV 2) (eC (.int 3))) (eV 3)))) (sRet (eMeth 0 79 f_House_thing_from (eV 0) (aCons (eV 1) (aCons (eV 2) (aCons (eV 3) aNil))))) sNx)
  (sRet (eMeth 0 49 f_House_no_from (eV 0) (aCons (eV 1) (aCons (eTup (aCons (eC (.str [110, 111])) (aCons (eBin opIx (eV 2) (eC (.int 1))) aNil))) aNil)))))))))
def f_House_come : Fn := fn 4 4 c_House_come
/-- House.teach -/
def c_House_teach : SM :=
  (sExpr (eMeth 3 61 f_Table_put (eUn (opFld 0 63) (eV 0)) (aCons (eV 1) (aCons (eV 2) aNil))))
def f_House_teach : Fn := fn 3 3 c_House_teach
/-- House.end -/
def c_House_end : SM :=
  (sSeq (sExpr (eCall f_need_number (aCons (eV 1) (aCons (eC (.int 0)) (aCons (eBin opSub (eCall fLen (aCons (eUn (opFld 0 20) (eV 0)) aNil)) (eC (.int 1))) aNil)))))
  (sRet (eBin opIx (eUn (opFld 0 20) (eV 0)) (eV 1))))
def f_House_end : Fn := fn 2 2 c_House_end
/-- House.waits -/
def c_House_waits : SM :=
  (sSeq (sAsg (eLst aNil) (gV 1))
  (sSeq (sLock (eUn (opFld 0 58) (eV 0)) (sFor (wDic (eUn (opFld 0 58) (eV 0))) (gV 2) (sSeq (sAsg (eBin opGet (eUn (opFld 0 58) (eV 0)) (eV 2)) (gV 3))
  (sExpr (eBM "list" fAppend (eV 1) (aCons (eTup (aCons (eV 2) (aCons (eUn (opFld 4 70) (eV 3)) (aCons (eCall fList (aCons (eUn (opFld 4 85) (eV 3)) aNil)) (aCons (eCall fList (aCons (eUn (opFld 4 9) (eV 3)) aNil)) (aCons (eCall fList (aCons (eUn (opFld 4 50) (eV 3)) aNil)) aNil)))))) aNil))))))
  (sRet (eV 1))))
def f_House_waits : Fn := fn 1 4 c_House_waits
/-- House.keeps -/
def c_House_keeps : SM :=
  (sRet (eMeth 1 65 f_Keeps_rows (eUn (opFld 0 68) (eV 0)) aNil))
def f_House_keeps : Fn := fn 1 1 c_House_keeps
/-- _law_cell -/
def c__law_cell : SM :=
  (sSeq (sIf (tV (eBin opEq (eV 0) (eLst aNil))) (sRet (eBin opMul (eV 1) (eC (.int 7919)))) sNx)
  (sRet (eBin opAdd (eBin opIx (eV 0) (eBin opMod (eV 1) (eCall fLen (aCons (eV 0) aNil)))) (eBin opMul (eBin opDiv (eV 1) (eCall fLen (aCons (eV 0) aNil))) (eC (.int 104729))))))
def f__law_cell : Fn := fn 2 2 c__law_cell
/-- _law_drawn -/
def c__law_drawn : SM :=
  (sSeq (sAsg (eBin opMod (eBin opAdd (eBin opMul (eV 0) (eC (.int 6364136223846793005))) (eBin opMul (eBin opAdd (eV 1) (eC (.int 1))) (eC (.int 1442695040888963407)))) (eC (.int 340282366920938463463374607431768211507))) (gV 2))
  (sSeq (sAsg (eBin opMod (eBin opMul (eV 2) (eV 2)) (eC (.int 340282366920938463463374607431768211297))) (gV 2))
  (sSeq (sAsg (eBin opMul (eBin opMul (eBin opAdd (eBin opMod (eV 2) (eC (.int 18446744073709551557))) (eC (.int 1))) (eBin opAdd (eBin opDiv (eV 2) (eC (.int 18446744073709551557))) (eC (.int 1)))) (eV 2)) (gV 2))
  (sRet (eBin opMod (eV 2) (eC (.int 340282366920938463463374607431768211507)))))))
def f__law_drawn : Fn := fn 2 3 c__law_drawn
/-- _law_roll -/
def c__law_roll : SM :=
  (sSeq (sIf (tV (eBin opGe (eBin opIx (eV 0) (eC (.int 0))) (eBin opPow (eC (.int 10)) (eC (.int 18))))) (sSeq (sAsg (eBin opMod (eBin opIx (eV 0) (eC (.int 0))) (eV 1)) (gV 2))
  (sSeq (sAsg (eBin opDiv (eBin opIx (eV 0) (eC (.int 0))) (eV 1)) (gSub setL (eV 0) (eC (.int 0))))
  (sRet (eV 2)))) sNx)
  (sSeq (sAsg (eBin opAdd (eBin opIx (eV 0) (eC (.int 1))) (eC (.int 1))) (gSub setL (eV 0) (eC (.int 1))))
  (sRet (eBin opMod (eBin opDiv (eCall f__law_drawn (aCons (eBin opIx (eV 0) (eC (.int 0))) (aCons (eBin opIx (eV 0) (eC (.int 1))) aNil))) (eC (.int 8))) (eV 1)))))
def f__law_roll : Fn := fn 2 3 c__law_roll
/-- _law_rounds -/
def c__law_rounds : SM :=
  (sRet (eLc (wRng1 (eCall fMax2 (aCons (eC (.int 1)) (aCons (eCall fMin2 (aCons (eV 1) (aCons (eCall fLen (aCons (eV 0) aNil)) aNil))) aNil)))) (gV 2) tYes (eLst (aCons (eCall f__law_cell (aCons (eV 0) (aCons (eV 2) aNil))) (aCons (eC (.int 0)) aNil))) [2]))
def f__law_rounds : Fn := fn 2 3 c__law_rounds
/-- _law_head -/
def c__law_head : SM :=
  (sSeq (sAsg (eLst (aCons (eC (.str [97])) (aCons (eC (.str [98])) (aCons (eC (.str [99])) (aCons (eC (.str [120, 57])) (aCons (eC (.str [108, 111, 110, 103])) aNil)))))) (gV 1))
  (sRet (eCall fTuple (aCons (eLc (wRng1 (eCall f__law_roll (aCons (eV 0) (aCons (eC (.int 5)) aNil)))) (gV 2) tYes (eBin opIx (eV 1) (eBin opMul (eCall f__law_roll (aCons (eV 0) (aCons (eC (.int 5)) aNil))) (eCall f__law_roll (aCons (eV 0) (aCons (eC (.int 2)) aNil))))) [2]) aNil))))
def f__law_head : Fn := fn 1 3 c__law_head
/-- _law_any_name -/
def c__law_any_name : SM :=
  (sRet (eIf (tV (eBin opEq (eCall f__law_roll (aCons (eV 0) (aCons (eC (.int 3)) aNil))) (eC (.int 0)))) (eTup (aCons (eC (.str [97])) aNil)) (eBin opAdd (eCall f__law_head (aCons (eV 0) aNil)) (eTup (aCons (eBin opIx (eLst (aCons (eC (.str [97])) (aCons (eC (.str [98])) aNil))) (eCall f__law_roll (aCons (eV 0) (aCons (eC (.int 2)) aNil)))) aNil)))))
def f__law_any_name : Fn := fn 1 1 c__law_any_name
/-- _law_some_sides -/
def c__law_some_sides : SM :=
  (sSeq (sAsg (eLst aNil) (gV 2))
  (sSeq (sFor (wLst (eV 1)) (gV 3) (sIf (tV (eBin opEq (eCall f__law_roll (aCons (eV 0) (aCons (eC (.int 2)) aNil))) (eC (.int 0)))) (sExpr (eBM "list" fInsert (eV 2) (aCons (eCall f__law_roll (aCons (eV 0) (aCons (eBin opAdd (eCall fLen (aCons (eV 2) aNil)) (eC (.int 1))) aNil))) (aCons (eV 3) aNil)))) sNx))
  (sRet (eV 2))))
def f__law_some_sides : Fn := fn 2 4 c__law_some_sides
/-- _law_thing_comes -/
def c__law_thing_comes : SM :=
  (sSeq (sAsg (eTup (aCons (eTup (aCons (eC (.str [116, 104, 105, 110, 103])) (aCons (eV 2) (aCons (eC (.int 7)) (aCons (eC (.int 3)) aNil))))) (aCons (eLc (wLst (eV 4)) (gV 9) (tAnd (tNot (tV (eUn (opIsi "tuple") (eV 9)))) (tV (eBin opNe (eV 9) (eV 6)))) (eV 9) [9]) aNil))) (gTup 2 (gCons (gV 7) (gCons (gV 8) gNil))))
  (sSeq (sIf (tV (eBin opNe (eMeth 0 13 f_House_come (eV 1) (aCons (eV 6) (aCons (eV 7) (aCons (eC (.int 0)) aNil)))) (eLc (wLst (eV 8)) (gV 9) tYes (eTup (aCons (eV 9) (aCons (eV 7) aNil))) [9]))) (sRet (eC (.bl false))) sNx)
  (sSeq (sIf (tV (eBin opNe (eLc (wLst (eV 5)) (gV 9) tYes (eMeth 0 19 f_House_end (eV 1) (aCons (eV 9) aNil)) [9]) (eBin opMul (eLst (aCons (eTup (aCons (eC (.int 7)) aNil)) aNil)) (eCall fLen (aCons (eV 5) aNil))))) (sRet (eC (.bl false))) sNx)
  (sSeq (sIf (tOr (tV (eBin opNe (eMeth 0 34 f_House_keeps (eV 1) aNil) (eIf (tV (eBin opGt (eV 3) (eC (.int 0)))) (eLst (aCons (eTup (aCons (eV 2) (aCons (eC (.int 7)) (aCons (eC (.int 3)) aNil)))) aNil)) (eLst aNil)))) (tV (eBin opNe (eMeth 0 13 f_House_come (eV 1) (aCons (eV 6) (aCons (eV 7) (aCons (eC (.int 0)) aNil)))) (eLst aNil)))) (sRet (eC (.bl false))) sNx)
  (sRet (eAnd (eBin opEq (eBin opIx (eMeth 0 8 f_House_ask (eV 1) (aCons (eV 2) (aCons (eC (.int 0)) aNil))) (eC (.int 1))) (eLst aNil)) (eBin opEq (eMeth 0 19 f_House_end (eV 1) (aCons (eCall fLen (aCons (eV 5) aNil)) aNil)) (eTup (aCons (eC (.int 7)) aNil)))))))))
def f__law_thing_comes : Fn := fn 7 10 c__law_thing_comes
/-- _law_noes_come -/
def c__law_noes_come : SM :=
  (sSeq (sFor (wLst (eSl (eV 4) pNo (pSome (eUn opNeg (eC (.int 1)))))) (gV 5) (sIf (tOr (tV (eBin opNe (eMeth 0 13 f_House_come (eV 0) (aCons (eV 5) (aCons (eTup (aCons (eC (.str [110, 111])) (aCons (eV 1) aNil))) (aCons (eC (.int 0)) aNil)))) (eLst aNil))) (tV (eBin opEq (eMeth 0 82 f_House_waits (eV 0) aNil) (eLst aNil)))) (sRet (eC (.bl false))) sNx))
  (sSeq (sAsg (eLc (wLst (eV 2)) (gV 5) (tNot (tV (eUn (opIsi "tuple") (eV 5)))) (eV 5) [5]) (gV 6))
  (sSeq (sIf (tV (eBin opNe (eMeth 0 13 f_House_come (eV 0) (aCons (eBin opIx (eV 4) (eUn opNeg (eC (.int 1)))) (aCons (eTup (aCons (eC (.str [110, 111])) (aCons (eV 1) aNil))) (aCons (eC (.int 0)) aNil)))) (eLc (wLst (eV 6)) (gV 5) tYes (eTup (aCons (eV 5) (aCons (eTup (aCons (eC (.str [110, 111])) (aCons (eV 1) aNil))) aNil))) [5]))) (sRet (eC (.bl false))) sNx)
  (sRet (eAnd (eBin opEq (eLc (wLst (eV 3)) (gV 5) tYes (eMeth 0 19 f_House_end (eV 0) (aCons (eV 5) aNil)) [5]) (eBin opMul (eLst (aCons (eTup (aCons (eC .non) aNil)) aNil)) (eCall fLen (aCons (eV 3) aNil)))) (eBin opEq (eMeth 0 34 f_House_keeps (eV 0) aNil) (eLst aNil)))))))
def f__law_noes_come : Fn := fn 5 7 c__law_noes_come
/-- law -/
def c_law : SM :=
  (sSeq (sFor (wLst (eCall f__law_rounds (aCons (eV 0) (aCons (eC (.int 4)) aNil)))) (gV 1) (sSeq (sAsg (eTup (aCons (eCall f__law_any_name (aCons (eV 1) aNil)) (aCons (eLst (aCons (eC (.int 1)) (aCons (eC (.int 2)) (aCons (eC (.int 3)) (aCons (eC (.int 4)) aNil))))) (aCons (eCall f__law_roll (aCons (eV 1) (aCons (eC (.int 4)) aNil))) aNil)))) (gTup 3 (gCons (gV 5) (gCons (gV 6) (gCons (gV 7) gNil)))))
  (sSeq (sAsg (eMakeK 0 2 2 f_House___init__ (fun ds es => ds ++ es) (aCons (eC (.int 0)) (aCons (eV 6) aNil)) (aCons (eV 7) (aCons (eC (.int 9)) aNil))) (gV 2))
  (sSeq (sAsg (eBin opAdd (eCall f__law_some_sides (aCons (eV 1) (aCons (eV 6) aNil))) (eLst (aCons (eC (.int 5)) aNil))) (gV 3))
  (sSeq (sExpr (eMeth 0 76 f_House_teach (eV 2) (aCons (eTup aNil) (aCons (eV 3) aNil))))
  (sSeq (sAsg (eTup (aCons (eLst aNil) (aCons (eLst aNil) (aCons (eLst aNil) aNil)))) (gTup 3 (gCons (gV 8) (gCons (gV 9) (gCons (gV 10) gNil)))))
  (sSeq (sFor (wRng1 (eBin opAdd (eC (.int 1)) (eCall f__law_roll (aCons (eV 1) (aCons (eC (.int 6)) aNil))))) (gV 4) (sSeq (sIf (tV (eBin opEq (eCall f__law_roll (aCons (eV 1) (aCons (eC (.int 2)) aNil))) (eC (.int 0)))) (sSeq (sAsg (eMeth 0 8 f_House_ask (eV 2) (aCons (eV 5) (aCons (eC (.int 0)) aNil))) (gTup 2 (gCons (gV 13) (gCons (gV 12) gNil))))
  (sSeq (sExpr (eBM "list" fAppend (eV 8) (aCons (eTup (aCons (eC (.str [111, 119, 110])) (aCons (eV 13) aNil))) aNil)))
  (sExpr (eBM "list" fAppend (eV 10) (aCons (eV 13) aNil))))) (sSeq (sAsg (eBin opIx (eV 6) (eCall f__law_roll (aCons (eV 1) (aCons (eC (.int 4)) aNil)))) (gV 11))
  (sSeq (sAsg (eMeth 0 13 f_House_come (eV 2) (aCons (eV 11) (aCons (eTup (aCons (eC (.str [97, 115, 107])) (aCons (eV 5) aNil))) (aCons (eC (.int 0)) aNil)))) (gV 12))
  (sAsg (eBin opAdd (eV 8) (eIf (tV (eBin (inL true) (eV 11) (eV 8))) (eLst (aCons (eV 11) aNil)) (eLst aNil))) (gV 8)))))
  (sSeq (sIf (tV (eBin opNe (eLc (wLst (eV 12)) (gTup 2 (gCons (gV 14) (gCons (gV 15) gNil))) (tV (eBin opNe (eV 15) (eTup (aCons (eC (.str [97, 115, 107])) (aCons (eV 5) aNil))))) (eV 15) [14, 15]) (eLst aNil))) (sSeq (sAsg (eLst aNil) (gV 8))
  sBrk) sNx)
  (sAsg (eBin opAdd (eV 9) (eLc (wLst (eV 12)) (gTup 2 (gCons (gV 14) (gCons (gV 15) gNil))) tYes (eV 14) [14, 15])) (gV 9)))))
  (sSeq (sIf (tV (eBin opNe (eLc (wLst (eV 9)) (gV 11) (tOr (tV (eBin opGt (eBM "list" fCount (eV 9) (aCons (eV 11) aNil)) (eC (.int 1)))) (tV (eBin (inL true) (eV 11) (eV 3)))) (eV 11) [11]) (eLst aNil))) (sRet (eC (.bl false))) sNx)
  (sIf (tAnd (tV (eBin opNe (eV 8) (eLst aNil))) (tV (eBin opNe (eV 9) (eLst aNil)))) (sSeq (sIf (tV (eBin opEq (eCall f__law_roll (aCons (eV 1) (aCons (eC (.int 2)) aNil))) (eC (.int 0)))) (sSeq (sAsg (eBin opIx (eV 9) (eCall f__law_roll (aCons (eV 1) (aCons (eCall fLen (aCons (eV 9) aNil)) aNil)))) (gV 11))
  (sIf (tNot (tV (eCall f__law_thing_comes (aCons (eV 1) (aCons (eV 2) (aCons (eV 5) (aCons (eV 7) (aCons (eV 8) (aCons (eV 10) (aCons (eV 11) aNil)))))))))) (sRet (eC (.bl false))) sNx)) (sIf (tNot (tV (eCall f__law_noes_come (aCons (eV 2) (aCons (eV 5) (aCons (eV 8) (aCons (eV 10) (aCons (eV 9) aNil)))))))) (sRet (eC (.bl false))) sNx))
  (sIf (tV (eBin opNe (eMeth 0 82 f_House_waits (eV 2) aNil) (eLst aNil))) (sRet (eC (.bl false))) sNx)) sNx)))))))))
  (sRet (eC (.bl true))))
def f_law : Fn := fn 1 16 c_law
end MP

namespace MP
open PySem (PyData)
/-! ### what is wanted behind a computation -/
def wR {α : Type} (r : R α) (Q : α → Sto → Prop) (E : Exc → Sto → Prop) : Prop := match r with
  | .ok a S => Q a S
  | .exc x S => E x S
  | .err => False
structure En where
  nx : Loc → Sto → Prop
  rt : D → Sto → Prop
  bk : Loc → Sto → Prop
  ct : Loc → Sto → Prop
  ex : Exc → Loc → Sto → Prop
def wS (r : RS) (K : En) : Prop := match r with
  | .nx L S => K.nx L S
  | .rt d S => K.rt d S
  | .bk L S => K.bk L S
  | .ct L S => K.ct L S
  | .exc x L S => K.ex x L S
  | .err => False
section
variable {α β : Type}
@[simp] theorem wR_ok (a : α) (S : Sto) (Q : α → Sto → Prop) (E : Exc → Sto → Prop) : wR (.ok a S) Q E = Q a S := rfl
@[simp] theorem wR_exc (x : Exc) (S : Sto) (Q : α → Sto → Prop) (E : Exc → Sto → Prop) : wR (.exc x S : R α) Q E = E x S := rfl
@[simp] theorem wR_err (Q : α → Sto → Prop) (E : Exc → Sto → Prop) : wR (.err : R α) Q E = False := rfl
@[simp] theorem wR_bind (r : R α) (f : α → Sto → R β) (Q : β → Sto → Prop) (E : Exc → Sto → Prop) : wR (r.bind f) Q E = wR r (fun a S => wR (f a S) Q E) E := by cases r <;> rfl
@[simp] theorem wS_nx (L : Loc) (S : Sto) (K : En) : wS (.nx L S) K = K.nx L S := rfl
@[simp] theorem wS_rt (d : D) (S : Sto) (K : En) : wS (.rt d S) K = K.rt d S := rfl
@[simp] theorem wS_bk (L : Loc) (S : Sto) (K : En) : wS (.bk L S) K = K.bk L S := rfl
@[simp] theorem wS_ct (L : Loc) (S : Sto) (K : En) : wS (.ct L S) K = K.ct L S := rfl
@[simp] theorem wS_exc (x : Exc) (L : Loc) (S : Sto) (K : En) : wS (.exc x L S) K = K.ex x L S := rfl
@[simp] theorem wS_err (K : En) : wS .err K = False := rfl
@[simp] theorem wS_st (L : Loc) (r : R α) (f : α → Sto → RS) (K : En) : wS (r.st L f) K = wR r (fun a S => wS (f a S) K) (fun x S => K.ex x L S) := by cases r <;> rfl
theorem wR_mono {r : R α} {Q Q' : α → Sto → Prop} {E E' : Exc → Sto → Prop} (h : wR r Q E) (hq : ∀ a S, Q a S → Q' a S) (he : ∀ x S, E x S → E' x S) : wR r Q' E' := by
  cases r with
  | ok a S => exact hq _ _ h
  | exc x S => exact he _ _ h
  | err => exact h
theorem wS_mono {r : RS} {K K' : En} (h : wS r K) (h1 : ∀ L S, K.nx L S → K'.nx L S) (h2 : ∀ L S, K.rt L S → K'.rt L S) (h3 : ∀ L S, K.bk L S → K'.bk L S) (h4 : ∀ L S, K.ct L S → K'.ct L S) (h5 : ∀ x L S, K.ex x L S → K'.ex x L S) : wS r K' := by
  cases r with
  | nx L S => exact h1 _ _ h
  | rt d S => exact h2 _ _ h
  | bk L S => exact h3 _ _ h
  | ct L S => exact h4 _ _ h
  | exc x L S => exact h5 _ _ _ h
  | err => exact h
end
@[simp] theorem wS_sNx (L : Loc) (S : Sto) (K : En) : wS (sNx L S) K = K.nx L S := rfl
@[simp] theorem wS_sSeq (a b : SM) (L : Loc) (S : Sto) (K : En) : wS (sSeq a b L S) K = wS (a L S) { K with nx := fun L1 S1 => wS (b L1 S1) K } := by
  unfold sSeq
  cases a L S <;> rfl
@[simp] theorem wS_sExpr (a : EM) (L : Loc) (S : Sto) (K : En) : wS (sExpr a L S) K = wR (a L S) (fun _ S1 => K.nx L S1) (fun x S => K.ex x L S) := by simp [sExpr]
@[simp] theorem wS_sRet (a : EM) (L : Loc) (S : Sto) (K : En) : wS (sRet a L S) K = wR (a L S) (fun d S1 => K.rt d S1) (fun x S => K.ex x L S) := by simp [sRet]
@[simp] theorem wS_sRetN (L : Loc) (S : Sto) (K : En) : wS (sRetN L S) K = K.rt .non S := rfl
@[simp] theorem wS_sBrk (L : Loc) (S : Sto) (K : En) : wS (sBrk L S) K = K.bk L S := rfl
@[simp] theorem wS_sCnt (L : Loc) (S : Sto) (K : En) : wS (sCnt L S) K = K.ct L S := rfl
@[simp] theorem wS_sIf (t : BM) (a b : SM) (L : Loc) (S : Sto) (K : En) : wS (sIf t a b L S) K = wR (t L S) (fun c S1 => if c = true then wS (a L S1) K else wS (b L S1) K) (fun x S => K.ex x L S) := by
  simp only [sIf, wS_st]
  congr 1
  funext c S1
  split <;> rfl
@[simp] theorem wS_sAsg (a : EM) (t : TM) (L : Loc) (S : Sto) (K : En) : wS (sAsg a t L S) K = wR (a L S) (fun d S1 => wR (t d L S1) (fun L1 S2 => K.nx L1 S2) (fun _ _ => False)) (fun x S => K.ex x L S) := by
  simp only [sAsg, wS_st]
  congr 1
  funext c S1
  cases t c L S1 <;> rfl
@[simp] theorem wS_sRaise (c : Nat) (as : AM) (L : Loc) (S : Sto) (K : En) : wS (sRaise c as L S) K = wR (as L S) (fun xs S1 => K.ex ⟨c, xs⟩ L S1) (fun x S => K.ex x L S) := by simp [sRaise]
/-- a call by its body -/
theorem wR_fn {np nl : Nat} {body : SM} {ds : List D} {S : Sto} {Q : D → Sto → Prop} {E : Exc → Sto → Prop} (h : ds.length = np) :
    wR (fn np nl body ds S) Q E = wS (body (ds.map some ++ List.replicate (nl - np) none) S) ⟨fun _ S1 => Q .non S1, Q, fun _ _ => False, fun _ _ => False, fun x _ S => E x S⟩ := by
  unfold fn
  rw [if_pos h]
  cases body (ds.map some ++ List.replicate (nl - np) none) S <;> rfl
theorem wR_call {np nl : Nat} {body : SM} {ds : List D} {S : Sto} {Q : D → Sto → Prop} {E : Exc → Sto → Prop} (h : ds.length = np)
    (q : wS (body (ds.map some ++ List.replicate (nl - np) none) S) ⟨fun _ S1 => Q .non S1, Q, fun _ _ => False, fun _ _ => False, fun x _ S => E x S⟩) : wR (fn np nl body ds S) Q E := by
  rw [wR_fn h]
  exact q

/-! ### simp's own steps -/
section
variable (L : Loc) (S : Sto)
@[simp] theorem eC_a (d : D) : eC d L S = .ok d S := rfl
@[simp] theorem eV_a (i : Nat) : eV i L S = (match L[i]? with
  | some (some d) => .ok d S
  | _ => .err) := rfl
@[simp] theorem eUn_a (f : Op1) (a : EM) : eUn f a L S = (a L S).bind fun x S1 => f x S1 := rfl
@[simp] theorem eBin_a (f : Op2) (a b : EM) : eBin f a b L S = (a L S).bind fun x S1 => (b L S1).bind fun y S2 => f x y S2 := rfl
@[simp] theorem wR_eIf (t : BM) (a b : EM) (Q : D → Sto → Prop) (E : Exc → Sto → Prop) : wR (eIf t a b L S) Q E = wR (t L S) (fun c S1 => if c = true then wR (a L S1) Q E else wR (b L S1) Q E) E := by
  simp only [eIf, wR_bind]
  congr 1
  funext c S1
  split <;> rfl
@[simp] theorem wR_eAnd (a b : EM) (Q : D → Sto → Prop) (E : Exc → Sto → Prop) : wR (eAnd a b L S) Q E = wR (a L S) (fun x S1 => match x with
  | .bl true => wR (b L S1) Q E
  | .bl false => Q (.bl false) S1
  | _ => False) E := by
  simp only [eAnd, wR_bind]
  congr 1
  funext x S1
  cases x with
  | bl k => cases k <;> rfl
  | _ => rfl
@[simp] theorem wR_eOr (a b : EM) (Q : D → Sto → Prop) (E : Exc → Sto → Prop) : wR (eOr a b L S) Q E = wR (a L S) (fun x S1 => match x with
  | .bl true => Q (.bl true) S1
  | .bl false => wR (b L S1) Q E
  | _ => False) E := by
  simp only [eOr, wR_bind]
  congr 1
  funext x S1
  cases x with
  | bl k => cases k <;> rfl
  | _ => rfl
@[simp] theorem wR_eNot (a : EM) (Q : D → Sto → Prop) (E : Exc → Sto → Prop) : wR (eNot a L S) Q E = wR (a L S) (fun x S1 => match x with
  | .bl k => Q (.bl (!k)) S1
  | _ => False) E := by
  simp only [eNot, wR_bind]
  congr 1
  funext x S1
  cases x <;> rfl
@[simp] theorem aNil_a : aNil L S = .ok [] S := rfl
@[simp] theorem aCons_a (a : EM) (as : AM) : aCons a as L S = (a L S).bind fun x S1 => (as L S1).bind fun xs S2 => .ok (x :: xs) S2 := rfl
@[simp] theorem eTup_a (as : AM) : eTup as L S = (as L S).bind fun xs S1 => if xs.length ≤ sz then .ok (.tup xs) S1 else .err := rfl
@[simp] theorem eLst_a (as : AM) : eLst as L S = (as L S).bind fun xs S1 => if xs.length ≤ sz then .ok (.ref S1.length) (S1 ++ [.lst xs]) else .err := rfl
@[simp] theorem eDic_a (t : Bool) : eDic t L S = .ok (.ref S.length) (S ++ [.dic t false []]) := rfl
@[simp] theorem eCall_a (F : Fn) (as : AM) : eCall F as L S = (as L S).bind fun xs S1 => F xs S1 := rfl
@[simp] theorem eMake_a (c : Nat) (F : Fn) (as : AM) : eMake c F as L S = (as L S).bind fun xs S1 => (F (.ref S1.length :: xs) (S1 ++ [.ins c []])).bind fun v S2 => if v = .non then .ok (.ref S1.length) S2 else .err := rfl
@[simp] theorem eSl_a (a : EM) (lo hi : PM) : eSl a lo hi L S = (a L S).bind fun x S1 => (lo L S1).bind fun l S2 => (hi L S2).bind fun h S3 => opSl x l h S3 := rfl
@[simp] theorem pNo_a : pNo L S = .ok none S := rfl
@[simp] theorem wR_pSome (a : EM) (Q : Option Int → Sto → Prop) (E : Exc → Sto → Prop) : wR (pSome a L S) Q E = wR (a L S) (fun x S1 => match x with
  | .int i => Q (some i) S1
  | _ => False) E := by
  simp only [pSome, wR_bind]
  congr 1
  funext x S1
  cases x <;> rfl
@[simp] theorem wR_eChain (f f' : Op2) (a b c : EM) (Q : D → Sto → Prop) (E : Exc → Sto → Prop) : wR (eChain f f' a b c L S) Q E = wR (a L S) (fun x S1 => wR (b L S1) (fun y S2 => wR (f x y S2) (fun z S3 => match z with
  | .bl true => wR (c L S3) (fun w S4 => wR (f' y w S4) Q E) E
  | .bl false => Q (.bl false) S3
  | _ => False) E) E) E := by
  simp only [eChain, wR_bind]
  congr 1
  funext x S1
  congr 1
  funext y S2
  congr 1
  funext z S3
  cases z with
  | bl k => cases k <;> simp
  | _ => rfl
@[simp] theorem wR_tV (a : EM) (Q : Bool → Sto → Prop) (E : Exc → Sto → Prop) : wR (tV a L S) Q E = wR (a L S) (fun x S1 => match x with
  | .bl k => Q k S1
  | _ => False) E := by
  simp only [tV, wR_bind]
  congr 1
  funext x S1
  cases x <;> rfl
@[simp] theorem wR_tAnd (a b : BM) (Q : Bool → Sto → Prop) (E : Exc → Sto → Prop) : wR (tAnd a b L S) Q E = wR (a L S) (fun c S1 => if c = true then wR (b L S1) Q E else Q false S1) E := by
  simp only [tAnd, wR_bind]
  congr 1
  funext c S1
  split <;> rfl
@[simp] theorem wR_tOr (a b : BM) (Q : Bool → Sto → Prop) (E : Exc → Sto → Prop) : wR (tOr a b L S) Q E = wR (a L S) (fun c S1 => if c = true then Q true S1 else wR (b L S1) Q E) E := by
  simp only [tOr, wR_bind]
  congr 1
  funext c S1
  split <;> rfl
@[simp] theorem wR_tNot (a : BM) (Q : Bool → Sto → Prop) (E : Exc → Sto → Prop) : wR (tNot a L S) Q E = wR (a L S) (fun c S1 => Q (!c) S1) E := by simp only [tNot, wR_bind, wR_ok]
@[simp] theorem tYes_a : tYes L S = .ok true S := rfl
@[simp] theorem gV_a (i : Nat) (d : D) : gV i d L S = .ok (L.set i (some d)) S := rfl
@[simp] theorem gNil_a : gNil [] L S = .ok L S := rfl
@[simp] theorem gCons_a (t : TM) (u : List D → Loc → Sto → R Loc) (d : D) (ds : List D) : gCons t u (d :: ds) L S = (t d L S).bind fun L1 S1 => u ds L1 S1 := rfl
@[simp] theorem gTup_a (n : Nat) (u : List D → Loc → Sto → R Loc) (ds : List D) : gTup n u (.tup ds) L S = if ds.length = n then u ds L S else .err := rfl
@[simp] theorem gSub_a (f : Set2) (o i : EM) (d : D) : gSub f o i d L S = (o L S).bind fun x S1 => (i L S1).bind fun y S2 => (f x y d S2).bind fun _ S3 => .ok L S3 := rfl
end
@[simp] theorem wR_ite {α : Type} (p : Prop) [Decidable p] (a b : R α) (Q : α → Sto → Prop) (E : Exc → Sto → Prop) : wR (if p then a else b) Q E = if p then wR a Q E else wR b Q E := by split <;> rfl
@[simp] theorem opCmp_a (f : Int → Int → Bool) (i j : Int) (S : Sto) : opCmp f (.int i) (.int j) S = .ok (.bl (f i j)) S := rfl
@[simp] theorem opAdd_i (i j : Int) (S : Sto) : opAdd (.int i) (.int j) S = .ok (.int (i + j)) S := rfl
@[simp] theorem opSub_i (i j : Int) (S : Sto) : opSub (.int i) (.int j) S = .ok (.int (i - j)) S := rfl
@[simp] theorem opMul_i (i j : Int) (S : Sto) : opMul (.int i) (.int j) S = if mulOk i j = true then .ok (.int (i * j)) S else .err := rfl
@[simp] theorem opMod_i (i j : Int) (S : Sto) : opMod (.int i) (.int j) S = if 0 < j then .ok (.int (i % j)) S else .err := rfl
@[simp] theorem opDiv_i (i j : Int) (S : Sto) : opDiv (.int i) (.int j) S = if 0 < j ∧ j < 2 ^ 200 then .ok (.int (i / j)) S else .err := rfl
@[simp] theorem opNeg_i (i : Int) (S : Sto) : opNeg (.int i) S = .ok (.int (-i)) S := rfl
@[simp] theorem opIsN_a (d : D) (S : Sto) : opIsN d S = .ok (.bl (decide (d = .non))) S := rfl
@[simp] theorem opNotN_a (d : D) (S : Sto) : opNotN d S = .ok (.bl (!decide (d = .non))) S := rfl
@[simp] theorem opAdd_t (a b : List D) (S : Sto) : opAdd (.tup a) (.tup b) S = if a.length + b.length ≤ sz then .ok (.tup (a ++ b)) S else .err := rfl
@[simp] theorem opSl_t (xs : List D) (lo hi : Option Int) (S : Sto) : opSl (.tup xs) lo hi S = .ok (.tup (cut xs lo hi)) S := rfl
@[simp] theorem fLen_t (xs : List D) (S : Sto) : fLen [.tup xs] S = .ok (.int xs.length) S := rfl
@[simp] theorem opIx_t (xs : List D) (i : Int) (S : Sto) : opIx (.tup xs) (.int i) S = (match atI xs i with
  | some d => .ok d S
  | none => .err) := rfl
section
variable {S : Sto} {n m : Nat} {xs ys : List D}
theorem opIx_r {i : Int} (h : S[n]? = some (.lst xs)) : opIx (.ref n) (.int i) S = (match atI xs i with
  | some d => .ok d S
  | none => .err) := by simp only [opIx, h] <;> rfl
theorem opIx_f {i : Int} (h : S[n]? = some (.frz xs)) : opIx (.ref n) (.int i) S = (match atI xs i with
  | some d => .ok d S
  | none => .err) := by simp only [opIx, h] <;> rfl
theorem fLen_r (h : S[n]? = some (.lst xs)) : fLen [.ref n] S = .ok (.int xs.length) S := by simp only [fLen, h]
theorem fLen_f (h : S[n]? = some (.frz xs)) : fLen [.ref n] S = .ok (.int xs.length) S := by simp only [fLen, h]
theorem fList_r (h : S[n]? = some (.lst xs)) : fList [.ref n] S = .ok (.ref S.length) (S ++ [.lst xs]) := by simp only [fList, h]
theorem fTuple_r (h : S[n]? = some (.lst xs)) : fTuple [.ref n] S = .ok (.tup xs) S := by simp only [fTuple, h]
theorem opAdd_r (h : S[n]? = some (.lst xs)) (h' : S[m]? = some (.lst ys)) : opAdd (.ref n) (.ref m) S = if xs.length + ys.length ≤ sz then .ok (.ref S.length) (S ++ [.lst (xs ++ ys)]) else .err := by simp only [opAdd, h, h']
theorem opSl_r {lo hi : Option Int} (h : S[n]? = some (.lst xs)) : opSl (.ref n) lo hi S = .ok (.ref S.length) (S ++ [.lst (cut xs lo hi)]) := by simp only [opSl, h]
theorem setL_r {i : Int} {v : D} {j : Nat} (h : S[n]? = some (.lst xs)) (hi : ixN xs.length i = some j) : setL (.ref n) (.int i) v S = .ok () (S.set n (.lst (xs.set j v))) := by simp only [setL, h, hi]
theorem opFld_r {c f : Nat} {fs : List (Nat × D)} {d : D} (h : S[n]? = some (.ins c fs)) (hf : fget f fs = some d) : opFld c f (.ref n) S = .ok d S := by simp only [opFld, h, hf, if_true]
theorem wR_gFld {c f : Nat} {o : EM} {d : D} {L : Loc} {Q : Loc → Sto → Prop} {E : Exc → Sto → Prop} (h : wR (o L S) (fun x S1 => ∃ n fs, x = .ref n ∧ S1[n]? = some (.ins c fs) ∧ fs.length < 1000 ∧ Q L (S1.set n (.ins c (fput f d fs)))) E) : wR (gFld c f o d L S) Q E := by
  simp only [gFld, wR_bind]
  refine wR_mono h (fun x S1 ⟨n, fs, e, e1, e2, q⟩ => ?_) fun _ _ z => z
  subst e
  simp only [e1, e2, and_self, if_true, wR_ok]
  exact q
theorem wR_eMeth {c mi : Nat} {F : Fn} {o : EM} {as : AM} {L : Loc} {Q : D → Sto → Prop} {E : Exc → Sto → Prop} (h : wR (o L S) (fun x S1 => ∃ n fs, x = .ref n ∧ S1[n]? = some (.ins c fs) ∧ fget mi fs = none ∧ wR (as L S1) (fun xs S2 => wR (F (.ref n :: xs) S2) Q E) E) E) : wR (eMeth c mi F o as L S) Q E := by
  simp only [eMeth, wR_bind]
  refine wR_mono h (fun x S1 ⟨n, fs, e, e1, e2, q⟩ => ?_) fun _ _ z => z
  subst e
  simp only [e1, e2, and_self, if_true, wR_bind]
  exact q
end

/-! ### stores that grow: all but the places in X as they were -/
structure Fm (X : List Nat) (S S' : Sto) : Prop where
  len : S.length ≤ S'.length
  same : ∀ n, n < S.length → n ∉ X → S'[n]? = S[n]?
theorem Fm.refl (X : List Nat) (S : Sto) : Fm X S S := ⟨Nat.le_refl _, fun _ _ _ => rfl⟩
theorem Fm.trans {X : List Nat} {S S1 S2 : Sto} (a : Fm X S S1) (b : Fm X S1 S2) : Fm X S S2 := ⟨Nat.le_trans a.len b.len, fun n h hx => by rw [b.same n (Nat.lt_of_lt_of_le h a.len) hx, a.same n h hx]⟩
theorem Fm.mono {X Y : List Nat} {S S' : Sto} (a : Fm X S S') (h : ∀ n, n < S.length → n ∈ X → n ∈ Y) : Fm Y S S' := ⟨a.len, fun n hn hx => a.same n hn fun z => hx (h n hn z)⟩
theorem Fm.push {X : List Nat} {S S' : Sto} (a : Fm X S S') (o : Ob) : Fm X S (S' ++ [o]) := ⟨by have := a.len; simp; omega, fun n h hx => by rw [List.getElem?_append_left (Nat.lt_of_lt_of_le h a.len)]; exact a.same n h hx⟩
theorem Fm.set {X : List Nat} {S S' : Sto} (a : Fm X S S') {k : Nat} (o : Ob) (hk : k ∈ X ∨ S.length ≤ k) : Fm X S (S'.set k o) := ⟨by have := a.len; simp; omega, fun n h hx => by
  rw [List.getElem?_set_ne (fun e => by subst e; rcases hk with z | z; exact hx z; omega)]
  exact a.same n h hx⟩
theorem Fm.l {a : Nat} (b : Nat) {S S' : Sto} (h : Fm [a] S S') : Fm [a, b] S S' := h.mono fun n _ z => by simp at z; simp [z]
theorem Fm.r {a : Nat} (b : Nat) {S S' : Sto} (h : Fm [a] S S') : Fm [b, a] S S' := h.mono fun n _ z => by simp at z; simp [z]
theorem Fm.nil {X : List Nat} {S S' : Sto} (h : Fm [] S S') : Fm X S S' := h.mono fun n _ z => by cases z
/-- a second place that was not there ahead -/
theorem Fm.two {a b : Nat} {S0 S S' : Sto} (h : Fm [a] S0 S) (h' : Fm [b] S S') (hb : S0.length ≤ b) : Fm [a] S0 S' := ((h.l b).trans (h'.r a)).mono fun n hn z => by
  simp at z
  rcases z with rfl | rfl
  · simp
  · omega
theorem lt_of_at {S : Sto} {n : Nat} {o : Ob} (h : S[n]? = some o) : n < S.length := (List.getElem?_eq_some_iff.mp h).1
theorem Fm.at {X : List Nat} {S S' : Sto} (a : Fm X S S') {n : Nat} {o : Ob} (h : S[n]? = some o) (hx : n ∉ X) : S'[n]? = some o := by rw [a.same n (lt_of_at h) hx]; exact h
theorem at_push {S : Sto} {n : Nat} {o u : Ob} (h : S[n]? = some o) : (S ++ [u])[n]? = some o := by rw [List.getElem?_append_left (lt_of_at h)]; exact h
@[simp] theorem at_new (S : Sto) (u : Ob) : (S ++ [u])[S.length]? = some u := by simp
theorem at_set {S : Sto} {n : Nat} {o u : Ob} (h : S[n]? = some o) : (S.set n u)[n]? = some u := by simp [lt_of_at h]
theorem at_set_ne {S : Sto} {n m : Nat} {o u : Ob} (h : S[n]? = some o) (e : m ≠ n) : (S.set m u)[n]? = some o := by rw [List.getElem?_set_ne e]; exact h

/-! ### plain data: no truths, no places -/
mutual
def pl : Nat → D → Bool
  | _, .non => true
  | _, .int _ => true
  | _, .str _ => true
  | n + 1, .tup xs => pls n xs
  | _, _ => false
def pls : Nat → List D → Bool
  | _, [] => true
  | n, x :: xs => pl n x && pls n xs
end
theorem pls_all {n : Nat} : ∀ {xs : List D}, pls n xs = true ↔ ∀ x ∈ xs, pl n x = true
  | [] => by simp [pls]
  | x :: xs => by simp [pls, pls_all (xs := xs)]
mutual
def toPy : D → PyData
  | .non => .none
  | .bl b => .bool b
  | .int i => .int i
  | .str x => .str ⟨x.toArray⟩
  | .tup xs => .tuple (toPys xs)
  | _ => .none
def toPys : List D → List PyData
  | [] => []
  | x :: xs => toPy x :: toPys xs
end
mutual
theorem reify_pl (S : Sto) : ∀ (n m : Nat) (d : D), pl n d = true → n ≤ m → reify m S d = some (toPy d)
  | n, m, .non, _, _ => by cases m <;> rfl
  | n, m, .int _, _, _ => by cases m <;> rfl
  | n, m, .str _, _, _ => by cases m <;> rfl
  | n + 1, m, .tup xs, h, hm => by
    obtain ⟨m, rfl⟩ : ∃ k, m = k + 1 := ⟨m - 1, by omega⟩
    simp only [reify, toPy]
    rw [reify_pls S n m xs (by simpa [pl] using h) (by omega)]
    rfl
  | 0, m, .tup xs, h, _ => by simp [pl] at h
  | n, m, .bl _, h, _ => by cases n <;> simp [pl] at h
  | n, m, .ref _, h, _ => by cases n <;> simp [pl] at h
  | n, m, .exn _ _, h, _ => by cases n <;> simp [pl] at h
theorem reify_pls (S : Sto) : ∀ (n m : Nat) (d : List D), pls n d = true → n ≤ m → d.mapM (reify m S) = some (toPys d)
  | n, m, [], _, _ => rfl
  | n, m, x :: xs, h, hm => by
    simp only [pls, Bool.and_eq_true] at h
    rw [List.mapM_cons, reify_pl S n m x h.1 hm, reify_pls S n m xs h.2 hm]
    rfl
end
theorem str_eq {x y : List Nat} : ((⟨x.toArray⟩ : PySem.Str) = ⟨y.toArray⟩) = (x = y) := by
  simp
mutual
theorem eqv_pl : ∀ (n m : Nat) (x y : D), pl n x = true → pl m y = true → PyData.eqv (toPy x) (toPy y) = decide (x = y)
  | n, m, .non, y, _, h => by
    cases y <;> first | (simp [toPy, PyData.eqv]; done) | (cases m <;> simp [pl] at h)
  | n, m, .int i, y, _, h => by
    cases y <;> first | (simp [toPy, PyData.eqv]; done) | (simp [toPy, PyData.eqv]; rw [Bool.eq_iff_iff]; simp; done) | (cases m <;> simp [pl] at h)
  | n, m, .str i, y, _, h => by
    cases y <;> first | (simp [toPy, PyData.eqv]; done) | (simp only [toPy, PyData.eqv]; rw [Bool.eq_iff_iff]; simp; done) | (cases m <;> simp [pl] at h)
  | n + 1, m, .tup xs, y, h', h => by
    cases y with
    | tup ys =>
      cases m with
      | zero => simp [pl] at h
      | succ m =>
        simp only [toPy, PyData.eqv]
        rw [eqv_pls n m xs ys (by simpa [pl] using h') (by simpa [pl] using h)]
        rw [Bool.eq_iff_iff]
        simp
    | _ => first | (simp [toPy, PyData.eqv]; done) | (cases m <;> simp [pl] at h)
  | 0, _, .tup _, _, h, _ => by simp [pl] at h
  | n, m, .bl _, _, h, _ => by cases n <;> simp [pl] at h
  | n, m, .ref _, _, h, _ => by cases n <;> simp [pl] at h
  | n, m, .exn _ _, _, h, _ => by cases n <;> simp [pl] at h
theorem eqv_pls : ∀ (n m : Nat) (x y : List D), pls n x = true → pls m y = true → PyData.eqvAll (toPys x) (toPys y) = decide (x = y)
  | n, m, [], [], _, _ => by simp [toPys, PyData.eqvAll]
  | n, m, [], y :: ys, _, _ => by simp [toPys, PyData.eqvAll]
  | n, m, x :: xs, [], _, _ => by simp [toPys, PyData.eqvAll]
  | n, m, x :: xs, y :: ys, h, h' => by
    simp only [pls, Bool.and_eq_true] at h h'
    simp only [toPys, PyData.eqvAll]
    rw [eqv_pl n m x y h.1 h'.1, eqv_pls n m xs ys h.2 h'.2, Bool.eq_iff_iff]
    simp
end
theorem opEq_pl {n m : Nat} {x y : D} {S : Sto} (h : pl n x = true) (h' : pl m y = true) (hn : n ≤ 60 := by decide) (hm : m ≤ 60 := by decide) : opEq x y S = .ok (.bl (decide (x = y))) S := by
  simp only [opEq, reify_pl S n 60 x h hn, reify_pl S m 60 y h' hm, eqv_pl n m x y h h']
theorem opNe_pl {n m : Nat} {x y : D} {S : Sto} (h : pl n x = true) (h' : pl m y = true) (hn : n ≤ 60 := by decide) (hm : m ≤ 60 := by decide) : opNe x y S = .ok (.bl (!decide (x = y))) S := by
  simp only [opNe, reify_pl S n 60 x h hn, reify_pl S m 60 y h' hm, eqv_pl n m x y h h']
@[simp] theorem opEq_i (i j : Int) (S : Sto) : opEq (.int i) (.int j) S = .ok (.bl (decide (i = j))) S := by
  rw [opEq_pl (n := 0) (m := 0) rfl rfl]
  simp
@[simp] theorem opNe_i (i j : Int) (S : Sto) : opNe (.int i) (.int j) S = .ok (.bl (!decide (i = j))) S := by
  rw [opNe_pl (n := 0) (m := 0) rfl rfl]
  simp
@[simp] theorem opNe_b (i j : Bool) (S : Sto) : opNe (.bl i) (.bl j) S = .ok (.bl (!(i == j))) S := rfl
@[simp] theorem opEq_b (i j : Bool) (S : Sto) : opEq (.bl i) (.bl j) S = .ok (.bl (i == j)) S := rfl
/-- a list of plain data in the store -/
def isL (S : Sto) (n : Nat) (xs : List D) : Prop := S[n]? = some (.lst xs) ∨ S[n]? = some (.frz xs)
theorem isL.push {S : Sto} {n : Nat} {xs : List D} {o : Ob} (h : isL S n xs) : isL (S ++ [o]) n xs := h.elim (fun h => .inl (at_push h)) fun h => .inr (at_push h)
theorem isL.fm {X : List Nat} {S S' : Sto} {n : Nat} {xs : List D} (h : isL S n xs) (f : Fm X S S') (hx : n ∉ X) : isL S' n xs := h.elim (fun h => .inl (f.at h hx)) fun h => .inr (f.at h hx)
theorem isL.lt {S : Sto} {n : Nat} {xs : List D} (h : isL S n xs) : n < S.length := h.elim lt_of_at lt_of_at
theorem opIx_l {S : Sto} {n : Nat} {xs : List D} {i : Int} (h : isL S n xs) : opIx (.ref n) (.int i) S = (match atI xs i with
  | some d => .ok d S
  | none => .err) := h.elim opIx_r opIx_f
theorem fLen_l {S : Sto} {n : Nat} {xs : List D} (h : isL S n xs) : fLen [.ref n] S = .ok (.int xs.length) S := h.elim fLen_r fLen_f
theorem reify_l {S : Sto} {n k m : Nat} {xs : List D} (h : isL S n xs) (hp : pls k xs = true) (hm : k < m) : reify m S (.ref n) = some (.list (toPys xs)) := by
  obtain ⟨m, rfl⟩ : ∃ k, m = k + 1 := ⟨m - 1, by omega⟩
  have := reify_pls S k m xs hp (by omega)
  rcases h with h | h <;> simp only [reify, h, this] <;> rfl
theorem opEq_l {S : Sto} {n m k l : Nat} {xs ys : List D} (h : isL S n xs) (h' : isL S m ys) (hp : pls k xs = true) (hp' : pls l ys = true) (hk : k < 60 := by decide) (hl : l < 60 := by decide) : opEq (.ref n) (.ref m) S = .ok (.bl (decide (xs = ys))) S := by
  simp only [opEq, reify_l h hp hk, reify_l h' hp' hl, PyData.eqv, eqv_pls k l xs ys hp hp']
theorem opNe_l {S : Sto} {n m k l : Nat} {xs ys : List D} (h : isL S n xs) (h' : isL S m ys) (hp : pls k xs = true) (hp' : pls l ys = true) (hk : k < 60 := by decide) (hl : l < 60 := by decide) : opNe (.ref n) (.ref m) S = .ok (.bl (!decide (xs = ys))) S := by
  simp only [opNe, reify_l h hp hk, reify_l h' hp' hl, PyData.eqv, eqv_pls k l xs ys hp hp']

/-! ### comprehensions -/
/-- the store stays, but for the list that grows -/
theorem lcL_pure {chk : Sto → Bool} {tg : TM} {t : BM} {e : EM} {L : Loc} {S1 : Sto} {p : D → Bool} {f : D → D} {L1 : D → Loc} :
    ∀ {items : List D} {acc : List D}, (∀ acc, chk (S1 ++ [.lst acc]) = true) → (∀ x ∈ items, ∀ acc, tg x L (S1 ++ [.lst acc]) = .ok (L1 x) (S1 ++ [.lst acc]) ∧ t (L1 x) (S1 ++ [.lst acc]) = .ok (p x) (S1 ++ [.lst acc]) ∧ (p x = true → e (L1 x) (S1 ++ [.lst acc]) = .ok (f x) (S1 ++ [.lst acc]))) →
      acc.length + items.length ≤ sz → lcL chk tg t e L S1.length items (S1 ++ [.lst acc]) = .ok (.ref S1.length) (S1 ++ [.lst (acc ++ (items.filter p).map f)])
  | [], acc, hc, _, _ => by simp [lcL, hc]
  | x :: xs, acc, hc, h, hz => by
    obtain ⟨h1, h2, h3⟩ := h x (List.mem_cons_self ..) acc
    have ih := fun acc' hz' => lcL_pure (items := xs) (acc := acc') hc (fun y hy => h y (List.mem_cons_of_mem _ hy)) hz'
    simp only [List.length_cons] at hz
    unfold lcL
    rw [if_pos (hc acc), h1]
    dsimp only
    rw [h2]
    cases q : p x with
    | true =>
      simp only
      rw [h3 q]
      simp only [at_new]
      rw [if_pos (by omega)]
      have e : (S1 ++ [Ob.lst acc]).set S1.length (.lst (acc ++ [f x])) = S1 ++ [.lst (acc ++ [f x])] := by
        rw [List.set_append_right _ _ (Nat.le_refl _)]
        simp
      rw [e, ih (acc ++ [f x]) (by simp; omega)]
      simp [List.filter_cons, q]
    | false =>
      simp only
      rw [ih acc (by omega)]
      simp [List.filter_cons, q]
theorem eLc_lst {a : EM} {tg : TM} {t : BM} {e : EM} {vs : List Nat} {L : Loc} {S S1 : Sto} {n : Nat} {items : List D} {p : D → Bool} {f : D → D} {L1 : D → Loc} (ha : a L S = .ok (.ref n) S1) (hn : S1[n]? = some (.lst items))
    (h : ∀ x ∈ items, ∀ acc, tg x (wipe L vs) (S1 ++ [.lst acc]) = .ok (L1 x) (S1 ++ [.lst acc]) ∧ t (L1 x) (S1 ++ [.lst acc]) = .ok (p x) (S1 ++ [.lst acc]) ∧ (p x = true → e (L1 x) (S1 ++ [.lst acc]) = .ok (f x) (S1 ++ [.lst acc]))) (hz : items.length ≤ sz) :
    eLc (wLst a) tg t e vs L S = .ok (.ref S1.length) (S1 ++ [.lst ((items.filter p).map f)]) := by
  simp only [eLc, wLst, ha, R.bind_ok, hn]
  rw [lcL_pure (fun acc => decide_eq_true (at_push hn)) h (by simpa using hz)]
  simp
theorem eLc_tup {a : EM} {tg : TM} {t : BM} {e : EM} {vs : List Nat} {L : Loc} {S S1 : Sto} {items : List D} {p : D → Bool} {f : D → D} {L1 : D → Loc} (ha : a L S = .ok (.tup items) S1)
    (h : ∀ x ∈ items, ∀ acc, tg x (wipe L vs) (S1 ++ [.lst acc]) = .ok (L1 x) (S1 ++ [.lst acc]) ∧ t (L1 x) (S1 ++ [.lst acc]) = .ok (p x) (S1 ++ [.lst acc]) ∧ (p x = true → e (L1 x) (S1 ++ [.lst acc]) = .ok (f x) (S1 ++ [.lst acc]))) (hz : items.length ≤ sz) :
    eLc (wTup a) tg t e vs L S = .ok (.ref S1.length) (S1 ++ [.lst ((items.filter p).map f)]) := by
  simp only [eLc, wTup, ha, R.bind_ok]
  rw [lcL_pure (fun acc => rfl) h (by simpa using hz)]
  simp
theorem eLc_str {a : EM} {tg : TM} {t : BM} {e : EM} {vs : List Nat} {L : Loc} {S S1 : Sto} {z : List Nat} {p : D → Bool} {f : D → D} {L1 : D → Loc} (ha : a L S = .ok (.str z) S1)
    (h : ∀ x ∈ z.map (fun c => D.str [c]), ∀ acc, tg x (wipe L vs) (S1 ++ [.lst acc]) = .ok (L1 x) (S1 ++ [.lst acc]) ∧ t (L1 x) (S1 ++ [.lst acc]) = .ok (p x) (S1 ++ [.lst acc]) ∧ (p x = true → e (L1 x) (S1 ++ [.lst acc]) = .ok (f x) (S1 ++ [.lst acc]))) (hz : z.length ≤ sz) :
    eLc (wStr a) tg t e vs L S = .ok (.ref S1.length) (S1 ++ [.lst (((z.map fun c => D.str [c]).filter p).map f)]) := by
  simp only [eLc, wStr, ha, R.bind_ok]
  rw [lcL_pure (fun acc => rfl) h (by simpa using hz)]
  simp
/-- by an invariant: what is told, in turn; the store may change -/
theorem lcL_inv {chk : Sto → Bool} {tg : TM} {t : BM} {e : EM} {L : Loc} {n : Nat} {Q : D → Sto → Prop} {E : Exc → Sto → Prop} (I : List D → List D → Sto → Prop) (hc : ∀ xs acc S, I xs acc S → chk S = true ∧ S[n]? = some (.lst acc)) (hQ : ∀ acc S, I [] acc S → Q (.ref n) S)
    (hs : ∀ x xs acc S, I (x :: xs) acc S → wR (tg x L S) (fun L1 S1 => wR (t L1 S1) (fun b S2 => if b = true then wR (e L1 S2) (fun y S3 => ∃ acc', S3[n]? = some (.lst acc') ∧ acc'.length < sz ∧ I xs (acc' ++ [y]) (S3.set n (.lst (acc' ++ [y])))) (fun _ _ => False) else I xs acc S2) (fun _ _ => False)) (fun _ _ => False)) :
    ∀ {xs acc : List D} {S : Sto}, I xs acc S → wR (lcL chk tg t e L n xs S) Q E
  | [], acc, S, h => by
    unfold lcL
    rw [if_pos (hc _ _ _ h).1]
    exact hQ _ _ h
  | x :: xs, acc, S, h => by
    have q := hs x xs acc S h
    unfold lcL
    rw [if_pos (hc _ _ _ h).1]
    cases h1 : tg x L S with
    | ok L1 S1 =>
      rw [h1] at q
      simp only [wR_ok] at q ⊢
      cases h2 : t L1 S1 with
      | ok b S2 =>
        rw [h2] at q
        simp only [wR_ok] at q
        cases b with
        | true =>
          simp only [if_true] at q ⊢
          cases h3 : e L1 S2 with
          | ok y S3 =>
            rw [h3] at q
            obtain ⟨acc', e1, e2, q⟩ := q
            simp only [e1]
            rw [if_pos e2]
            exact lcL_inv I hc hQ hs q
          | exc x S => rw [h3] at q; exact q.elim
          | err => rw [h3] at q; exact q.elim
        | false =>
          simp only [Bool.false_eq_true, if_false] at q ⊢
          exact lcL_inv I hc hQ hs q
      | exc x S => rw [h2] at q; exact q.elim
      | err => rw [h2] at q; exact q.elim
    | exc x S => rw [h1] at q; exact q.elim
    | err => rw [h1] at q; exact q.elim

/-! ### for -/
theorem forL_inv {chk : Sto → Bool} {tg : TM} {body : SM} {K : En} (I : List D → Loc → Sto → Prop) (hc : ∀ xs L S, I xs L S → chk S = true) (hQ : ∀ L S, I [] L S → K.nx L S)
    (hs : ∀ x xs L S, I (x :: xs) L S → wR (tg x L S) (fun L1 S1 => wS (body L1 S1) ⟨fun L2 S2 => I xs L2 S2, K.rt, K.nx, fun L2 S2 => I xs L2 S2, K.ex⟩) (fun _ _ => False)) :
    ∀ {xs : List D} {L : Loc} {S : Sto}, I xs L S → wS (forL chk tg body xs L S) K
  | [], L, S, h => by
    unfold forL
    rw [if_pos (hc _ _ _ h)]
    exact hQ _ _ h
  | x :: xs, L, S, h => by
    have q := hs x xs L S h
    unfold forL
    rw [if_pos (hc _ _ _ h)]
    cases h1 : tg x L S with
    | ok L1 S1 =>
      rw [h1] at q
      simp only [wR_ok] at q ⊢
      cases h2 : body L1 S1 with
      | nx L2 S2 => rw [h2] at q; exact forL_inv I hc hQ hs q
      | ct L2 S2 => rw [h2] at q; exact forL_inv I hc hQ hs q
      | bk L2 S2 => rw [h2] at q; exact q
      | rt d S2 => rw [h2] at q; exact q
      | exc x L2 S2 => rw [h2] at q; exact q
      | err => rw [h2] at q; exact q
    | exc x S => rw [h1] at q; exact q.elim
    | err => rw [h1] at q; exact q.elim
theorem wS_sFor {w : WM} {tg : TM} {body : SM} {L : Loc} {S : Sto} {K : En} : wS (sFor w tg body L S) K = wR (w L S) (fun k S1 => wS (forL k.chk tg body k.items L S1) K) (fun x S => K.ex x L S) := by
  simp only [sFor, wS_st]
theorem wR_wLst {a : EM} {L : Loc} {S : Sto} {Q : Wk → Sto → Prop} {E : Exc → Sto → Prop} (h : wR (a L S) (fun x S1 => ∃ n xs, x = .ref n ∧ S1[n]? = some (.lst xs) ∧ Q ⟨xs, fun S => decide (S[n]? = some (.lst xs))⟩ S1) E) : wR (wLst a L S) Q E := by
  simp only [wLst, wR_bind]
  refine wR_mono h (fun x S1 ⟨n, xs, e, e1, q⟩ => ?_) fun _ _ z => z
  subst e
  simp only [e1, wR_ok]
  exact q
theorem wR_wRng1 {a : EM} {L : Loc} {S : Sto} {Q : Wk → Sto → Prop} {E : Exc → Sto → Prop} (h : wR (a L S) (fun x S1 => ∃ j, x = .int j ∧ (-(2 ^ 62) ≤ j ∧ j < 2 ^ 62) ∧ Q ⟨rngD 0 j.toNat, fun _ => true⟩ S1) E) : wR (wRng1 a L S) Q E := by
  simp only [wRng1, wR_bind]
  refine wR_mono h (fun x S1 ⟨j, e, e1, q⟩ => ?_) fun _ _ z => z
  subst e
  simp only
  rw [if_pos e1]
  exact q
/-- a call's exact end -/
theorem wR_eq {α : Type} {r : R α} {a : α} {S : Sto} {Q : α → Sto → Prop} {E : Exc → Sto → Prop} (h : r = .ok a S) (q : Q a S) : wR r Q E := by rw [h]; exact q
/-! ### comprehensions whose parts make more of the store -/
inductive A2 {α β : Type} (P : α → β → Prop) : List α → List β → Prop
  | nil : A2 P [] []
  | cons {x : α} {y : β} {xs : List α} {ys : List β} : P x y → A2 P xs ys → A2 P (x :: xs) (y :: ys)
theorem A2.snoc {α β : Type} {P : α → β → Prop} : ∀ {xs : List α} {ys : List β} {x : α} {y : β}, A2 P xs ys → P x y → A2 P (xs ++ [x]) (ys ++ [y])
  | _, _, _, _, .nil, h => .cons h .nil
  | _, _, _, _, .cons a b, h => .cons a (b.snoc h)
theorem A2.eq_map {α β : Type} {f : α → β} : ∀ {xs : List α} {ys : List β}, A2 (fun x y => y = f x) xs ys → ys = xs.map f
  | _, _, .nil => rfl
  | _, _, .cons a b => by rw [List.map_cons, a, b.eq_map]
theorem A2.len {α β : Type} {P : α → β → Prop} : ∀ {xs : List α} {ys : List β}, A2 P xs ys → ys.length = xs.length
  | _, _, .nil => rfl
  | _, _, .cons a b => by simp [b.len]
theorem A2.all {α β : Type} {P : α → β → Prop} {R : β → Prop} (h : ∀ x y, P x y → R y) : ∀ {xs : List α} {ys : List β}, A2 P xs ys → ∀ y ∈ ys, R y
  | _, _, .nil, y, hy => by cases hy
  | _, _, .cons a b, y, hy => by
    cases hy with
    | head => exact h _ _ a
    | tail _ hy => exact b.all h y hy
abbrev Fl : Exc → Sto → Prop := fun _ _ => False
theorem lcL_fm {chk : Sto → Bool} {tg : TM} {t : BM} {e : EM} {L : Loc} {X : List Nat} {S1 : Sto} {items : List D} {p : D → Bool} {P : D → D → Prop} {Q : D → Sto → Prop} {E : Exc → Sto → Prop} (J : Sto → Prop) (hJ : J S1) (hJp : ∀ o, J (S1 ++ [o])) (hJs : ∀ S' o, J S' → J (S'.set S1.length o))
    (hX : ∀ n ∈ X, n < S1.length) (hchk : ∀ S', Fm X S1 S' → J S' → chk S' = true)
    (h : ∀ x ∈ items, ∀ S', Fm X S1 S' → J S' → wR (tg x L S') (fun L1 S2 => S2 = S' ∧ wR (t L1 S') (fun b S3 => Fm X S' S3 ∧ J S3 ∧ b = p x ∧ (b = true → wR (e L1 S3) (fun y S4 => Fm X S3 S4 ∧ J S4 ∧ P x y) Fl)) Fl) Fl) (hz : items.length ≤ sz)
    (q : ∀ S' ys, Fm X S1 S' → J S' → A2 P (items.filter p) ys → S'[S1.length]? = some (.lst ys) → S1.length < S'.length → Q (.ref S1.length) S') : wR (lcL chk tg t e L S1.length items (S1 ++ [.lst []])) Q E := by
  refine lcL_inv (I := fun xs acc S' => Fm X S1 S' ∧ J S' ∧ S'[S1.length]? = some (.lst acc) ∧ ∃ ds, ds ++ xs = items ∧ A2 P (ds.filter p) acc) ?_ ?_ ?_ ⟨(Fm.refl X S1).push _, hJp _, at_new _ _, [], rfl, .nil⟩
  · exact fun xs acc S' ⟨a, b, c, _⟩ => ⟨hchk _ a b, c⟩
  · intro acc S' ⟨a, b, c, ds, e1, e2⟩
    rw [List.append_nil] at e1
    subst e1
    exact q S' acc a b e2 c (lt_of_at c)
  · rintro x xs acc S' ⟨a, b, c, ds, e1, e2⟩
    have nX : S1.length ∉ X := fun z => Nat.lt_irrefl _ (hX _ z)
    refine wR_mono (h x (by rw [← e1]; simp) S' a b) (fun L1 S2 ⟨es, w⟩ => ?_) fun _ _ z => z
    subst es
    refine wR_mono w (fun bb S3 ⟨a3, b3, e3, w⟩ => ?_) fun _ _ z => z
    have c3 := a3.at c nX
    cases hb : bb with
    | true =>
      rw [if_pos rfl]
      refine wR_mono (w hb) (fun y S4 ⟨a4, b4, e4⟩ => ?_) fun _ _ z => z
      have c4 := a4.at c3 nX
      have al : acc.length = (ds.filter p).length := e2.len
      have dl : (ds.filter p).length ≤ ds.length := List.length_filter_le _ _
      have il : ds.length + xs.length + 1 = items.length := by rw [← e1]; simp; omega
      refine ⟨acc, c4, by omega, ((a.trans a3).trans a4).set _ (.inr (Nat.le_refl _)), hJs _ _ b4, at_set c4, ds ++ [x], by rw [← e1]; simp, ?_⟩
      rw [List.filter_append]
      have : [x].filter p = [x] := by simp [List.filter_cons, ← e3, hb]
      rw [this]
      exact e2.snoc e4
    | false =>
      rw [if_neg (by simp)]
      refine ⟨a.trans a3, b3, c3, ds ++ [x], by rw [← e1]; simp, ?_⟩
      rw [List.filter_append]
      have : [x].filter p = [] := by simp [List.filter_cons, ← e3, hb]
      rw [this, List.append_nil]
      exact e2
/-- a list comprehension -/
theorem wR_eLc {w : WM} {tg : TM} {t : BM} {e : EM} {vs : List Nat} {L : Loc} {S : Sto} {Q : D → Sto → Prop} {E : Exc → Sto → Prop} : wR (eLc w tg t e vs L S) Q E = wR (w L S) (fun k S1 => wR (lcL k.chk tg t e (wipe L vs) S1.length k.items (S1 ++ [.lst []])) Q E) E := by simp only [eLc, wR_bind]
theorem eq_of_wR {α : Type} {r : R α} {a : α} {S : Sto} (h : wR r (fun d S' => d = a ∧ S' = S) Fl) : r = .ok a S := by
  cases r with
  | ok d S' => obtain ⟨rfl, rfl⟩ := h; rfl
  | exc x S => exact h.elim
  | err => exact h.elim
theorem eq_of_exc {α : Type} {r : R α} {x : Exc} {S : Sto} (h : wR r (fun _ _ => False) (fun y S' => y = x ∧ S' = S)) : r = .exc x S := by
  cases r with
  | ok d S' => exact h.elim
  | exc y S' => obtain ⟨rfl, rfl⟩ := h; rfl
  | err => exact h.elim
@[simp] theorem opIsi_int (T : String) (i : Int) (S : Sto) : opIsi T (.int i) S = .ok (.bl (decide ("int" = T))) S := by simp [opIsi, tyNm]
@[simp] theorem opIsi_bl (T : String) (i : Bool) (S : Sto) : opIsi T (.bl i) S = .ok (.bl (decide ("bool" = T) || decide (T = "int"))) S := by simp [opIsi, tyNm]
@[simp] theorem opIsi_str (T : String) (i : List Nat) (S : Sto) : opIsi T (.str i) S = .ok (.bl (decide ("str" = T))) S := by simp [opIsi, tyNm]
@[simp] theorem opIsi_tup (T : String) (i : List D) (S : Sto) : opIsi T (.tup i) S = .ok (.bl (decide ("tuple" = T))) S := by simp [opIsi, tyNm]
@[simp] theorem opIsi_non (T : String) (S : Sto) : opIsi T .non S = .ok (.bl (decide ("NoneType" = T))) S := by simp [opIsi, tyNm]
theorem opIsi_l {T : String} {S : Sto} {n : Nat} {xs : List D} (h : S[n]? = some (.lst xs)) : opIsi T (.ref n) S = .ok (.bl (decide ("list" = T))) S := by simp [opIsi, tyNm, h]
theorem allB_map : ∀ {xs : List D} {f : D → Bool}, allB (xs.map fun x => .bl (f x)) = some (xs.all f)
  | [], f => rfl
  | x :: xs, f => by simp [allB, allB_map (xs := xs)]
theorem fAll_r {S : Sto} {n : Nat} {xs : List D} {b : Bool} (h : S[n]? = some (.lst xs)) (e : allB xs = some b) : fAll [.ref n] S = .ok (.bl b) S := by simp only [fAll, h, e]
theorem wR_wTup {a : EM} {L : Loc} {S : Sto} {Q : Wk → Sto → Prop} {E : Exc → Sto → Prop} (h : wR (a L S) (fun x S1 => ∃ xs, x = .tup xs ∧ Q ⟨xs, fun _ => true⟩ S1) E) : wR (wTup a L S) Q E := by
  simp only [wTup, wR_bind]
  refine wR_mono h (fun x S1 ⟨xs, e, q⟩ => ?_) fun _ _ z => z
  subst e
  exact q
theorem wR_wStr {a : EM} {L : Loc} {S : Sto} {Q : Wk → Sto → Prop} {E : Exc → Sto → Prop} (h : wR (a L S) (fun x S1 => ∃ z, x = .str z ∧ Q ⟨z.map fun c => .str [c], fun _ => true⟩ S1) E) : wR (wStr a L S) Q E := by
  simp only [wStr, wR_bind]
  refine wR_mono h (fun x S1 ⟨xs, e, q⟩ => ?_) fun _ _ z => z
  subst e
  exact q
/-- the store stays, but for the list that grows; what is walked is of the kind β -/
theorem lcL_map {β : Type} {chk : Sto → Bool} {tg : TM} {t : BM} {e : EM} {L : Loc} {S1 : Sto} {g : β → D} {p : β → Bool} {f : β → D} {L1 : β → Loc} :
    ∀ {items : List β} {acc : List D}, (∀ acc, chk (S1 ++ [.lst acc]) = true) → (∀ x ∈ items, ∀ acc, tg (g x) L (S1 ++ [.lst acc]) = .ok (L1 x) (S1 ++ [.lst acc]) ∧ t (L1 x) (S1 ++ [.lst acc]) = .ok (p x) (S1 ++ [.lst acc]) ∧ (p x = true → e (L1 x) (S1 ++ [.lst acc]) = .ok (f x) (S1 ++ [.lst acc]))) →
      acc.length + items.length ≤ sz → lcL chk tg t e L S1.length (items.map g) (S1 ++ [.lst acc]) = .ok (.ref S1.length) (S1 ++ [.lst (acc ++ (items.filter p).map f)])
  | [], acc, hc, _, _ => by simp [lcL, hc]
  | x :: xs, acc, hc, h, hz => by
    obtain ⟨h1, h2, h3⟩ := h x (List.mem_cons_self ..) acc
    have ih := fun acc' hz' => lcL_map (items := xs) (acc := acc') hc (fun y hy => h y (List.mem_cons_of_mem _ hy)) hz'
    simp only [List.length_cons] at hz
    rw [List.map_cons]
    unfold lcL
    rw [if_pos (hc acc), h1]
    dsimp only
    rw [h2]
    cases q : p x with
    | true =>
      simp only
      rw [h3 q]
      simp only [at_new]
      rw [if_pos (by omega)]
      have e : (S1 ++ [Ob.lst acc]).set S1.length (.lst (acc ++ [f x])) = S1 ++ [.lst (acc ++ [f x])] := by
        rw [List.set_append_right _ _ (Nat.le_refl _)]
        simp
      rw [e, ih (acc ++ [f x]) (by simp; omega)]
      simp [List.filter_cons, q]
    | false =>
      simp only
      rw [ih acc (by omega)]
      simp [List.filter_cons, q]
theorem eLc_map {β : Type} {a : EM} {tg : TM} {t : BM} {e : EM} {vs : List Nat} {L : Loc} {S S1 : Sto} {n : Nat} {items : List β} {g : β → D} {p : β → Bool} {f : β → D} {L1 : β → Loc} (ha : a L S = .ok (.ref n) S1) (hn : S1[n]? = some (.lst (items.map g)))
    (h : ∀ x ∈ items, ∀ acc, tg (g x) (wipe L vs) (S1 ++ [.lst acc]) = .ok (L1 x) (S1 ++ [.lst acc]) ∧ t (L1 x) (S1 ++ [.lst acc]) = .ok (p x) (S1 ++ [.lst acc]) ∧ (p x = true → e (L1 x) (S1 ++ [.lst acc]) = .ok (f x) (S1 ++ [.lst acc]))) (hz : items.length ≤ sz) :
    eLc (wLst a) tg t e vs L S = .ok (.ref S1.length) (S1 ++ [.lst ((items.filter p).map f)]) := by
  simp only [eLc, wLst, ha, R.bind_ok, hn]
  rw [lcL_map (fun acc => decide_eq_true (at_push hn)) h (by simpa using hz)]
  simp
theorem tV_ok {a : EM} {L : Loc} {S S1 : Sto} {b : Bool} (h : a L S = .ok (.bl b) S1) : tV a L S = .ok b S1 := by simp only [tV, h, R.bind_ok]
theorem tAnd_ok {a b : BM} {L : Loc} {S : Sto} {x y : Bool} (h : a L S = .ok x S) (h' : b L S = .ok y S) : tAnd a b L S = .ok (x && y) S := by
  simp only [tAnd, h, R.bind_ok]
  cases x
  · rfl
  · simp [h']
theorem atI_0 {α : Type} (x : α) (xs : List α) : atI (x :: xs) 0 = some x := by
  unfold atI ixN
  rw [if_pos (by decide), if_pos (by simp only [List.length_cons]; omega)]
  rfl
theorem fLenOwn_r {c : Nat} {F : Fn} {S S1 : Sto} {n : Nat} {fs : List (Nat × D)} {i : Int} (h : S[n]? = some (.ins c fs)) (e : F [.ref n] S = .ok (.int i) S1) (h0 : 0 ≤ i) (h1 : i < 2 ^ 63) : fLenOwn c F [.ref n] S = .ok (.int i) S1 := by
  simp only [fLenOwn, h, if_pos]
  rw [e]
  simp only [R.bind_ok]
  rw [if_pos ⟨h0, h1⟩]
/-! splitting at a sign: the only list of parts without it that joins to the text -/
theorem splitC_ne (c : Nat) : ∀ x : List Nat, splitC c x ≠ []
  | [] => by simp [splitC]
  | x :: r => by
    unfold splitC
    split
    · simp
    · split <;> simp
theorem splitC_free (c : Nat) : ∀ x : List Nat, ∀ p ∈ splitC c x, c ∉ p
  | [], p, h => by simp [splitC] at h; subst h; simp
  | x :: r, p, h => by
    have ih := splitC_free c r
    unfold splitC at h
    split at h
    · rcases List.mem_cons.mp h with rfl | h
      · simp
      · exact ih p h
    · rename_i ne
      split at h
      · rename_i hd tl e
        rcases List.mem_cons.mp h with rfl | h
        · have := ih hd (by rw [e]; exact List.mem_cons_self ..)
          simp only [List.mem_cons, not_or]
          exact ⟨fun z => ne z.symm, this⟩
        · exact ih p (by rw [e]; exact List.mem_cons_of_mem _ h)
      · simp only [List.mem_cons, List.not_mem_nil, or_false] at h
        subst h
        simpa using fun z => ne z.symm
theorem joinS_cons (c : Nat) (x : List Nat) {ys : List (List Nat)} (h : ys ≠ []) : joinS [c] (x :: ys) = x ++ c :: joinS [c] ys := by
  cases ys with
  | nil => exact absurd rfl h
  | cons y r =>
    show x ++ [c] ++ joinS [c] (y :: r) = _
    simp
theorem splitC_join (c : Nat) : ∀ x : List Nat, joinS [c] (splitC c x) = x
  | [] => rfl
  | x :: r => by
    have ih := splitC_join c r
    unfold splitC
    split
    · rename_i e
      rw [joinS_cons c [] (splitC_ne c r), ih, e]
      rfl
    · split
      · rename_i hd tl e
        rw [e] at ih
        cases tl with
        | nil => simpa [joinS] using ih
        | cons y t =>
          rw [joinS_cons c hd (by simp)] at ih
          rw [joinS_cons c (x :: hd) (by simp), List.cons_append, ih]
      · rename_i e
        exact absurd e (splitC_ne c r)
theorem cut_free {c : Nat} : ∀ {x y u v : List Nat}, c ∉ x → c ∉ y → x ++ c :: u = y ++ c :: v → x = y ∧ u = v
  | [], [], u, v, _, _, h => ⟨rfl, by simpa using h⟩
  | [], y :: ys, u, v, _, hy, h => by simp at h; exact absurd (by simp [h.1]) hy
  | x :: xs, [], u, v, hx, _, h => by simp at h; exact absurd (by simp [h.1]) hx
  | x :: xs, y :: ys, u, v, hx, hy, h => by
    simp only [List.cons_append, List.cons.injEq] at h
    obtain ⟨e1, e2⟩ := cut_free (fun z => hx (List.mem_cons_of_mem _ z)) (fun z => hy (List.mem_cons_of_mem _ z)) h.2
    exact ⟨by rw [h.1, e1], e2⟩
theorem join_inj {c : Nat} : ∀ {xs ys : List (List Nat)}, xs ≠ [] → ys ≠ [] → (∀ p ∈ xs, c ∉ p) → (∀ p ∈ ys, c ∉ p) → joinS [c] xs = joinS [c] ys → xs = ys
  | [], _, h, _, _, _, _ => absurd rfl h
  | _, [], _, h, _, _, _ => absurd rfl h
  | [x], [y], _, _, _, _, e => by simpa [joinS] using e
  | [x], y :: y2 :: r, _, _, hx, hy, e => by
    rw [joinS_cons c y (by simp)] at e
    have : c ∈ joinS [c] [x] := by rw [e]; simp
    exact absurd this (hx x (List.mem_cons_self ..))
  | x :: x2 :: r, [y], _, _, hx, hy, e => by
    rw [joinS_cons c x (by simp)] at e
    have : c ∈ joinS [c] [y] := by rw [← e]; simp
    exact absurd this (hy y (List.mem_cons_self ..))
  | x :: x2 :: r, y :: y2 :: q, _, _, hx, hy, e => by
    rw [joinS_cons c x (by simp), joinS_cons c y (by simp)] at e
    obtain ⟨e1, e2⟩ := cut_free (hx x (List.mem_cons_self ..)) (hy y (List.mem_cons_self ..)) e
    rw [e1, join_inj (by simp) (by simp) (fun p hp => hx p (List.mem_cons_of_mem _ hp)) (fun p hp => hy p (List.mem_cons_of_mem _ hp)) e2]
theorem cut_none {α : Type} (xs : List α) (n : Nat) : cut xs none (some (n : Int)) = xs.take n := by
  have e : sIx xs.length xs.length (some (n : Int)) = min n xs.length := by
    simp only [sIx]
    rw [if_neg (by omega)]
    simp
  have e2 : sIx xs.length 0 none = 0 := rfl
  unfold cut
  rw [e, e2, List.drop_zero, Nat.sub_zero]
  rw [Nat.min_comm, ← List.take_take]
  exact List.take_of_length_le (by simp; omega)
theorem cut_from {α : Type} (xs : List α) (n : Nat) (h : n ≤ xs.length) : cut xs (some (n : Int)) none = xs.drop n := by
  have e : sIx xs.length 0 (some (n : Int)) = n := by
    simp only [sIx]
    rw [if_neg (by omega)]
    simp
    omega
  have e2 : sIx xs.length xs.length none = xs.length := rfl
  unfold cut
  rw [e, e2, List.take_of_length_le (by simp)]
theorem wR_eBM {t : String} {F : Fn} {o : EM} {as : AM} {L : Loc} {S : Sto} {Q : D → Sto → Prop} {E : Exc → Sto → Prop} (h : wR (o L S) (fun x S1 => tyNm S1 x = some t ∧ wR (as L S1) (fun xs S2 => wR (F (x :: xs) S2) Q E) E) E) : wR (eBM t F o as L S) Q E := by
  simp only [eBM, wR_bind]
  refine wR_mono h (fun x S1 ⟨e, q⟩ => ?_) fun _ _ z => z
  rw [if_pos e, wR_bind]
  exact q
end MP

namespace MP
open PySem (PyData)
/-! ### the dice -/
def isDie (S : Sto) (n : Nat) : Prop := ∃ a b : Int, S[n]? = some (.lst [.int a, .int b])
theorem isDie.fm {X : List Nat} {S S' : Sto} {n : Nat} (h : isDie S n) (f : Fm X S S') (hx : n ∉ X) : isDie S' n := by
  obtain ⟨a, b, h⟩ := h
  exact ⟨a, b, f.at h hx⟩
theorem isDie.push {S : Sto} {n : Nat} {o : Ob} (h : isDie S n) : isDie (S ++ [o]) n := by
  obtain ⟨a, b, h⟩ := h
  exact ⟨a, b, at_push h⟩
theorem isDie.set {S : Sto} {n k : Nat} {o : Ob} (h : isDie S n) (e : k ≠ n) : isDie (S.set k o) n := by
  obtain ⟨a, b, h⟩ := h
  exact ⟨a, b, at_set_ne h e⟩
theorem isDie.lt {S : Sto} {n : Nat} (h : isDie S n) : n < S.length := by
  obtain ⟨a, b, h⟩ := h
  exact lt_of_at h
theorem mul_small {i j : Int} (h : -(2 ^ 64) < j ∧ j < 2 ^ 64) : mulOk i j = true := by
  unfold mulOk
  simp only [Bool.or_eq_true, Bool.and_eq_true, decide_eq_true_eq]
  exact .inl (.inr h)
theorem mul_mid {i j : Int} (h : i.natAbs < 2 ^ 200) (h' : j.natAbs < 2 ^ 200) : mulOk i j = true := by
  unfold mulOk
  simp only [Bool.or_eq_true, Bool.and_eq_true, decide_eq_true_eq]
  exact .inr ⟨h, h'⟩
theorem drawn_ok (a b : Int) (S : Sto) : ∃ r : Int, f__law_drawn [.int a, .int b] S = .ok (.int r) S := by
  have key : wR (f__law_drawn [.int a, .int b] S) (fun d S' => S' = S ∧ ∃ r : Int, d = .int r) (fun _ _ => False) := by
    refine wR_call rfl ?_
    unfold c__law_drawn
    simp only [wS_sSeq, wS_sAsg, eBin_a, eV_a, eC_a, List.map, List.replicate, List.cons_append, List.nil_append, List.getElem?_cons_zero, List.getElem?_cons_succ, R.bind_ok, opMul_i, Nat.sub_self, Nat.reduceSub]
    rw [if_pos (mul_small (by decide))]
    simp only [R.bind_ok, opAdd_i, opMul_i]
    rw [if_pos (mul_small (by decide))]
    simp only [R.bind_ok, opAdd_i, opMod_i]
    rw [if_pos (by decide)]
    simp only [wR_ok, gV_a, List.set_cons_succ, List.set_cons_zero, List.getElem?_cons_succ, List.getElem?_cons_zero, R.bind_ok, opMul_i]
    generalize hx : (a * 6364136223846793005 + (b + 1) * 1442695040888963407) % 340282366920938463463374607431768211507 = x
    have x0 : 0 ≤ x := by omega
    have x1 : x < 340282366920938463463374607431768211507 := by omega
    clear hx
    rw [if_pos (mul_mid (by omega) (by omega))]
    simp only [R.bind_ok, opMod_i]
    rw [if_pos (by decide)]
    simp only [wR_ok, gV_a, List.set_cons_succ, List.set_cons_zero, List.getElem?_cons_succ, List.getElem?_cons_zero, R.bind_ok, opMul_i]
    generalize hy : x * x % 340282366920938463463374607431768211297 = y
    have y0 : 0 ≤ y := by omega
    have y1 : y < 340282366920938463463374607431768211297 := by omega
    clear hy
    have d1 : ∀ S, opDiv (.int y) (.int 18446744073709551557) S = .ok (.int (y / 18446744073709551557)) S := fun S => by rw [opDiv_i, if_pos (by decide)]
    have d2 : ∀ S, opMod (.int y) (.int 18446744073709551557) S = .ok (.int (y % 18446744073709551557)) S := fun S => by rw [opMod_i, if_pos (by decide)]
    simp only [d1, d2, wR_ok, R.bind_ok, opAdd_i, opMul_i]
    have u0 : 0 ≤ y % 18446744073709551557 + 1 := by omega
    have u1 : y % 18446744073709551557 + 1 < 18446744073709551616 := by omega
    have v0 : 0 ≤ y / 18446744073709551557 + 1 := by omega
    have v1 : y / 18446744073709551557 + 1 < 36893488147419103232 := by omega
    generalize y % 18446744073709551557 + 1 = u at u0 u1
    generalize y / 18446744073709551557 + 1 = v at v0 v1
    rw [if_pos (mul_mid (by omega) (by omega))]
    simp only [wR_ok, R.bind_ok, opMul_i]
    have w0 : 0 ≤ u * v := Int.mul_nonneg u0 v0
    have w1 : u * v ≤ 18446744073709551616 * 36893488147419103232 := Int.mul_le_mul (by omega) (by omega) v0 (by omega)
    rw [if_pos (mul_mid (by omega) (by omega))]
    simp only [wR_ok, R.bind_ok, gV_a, wS_sRet, eBin_a, eV_a, eC_a, List.set_cons_succ, List.set_cons_zero, List.getElem?_cons_succ, List.getElem?_cons_zero, opMod_i]
    rw [if_pos (by decide)]
    simp only [wR_ok]
    exact ⟨trivial, _, rfl⟩
  cases h : f__law_drawn [.int a, .int b] S with
  | ok d S' =>
    rw [h] at key
    obtain ⟨rfl, r, rfl⟩ := key
    exact ⟨r, rfl⟩
  | exc x S' => rw [h] at key; exact key.elim
  | err => rw [h] at key; exact key.elim
/-- one throw -/
theorem roll_ok {S : Sto} {n : Nat} {m : Int} {Q : D → Sto → Prop} {E : Exc → Sto → Prop} (h : isDie S n) (hm : 0 < m) (hm2 : m < 2 ^ 64)
    (q : ∀ (r : Int) (S' : Sto), 0 ≤ r → r < m → Fm [n] S S' → isDie S' n → S'.length = S.length → Q (.int r) S') : wR (f__law_roll [.ref n, .int m] S) Q E := by
  obtain ⟨a, b, h⟩ := h
  have q' : ∀ (r a' b' : Int), 0 ≤ r → r < m → Q (.int r) (S.set n (.lst [.int a', .int b'])) := fun r a' b' h0 h1 => q r _ h0 h1 ((Fm.refl [n] S).set _ (.inl (by simp))) ⟨a', b', at_set h⟩ (by simp)
  refine wR_call rfl ?_
  unfold c__law_roll
  have ix0 : ∀ {x y : Int} {S : Sto}, S[n]? = some (.lst [.int x, .int y]) → opIx (.ref n) (.int 0) S = .ok (.int x) S := fun {x y S} h => by rw [opIx_r h]; rfl
  have ix1 : ∀ {x y : Int} {S : Sto}, S[n]? = some (.lst [.int x, .int y]) → opIx (.ref n) (.int 1) S = .ok (.int y) S := fun {x y S} h => by rw [opIx_r h]; rfl
  have st0 : ∀ {x y v : Int} {S : Sto}, S[n]? = some (.lst [.int x, .int y]) → setL (.ref n) (.int 0) (.int v) S = .ok () (S.set n (.lst [.int v, .int y])) := fun {x y v S} h => by rw [setL_r (j := 0) h rfl]; rfl
  have st1 : ∀ {x y v : Int} {S : Sto}, S[n]? = some (.lst [.int x, .int y]) → setL (.ref n) (.int 1) (.int v) S = .ok () (S.set n (.lst [.int x, .int v])) := fun {x y v S} h => by rw [setL_r (j := 1) h rfl]; rfl
  have pw : ∀ S, opPow (.int 10) (.int 18) S = .ok (.int (10 ^ 18)) S := fun S => rfl
  have l1 : ∀ x, [some (D.ref n), some (D.int m), x][0]? = some (some (.ref n)) := fun x => rfl
  simp only [wS_sSeq, wS_sIf, wR_tV, wS_sAsg, wS_sRet, wS_sNx, eBin_a, eV_a, eC_a, List.map, List.replicate, List.cons_append, List.nil_append, List.getElem?_cons_zero, List.getElem?_cons_succ, R.bind_ok, Nat.sub_self, Nat.reduceSub, ix0 h, pw, opCmp_a, wR_ok, opMod_i, if_pos hm, gV_a, List.set_cons_succ, List.set_cons_zero, opDiv_i, ix1 h, opAdd_i, wR_ite, gSub_a, wR_bind]
  have hd : 0 < m ∧ m < 2 ^ 200 := ⟨hm, by have : (2:Int) ^ 64 < 2 ^ 200 := by decide
                                           omega⟩
  split
  · simp only [wR_ok, st0 h, R.bind_ok]
    exact q' _ _ _ (Int.emod_nonneg _ (by omega)) (Int.emod_lt_of_pos _ hm)
  · simp only [st1 h, wR_ok, eCall_a, aCons_a, aNil_a, eBin_a, eV_a, eC_a, List.getElem?_cons_zero, List.getElem?_cons_succ, R.bind_ok, wR_bind, ix0 (at_set h), ix1 (at_set h)]
    obtain ⟨r, hr⟩ := drawn_ok a (b + 1) (S.set n (.lst [.int a, .int (b + 1)]))
    rw [hr]
    simp only [wR_ok, opDiv_i]
    rw [if_pos (by decide)]
    simp only [wR_ok, opMod_i, if_pos hm]
    exact q' _ _ _ (Int.emod_nonneg _ (by omega)) (Int.emod_lt_of_pos _ hm)
/-! ### numbers -/
theorem num_i (x lo hi : Int) (S : Sto) : f_is_number [.int x, .int lo, .int hi] S = .ok (.bl (decide (lo ≤ x ∧ x ≤ hi))) S := by
  refine eq_of_wR (wR_call rfl ?_)
  simp only [c_is_number, wS_sSeq, wS_sIf, wR_tOr, wR_tNot, wR_tV, eUn_a, eV_a, List.map, List.replicate, List.cons_append, List.nil_append, List.getElem?_cons_zero, List.getElem?_cons_succ, R.bind_ok, opIsi_int, wR_ok, Nat.sub_self, decide_true, Bool.not_true, Bool.false_eq_true, if_false, eBin_a, opCmp_a, wS_sRet, wR_eOr, opIsN_a, wS_sNx, eC_a]
  by_cases h : x < lo
  · simp [h]
    omega
  · simp [h]
    omega
theorem num_n (x lo : Int) (S : Sto) : f_is_number [.int x, .int lo, .non] S = .ok (.bl (decide (lo ≤ x))) S := by
  refine eq_of_wR (wR_call rfl ?_)
  simp only [c_is_number, wS_sSeq, wS_sIf, wR_tOr, wR_tNot, wR_tV, eUn_a, eV_a, List.map, List.replicate, List.cons_append, List.nil_append, List.getElem?_cons_zero, List.getElem?_cons_succ, R.bind_ok, opIsi_int, wR_ok, Nat.sub_self, decide_true, Bool.not_true, Bool.false_eq_true, if_false, eBin_a, opCmp_a, wS_sRet, wR_eOr, opIsN_a, wS_sNx, eC_a]
  by_cases h : x < lo
  · simp [h]
  · simp [h]
    omega
theorem need_i {x lo hi : Int} (S : Sto) (h : lo ≤ x ∧ x ≤ hi) : f_need_number [.int x, .int lo, .int hi] S = .ok .non S := by
  refine eq_of_wR (wR_call rfl ?_)
  simp [c_need_number, num_i, h]
theorem need_n {x lo : Int} (S : Sto) (h : lo ≤ x) : f_need_number [.int x, .int lo, .non] S = .ok .non S := by
  refine eq_of_wR (wR_call rfl ?_)
  simp [c_need_number, num_n, h]
theorem need_d {x lo : Int} (S : Sto) (h : lo ≤ x) : withD f_need_number [.non] [.int x, .int lo] S = .ok .non S := need_n S h
/-! ### names -/
def signs : List Nat := [97, 98, 99, 100, 101, 102, 103, 104, 105, 106, 107, 108, 109, 110, 111, 112, 113, 114, 115, 116, 117, 118, 119, 120, 121, 122, 48, 49, 50, 51, 52, 53, 54, 55, 56, 57]
def okPart (x : List Nat) : Bool := decide (1 ≤ x.length) && (decide (x.length ≤ 4) && x.all fun c => decide (c ∈ signs))
theorem part_ok {x : List Nat} {S : Sto} {Q : D → Sto → Prop} {E : Exc → Sto → Prop} (q : ∀ S', Fm [] S S' → Q (.bl (okPart x)) S') (hx : x.length ≤ sz) : wR (f_is_part [.str x] S) Q E := by
  refine wR_call rfl ?_
  simp only [c_is_part, wS_sRet, wR_eAnd, eUn_a, eV_a, List.map, List.replicate, List.cons_append, List.nil_append, List.getElem?_cons_zero, List.getElem?_cons_succ, R.bind_ok, opIsi_str, wR_ok, decide_true, wR_eChain, eC_a, eCall_a, aCons_a, aNil_a, fLen, if_pos hx, opCmp_a, wR_bind, Nat.reduceSub]
  unfold okPart at q
  by_cases h1 : 1 ≤ x.length
  · simp only [h1, decide_true, Bool.true_and] at q
    simp only [show (1 : Int) ≤ (x.length : Int) by omega, decide_true]
    by_cases h2 : x.length ≤ 4
    · simp only [h2, decide_true, Bool.true_and] at q
      simp only [show (x.length : Int) ≤ 4 by omega, decide_true]
      refine wR_eq (eLc_str (S1 := S) (p := fun _ => true) (f := fun d => match d with
        | .str [c] => .bl (decide (c ∈ signs))
        | _ => .bl false) (L1 := fun d => [some (.str x), some d]) rfl (fun d hd acc => ?_) (by omega)) ?_
      · obtain ⟨c, _, rfl⟩ := List.mem_map.mp hd
        exact ⟨rfl, rfl, fun _ => rfl⟩
      · refine wR_eq (fAll_r (b := x.all fun c => decide (c ∈ signs)) (at_new _ _) ?_) (q _ ((Fm.refl _ _).push _))
        rw [List.filter_eq_self.mpr (fun _ _ => rfl), List.map_map]
        clear q hx h1 h2
        induction x with
        | nil => rfl
        | cons c x ih => simp only [List.map_cons, Function.comp, allB, ih, List.all_cons, Option.map_some]
    · simp only [h2, decide_false, Bool.false_and] at q
      simp only [show ¬ (x.length : Int) ≤ 4 by omega, decide_false]
      exact q _ (Fm.refl _ _)
  · simp only [h1, decide_false, Bool.false_and] at q
    simp only [show ¬ (1 : Int) ≤ (x.length : Int) by omega, decide_false]
    exact q _ (Fm.refl _ _)
/-- a beginning of these parts -/
abbrev nmD (xs : List (List Nat)) : D := .tup (xs.map .str)
def okBeg (xs : List (List Nat)) : Bool := decide (xs.length ≤ 5) && xs.all okPart
theorem beg_ok {xs : List (List Nat)} {S : Sto} {Q : D → Sto → Prop} {E : Exc → Sto → Prop} (q : ∀ S', Fm [] S S' → Q (.bl (okBeg xs)) S') (hx : ∀ x ∈ xs, x.length ≤ sz) : wR (f_is_beginning [nmD xs] S) Q E := by
  refine wR_call rfl ?_
  simp only [c_is_beginning, wS_sRet, wR_eAnd, eUn_a, eV_a, List.map, List.replicate, List.cons_append, List.nil_append, List.getElem?_cons_zero, List.getElem?_cons_succ, R.bind_ok, opIsi_tup, wR_ok, decide_true, eBin_a, eC_a, eCall_a, aCons_a, aNil_a, fLen_t, opCmp_a, wR_bind, Nat.reduceSub, List.length_map]
  unfold okBeg at q
  by_cases h1 : xs.length ≤ 5
  · simp only [h1, decide_true, Bool.true_and] at q
    simp only [show (xs.length : Int) ≤ 5 by omega, decide_true]
    rw [wR_eLc]
    refine wR_wTup (show wR (R.ok (nmD xs) S) _ _ from ⟨_, rfl, ?_⟩)
    refine lcL_fm (X := []) (p := fun _ => true) (P := fun d y => ∃ x, d = .str x ∧ y = .bl (okPart x)) (fun _ => True) trivial (fun _ => trivial) (fun _ _ _ => trivial) (by simp) (fun _ _ _ => rfl) (fun d hd S' a _ => ?_) (by simp [sz]; omega) fun S' ys a _ hys e _ => ?_
    · obtain ⟨x, hx', rfl⟩ := List.mem_map.mp hd
      refine ⟨rfl, Fm.refl _ _, trivial, rfl, fun _ => ?_⟩
      show wR (f_is_part [.str x] S') _ _
      exact part_ok (fun S2 f => ⟨f, trivial, x, rfl, rfl⟩) (hx x hx')
    · simp only [wR_ok, fAll]
      have : allB ys = some (xs.all okPart) := by
        rw [List.filter_eq_self.mpr (fun _ _ => rfl)] at hys
        clear q hx h1 e a
        induction xs generalizing ys with
        | nil => cases hys; rfl
        | cons x xs ih =>
          rw [List.map_cons] at hys
          cases hys with
          | cons h t =>
            obtain ⟨x', h, rfl⟩ := h
            cases h
            simp only [allB, ih _ t, List.all_cons, Option.map_some]
      refine wR_eq (fAll_r e this) (q _ a)
  · simp only [h1, decide_false, Bool.false_and] at q
    simp only [show ¬ (xs.length : Int) ≤ 5 by omega, decide_false]
    exact q _ (Fm.refl _ _)
def okNm (xs : List (List Nat)) : Bool := okBeg xs && decide (xs ≠ [])
theorem pl_nm (xs : List (List Nat)) : pl 1 (nmD xs) = true := by
  simp only [pl, pls_all]
  intro x hx
  obtain ⟨y, _, rfl⟩ := List.mem_map.mp hx
  rfl
theorem nmD_inj {xs ys : List (List Nat)} (h : nmD xs = nmD ys) : xs = ys := by
  have h := D.tup.inj h
  exact List.map_inj_right (fun _ _ e => D.str.inj e) |>.mp h
theorem name_ok {xs : List (List Nat)} {S : Sto} {Q : D → Sto → Prop} {E : Exc → Sto → Prop} (q : ∀ S', Fm [] S S' → Q (.bl (okNm xs)) S') (hx : ∀ x ∈ xs, x.length ≤ sz) : wR (f_is_name [nmD xs] S) Q E := by
  refine wR_call rfl ?_
  simp only [c_is_name, wS_sRet, wR_eAnd, eV_a, List.map, List.replicate, List.cons_append, List.nil_append, List.getElem?_cons_zero, R.bind_ok, eCall_a, aCons_a, aNil_a, wR_bind, wR_ok, eBin_a, eTup_a, Nat.sub_self]
  refine beg_ok (fun S' f => ?_) hx
  unfold okNm at q
  cases h : okBeg xs with
  | false =>
    rw [h] at q
    exact q _ f
  | true =>
    rw [h] at q
    simp only [List.length_nil, Nat.zero_le, if_true, R.bind_ok, wR_ok]
    rw [opNe_pl (pl_nm xs) (show pl 1 (.tup []) = true from rfl)]
    have : (!decide (nmD xs = .tup [])) = decide (xs ≠ []) := by
      rw [Bool.eq_iff_iff]
      simp
    rw [this]
    exact q _ f
theorem neednm_ok {xs : List (List Nat)} {S : Sto} {Q : D → Sto → Prop} {E : Exc → Sto → Prop} (h : okNm xs = true) (q : ∀ S', Fm [] S S' → Q .non S') (hx : ∀ x ∈ xs, x.length ≤ sz) : wR (f_need_name [nmD xs] S) Q E := by
  refine wR_call rfl ?_
  simp only [c_need_name, wS_sIf, wR_tNot, wR_tV, eV_a, List.map, List.replicate, List.cons_append, List.nil_append, List.getElem?_cons_zero, R.bind_ok, eCall_a, aCons_a, aNil_a, wR_bind, wR_ok, Nat.sub_self]
  refine name_ok (fun S' f => ?_) hx
  rw [h]
  simpa using q _ f
theorem okPart_len {x : List Nat} (h : okPart x = true) : x.length ≤ sz := by
  unfold okPart at h
  simp only [Bool.and_eq_true, decide_eq_true_eq] at h
  unfold sz
  omega
/-! ### the script's cells -/
theorem atI_nn {α : Type} {xs : List α} {i : Int} (h0 : 0 ≤ i) (h1 : i < xs.length) : ∃ x, atI xs i = some x ∧ x ∈ xs := by
  obtain ⟨k, rfl⟩ := Int.eq_ofNat_of_zero_le h0
  have hk : k < xs.length := by omega
  refine ⟨xs[k], ?_, List.getElem_mem _⟩
  unfold atI ixN
  rw [if_pos h0, if_pos h1]
  simp [hk]
theorem cell_ok {S : Sto} {n : Nat} {ns : List Int} {k : Int} {Q : D → Sto → Prop} {E : Exc → Sto → Prop} (h : isL S n (ns.map .int)) (hk : 0 ≤ k) (hz : ns.length ≤ 63)
    (q : ∀ (r : Int) (S' : Sto), Fm [] S S' → Q (.int r) S') : wR (f__law_cell [.ref n, .int k] S) Q E := by
  refine wR_call rfl ?_
  have pli : pls 0 (ns.map .int) = true := pls_all.mpr fun x hx => by
    obtain ⟨y, _, rfl⟩ := List.mem_map.mp hx
    rfl
  simp only [c__law_cell, wS_sSeq, wS_sIf, wR_tV, wS_sRet, wS_sNx, eBin_a, eV_a, eC_a, List.map, List.replicate, List.cons_append, List.nil_append, List.getElem?_cons_zero, List.getElem?_cons_succ, R.bind_ok, Nat.sub_self, eLst_a, aNil_a, List.length_nil, Nat.zero_le, if_true]
  have hp := h.push (o := .lst [])
  rw [opEq_l (k := 0) (l := 0) hp (.inl (at_new _ _)) pli rfl]
  simp only [wR_ok, wR_bind, opMul_i, eCall_a, aCons_a, eV_a, List.getElem?_cons_zero, R.bind_ok, aNil_a, fLen_l hp, List.length_map]
  have fm : Fm [] S (S ++ [.lst []]) := (Fm.refl _ _).push _
  cases ns with
  | nil =>
    simp only [List.map_nil, decide_true, if_true]
    rw [if_pos (mul_small (by decide))]
    exact q _ _ fm
  | cons a ns =>
    simp only [List.map_cons, reduceCtorEq, decide_false, Bool.false_eq_true, if_false, List.length_cons, opMod_i, opDiv_i]
    generalize hl : (((ns.length + 1 : Nat) : Int)) = l
    have l0 : 0 < l := by omega
    rw [if_pos l0]
    simp only [wR_ok, opIx_l hp]
    obtain ⟨x, e, hx⟩ := atI_nn (xs := (a :: ns).map D.int) (i := k % l) (Int.emod_nonneg _ (by omega)) (by have := Int.emod_lt_of_pos k l0; simp; omega)
    rw [e]
    obtain ⟨y, _, rfl⟩ := List.mem_map.mp hx
    simp only [wR_ok, fLen_l hp, List.length_map, List.length_cons, hl]
    rw [opDiv_i, if_pos ⟨l0, by simp at hz; have : (63:Int) < 2 ^ 200 := by decide
                                omega⟩]
    simp only [wR_ok, opMul_i]
    rw [if_pos (mul_small (by decide))]
    simp only [wR_ok, opAdd_i]
    exact q _ _ fm
theorem rngD_mem {lo : Int} {n : Nat} {d : D} (h : d ∈ rngD lo n) : ∃ k : Int, d = .int k ∧ lo ≤ k ∧ k < lo + n := by
  unfold rngD at h
  obtain ⟨i, hi, rfl⟩ := List.mem_map.mp h
  have := List.mem_range.mp hi
  exact ⟨_, rfl, by omega, by omega⟩
/-- the rounds: dice, each of its own place -/
theorem rounds_ok {S : Sto} {n : Nat} {ns : List Int} {m : Int} {Q : D → Sto → Prop} {E : Exc → Sto → Prop} (h : isL S n (ns.map .int)) (hz : ns.length ≤ 63) (hm : 0 ≤ m) (hm2 : m < 1000)
    (q : ∀ (k : Nat) (ds : List D) (S' : Sto), S'[k]? = some (.lst ds) → Fm [] S S' → ds.length ≤ 1000 → (∀ d ∈ ds, ∃ j, d = .ref j ∧ isDie S' j ∧ S.length ≤ j ∧ j ≠ k) → ds.Nodup → Q (.ref k) S') : wR (f__law_rounds [.ref n, .int m] S) Q E := by
  refine wR_call rfl ?_
  simp only [c__law_rounds, wS_sRet, wR_eLc]
  refine wR_wRng1 ?_
  simp only [eBin_a, eV_a, eC_a, List.map, List.replicate, List.cons_append, List.nil_append, List.getElem?_cons_zero, List.getElem?_cons_succ, R.bind_ok, Nat.sub_self, eCall_a, aCons_a, aNil_a, fLen_l h, List.length_map, fMin2, fMax2, wR_ok, Nat.reduceSub]
  generalize hj : (if (if (ns.length : Int) < m then (ns.length : Int) else m) > 1 then (if (ns.length : Int) < m then (ns.length : Int) else m) else 1) = j
  have j0 : 0 ≤ j ∧ j ≤ 1000 := by
    subst hj
    split <;> split <;> omega
  clear hj
  refine ⟨j, rfl, ⟨by omega, by omega⟩, ?_⟩
  have hn := h.lt
  refine lcL_inv (I := fun xs acc S' => S'[S.length]? = some (.lst acc) ∧ Fm [] S S' ∧ (∃ as, as ++ xs = rngD 0 j.toNat ∧ as.length = acc.length) ∧ acc.Nodup ∧ ∀ d ∈ acc, ∃ i, d = .ref i ∧ isDie S' i ∧ S.length ≤ i ∧ i ≠ S.length) ?_ ?_ ?_ ⟨at_new _ _, (Fm.refl _ _).push _, ⟨[], rfl, rfl⟩, .nil, fun d hd => by cases hd⟩
  · exact fun xs acc S' a => ⟨rfl, a.1⟩
  · rintro acc S' ⟨a, b, ⟨as, c, c'⟩, d, e⟩
    refine q _ _ _ a b ?_ e d
    have := congrArg List.length c
    simp [rngD] at this
    omega
  · rintro x xs acc S' ⟨a, b, ⟨as, c, c'⟩, d, e⟩
    obtain ⟨k, rfl, k0, _⟩ := rngD_mem (d := x) (by rw [← c]; simp)
    simp only [gV_a, wR_ok, wipe, List.set_cons_succ, List.set_cons_zero, tYes_a, if_true, eLst_a, aCons_a, eCall_a, eV_a, List.getElem?_cons_zero, List.getElem?_cons_succ, R.bind_ok, aNil_a, wR_bind, eC_a]
    refine cell_ok (h.fm b (by simp)) k0 hz fun r S2 f2 => ?_
    have a2 := f2.at a (by simp)
    have hl : acc.length < sz := by
      have := congrArg List.length c
      simp [rngD] at this
      simp [sz]
      omega
    simp only [wR_ok, List.length_cons, List.length_nil]
    rw [if_pos (by decide)]
    simp only [wR_ok]
    refine ⟨acc, at_push a2, hl, ?_⟩
    have s2 : S.length < S2.length := lt_of_at a2
    have ne : S.length ≠ S2.length := by omega
    refine ⟨by rw [List.getElem?_set_self (by simp; omega)], ((b.trans f2).push _).set _ (.inr (Nat.le_refl _)), ⟨as ++ [.int k], by rw [← c]; simp, by simp [c']⟩, ?_, ?_⟩
    · rw [List.nodup_append]
      refine ⟨d, by simp, fun u hu v hv => ?_⟩
      simp at hv
      subst hv
      intro z
      obtain ⟨i, rfl, hi, _⟩ := e u hu
      have := (hi.fm f2 (by simp)).lt
      cases z
      omega
    · intro u hu
      rcases List.mem_append.mp hu with hu | hu
      · obtain ⟨i, rfl, hi, g1, g2⟩ := e u hu
        exact ⟨i, rfl, ((hi.fm f2 (by simp)).push).set g2.symm, g1, g2⟩
      · simp at hu
        subst hu
        exact ⟨_, rfl, ⟨r, 0, by rw [List.getElem?_set_ne ne]; simp⟩, by omega, ne.symm⟩
/-! ### drawn beginnings and names -/
def words : List (List Nat) := [[97], [98], [99], [120, 57], [108, 111, 110, 103]]
theorem atI_some {α : Type} {xs : List α} {i : Int} (h0 : 0 ≤ i) (h1 : i < xs.length) : ∃ x, atI xs i = some x ∧ x ∈ xs := by
  obtain ⟨k, rfl⟩ := Int.eq_ofNat_of_zero_le h0
  have hk : k < xs.length := by omega
  refine ⟨xs[k], ?_, List.getElem_mem _⟩
  unfold atI ixN
  rw [if_pos h0, if_pos h1]
  simp [hk]
theorem words_ok : ∀ x ∈ words, okPart x = true := by decide
theorem strs_words : ∀ {ys : List D}, (∀ y ∈ ys, ∃ x ∈ words, y = .str x) → ∃ xs : List (List Nat), ys = xs.map .str ∧ ∀ x ∈ xs, x ∈ words
  | [], _ => ⟨[], rfl, fun _ h => by cases h⟩
  | y :: ys, h => by
    obtain ⟨x, hx, rfl⟩ := h y (List.mem_cons_self ..)
    obtain ⟨xs, rfl, h2⟩ := strs_words fun y hy => h y (List.mem_cons_of_mem _ hy)
    exact ⟨x :: xs, rfl, by simpa [hx] using h2⟩
theorem head_ok {S : Sto} {n : Nat} {Q : D → Sto → Prop} {E : Exc → Sto → Prop} (h : isDie S n)
    (q : ∀ (xs : List (List Nat)) (S' : Sto), xs.length ≤ 4 → (∀ x ∈ xs, x ∈ words) → Fm [n] S S' → isDie S' n → Q (nmD xs) S') : wR (f__law_head [.ref n] S) Q E := by
  refine wR_call rfl ?_
  simp only [c__law_head, wS_sSeq, wS_sAsg, eLst_a, aCons_a, aNil_a, eC_a, R.bind_ok, List.length_cons, List.length_nil]
  rw [if_pos (by decide)]
  simp only [wR_ok, gV_a, List.map, List.replicate, List.cons_append, List.nil_append, List.set_cons_succ, List.set_cons_zero, wS_sRet, eCall_a, wR_bind, wR_eLc, Nat.reduceSub, aCons_a, aNil_a]
  have hn := h.lt
  have ws : (words.map D.str) = [.str [97], .str [98], .str [99], .str [120, 57], .str [108, 111, 110, 103]] := rfl
  rw [← ws]
  have h1 : isDie (S ++ [.lst (words.map D.str)]) n := h.push
  have at1 : (S ++ [Ob.lst (words.map D.str)])[S.length]? = some (.lst (words.map D.str)) := at_new _ _
  have f1 : Fm [n] S (S ++ [Ob.lst (words.map D.str)]) := (Fm.refl _ _).push _
  have l1 : S.length < (S ++ [Ob.lst (words.map D.str)]).length := by simp
  generalize S ++ [Ob.lst (words.map D.str)] = S1 at h1 at1 f1 l1
  refine wR_wRng1 ?_
  simp only [eCall_a, aCons_a, aNil_a, eC_a, eV_a, List.getElem?_cons_zero, R.bind_ok]
  refine roll_ok h1 (by decide) (by decide) fun r S2 r0 r1 f2 h2 e2 => ?_
  refine ⟨r, rfl, ⟨by omega, by omega⟩, ?_⟩
  have at2 := f2.at at1 (by simp; omega)
  have l2 : S.length < S2.length := lt_of_at at2
  refine lcL_fm (X := [n]) (p := fun _ => true) (P := fun _ y => ∃ x ∈ words, y = .str x) (fun S' => isDie S' n ∧ S'[S.length]? = some (.lst (words.map D.str)))
    ⟨h2, at2⟩ (fun o => ⟨h2.push, at_push at2⟩) (fun S' o j => ⟨j.1.set (by omega), at_set_ne j.2 (by omega)⟩) (by simp; omega) (fun _ _ _ => rfl) (fun d hd S' a j => ?_) ?_ fun S' ys a j hys e _ => ?_
  · refine ⟨rfl, Fm.refl _ _, j, rfl, fun _ => ?_⟩
    simp only [wipe, List.set_cons_succ, List.set_cons_zero, eBin_a, eV_a, List.getElem?_cons_succ, List.getElem?_cons_zero, eCall_a, aCons_a, aNil_a, eC_a, R.bind_ok, wR_bind]
    refine roll_ok j.1 (by decide) (by decide) fun u S3 u0 u1 f3 h3 e3 => ?_
    refine roll_ok h3 (by decide) (by decide) fun v S4 v0 v1 f4 h4 e4 => ?_
    rw [opMul_i, if_pos (mul_small (by omega))]
    have at4 := f4.at (f3.at j.2 (by simp; omega)) (by simp; omega)
    simp only [wR_ok]
    rw [opIx_r at4]
    have uv : 0 ≤ u * v ∧ u * v < 5 := by
      rcases (by omega : v = 0 ∨ v = 1) with rfl | rfl <;> omega
    obtain ⟨y, hy, hm⟩ := atI_some (xs := words.map D.str) uv.1 (by simpa [words] using uv.2)
    obtain ⟨x, hx, rfl⟩ := List.mem_map.mp hm
    rw [hy]
    exact ⟨f3.trans f4, ⟨h4, at4⟩, x, hx, rfl⟩
  · simp [rngD, sz]
    omega
  · rw [fTuple_r e]
    have hl : ys.length ≤ r.toNat := by
      rw [hys.len]
      refine Nat.le_trans (List.length_filter_le _ _) ?_
      simp [rngD]
    obtain ⟨xs, rfl, hw⟩ := strs_words (A2.all (R := fun y : D => ∃ x ∈ words, y = D.str x) (fun _ _ z => z) hys)
    rw [List.length_map] at hl
    exact q xs _ (by omega) hw ((f1.trans f2).trans a) j.1
theorem okBeg_words {xs : List (List Nat)} (h : xs.length ≤ 5) (hw : ∀ x ∈ xs, x ∈ words) : okBeg xs = true := by
  unfold okBeg
  simp only [Bool.and_eq_true, decide_eq_true_eq, List.all_eq_true]
  exact ⟨h, fun x hx => words_ok x (hw x hx)⟩
theorem anyname_ok {S : Sto} {n : Nat} {Q : D → Sto → Prop} {E : Exc → Sto → Prop} (h : isDie S n)
    (q : ∀ (xs : List (List Nat)) (S' : Sto), xs.length ≤ 5 → (∀ x ∈ xs, x ∈ words) → xs ≠ [] → Fm [n] S S' → isDie S' n → Q (nmD xs) S') : wR (f__law_any_name [.ref n] S) Q E := by
  refine wR_call rfl ?_
  simp only [c__law_any_name, wS_sRet, wR_eIf, wR_tV, eBin_a, eCall_a, aCons_a, aNil_a, eC_a, eV_a, List.map, List.replicate, List.cons_append, List.nil_append, List.getElem?_cons_zero, R.bind_ok, wR_bind, Nat.sub_self]
  refine roll_ok h (by decide) (by decide) fun r S2 r0 r1 f2 h2 e2 => ?_
  simp only [opEq_i, wR_ok]
  split
  · simp only [eTup_a, aCons_a, aNil_a, eC_a, R.bind_ok, List.length_cons, List.length_nil]
    rw [if_pos (by decide)]
    exact q [[97]] S2 (by decide) (by decide) (by simp) f2 h2
  · refine head_ok h2 fun xs S3 xl xw f3 h3 => ?_
    simp only [eTup_a, aCons_a, aNil_a, eBin_a, eLst_a, eC_a, R.bind_ok, List.length_cons, List.length_nil, wR_bind]
    rw [if_pos (by decide)]
    simp only [wR_ok, eCall_a, aCons_a, aNil_a, eC_a, eV_a, List.getElem?_cons_zero, R.bind_ok, wR_bind]
    refine roll_ok h3.push (by decide) (by decide) fun u S4 u0 u1 f4 h4 e4 => ?_
    have at4 := f4.at (at_new S3 _) (by have := h3.lt; simp; omega)
    rw [opIx_r at4]
    have f5 : Fm [n] S S4 := ((f2.trans f3).push _).trans f4
    rcases (by omega : u = 0 ∨ u = 1) with rfl | rfl
    · have e : atI [D.str [97], D.str [98]] 0 = some (.str [97]) := rfl
      simp only [e, wR_ok, List.length_cons, List.length_nil]
      rw [if_pos (by decide)]
      simp only [wR_ok, opAdd_t, List.length_map, List.length_cons, List.length_nil]
      rw [if_pos (by unfold sz; omega)]
      have e2 : nmD (xs ++ [[97]]) = .tup (xs.map D.str ++ [.str [97]]) := by simp [nmD]
      rw [wR_ok, ← e2]
      exact q _ _ (by simp; omega) (by intro x hx; rcases List.mem_append.mp hx with hx | hx; exact xw x hx; simp at hx; subst hx; decide) (by simp) f5 h4
    · have e : atI [D.str [97], D.str [98]] 1 = some (.str [98]) := rfl
      simp only [e, wR_ok, List.length_cons, List.length_nil]
      rw [if_pos (by decide)]
      simp only [wR_ok, opAdd_t, List.length_map, List.length_cons, List.length_nil]
      rw [if_pos (by unfold sz; omega)]
      have e2 : nmD (xs ++ [[98]]) = .tup (xs.map D.str ++ [.str [98]]) := by simp [nmD]
      rw [wR_ok, ← e2]
      exact q _ _ (by simp; omega) (by intro x hx; rcases List.mem_append.mp hx with hx | hx; exact xw x hx; simp at hx; subst hx; decide) (by simp) f5 h4
theorem opEq_nm (a b : List (List Nat)) (S : Sto) : opEq (nmD a) (nmD b) S = .ok (.bl (decide (a = b))) S := by
  rw [opEq_pl (pl_nm a) (pl_nm b)]
  have : decide (nmD a = nmD b) = decide (a = b) := by
    rw [Bool.eq_iff_iff]
    simp only [decide_eq_true_eq]
    exact ⟨nmD_inj, fun h => by rw [h]⟩
  rw [this]
theorem opNe_nm (a b : List (List Nat)) (S : Sto) : opNe (nmD a) (nmD b) S = .ok (.bl (!decide (a = b))) S := by
  rw [opNe_pl (pl_nm a) (pl_nm b)]
  have : decide (nmD a = nmD b) = decide (a = b) := by
    rw [Bool.eq_iff_iff]
    simp only [decide_eq_true_eq]
    exact ⟨nmD_inj, fun h => by rw [h]⟩
  rw [this]
/-! ### what is no number, no name -/
def numOk (d : D) (lo : Int) (hi : Option Int) : Bool := match d with
  | .int x => decide (lo ≤ x) && (match hi with
    | some h => decide (x ≤ h)
    | none => true)
  | _ => false
def hiD : Option Int → D
  | some h => .int h
  | none => .non
def isP : D → Bool
  | .ref _ => false
  | .exn _ _ => false
  | _ => true
theorem num_any {d : D} (hd : isP d = true) (lo : Int) (hi : Option Int) (S : Sto) : f_is_number [d, .int lo, hiD hi] S = .ok (.bl (numOk d lo hi)) S := by
  cases d with
  | int x =>
    cases hi with
    | none => rw [show hiD none = D.non from rfl, num_n]; simp [numOk]
    | some h => rw [show hiD (some h) = D.int h from rfl, num_i]; simp [numOk]
  | ref n => cases hd
  | exn _ _ => cases hd
  | _ =>
    refine eq_of_wR (wR_call rfl ?_)
    simp [c_is_number, numOk]
theorem need_any {d : D} (hd : isP d = true) (lo : Int) (hi : Option Int) (S : Sto) : f_need_number [d, .int lo, hiD hi] S = if numOk d lo hi = true then .ok .non S else .exc ⟨2, []⟩ S := by
  cases h : numOk d lo hi with
  | true =>
    rw [if_pos rfl]
    refine eq_of_wR (wR_call rfl ?_)
    simp [c_need_number, num_any hd, h]
  | false =>
    rw [if_neg (by simp)]
    refine eq_of_exc (wR_call rfl ?_)
    simp [c_need_number, num_any hd, h]
theorem need_any_d {d : D} (hd : isP d = true) (lo : Int) (S : Sto) : withD f_need_number [.non] [d, .int lo] S = if numOk d lo none = true then .ok .non S else .exc ⟨2, []⟩ S := need_any hd lo none S
theorem words_len {xs : List (List Nat)} (hw : ∀ x ∈ xs, x ∈ words) : ∀ x ∈ xs, x.length ≤ sz := fun x hx => okPart_len (words_ok x (hw x hx))
theorem okNm_words {xs : List (List Nat)} (h : xs.length ≤ 5) (hw : ∀ x ∈ xs, x ∈ words) (hn : xs ≠ []) : okNm xs = true := by
  unfold okNm
  rw [okBeg_words h hw]
  simp [hn]
theorem app_ok {S : Sto} {k : Nat} {xs : List D} {d : D} (h : S[k]? = some (.lst xs)) (hz : xs.length < sz) : fAppend [.ref k, d] S = .ok .non (S.set k (.lst (xs ++ [d]))) := by
  simp only [fAppend, h]
  rw [if_pos hz]
/-- found.append(told(..)) -/
theorem wS_app {i : Nat} {m : EM} {L : Loc} {S : Sto} {K : En} {k : Nat} {xs : List D} {d : D} (hL : L[i]? = some (some (.ref k))) (hk : S[k]? = some (.lst xs)) (hz : xs.length < sz) (h : wR (m L S) (fun y S1 => y = d ∧ S1[k]? = some (.lst xs) ∧ K.nx L (S1.set k (.lst (xs ++ [d])))) (fun x S => K.ex x L S)) :
    wS (sExpr (eBM "list" fAppend (eV i) (aCons m aNil)) L S) K := by
  simp only [wS_sExpr, eBM, eV_a, hL, R.bind_ok, tyNm, hk, if_true, aCons_a, aNil_a, wR_bind]
  refine wR_mono h (fun y S1 ⟨e, h1, h2⟩ => ?_) fun _ _ z => z
  subst e
  simp only [wR_ok]
  rw [app_ok h1 hz]
  exact h2
/-- .. != [x] * n -/
theorem ne_mul {S : Sto} {k j : Nat} {xs ys : List D} {c : Int} {Q : D → Sto → Prop} {E : Exc → Sto → Prop} (hk : S[k]? = some (.lst xs)) (hj : S[j]? = some (.lst ys)) (hc : 0 ≤ c ∧ c ≤ 1000) (hl : ys.length ≤ 1000) (e : (List.replicate c.toNat ys).flatten = xs) (hp : pls 1 xs = true)
    (q : ∀ S', Fm [] S S' → Q (.bl false) S') : wR (opMul (.ref j) (.int c) S) (fun y S2 => wR (opNe (.ref k) y S2) Q E) E := by
  simp only [opMul, hj]
  have : ys.length * c.toNat ≤ sz := by
    refine Nat.le_trans (Nat.mul_le_mul hl (show c.toNat ≤ 1000 by omega)) ?_
    decide
  rw [if_pos ⟨by omega, by omega, this⟩]
  simp only [wR_ok]
  rw [e, opNe_l (.inl (at_push hk)) (.inl (at_new _ _)) hp hp]
  simp only [wR_ok, decide_true, Bool.not_true]
  exact q _ ((Fm.refl _ _).push _)
@[simp] theorem opNotB_a (k b : Bool) (S : Sto) : opNotB k (.bl b) S = .ok (.bl (!decide (b = k))) S := rfl
theorem wR_app {i : Nat} {m : EM} {L : Loc} {S : Sto} {Q : D → Sto → Prop} {E : Exc → Sto → Prop} {k : Nat} {xs : List D} {d : D} (hL : L[i]? = some (some (.ref k))) (hk : S[k]? = some (.lst xs)) (hz : xs.length < sz) (h : wR (m L S) (fun y S1 => y = d ∧ S1[k]? = some (.lst xs) ∧ Q .non (S1.set k (.lst (xs ++ [d])))) E) :
    wR (eBM "list" fAppend (eV i) (aCons m aNil) L S) Q E := by
  simp only [eBM, eV_a, hL, R.bind_ok, tyNm, hk, if_true, aCons_a, aNil_a, wR_bind]
  refine wR_mono h (fun y S1 ⟨e, h1, h2⟩ => ?_) fun _ _ z => z
  subst e
  simp only [wR_ok]
  rw [app_ok h1 hz]
  exact h2
/-! ### beginnings, of any thing -/
def partB : D → Bool
  | .str x => okPart x
  | _ => false
def smallD : D → Prop
  | .str x => x.length ≤ sz
  | .ref _ => False
  | .exn _ _ => False
  | _ => True
theorem part_any {d : D} {S : Sto} {Q : D → Sto → Prop} {E : Exc → Sto → Prop} (h : smallD d) (q : ∀ S', Fm [] S S' → Q (.bl (partB d)) S') : wR (f_is_part [d] S) Q E := by
  cases d with
  | str x => exact part_ok q h
  | ref n => exact h.elim
  | exn _ _ => exact h.elim
  | _ =>
    refine wR_call rfl ?_
    simp only [c_is_part, wS_sRet, wR_eAnd, eUn_a, eV_a, List.map, List.replicate, List.cons_append, List.nil_append, List.getElem?_cons_zero, R.bind_ok, opIsi_int, opIsi_bl, opIsi_tup, opIsi_non, wR_ok]
    exact q _ (Fm.refl _ _)
def begB (xs : List D) : Bool := decide (xs.length ≤ 5) && xs.all partB
theorem beg_any {xs : List D} {S : Sto} {Q : D → Sto → Prop} {E : Exc → Sto → Prop} (q : ∀ S', Fm [] S S' → Q (.bl (begB xs)) S') (hx : ∀ x ∈ xs, smallD x) : wR (f_is_beginning [.tup xs] S) Q E := by
  refine wR_call rfl ?_
  simp only [c_is_beginning, wS_sRet, wR_eAnd, eUn_a, eV_a, List.map, List.replicate, List.cons_append, List.nil_append, List.getElem?_cons_zero, List.getElem?_cons_succ, R.bind_ok, opIsi_tup, wR_ok, decide_true, eBin_a, eC_a, eCall_a, aCons_a, aNil_a, fLen_t, opCmp_a, wR_bind, Nat.reduceSub]
  unfold begB at q
  by_cases h1 : xs.length ≤ 5
  · simp only [h1, decide_true, Bool.true_and] at q
    simp only [show (xs.length : Int) ≤ 5 by omega, decide_true]
    rw [wR_eLc]
    refine wR_wTup (show wR (R.ok (D.tup xs) S) _ _ from ⟨xs, rfl, ?_⟩)
    refine lcL_fm (X := []) (p := fun _ => true) (P := fun d y => y = .bl (partB d)) (fun _ => True) trivial (fun _ => trivial) (fun _ _ _ => trivial) (by simp) (fun _ _ _ => rfl) (fun d hd S' a _ => ?_) (by simp [sz]; omega) fun S' ys a _ hys e _ => ?_
    · refine ⟨rfl, Fm.refl _ _, trivial, rfl, fun _ => ?_⟩
      show wR (f_is_part [d] S') _ _
      exact part_any (hx d hd) fun S2 f => ⟨f, trivial, rfl⟩
    · have e2 := hys.eq_map
      rw [List.filter_eq_self.mpr (fun _ _ => rfl)] at e2
      subst e2
      refine wR_eq (fAll_r e allB_map) (q _ a)
  · simp only [h1, decide_false, Bool.false_and] at q
    simp only [show ¬ (xs.length : Int) ≤ 5 by omega, decide_false]
    exact q _ (Fm.refl _ _)
/-- what is no beginning -/
def badB (S : Sto) (d : D) : Prop := (∃ t, tyNm S d = some t ∧ t ≠ "tuple") ∨ ∃ xs, d = .tup xs ∧ (∀ x ∈ xs, smallD x) ∧ begB xs = false
theorem beg_bad {d : D} {S : Sto} {Q : D → Sto → Prop} {E : Exc → Sto → Prop} (h : badB S d) (q : ∀ S', Fm [] S S' → Q (.bl false) S') : wR (f_is_beginning [d] S) Q E := by
  rcases h with ⟨t, h1, h2⟩ | ⟨xs, rfl, h1, h2⟩
  · refine wR_call rfl ?_
    have e : opIsi "tuple" d S = .ok (.bl false) S := by
      simp only [opIsi, h1]
      simp [h2]
    simp only [c_is_beginning, wS_sRet, wR_eAnd, eUn_a, eV_a, List.map, List.replicate, List.cons_append, List.nil_append, List.getElem?_cons_zero, R.bind_ok, e, wR_ok]
    exact q _ (Fm.refl _ _)
  · exact beg_any (fun S' f => by rw [h2]; exact q _ f) h1
theorem name_bad {d : D} {S : Sto} {Q : D → Sto → Prop} {E : Exc → Sto → Prop} (h : badB S d) (q : ∀ S', Fm [] S S' → Q (.bl false) S') : wR (f_is_name [d] S) Q E := by
  refine wR_call rfl ?_
  simp only [c_is_name, wS_sRet, wR_eAnd, eV_a, List.map, List.replicate, List.cons_append, List.nil_append, List.getElem?_cons_zero, R.bind_ok, eCall_a, aCons_a, aNil_a, wR_bind, wR_ok, Nat.sub_self]
  exact beg_bad h fun S' f => q _ f
theorem neednm_bad {d : D} {S : Sto} {Q : D → Sto → Prop} {E : Exc → Sto → Prop} (h : badB S d) (q : ∀ S', Fm [] S S' → E ⟨1, []⟩ S') : wR (f_need_name [d] S) Q E := by
  refine wR_call rfl ?_
  simp only [c_need_name, wS_sIf, wR_tNot, wR_tV, eV_a, List.map, List.replicate, List.cons_append, List.nil_append, List.getElem?_cons_zero, R.bind_ok, eCall_a, aCons_a, aNil_a, wR_bind, wR_ok, Nat.sub_self]
  refine name_bad h fun S' f => ?_
  simpa using q _ f
theorem needbeg_bad {d : D} {S : Sto} {Q : D → Sto → Prop} {E : Exc → Sto → Prop} (h : badB S d) (q : ∀ S', Fm [] S S' → E ⟨1, []⟩ S') : wR (f_need_beginning [d] S) Q E := by
  refine wR_call rfl ?_
  simp only [c_need_beginning, wS_sIf, wR_tNot, wR_tV, eV_a, List.map, List.replicate, List.cons_append, List.nil_append, List.getElem?_cons_zero, R.bind_ok, eCall_a, aCons_a, aNil_a, wR_bind, wR_ok, Nat.sub_self]
  refine beg_bad h fun S' f => ?_
  simpa using q _ f
theorem needbeg_ok {xs : List (List Nat)} {S : Sto} {Q : D → Sto → Prop} {E : Exc → Sto → Prop} (h : okBeg xs = true) (q : ∀ S', Fm [] S S' → Q .non S') (hx : ∀ x ∈ xs, x.length ≤ sz) : wR (f_need_beginning [nmD xs] S) Q E := by
  refine wR_call rfl ?_
  simp only [c_need_beginning, wS_sIf, wR_tNot, wR_tV, eV_a, List.map, List.replicate, List.cons_append, List.nil_append, List.getElem?_cons_zero, R.bind_ok, eCall_a, aCons_a, aNil_a, wR_bind, wR_ok, Nat.sub_self]
  refine beg_ok (fun S' f => ?_) hx
  rw [h]
  simpa using q _ f
theorem needbeg_exc {xs : List (List Nat)} {S : Sto} {Q : D → Sto → Prop} {E : Exc → Sto → Prop} (h : okBeg xs = false) (q : ∀ S', Fm [] S S' → E ⟨1, []⟩ S') (hx : ∀ x ∈ xs, x.length ≤ sz) : wR (f_need_beginning [nmD xs] S) Q E := by
  refine wR_call rfl ?_
  simp only [c_need_beginning, wS_sIf, wR_tNot, wR_tV, eV_a, List.map, List.replicate, List.cons_append, List.nil_append, List.getElem?_cons_zero, R.bind_ok, eCall_a, aCons_a, aNil_a, wR_bind, wR_ok, Nat.sub_self]
  refine beg_ok (fun S' f => ?_) hx
  rw [h]
  simpa using q _ f
/-! ### sides -/
def sideOk (d : D) : Bool := numOk d 0 (some 7)
theorem isside_ok {d : D} (hd : isP d = true) (S : Sto) : f_is_side [d] S = .ok (.bl (sideOk d)) S := by
  refine eq_of_wR (wR_call rfl ?_)
  simp only [c_is_side, wS_sRet, eCall_a, aCons_a, aNil_a, eV_a, eBin_a, eC_a, List.map, List.replicate, List.cons_append, List.nil_append, List.getElem?_cons_zero, R.bind_ok, opSub_i, Nat.sub_self]
  have := num_any hd 0 (some (8 - 1)) S
  rw [show hiD (some (8 - 1)) = D.int (8 - 1) from rfl] at this
  rw [this]
  exact ⟨rfl, rfl⟩
theorem isside_ref {S : Sto} {i : Nat} {ys : List D} (h : S[i]? = some (.lst ys)) : f_is_side [.ref i] S = .ok (.bl false) S := by
  refine eq_of_wR (wR_call rfl ?_)
  simp only [c_is_side, wS_sRet, eCall_a, aCons_a, aNil_a, eV_a, eBin_a, eC_a, List.map, List.replicate, List.cons_append, List.nil_append, List.getElem?_cons_zero, R.bind_ok, opSub_i, Nat.sub_self]
  refine wR_call rfl ?_
  simp only [c_is_number, wS_sSeq, wS_sIf, wR_tOr, wR_tNot, wR_tV, eUn_a, eV_a, List.map, List.replicate, List.cons_append, List.nil_append, List.getElem?_cons_zero, R.bind_ok, Nat.sub_self, opIsi_l h, wR_ok]
  simp
/-- an item of a list that is tried: plain, or a list -/
def itemP (S : Sto) (d : D) : Prop := isP d = true ∨ ∃ i ys, d = .ref i ∧ S[i]? = some (.lst ys)
theorem isside_any {S : Sto} {d : D} (h : itemP S d) : f_is_side [d] S = .ok (.bl (sideOk d)) S := by
  rcases h with h | ⟨i, ys, rfl, h⟩
  · exact isside_ok h S
  · exact isside_ref h
theorem sides_lc {S : Sto} {j : Nat} {xs : List D} {L : Loc} (h : S[j]? = some (.lst xs)) (hL : L[0]? = some (some (.ref j))) (hl : 1 < L.length) (hz : xs.length ≤ sz) (hi : ∀ x ∈ xs, itemP S x) :
    eLc (wLst (eV 0)) (gV 1) tYes (eCall f_is_side (aCons (eV 1) aNil)) [1] L S = .ok (.ref S.length) (S ++ [.lst (xs.map fun x => .bl (sideOk x))]) := by
  have := eLc_lst (S := S) (S1 := S) (n := j) (items := xs) (p := fun _ => true) (f := fun x => .bl (sideOk x)) (a := eV 0) (tg := gV 1) (t := tYes) (e := eCall f_is_side (aCons (eV 1) aNil)) (vs := [1]) (L := L) (L1 := fun x => (wipe L [1]).set 1 (some x)) (by simp only [eV_a, hL]) h (fun x hx acc => ⟨rfl, rfl, fun _ => ?_⟩) hz
  · rw [this, List.filter_eq_self.mpr (fun _ _ => rfl)]
  · have e : ((wipe L [1]).set 1 (some x))[1]? = some (some x) := by simp [wipe, hl]
    simp only [eCall_a, aCons_a, aNil_a, eV_a, e, R.bind_ok]
    refine isside_any ?_
    rcases hi x hx with q | ⟨i, ys, rfl, q⟩
    · exact .inl q
    · exact .inr ⟨i, ys, rfl, at_push q⟩
/-- not every item is a side -/
theorem needsides_no {S : Sto} {j : Nat} {xs : List D} {Q : D → Sto → Prop} {E : Exc → Sto → Prop} (h : S[j]? = some (.lst xs)) (hz : xs.length ≤ 1000) (hi : ∀ x ∈ xs, itemP S x) (hn : xs.all sideOk = false) (q : ∀ S', Fm [] S S' → E ⟨3, []⟩ S') : wR (f_need_sides [.ref j] S) Q E := by
  refine wR_call rfl ?_
  simp only [c_need_sides, wS_sIf, wR_tOr, wR_tNot, wR_tV, eUn_a, eV_a, List.map, List.replicate, List.cons_append, List.nil_append, List.getElem?_cons_zero, R.bind_ok, Nat.reduceSub, opIsi_l h, wR_ok, decide_true, Bool.not_true, Bool.false_eq_true, if_false, eCall_a, aCons_a, aNil_a]
  rw [sides_lc h rfl (by simp) (by unfold sz; omega) hi]
  simp only [R.bind_ok, fAll_r (at_new _ _) allB_map, hn, wR_ok, Bool.not_false, if_true, wS_sRaise, aNil_a]
  exact q _ ((Fm.refl _ _).push _)
/-- what is no list -/
theorem needsides_not {S : Sto} {d : D} {t : String} {Q : D → Sto → Prop} {E : Exc → Sto → Prop} (h : tyNm S d = some t) (ht : t ≠ "list") (q : E ⟨3, []⟩ S) : wR (f_need_sides [d] S) Q E := by
  have e : opIsi "list" d S = .ok (.bl false) S := by
    simp only [opIsi, h]
    simp [ht]
  refine wR_call rfl ?_
  simp only [c_need_sides, wS_sIf, wR_tOr, wR_tNot, wR_tV, eUn_a, eV_a, List.map, List.replicate, List.cons_append, List.nil_append, List.getElem?_cons_zero, R.bind_ok, Nat.reduceSub, e, wR_ok, Bool.not_false, if_true, wS_sRaise, aNil_a]
  exact q
theorem intsOf_map : ∀ ns : List Int, intsOf (ns.map .int) = some ns
  | [] => rfl
  | n :: ns => by simp [intsOf, intsOf_map ns]
theorem needsides_int {S : Sto} {j : Nat} {ns : List Int} {Q : D → Sto → Prop} {E : Exc → Sto → Prop} (h : S[j]? = some (.lst (ns.map .int))) (hz : ns.length ≤ 1000) (hn : ∀ x ∈ ns, 0 ≤ x ∧ x ≤ 7) (q : ∀ S', Fm [] S S' → if (nubI ns).length < ns.length then E ⟨3, []⟩ S' else Q .non S') : wR (f_need_sides [.ref j] S) Q E := by
  have hi : ∀ x ∈ ns.map D.int, itemP S x := fun x hx => by
    obtain ⟨i, _, rfl⟩ := List.mem_map.mp hx
    exact .inl rfl
  have ha : (ns.map D.int).all sideOk = true := List.all_eq_true.mpr fun x hx => by
    obtain ⟨i, hm, rfl⟩ := List.mem_map.mp hx
    have := hn i hm
    simp [sideOk, numOk, this]
  refine wR_call rfl ?_
  simp only [c_need_sides, wS_sIf, wR_tOr, wR_tNot, wR_tV, eUn_a, eV_a, List.map, List.replicate, List.cons_append, List.nil_append, List.getElem?_cons_zero, R.bind_ok, Nat.reduceSub, opIsi_l h, wR_ok, decide_true, Bool.not_true, Bool.false_eq_true, if_false, eCall_a, aCons_a, aNil_a]
  rw [sides_lc h rfl (by simp) (by simp; unfold sz; omega) hi]
  have h1 : (S ++ [Ob.lst ((ns.map D.int).map fun x => .bl (sideOk x))])[j]? = some (.lst (ns.map .int)) := at_push h
  have e1 : opLenSet (.ref j) (S ++ [Ob.lst ((ns.map D.int).map fun x => .bl (sideOk x))]) = .ok (.int (nubI ns).length) (S ++ [Ob.lst ((ns.map D.int).map fun x => .bl (sideOk x))]) := by
    simp only [opLenSet, h1, intsOf_map]
    rw [if_pos hz]
  have q := q _ ((Fm.refl _ S).push (.lst ((ns.map D.int).map fun x => .bl (sideOk x))))
  simp only [R.bind_ok, fAll_r (at_new _ _) allB_map, ha, wR_ok, Bool.not_true, Bool.false_eq_true, if_false, eBin_a, eUn_a, eV_a, List.getElem?_cons_zero, eCall_a, aCons_a, aNil_a, e1, fLen_r h1, opCmp_a, List.length_map]
  by_cases c : (nubI ns).length < ns.length
  · rw [if_pos c] at q
    simp only [show ((nubI ns).length : Int) < (ns.length : Int) by omega, decide_true, if_true, wS_sRaise, aNil_a, wR_ok]
    exact q
  · rw [if_neg c] at q
    simp only [show ¬ ((nubI ns).length : Int) < (ns.length : Int) by omega, decide_false, Bool.false_eq_true, if_false, wS_sNx]
    exact q
theorem nub_app (ns : List Int) : ∀ (ms acc : List Int), (acc ++ ms).Nodup → ms.foldl (fun acc k => if k ∈ acc then acc else acc ++ [k]) acc = acc ++ ms
  | [], acc, _ => by simp
  | m :: ms, acc, h => by
    have hm : m ∉ acc := fun z => by
      rw [List.nodup_append] at h
      exact h.2.2 m z m (by simp) rfl
    rw [List.foldl_cons, if_neg hm, nub_app ns ms (acc ++ [m]) (by simpa using h)]
    simp
theorem nub_nodup {ns : List Int} (h : ns.Nodup) : nubI ns = ns := by
  unfold nubI
  rw [nub_app ns ns [] (by simpa using h)]
  rfl
def okSd (sd : List Int) : Prop := (∀ x ∈ sd, 0 ≤ x ∧ x ≤ 7) ∧ sd.Nodup ∧ sd.length ≤ 1000
theorem needsides_ok {S : Sto} {j : Nat} {ns : List Int} {Q : D → Sto → Prop} {E : Exc → Sto → Prop} (h : S[j]? = some (.lst (ns.map .int))) (hn : okSd ns) (q : ∀ S', Fm [] S S' → Q .non S') : wR (f_need_sides [.ref j] S) Q E :=
  needsides_int h hn.2.2 hn.1 fun S' f => by
    rw [nub_nodup hn.2.1, if_neg (Nat.lt_irrefl _)]
    exact q S' f
/-- what is no list of unlike sides -/
def badS (S : Sto) (d : D) : Prop := (∃ t, tyNm S d = some t ∧ t ≠ "list") ∨ ∃ j xs, d = .ref j ∧ S[j]? = some (.lst xs) ∧ xs.length ≤ 1000 ∧ (((∀ x ∈ xs, itemP S x) ∧ xs.all sideOk = false) ∨ ∃ ns, xs = ns.map .int ∧ (∀ x ∈ ns, 0 ≤ x ∧ x ≤ 7) ∧ (nubI ns).length < ns.length)
theorem badS.fm0 {S S' : Sto} {d : D} (h : badS S d) (f : Fm [] S S') : badS S' d := by
  rcases h with ⟨t, h1, h2⟩ | ⟨j, xs, rfl, h1, h2, h3⟩
  · refine .inl ⟨t, ?_, h2⟩
    cases d with
    | ref n =>
      simp only [tyNm] at h1 ⊢
      have : n < S.length := by
        rcases Nat.lt_or_ge n S.length with z | z
        · exact z
        · rw [List.getElem?_eq_none z] at h1
          cases h1
      rw [f.same n this (by simp)]
      exact h1
    | _ => exact h1
  · refine .inr ⟨j, xs, rfl, f.at h1 (by simp), h2, h3.imp (fun ⟨a, b⟩ => ⟨fun x hx => ?_, b⟩) id⟩
    rcases a x hx with z | ⟨i, ys, rfl, z⟩
    · exact .inl z
    · exact .inr ⟨i, ys, rfl, f.at z (by simp)⟩
theorem needsides_bad {S : Sto} {d : D} {Q : D → Sto → Prop} {E : Exc → Sto → Prop} (h : badS S d) (q : ∀ S', Fm [] S S' → E ⟨3, []⟩ S') : wR (f_need_sides [d] S) Q E := by
  rcases h with ⟨t, h1, h2⟩ | ⟨j, xs, rfl, h1, h2, ⟨h3, h4⟩ | ⟨ns, rfl, h3, h4⟩⟩
  · exact needsides_not h1 h2 (q _ (Fm.refl _ _))
  · exact needsides_no h1 h2 h3 h4 q
  · exact needsides_int h1 (by simpa using h2) h3 fun S' f => by
      rw [if_pos h4]
      exact q S' f
/-! ### letters -/
def wThing : List Nat := [116, 104, 105, 110, 103]
def wAsk : List Nat := [97, 115, 107]
def wNo : List Nat := [110, 111]
/-- b: whether d is a name -/
def nmB (S : Sto) (d : D) (b : Bool) : Prop := (∃ xs, d = nmD xs ∧ (∀ x ∈ xs, x.length ≤ sz) ∧ b = okNm xs) ∨ (badB S d ∧ b = false)
theorem name_b {d : D} {b : Bool} {S : Sto} {Q : D → Sto → Prop} {E : Exc → Sto → Prop} (h : nmB S d b) (q : ∀ S', Fm [] S S' → Q (.bl b) S') : wR (f_is_name [d] S) Q E := by
  rcases h with ⟨xs, rfl, h1, rfl⟩ | ⟨h1, rfl⟩
  · exact name_ok q h1
  · exact name_bad h1 q
/-- b: whether d is a letter -/
def letB (S : Sto) (d : D) (b : Bool) : Prop := (∃ t, tyNm S d = some t ∧ t ≠ "tuple" ∧ b = false) ∨ (∃ xs, d = .tup xs ∧ xs.length < 2 ∧ b = false) ∨ (∃ w n r t, d = .tup (w :: n :: r) ∧ tyNm S w = some t ∧ t ≠ "str" ∧ b = false) ∨
  (∃ z n r, d = .tup (.str z :: n :: r) ∧ nmB S n false ∧ b = false) ∨ (∃ z n r, d = .tup (.str z :: n :: r) ∧ nmB S n true ∧ ((z = wThing ∧ r.length ≠ 2 ∧ b = false) ∨ (z = wThing ∧ ∃ v u, r = [v, u] ∧ isP v = true ∧ isP u = true ∧ b = (numOk v 0 (some 999) && numOk u 0 none)) ∨
    (z ≠ wThing ∧ b = (decide (z ∈ [wAsk, wNo]) && decide (r.length = 0)))))
theorem isi_no {T : String} {d : D} {S : Sto} {t : String} (h : tyNm S d = some t) (h1 : t ≠ T) (h2 : T ≠ "int") : opIsi T d S = .ok (.bl false) S := by
  simp only [opIsi, h]
  simp [h1, h2]
theorem atI_1 {α : Type} (x y : α) (xs : List α) : atI (x :: y :: xs) 1 = some y := by
  unfold atI ixN
  rw [if_pos (by decide), if_pos (by simp only [List.length_cons]; omega)]
  rfl
theorem islet {d : D} {b : Bool} {S : Sto} {Q : D → Sto → Prop} {E : Exc → Sto → Prop} (h : letB S d b) (q : ∀ S', Fm [] S S' → Q (.bl b) S') : wR (f_is_letter [d] S) Q E := by
  refine wR_call rfl ?_
  simp only [c_is_letter, wS_sSeq, wS_sIf, wR_tOr, wR_tNot, wR_tV, eUn_a, eV_a, List.map, List.replicate, List.cons_append, List.nil_append, List.getElem?_cons_zero, R.bind_ok, Nat.sub_self]
  rcases h with ⟨t, h1, h2, rfl⟩ | ⟨xs, rfl, h1, rfl⟩ | ⟨w, n, r, t, rfl, h1, h2, rfl⟩ | ⟨z, n, r, rfl, h1, rfl⟩ | ⟨z, n, r, rfl, h1, h2⟩
  · rw [isi_no h1 h2 (by decide)]
    simp only [wR_ok, Bool.not_false, if_true, wS_sRet, eC_a]
    exact q _ (Fm.refl _ _)
  · simp only [opIsi_tup, decide_true, wR_ok, Bool.not_true, Bool.false_eq_true, if_false, eBin_a, eCall_a, aCons_a, aNil_a, eV_a, eC_a, List.getElem?_cons_zero, R.bind_ok, fLen_t, opCmp_a, show ((xs.length : Int) < 2) by omega, if_true, wS_sRet]
    exact q _ (Fm.refl _ _)
  · simp only [opIsi_tup, decide_true, wR_ok, Bool.not_true, Bool.false_eq_true, if_false, eBin_a, eCall_a, aCons_a, aNil_a, eV_a, eC_a, List.getElem?_cons_zero, R.bind_ok, fLen_t, opCmp_a, List.length_cons, show ¬ (((r.length + 1 + 1 : Nat) : Int) < 2) by omega, decide_false, opIx_t, atI_0, isi_no h1 h2 (by decide), Bool.not_false, if_true, wS_sRet]
    exact q _ (Fm.refl _ _)
  · simp only [opIsi_tup, decide_true, wR_ok, Bool.not_true, Bool.false_eq_true, if_false, eBin_a, eCall_a, aCons_a, aNil_a, eV_a, eC_a, List.getElem?_cons_zero, R.bind_ok, fLen_t, opCmp_a, List.length_cons, show ¬ (((r.length + 1 + 1 : Nat) : Int) < 2) by omega, decide_false, opIx_t, atI_0, atI_1, opIsi_str]
    refine name_b h1 fun S' f => ?_
    simp only [Bool.not_false, if_true, wS_sRet, eC_a, wR_ok]
    exact q _ f
  · simp only [opIsi_tup, decide_true, wR_ok, Bool.not_true, Bool.false_eq_true, if_false, eBin_a, eCall_a, aCons_a, aNil_a, eV_a, eC_a, List.getElem?_cons_zero, R.bind_ok, fLen_t, opCmp_a, List.length_cons, show ¬ (((r.length + 1 + 1 : Nat) : Int) < 2) by omega, decide_false, opIx_t, atI_0, atI_1, opIsi_str]
    refine name_b h1 fun S' f => ?_
    simp only [Bool.not_true, Bool.false_eq_true, if_false, wS_sNx, wR_bind]
    rw [show [116, 104, 105, 110, 103] = wThing from rfl]
    have eqz : ∀ S, opEq (.str z) (.str wThing) S = .ok (.bl (decide (z = wThing))) S := fun S => by
      rw [opEq_pl (n := 0) (m := 0) rfl rfl]
      simp
    simp only [eqz, List.getElem?_cons_zero, opIx_t, atI_0, wR_ok, wS_sRet, wS_sRet, wR_eAnd, eBin_a, eCall_a, aCons_a, aNil_a, eV_a, eC_a, List.getElem?_cons_zero, R.bind_ok, fLen_t, List.length_cons, opEq_i, opIx_t, atI_0]
    rcases h2 with ⟨rfl, h2, rfl⟩ | ⟨rfl, v, u, rfl, h2, h3, rfl⟩ | ⟨h2, rfl⟩
    · simp only [decide_true, if_true, show ¬ (((r.length + 1 + 1 : Nat) : Int) = 4) by omega, decide_false]
      exact q _ f
    · have e2 : atI [D.str wThing, n, v, u] 2 = some v := rfl
      have e3 : atI [D.str wThing, n, v, u] 3 = some u := rfl
      simp only [decide_true, if_true, List.length_nil, Nat.reduceAdd, show (((4 : Nat) : Int) = 4) by rfl, e2, e3, R.bind_ok]
      rw [show f_is_number [v, .int 0, .int 999] S' = _ from num_any h2 0 (some 999) S']
      simp only [wR_ok]
      cases hv : numOk v 0 (some 999) with
      | false =>
        have := q _ f
        rw [hv] at this
        exact this
      | true =>
        have := q _ f
        rw [hv, Bool.true_and] at this
        simp only
        rw [show withD f_is_number [.non] [u, .int 0] S' = _ from num_any h3 0 none S']
        simp only [wR_ok]
        exact this
    · simp only [h2, decide_false, Bool.false_eq_true, if_false, eTup_a, aCons_a, aNil_a, eC_a, R.bind_ok, List.length_cons, List.length_nil, Nat.reduceAdd]
      rw [if_pos (by decide)]
      have e : inT false (.str z) (.tup [.str [97, 115, 107], .str [110, 111]]) S' = .ok (.bl (decide (z ∈ [wAsk, wNo]))) S' := rfl
      simp only [R.bind_ok, e, wR_ok]
      cases hz : decide (z ∈ [wAsk, wNo]) with
      | false =>
        have := q _ f
        rw [hz] at this
        exact this
      | true =>
        have := q _ f
        rw [hz, Bool.true_and] at this
        simp only
        have e2 : decide (((r.length + 1 + 1 : Nat) : Int) = 2) = decide (r.length = 0) := by
          rw [Bool.eq_iff_iff]
          simp only [decide_eq_true_eq]
          omega
        rw [e2]
        exact this
/-- self.f = .. -/
theorem asg_fld {e : EM} {c f : Nat} {L : Loc} {S : Sto} {k : Nat} {K : En} (hL : L[0]? = some (some (.ref k))) (h : wR (e L S) (fun d S1 => ∃ fs, S1[k]? = some (.ins c fs) ∧ fs.length < 1000 ∧ K.nx L (S1.set k (.ins c (fput f d fs)))) (fun x S => K.ex x L S)) : wS (sAsg e (gFld c f (eV 0)) L S) K := by
  rw [wS_sAsg]
  refine wR_mono h (fun d S1 ⟨fs, h1, h2, h3⟩ => ?_) fun _ _ z => z
  refine wR_gFld ?_
  simp only [eV_a, hL, wR_ok]
  exact ⟨k, fs, rfl, h1, h2, h3⟩
/-- a number in a list of ints -/
theorem inL_ints {S : Sto} {j : Nat} {ns : List Int} {i : Int} {neg : Bool} (h : S[j]? = some (.lst (ns.map .int))) : inL neg (.int i) (.ref j) S = .ok (.bl (if neg = true then !decide (i ∈ ns) else decide (i ∈ ns))) S := by
  have e : mapR S (ns.map .int) = some (ns.map PyData.int) := by
    unfold mapR
    clear h
    induction ns with
    | nil => rfl
    | cons n ns ih => rw [List.map_cons, List.mapM_cons, ih]; rfl
  have e2 : (ns.map PyData.int).any (fun z => PyData.eqv z (.int i)) = decide (i ∈ ns) := by
    clear h e
    induction ns with
    | nil => rfl
    | cons n ns ih =>
      rw [List.map_cons, List.any_cons, ih, Bool.eq_iff_iff]
      simp only [PyData.eqv, Bool.or_eq_true, decide_eq_true_eq, List.mem_cons, beq_iff_eq]
      exact or_congr ⟨fun h => h.symm, fun h => h.symm⟩ Iff.rfl
  simp only [inL, h, e, reify, e2]
end MP

namespace MP
open PySem L2
/-- what is the same all through a law -/
structure G where
  P : Program
  w : World
  K : PySem.W.Frag
  mg : Str → Option Value
  base : Heap
  cls : Nat → Addr
  fname : Nat → Str
  finj : ∀ i j, fname i = fname j → i = j
  ecls : Nat → Addr
  T : List (Addr × Str)

/-! ### values -/
mutual
def RelD (ro : List Addr) (H : Hp) : D → V → Prop
  | .non, v => v = .non
  | .bl b, v => v = .bl b
  | .int i, v => v = .int i
  | .str x, v => v = .str ⟨x.toArray⟩ ∧ ∀ c ∈ x, c < 0x110000
  | .tup ds, v => ∃ a vs, v = .ref a ∧ H a = some (.tup vs) ∧ RelDs ro H ds vs
  | .ref n, v => ∃ a, ro[n]? = some a ∧ v = .ref a
  | .exn a _, v => v = .ref a
def RelDs (ro : List Addr) (H : Hp) : List D → List V → Prop
  | [], vs => vs = []
  | d :: ds, vs => ∃ v r, vs = v :: r ∧ RelD ro H d v ∧ RelDs ro H ds r
end
/-- tuples stay -/
def TExt (H H' : Hp) : Prop := ∀ a vs, H a = some (.tup vs) → H' a = some (.tup vs)
theorem TExt.refl (H : Hp) : TExt H H := fun _ _ h => h
theorem TExt.trans {H H1 H2 : Hp} (a : TExt H H1) (b : TExt H1 H2) : TExt H H2 := fun c vs h => b c vs (a c vs h)
theorem TExt.new {H : Hp} {p : Addr} {o : HO} (h : H p = none) : TExt H (upd H p o) := fun a vs e => by
  rw [upd_ne (ne_of_none e h)]
  exact e
theorem TExt.put {H : Hp} {p : Addr} {o o' : HO} (h : H p = some o') (n : ∀ vs, o' ≠ .tup vs) : TExt H (upd H p o) := fun a vs e => by
  rw [upd_ne (fun z => n vs (by rw [z, h] at e; exact Option.some.inj e))]
  exact e
/-- tuples stay, and what is only known -/
structure Ext (H H' : Hp) : Prop where
  tup : TExt H H'
  frz : ∀ a o u, H a = some (.frz o u) → H' a = some (.frz o u)
theorem Ext.refl (H : Hp) : Ext H H := ⟨.refl H, fun _ _ _ h => h⟩
theorem Ext.trans {H H1 H2 : Hp} (a : Ext H H1) (b : Ext H1 H2) : Ext H H2 := ⟨a.tup.trans b.tup, fun c o u h => b.frz c o u (a.frz c o u h)⟩
theorem Ext.new {H : Hp} {p : Addr} {o : HO} (h : H p = none) : Ext H (upd H p o) := ⟨.new h, fun a q u e => by
  rw [upd_ne (ne_of_none e h)]
  exact e⟩
theorem Ext.put {H : Hp} {p : Addr} {o o' : HO} (h : H p = some o') (n : ∀ vs, o' ≠ .tup vs) (m : ∀ q u, o' ≠ .frz q u) : Ext H (upd H p o) := ⟨.put h n, fun a q u e => by
  rw [upd_ne (fun z => m q u (by rw [z, h] at e; exact Option.some.inj e))]
  exact e⟩
instance {H H' : Hp} : Coe (Ext H H') (TExt H H') := ⟨Ext.tup⟩
/-- the places grow -/
def Gr (ro ro' : List Addr) : Prop := ∀ (n : Nat) (a : Addr), ro[n]? = some a → ro'[n]? = some a
theorem Gr.refl (ro : List Addr) : Gr ro ro := fun _ _ h => h
theorem Gr.trans {a b c : List Addr} (x : Gr a b) (y : Gr b c) : Gr a c := fun n d h => y n d (x n d h)
theorem Gr.snoc (ro : List Addr) (p : Addr) : Gr ro (ro ++ [p]) := fun n a h => by
  rw [List.getElem?_append_left (List.getElem?_eq_some_iff.mp h).1]
  exact h
mutual
theorem RelD.mono {ro ro' : List Addr} {H H' : Hp} (g : Gr ro ro') (e : TExt H H') : ∀ (d : D) (v : V), RelD ro H d v → RelD ro' H' d v
  | .non, v, h => by simpa only [RelD] using h
  | .bl b, v, h => by simpa only [RelD] using h
  | .int i, v, h => by simpa only [RelD] using h
  | .str x, v, h => by simpa only [RelD] using h
  | .tup ds, v, h => by
    simp only [RelD] at h ⊢
    obtain ⟨a, vs, h1, h2, h3⟩ := h
    exact ⟨a, vs, h1, e _ _ h2, RelDs.mono g e ds vs h3⟩
  | .ref n, v, h => by
    simp only [RelD] at h ⊢
    obtain ⟨a, h1, h2⟩ := h
    exact ⟨a, g _ _ h1, h2⟩
  | .exn _ _, v, h => by simpa only [RelD] using h
theorem RelDs.mono {ro ro' : List Addr} {H H' : Hp} (g : Gr ro ro') (e : TExt H H') : ∀ (d : List D) (v : List V), RelDs ro H d v → RelDs ro' H' d v
  | [], v, h => by simpa only [RelDs] using h
  | d :: ds, v, h => by
    simp only [RelDs] at h ⊢
    obtain ⟨x, r, h1, h2, h3⟩ := h
    exact ⟨x, r, h1, RelD.mono g e d x h2, RelDs.mono g e ds r h3⟩
end
section
variable {ro : List Addr} {H : Hp}
theorem RelDs.nil : RelDs ro H [] [] := by simp only [RelDs]
theorem RelDs.cons {d : D} {v : V} {ds : List D} {vs : List V} (a : RelD ro H d v) (b : RelDs ro H ds vs) : RelDs ro H (d :: ds) (v :: vs) := by
  simp only [RelDs]
  exact ⟨v, vs, rfl, a, b⟩
theorem RelDs.inv {d : D} {ds : List D} {vs : List V} (h : RelDs ro H (d :: ds) vs) : ∃ v r, vs = v :: r ∧ RelD ro H d v ∧ RelDs ro H ds r := by simpa only [RelDs] using h
theorem RelDs.inv0 {vs : List V} (h : RelDs ro H [] vs) : vs = [] := by simpa only [RelDs] using h
theorem RelDs.length : ∀ {ds : List D} {vs : List V}, RelDs ro H ds vs → ds.length = vs.length
  | [], vs, h => by rw [h.inv0] <;> rfl
  | d :: ds, vs, h => by
    obtain ⟨v, r, rfl, _, h3⟩ := h.inv
    simp only [List.length_cons, RelDs.length h3]
theorem RelDs.append : ∀ {ds es : List D} {vs us : List V}, RelDs ro H ds vs → RelDs ro H es us → RelDs ro H (ds ++ es) (vs ++ us)
  | [], es, vs, us, h, h' => by rw [h.inv0]; exact h'
  | d :: ds, es, vs, us, h, h' => by
    obtain ⟨v, r, rfl, h2, h3⟩ := h.inv
    exact .cons h2 (RelDs.append h3 h')
theorem RelDs.get : ∀ {ds : List D} {vs : List V} {i : Nat} {d : D}, RelDs ro H ds vs → ds[i]? = some d → ∃ v, vs[i]? = some v ∧ RelD ro H d v
  | [], _, i, d, _, e => by simp at e
  | d :: ds, vs, 0, d', h, e => by
    obtain ⟨v, r, rfl, h2, h3⟩ := h.inv
    simp at e
    subst e
    exact ⟨v, rfl, h2⟩
  | d :: ds, vs, i + 1, d', h, e => by
    obtain ⟨v, r, rfl, h2, h3⟩ := h.inv
    obtain ⟨u, h4, h5⟩ := RelDs.get (i := i) (d := d') h3 (by simpa using e)
    exact ⟨u, by simpa using h4, h5⟩
theorem RelDs.drop : ∀ {ds : List D} {vs : List V} (n : Nat), RelDs ro H ds vs → RelDs ro H (ds.drop n) (vs.drop n)
  | _, _, 0, h => h
  | [], vs, n + 1, h => by rw [h.inv0]; simp only [List.drop_nil]; exact .nil
  | d :: ds, vs, n + 1, h => by
    obtain ⟨v, r, rfl, h2, h3⟩ := h.inv
    exact RelDs.drop n h3
theorem RelDs.take : ∀ {ds : List D} {vs : List V} (n : Nat), RelDs ro H ds vs → RelDs ro H (ds.take n) (vs.take n)
  | _, _, 0, h => by simp only [List.take_zero]; exact .nil
  | [], vs, n + 1, h => by rw [h.inv0]; simp only [List.take_nil]; exact .nil
  | d :: ds, vs, n + 1, h => by
    obtain ⟨v, r, rfl, h2, h3⟩ := h.inv
    exact .cons h2 (RelDs.take n h3)
theorem RelDs.eraseIdx : ∀ {ds : List D} {vs : List V} (n : Nat), RelDs ro H ds vs → RelDs ro H (ds.eraseIdx n) (vs.eraseIdx n)
  | [], vs, n, h => by rw [h.inv0]; simp only [List.eraseIdx_nil]; exact .nil
  | d :: ds, vs, 0, h => by
    obtain ⟨v, r, rfl, h2, h3⟩ := h.inv
    exact h3
  | d :: ds, vs, n + 1, h => by
    obtain ⟨v, r, rfl, h2, h3⟩ := h.inv
    exact .cons h2 (RelDs.eraseIdx n h3)
theorem RelDs.set {x : D} {y : V} (q : RelD ro H x y) : ∀ {ds : List D} {vs : List V} (n : Nat), RelDs ro H ds vs → RelDs ro H (ds.set n x) (vs.set n y)
  | [], vs, n, h => by rw [h.inv0]; simp only [List.set_nil]; exact .nil
  | d :: ds, vs, 0, h => by
    obtain ⟨v, r, rfl, h2, h3⟩ := h.inv
    exact .cons q h3
  | d :: ds, vs, n + 1, h => by
    obtain ⟨v, r, rfl, h2, h3⟩ := h.inv
    exact .cons h2 (RelDs.set q n h3)
theorem RelD.str_mk {x : List Nat} (h : ∀ c ∈ x, c < 0x110000) : RelD ro H (.str x) (.str ⟨x.toArray⟩) := by
  simp only [RelD]
  exact ⟨trivial, h⟩
theorem RelD.int_mk {i : Int} : RelD ro H (.int i) (.int i) := by simp only [RelD]
theorem RelD.bl_mk {i : Bool} : RelD ro H (.bl i) (.bl i) := by simp only [RelD]
theorem RelD.non_mk : RelD ro H .non .non := by simp only [RelD]
theorem RelD.tup_mk {ds : List D} {vs : List V} {a : Addr} (h : H a = some (.tup vs)) (r : RelDs ro H ds vs) : RelD ro H (.tup ds) (.ref a) := by
  simp only [RelD]
  exact ⟨a, vs, rfl, h, r⟩
theorem RelD.ref_mk {n : Nat} {a : Addr} (h : ro[n]? = some a) : RelD ro H (.ref n) (.ref a) := by
  simp only [RelD]
  exact ⟨a, h, rfl⟩
theorem RelD.int_inv {i : Int} {v : V} (h : RelD ro H (.int i) v) : v = .int i := by simpa only [RelD] using h
theorem RelD.bl_inv {i : Bool} {v : V} (h : RelD ro H (.bl i) v) : v = .bl i := by simpa only [RelD] using h
theorem RelD.non_inv {v : V} (h : RelD ro H .non v) : v = .non := by simpa only [RelD] using h
theorem RelD.str_inv {x : List Nat} {v : V} (h : RelD ro H (.str x) v) : v = .str ⟨x.toArray⟩ ∧ ∀ c ∈ x, c < 0x110000 := by simpa only [RelD] using h
theorem RelD.tup_inv {ds : List D} {v : V} (h : RelD ro H (.tup ds) v) : ∃ a vs, v = .ref a ∧ H a = some (.tup vs) ∧ RelDs ro H ds vs := by simpa only [RelD] using h
theorem RelD.ref_inv {n : Nat} {v : V} (h : RelD ro H (.ref n) v) : ∃ a, ro[n]? = some a ∧ v = .ref a := by simpa only [RelD] using h
theorem RelD.exn_mk {c : Nat} {p : List D} : RelD ro H (.exn c p) (.ref c) := by simp only [RelD]
theorem RelD.exn_inv {c : Nat} {p : List D} {v : V} (h : RelD ro H (.exn c p) v) : v = .ref c := by simpa only [RelD] using h
end

/-! ### locals -/
def RelO1 (ro : List Addr) (H : Hp) : Option D → Option V → Prop
  | some d, some v => RelD ro H d v
  | none, none => True
  | _, _ => False
abbrev RelL (ro : List Addr) (H : Hp) : Loc → St → Prop := Paired (RelO1 ro H)
theorem Paired.imp {α β : Type} {F F' : α → β → Prop} (h : ∀ a b, F a b → F' a b) : ∀ {l : List α} {m : List β}, Paired F l m → Paired F' l m
  | _, _, .nil => .nil
  | _, _, .cons a b => .cons (h _ _ a) (Paired.imp h b)
theorem Paired.get {α β : Type} {F : α → β → Prop} : ∀ {l : List α} {m : List β} {i : Nat} {a : α}, Paired F l m → l[i]? = some a → ∃ b, m[i]? = some b ∧ F a b
  | _, _, _, _, .nil, e => by simp at e
  | _, _, 0, _, .cons a b, e => by
    simp at e
    subst e
    exact ⟨_, rfl, a⟩
  | _, _, i + 1, _, .cons a b, e => by
    obtain ⟨u, h1, h2⟩ := Paired.get (i := i) b (by simpa using e)
    exact ⟨u, by simpa using h1, h2⟩
theorem Paired.set {α β : Type} {F : α → β → Prop} {x : α} {y : β} (q : F x y) : ∀ {l : List α} {m : List β} (n : Nat), Paired F l m → Paired F (l.set n x) (m.set n y)
  | _, _, _, .nil => .nil
  | _, _, 0, .cons _ t => .cons q t
  | _, _, n + 1, .cons a t => .cons a (Paired.set q n t)
theorem Paired.replicate {α β : Type} {F : α → β → Prop} {x : α} {y : β} (q : F x y) : ∀ n : Nat, Paired F (List.replicate n x) (List.replicate n y)
  | 0 => .nil
  | n + 1 => .cons q (Paired.replicate q n)
theorem Paired.app {α β : Type} {F : α → β → Prop} : ∀ {l l' : List α} {m m' : List β}, Paired F l m → Paired F l' m' → Paired F (l ++ l') (m ++ m')
  | _, _, _, _, .nil, h => h
  | _, _, _, _, .cons a b, h => .cons a (Paired.app b h)
theorem RelL.mono {ro ro' : List Addr} {H H' : Hp} {L : Loc} {s : St} (g : Gr ro ro') (e : TExt H H') (r : RelL ro H L s) : RelL ro' H' L s := Paired.imp (fun a b h => by
  cases a <;> cases b
  · trivial
  · exact h
  · exact h
  · exact RelD.mono g e _ _ h) r
theorem RelL.get {ro : List Addr} {H : Hp} {L : Loc} {s : St} {i : Nat} {d : D} (r : RelL ro H L s) (h : L[i]? = some (some d)) : ∃ v, s[i]? = some (some v) ∧ RelD ro H d v := by
  obtain ⟨b, h1, h2⟩ := Paired.get r h
  cases b with
  | none => exact h2.elim
  | some v => exact ⟨v, h1, h2⟩
theorem RelL.set {ro : List Addr} {H : Hp} {L : Loc} {s : St} (i : Nat) {d : D} {v : V} (r : RelL ro H L s) (q : RelD ro H d v) : RelL ro H (L.set i (some d)) (s.set i (some v)) := Paired.set (F := RelO1 ro H) (x := some d) (y := some v) q i r
theorem RelL.wipe {ro : List Addr} {H : Hp} {L : Loc} {s : St} (r : RelL ro H L s) : ∀ vs : List Nat, RelL ro H (wipe L vs) (L2.wipe s vs)
  | [] => r
  | v :: vs => Paired.set (F := RelO1 ro H) (x := none) (y := none) trivial v (RelL.wipe r vs)
theorem RelL.start {ro : List Addr} {H : Hp} (N : List Str) : ∀ {ds : List D} {vs : List V}, RelDs ro H ds vs → RelL ro H (ds.map some ++ List.replicate (N.length - ds.length) none) (L2.start N vs) := fun {ds vs} h => by
  unfold L2.start
  rw [h.length]
  refine Paired.app ?_ (Paired.replicate (F := RelO1 ro H) (x := none) (y := none) trivial _)
  have go : ∀ {ds : List D} {vs : List V}, RelDs ro H ds vs → RelL ro H (ds.map some) (vs.map some) := by
    intro ds
    induction ds with
    | nil => intro vs h; rw [h.inv0]; exact .nil
    | cons d ds ih =>
      intro vs h
      obtain ⟨v, r, rfl, h2, h3⟩ := h.inv
      exact .cons h2 (ih h3)
  exact go h

/-! ### the store -/
def okS (x : List Nat) : Bool := x.all fun c => decide (c < 0x110000)
/-- a key of a dict: an int, a text -/
def dkey : D → Option L2.Key
  | .int i => some (.inl i)
  | .str x => if okS x = true then some (.inr ⟨x.toArray⟩) else none
  | _ => none
/-- a tuple of such -/
def tkey : D → Option (List L2.Key)
  | .tup ds => ds.mapM dkey
  | _ => none
def RelKV (ro : List Addr) (H : Hp) : List (D × D) → List (L2.Key × V) → Prop := Paired fun p q => dkey p.1 = some q.1 ∧ RelD ro H p.2 q.2
def RelTV (ro : List Addr) (H : Hp) : List (D × D) → List (List L2.Key × V) → Prop := Paired fun p q => tkey p.1 = some q.1 ∧ RelD ro H p.2 q.2
def RelF (g : G) (ro : List Addr) (H : Hp) : List (Nat × D) → List (Str × V) → Prop := Paired fun p q => q.1 = g.fname p.1 ∧ RelD ro H p.2 q.2
/-- as it stands, or known while it is walked -/
def AtL (H : Hp) (a : Addr) (lk : Bool) (u : HO) : Prop := if lk = true then ∃ o, H a = some (.frz o u) else H a = some u
/-- a list that is only read: known to the object, or written by the top -/
def FrzAt (K : PySem.W.Frag) (H : Hp) (a : Addr) (xs : List V) : Prop := (∃ o, H a = some (.frz o (.lst xs))) ∨
  ∃ (o : Obj) (its : Array Value) (n : Nat), K.lookup a = some o ∧ o.cls = .type "list" ∧ o.dict = none ∧ o.data = .seq its n ∧ its.size ≤ sizeLine ∧ Vals xs its.toList
theorem FrzAt.sq {K : PySem.W.Frag} {H : Hp} {a : Addr} {xs : List V} (h : FrzAt K H a xs) : SqL K H a xs := by
  rcases h with ⟨o, q⟩ | q
  · exact .inl (.inr ⟨o, q⟩)
  · exact .inr q
theorem FrzAt.keep {K : PySem.W.Frag} {H H' : Hp} {a : Addr} {xs : List V} (h : FrzAt K H a xs) (k : ∀ o u, H a = some (.frz o u) → H' a = some (.frz o u)) : FrzAt K H' a xs := by
  rcases h with ⟨o, q⟩ | q
  · exact .inl ⟨o, k _ _ q⟩
  · exact .inr q
def RelOb (g : G) (ro : List Addr) (H : Hp) (a : Addr) : Ob → Prop
  | .lst xs => ∃ vs, RelDs ro H xs vs ∧ H a = some (.lst vs)
  | .frz xs => ∃ vs, RelDs ro H xs vs ∧ FrzAt g.K H a vs
  | .dic t lk kvs => if t = true then ∃ ws, RelTV ro H kvs ws ∧ AtL H a lk (.dT ws) else ∃ ws, RelKV ro H kvs ws ∧ AtL H a lk (.dK ws)
  | .ins c fs => ∃ dx ws, RelF g ro H fs ws ∧ H a = some (.ins (g.cls c) dx ws)
def isFrz : Ob → Prop
  | .frz _ => True
  | _ => False
structure RelS (g : G) (ro : List Addr) (S : Sto) (H : Hp) : Prop where
  len : ro.length = S.length
  ob : ∀ (n : Nat) (o : Ob), S[n]? = some o → ∃ a, ro[n]? = some a ∧ RelOb g ro H a o
  inj : ∀ (n m : Nat) (a : Addr), n ≠ m → ro[n]? = some a → ro[m]? = some a → (∃ o, S[n]? = some o ∧ isFrz o) ∨ ∃ o, S[m]? = some o ∧ isFrz o
  tabs : LamX.Tabs g.T H
section
variable {g : G} {ro ro' : List Addr} {S : Sto} {H H' : Hp} {a : Addr}
theorem RelF.mono (gr : Gr ro ro') (e : TExt H H') {fs : List (Nat × D)} {ws : List (Str × V)} (r : RelF g ro H fs ws) : RelF g ro' H' fs ws := Paired.imp (fun _ _ h => ⟨h.1, RelD.mono gr e _ _ h.2⟩) r
theorem RelKV.mono (gr : Gr ro ro') (e : TExt H H') {fs : List (D × D)} {ws : List (L2.Key × V)} (r : RelKV ro H fs ws) : RelKV ro' H' fs ws := Paired.imp (fun _ _ h => ⟨h.1, RelD.mono gr e _ _ h.2⟩) r
theorem RelTV.mono (gr : Gr ro ro') (e : TExt H H') {fs : List (D × D)} {ws : List (List L2.Key × V)} (r : RelTV ro H fs ws) : RelTV ro' H' fs ws := Paired.imp (fun _ _ h => ⟨h.1, RelD.mono gr e _ _ h.2⟩) r
theorem AtL.eq {lk : Bool} {u : HO} (h : AtL H a lk u) (e : H' a = H a) : AtL H' a lk u := by
  unfold AtL at h ⊢
  rw [e]
  exact h
theorem RelOb.mono (gr : Gr ro ro') (e : TExt H H') {o : Ob} (h : RelOb g ro H a o) (ea : H' a = H a) : RelOb g ro' H' a o := by
  cases o with
  | lst xs =>
    obtain ⟨vs, r, q⟩ := h
    exact ⟨vs, RelDs.mono gr e _ _ r, ea.trans q⟩
  | frz xs =>
    obtain ⟨vs, r, q⟩ := h
    exact ⟨vs, RelDs.mono gr e _ _ r, q.keep fun _ _ z => ea.trans z⟩
  | dic t lk kvs =>
    cases t with
    | true =>
      obtain ⟨ws, r, q⟩ := (show ∃ ws, RelTV ro H kvs ws ∧ AtL H a lk (.dT ws) from h)
      exact ⟨ws, r.mono gr e, q.eq ea⟩
    | false =>
      obtain ⟨ws, r, q⟩ := (show ∃ ws, RelKV ro H kvs ws ∧ AtL H a lk (.dK ws) from h)
      exact ⟨ws, r.mono gr e, q.eq ea⟩
  | ins c fs =>
    obtain ⟨dx, ws, r, q⟩ := h
    exact ⟨dx, ws, r.mono gr e, ea.trans q⟩
/-- what stands at a place that isn't only read -/
theorem RelOb.there {o : Ob} (h : RelOb g ro H a o) (n : ¬ isFrz o) : ∃ u, H a = some u ∧ (∀ vs, u ≠ .tup vs) ∧ ∀ ps, u ≠ .tbl ps := by
  cases o with
  | lst xs =>
    obtain ⟨vs, _, q⟩ := h
    exact ⟨_, q, fun _ z => (by cases z), fun _ z => (by cases z)⟩
  | frz xs => exact (n trivial).elim
  | dic t lk kvs =>
    cases t <;> cases lk
    · obtain ⟨ws, _, q⟩ := (show ∃ ws, RelKV ro H kvs ws ∧ AtL H a false (.dK ws) from h)
      exact ⟨_, q, fun _ z => (by cases z), fun _ z => (by cases z)⟩
    · obtain ⟨ws, _, o, q⟩ := (show ∃ ws, RelKV ro H kvs ws ∧ AtL H a true (.dK ws) from h)
      exact ⟨_, q, fun _ z => (by cases z), fun _ z => (by cases z)⟩
    · obtain ⟨ws, _, q⟩ := (show ∃ ws, RelTV ro H kvs ws ∧ AtL H a false (.dT ws) from h)
      exact ⟨_, q, fun _ z => (by cases z), fun _ z => (by cases z)⟩
    · obtain ⟨ws, _, o, q⟩ := (show ∃ ws, RelTV ro H kvs ws ∧ AtL H a true (.dT ws) from h)
      exact ⟨_, q, fun _ z => (by cases z), fun _ z => (by cases z)⟩
  | ins c fs =>
    obtain ⟨dx, ws, _, q⟩ := h
    exact ⟨_, q, fun _ z => (by cases z), fun _ z => (by cases z)⟩
/-- beside something new -/
theorem RelOb.new (gr : Gr ro ro') {o : Ob} {p : Addr} {u : HO} (h : RelOb g ro H a o) (hp : H p = none) : RelOb g ro' (upd H p u) a o := by
  by_cases ha : a = p
  · subst ha
    cases o with
    | frz xs =>
      obtain ⟨vs, r, q⟩ := h
      refine ⟨vs, RelDs.mono gr (.new hp) _ _ r, q.keep fun _ _ z => ?_⟩
      rw [hp] at z
      cases z
    | _ =>
      obtain ⟨u, q, _⟩ := h.there (by simp [isFrz])
      rw [hp] at q
      cases q
  · exact h.mono gr (.new hp) (upd_ne ha)
/-- something new that is no place of the store -/
theorem RelS.aside (R : RelS g ro S H) {p : Addr} {o : HO} (hp : H p = none) : RelS g ro S (upd H p o) := by
  refine ⟨R.len, fun n o' e => ?_, R.inj, R.tabs.ext fun b u e => by rw [upd_ne (ne_of_none e hp)]; exact e⟩
  obtain ⟨a, h1, h2⟩ := R.ob n o' e
  exact ⟨a, h1, h2.new (.refl _) hp⟩
theorem RelS.lt (R : RelS g ro S H) {n : Nat} {a : Addr} (h : ro[n]? = some a) : n < S.length := by
  have q := (List.getElem?_eq_some_iff.mp h).1
  rw [R.len] at q
  exact q
theorem RelS.at (R : RelS g ro S H) {n : Nat} {a : Addr} {o : Ob} (h : ro[n]? = some a) (e : S[n]? = some o) : RelOb g ro H a o := by
  obtain ⟨b, h1, h2⟩ := R.ob n o e
  rw [h] at h1
  cases h1
  exact h2
/-- a new object, a new place -/
theorem RelS.push (R : RelS g ro S H) {p : Addr} {o : HO} {ob : Ob} (hp : H p = none) (h : RelOb g (ro ++ [p]) (upd H p o) p ob) : RelS g (ro ++ [p]) (S ++ [ob]) (upd H p o) := by
  have old : ∀ {k : Nat} {a : Addr}, k < S.length → (ro ++ [p])[k]? = some a → ro[k]? = some a := fun {k a} hk e => by
    rw [List.getElem?_append_left (by rw [R.len]; exact hk)] at e
    exact e
  have lt : ∀ {k : Nat} {a : Addr}, (ro ++ [p])[k]? = some a → k < S.length ∨ (k = S.length ∧ a = p) := fun {k a} e => by
    by_cases hk : k < S.length
    · exact .inl hk
    · have q := (List.getElem?_eq_some_iff.mp e).1
      rw [List.length_append, List.length_singleton, R.len] at q
      have hk' : k = S.length := by omega
      subst hk'
      rw [List.getElem?_append_right (by rw [R.len]; exact Nat.le_refl _), R.len, Nat.sub_self] at e
      exact .inr ⟨rfl, (Option.some.inj e).symm⟩
  have frz : ∀ {k : Nat}, k < S.length → ro[k]? = some p → ∃ o, S[k]? = some o ∧ isFrz o := fun {k} hk e => by
    obtain ⟨a, h1, h2⟩ := R.ob k S[k] (List.getElem?_eq_getElem hk)
    rw [e] at h1
    cases h1
    refine ⟨S[k], List.getElem?_eq_getElem hk, ?_⟩
    cases q : S[k] with
    | frz xs => trivial
    | _ =>
      rw [q] at h2
      obtain ⟨u, q, _⟩ := h2.there (by simp [isFrz])
      rw [hp] at q
      cases q
  have up : ∀ {k : Nat} {o : Ob}, S[k]? = some o → (S ++ [ob])[k]? = some o := fun {k o} e => by
    rw [List.getElem?_append_left (List.getElem?_eq_some_iff.mp e).1]
    exact e
  refine ⟨by simp [R.len], fun k o' e => ?_, fun k m a hne e1 e2 => ?_, R.tabs.ext fun b u e => by rw [upd_ne (ne_of_none e hp)]; exact e⟩
  · by_cases hk : k < S.length
    · rw [List.getElem?_append_left hk] at e
      obtain ⟨a, h1, h2⟩ := R.ob k o' e
      exact ⟨a, Gr.snoc _ _ _ _ h1, h2.new (Gr.snoc _ _) hp⟩
    · have q := (List.getElem?_eq_some_iff.mp e).1
      rw [List.length_append, List.length_singleton] at q
      have hk' : k = S.length := by omega
      subst hk'
      rw [List.getElem?_append_right (Nat.le_refl _), Nat.sub_self] at e
      obtain rfl : ob = o' := Option.some.inj e
      exact ⟨p, by rw [List.getElem?_append_right (by rw [R.len]; exact Nat.le_refl _), R.len, Nat.sub_self] <;> rfl, h⟩
  · rcases lt e1 with h1 | ⟨h1, h1'⟩ <;> rcases lt e2 with h2 | ⟨h2, h2'⟩
    · rcases R.inj k m a hne (old h1 e1) (old h2 e2) with ⟨o, q1, q2⟩ | ⟨o, q1, q2⟩
      · exact .inl ⟨o, up q1, q2⟩
      · exact .inr ⟨o, up q1, q2⟩
    · subst h2'
      obtain ⟨o, q1, q2⟩ := frz h1 (old h1 e1)
      exact .inl ⟨o, up q1, q2⟩
    · subst h1'
      obtain ⟨o, q1, q2⟩ := frz h2 (old h2 e2)
      exact .inr ⟨o, up q1, q2⟩
    · omega
/-- the object at a place changes -/
theorem RelS.put (R : RelS g ro S H) {n : Nat} {a : Addr} {o ob : Ob} {u u' : HO} (hn : ro[n]? = some a) (hS : S[n]? = some o) (nf : ¬ isFrz o) (nf' : ¬ isFrz ob) (hu : H a = some u) (h : RelOb g ro (upd H a u') a ob)
    (nu : (∀ vs, u ≠ .tup vs) ∧ (∀ ps, u ≠ .tbl ps) ∧ ∀ f, LamX.CodeO a f ≠ u) : RelS g ro (S.set n ob) (upd H a u') := by
  have ex : TExt H (upd H a u') := .put hu nu.1
  have nS : n < S.length := (List.getElem?_eq_some_iff.mp hS).1
  refine ⟨by simp [R.len], fun k o' e => ?_, fun k m b hne e1 e2 => ?_, fun p hp => ?_⟩
  · by_cases hk : k = n
    · subst hk
      rw [List.getElem?_set_self nS] at e
      obtain rfl : ob = o' := Option.some.inj e
      exact ⟨a, hn, h⟩
    · rw [List.getElem?_set_ne (Ne.symm hk)] at e
      obtain ⟨b, h1, h2⟩ := R.ob k o' e
      refine ⟨b, h1, ?_⟩
      by_cases hb : b = a
      · subst hb
        have fz : ∃ xs, o' = .frz xs := by
          rcases R.inj k n b hk h1 hn with ⟨q, q1, q2⟩ | ⟨q, q1, q2⟩
          · rw [e] at q1
            obtain rfl : o' = q := Option.some.inj q1
            cases o' with
            | frz xs => exact ⟨xs, rfl⟩
            | _ => exact q2.elim
          · rw [hS] at q1
            obtain rfl : o = q := Option.some.inj q1
            exact (nf q2).elim
        obtain ⟨xs, rfl⟩ := fz
        obtain ⟨vs, r, q⟩ := h2
        refine ⟨vs, RelDs.mono (.refl _) ex _ _ r, ?_⟩
        rcases q with ⟨ob', q⟩ | q
        · exfalso
          -- a place that isn't only read bears no known list
          have z := R.at hn hS
          cases o with
          | lst xs => obtain ⟨_, _, q'⟩ := z; rw [q] at q'; cases q'
          | frz xs => exact nf trivial
          | dic t lk kvs =>
            cases t <;> cases lk
            · obtain ⟨_, _, q'⟩ := (show ∃ ws, RelKV ro H kvs ws ∧ AtL H b false (.dK ws) from z); have q' : H b = _ := q'; rw [q] at q'; cases q'
            · obtain ⟨_, _, _, q'⟩ := (show ∃ ws, RelKV ro H kvs ws ∧ AtL H b true (.dK ws) from z); rw [q] at q'; cases q'
            · obtain ⟨_, _, q'⟩ := (show ∃ ws, RelTV ro H kvs ws ∧ AtL H b false (.dT ws) from z); have q' : H b = _ := q'; rw [q] at q'; cases q'
            · obtain ⟨_, _, _, q'⟩ := (show ∃ ws, RelTV ro H kvs ws ∧ AtL H b true (.dT ws) from z); rw [q] at q'; cases q'
          | ins c fs => obtain ⟨_, _, _, q'⟩ := z; rw [q] at q'; cases q'
        · exact .inr q
      · exact h2.mono (.refl _) ex (upd_ne hb)
  · have tr : ∀ {k : Nat}, (∃ o, S[k]? = some o ∧ isFrz o) → ∃ o, (S.set n ob)[k]? = some o ∧ isFrz o := fun {k} ⟨q, q1, q2⟩ => by
      have hk : n ≠ k := fun z => by
        subst z
        rw [hS] at q1
        obtain rfl : o = q := Option.some.inj q1
        exact nf q2
      exact ⟨q, by rw [List.getElem?_set_ne hk]; exact q1, q2⟩
    exact (R.inj k m b hne e1 e2).imp tr tr
  · obtain ⟨ps, h1, h2, h3⟩ := R.tabs p hp
    refine ⟨ps, ?_, h2, fun pos cv hc => ?_⟩
    · rw [upd_ne fun z => nu.2.1 ps (by rw [z, hu] at h1; exact Option.some.inj h1)]
      exact h1
    · obtain ⟨c, e1, e2⟩ := h3 pos cv hc
      refine ⟨c, e1, ?_⟩
      rw [upd_ne fun z => nu.2.2 p.2 (by subst z; rw [hu] at e2; exact (Option.some.inj e2).symm)]
      exact e2
end
/-- kinds apart -/
def Nu (a : Addr) (u : HO) : Prop := (∀ vs, u ≠ .tup vs) ∧ (∀ ps, u ≠ .tbl ps) ∧ ∀ f, LamX.CodeO a f ≠ u
theorem nu_lst {a : Addr} {xs : List V} : Nu a (.lst xs) := by refine ⟨?_, ?_, ?_⟩ <;> intro _ z <;> cases z
theorem nu_ins {a C dx : Addr} {xs : List (Str × V)} : Nu a (.ins C dx xs) := by refine ⟨?_, ?_, ?_⟩ <;> intro _ z <;> cases z
theorem nu_dK {a : Addr} {xs : List (L2.Key × V)} : Nu a (.dK xs) := by refine ⟨?_, ?_, ?_⟩ <;> intro _ z <;> cases z
theorem nu_dT {a : Addr} {xs : List (List L2.Key × V)} : Nu a (.dT xs) := by refine ⟨?_, ?_, ?_⟩ <;> intro _ z <;> cases z
theorem nu_frz {a : Addr} {o : Obj} {u : HO} : Nu a (.frz o u) := by refine ⟨?_, ?_, ?_⟩ <;> intro _ z <;> cases z
theorem lst_tup {xs : List V} : ∀ vs, HO.lst xs ≠ .tup vs := by intro _ z; cases z
theorem ins_tup {C dx : Addr} {xs : List (Str × V)} : ∀ vs, HO.ins C dx xs ≠ .tup vs := by intro _ z; cases z
theorem dK_tup {xs : List (L2.Key × V)} : ∀ vs, HO.dK xs ≠ .tup vs := by intro _ z; cases z
theorem dT_tup {xs : List (List L2.Key × V)} : ∀ vs, HO.dT xs ≠ .tup vs := by intro _ z; cases z
theorem lst_frz {xs : List V} : ∀ o u, HO.lst xs ≠ .frz o u := by intro _ _ z; cases z
theorem ins_frz {C dx : Addr} {xs : List (Str × V)} : ∀ o u, HO.ins C dx xs ≠ .frz o u := by intro _ _ z; cases z
theorem dK_frz {xs : List (L2.Key × V)} : ∀ o u, HO.dK xs ≠ .frz o u := by intro _ _ z; cases z
theorem dT_frz {xs : List (List L2.Key × V)} : ∀ o u, HO.dT xs ≠ .frz o u := by intro _ _ z; cases z
end MP

namespace MP
open PySem L2
/-- a raised exception: its class, its own dict -/
def RelX (g : G) (ro : List Addr) (H : Hp) (x : Exc) (c : Value) (d : Option Addr) : Prop :=
  c = .ref (g.ecls x.c) ∧ match x.p with
    | [] => d = none
    | [v] => ∃ dd u, d = some dd ∧ H dd = some (.xd [(("house" : Str), u)]) ∧ RelD ro H v u
    | _ => False
section
variable {α β γ δ : Type}
/-- what is wanted behind a computation -/
def Post (RA : List Addr → Hp → α → β → Prop) (g : G) (E : XK) (ro : List Addr) (H : Hp) (Q : β → Hp → Prop) : R α → Prop
  | .ok d S => ∀ (ro' : List Addr) (H' : Hp) (v : β), Gr ro ro' → Ext H H' → RelS g ro' S H' → RA ro' H' d v → Q v H'
  | .exc x S => ∀ (ro' : List Addr) (H' : Hp) (c : Value) (dd : Option Addr), Gr ro ro' → Ext H H' → RelS g ro' S H' → RelX g ro' H' x c dd → E c dd H'
  | .err => False
theorem Post.mono {RA : List Addr → Hp → α → β → Prop} {g : G} {E : XK} {ro ro' : List Addr} {H H' : Hp} {Q : β → Hp → Prop} {r : R α} (gr : Gr ro ro') (ex : Ext H H') (h : Post RA g E ro H Q r) : Post RA g E ro' H' Q r := by
  cases r with
  | ok d S => exact fun ro1 H1 v a b => h ro1 H1 v (gr.trans a) (ex.trans b)
  | exc x S => exact fun ro1 H1 c dd a b => h ro1 H1 c dd (gr.trans a) (ex.trans b)
  | err => exact h
/-- one computation behind another -/
theorem Post.bind {RA : List Addr → Hp → α → β → Prop} {RB : List Addr → Hp → γ → δ → Prop} {g : G} {E : XK} {ro : List Addr} {H : Hp} {Q : δ → Hp → Prop} {Q' : β → Hp → Prop} {r : R α} {f : α → Sto → R γ}
    (h : Post RB g E ro H Q (r.bind f)) (k : ∀ (d : α) (S : Sto) (ro' : List Addr) (H' : Hp) (v : β), Gr ro ro' → Ext H H' → RelS g ro' S H' → RA ro' H' d v → Post RB g E ro' H' Q (f d S) → Q' v H') : Post RA g E ro H Q' r := by
  cases r with
  | ok d S => exact fun ro' H' v a b c e => k d S ro' H' v a b c e (Post.mono a b h)
  | exc x S => exact h
  | err => exact h
/-- the reading of a computation -/
def rd (RA : List Addr → Hp → α → β → Prop) (g : G) (E : XK) (m : Loc → Sto → R α) : St → Hp → (β → Hp → Prop) → Prop := fun s H Q =>
  ∃ (ro : List Addr) (L : Loc) (S : Sto), RelL ro H L s ∧ RelS g ro S H ∧ Post RA g E ro H Q (m L S)
end
abbrev RelB : List Addr → Hp → Bool → Bool → Prop := fun _ _ a b => a = b
abbrev rdE := rd RelD
abbrev rdA := rd RelDs
abbrev rdT := rd RelB
/-- the context that a body is walked in -/
structure Ctx (g : G) (E : XK) (X : Cx) : Prop where
  P : X.prog = g.P
  w : X.w = g.w
  K : X.K = g.K
  mg : X.mg = g.mg
  base : X.base = g.base
  takes : L2N.Takes X fun c d _ H => E c d H
  units : X.A.units + 66 < cLine
structure SE (X : Cx) (g : G) (E : XK) (e : Expr) (m : EM) : Prop where
  run : PE X e (rdE g E m)
structure SA (X : Cx) (g : G) (E : XK) (es : List Expr) (m : AM) : Prop where
  run : PA X es (rdA g E m)
structure ST (X : Cx) (g : G) (E : XK) (e : Expr) (m : BM) : Prop where
  run : PT X e (rdT g E m)
structure SW (X : Cx) (g : G) (E : XK) (e : Expr) (m : BM) : Prop where
  run : PW X e (rdT g E m)
theorem pe_imp {X : Cx} {e : Expr} {t t' : TE} (h : PE X e t) (i : ∀ s H Q, t' s H Q → t s H Q) : PE X e t' := ⟨fun pins s σ H Q I q => h.run pins s σ H Q I (i _ _ _ q)⟩
theorem pa_imp {X : Cx} {e : List Expr} {t t' : TA} (h : PA X e t) (i : ∀ s H Q, t' s H Q → t s H Q) : PA X e t' := ⟨fun pos pins s σ H Q I q => h.run pos pins s σ H Q I (i _ _ _ q)⟩
theorem pt_imp {X : Cx} {e : Expr} {t t' : TT} (h : PT X e t) (i : ∀ s H Q, t' s H Q → t s H Q) : PT X e t' := ⟨fun pins s σ H Q I q => h.run pins s σ H Q I (i _ _ _ q)⟩
theorem pw_imp {X : Cx} {e : Expr} {t t' : TT} (h : PW X e t) (i : ∀ s H Q, t' s H Q → t s H Q) : PW X e t' := ⟨fun wh pins s σ H Q I q => h.run wh pins s σ H Q I (i _ _ _ q)⟩
theorem ps_imp {X : Cx} {e : Stmt} {t t' : TS} (h : PS X e t) (i : ∀ D s H, t' D s H → t D s H) : PS X e t' := ⟨fun pins s σ H D I q => h.run pins s σ H D I (i _ _ _ q)⟩
theorem pss_imp {X : Cx} {e : List Stmt} {t t' : TS} (h : PSs X e t) (i : ∀ D s H, t' D s H → t D s H) : PSs X e t' := ⟨fun pins s σ H D I q => h.run pins s σ H D I (i _ _ _ q)⟩

/-! ### operations by values -/
def r2 (g : G) (E : XK) (f : Op2) : R2 := fun x y H Q => ∃ (ro : List Addr) (S : Sto) (dx dy : D), RelS g ro S H ∧ RelD ro H dx x ∧ RelD ro H dy y ∧ Post RelD g E ro H Q (f dx dy S)
def r1 (g : G) (E : XK) (f : Op1) : V → Hp → VK → Prop := fun x H Q => ∃ (ro : List Addr) (S : Sto) (dx : D), RelS g ro S H ∧ RelD ro H dx x ∧ Post RelD g E ro H Q (f dx S)
def O2 (X : Cx) (g : G) (E : XK) (k : Value → Value → Sem Value) (f : Op2) : Prop := OpR X k (r2 g E f)
section
variable {X : Cx} {g : G} {E : XK} {a b c e : Expr} {ma mb mc : EM} {pos : Pos}
theorem rd_bin {f : Op2} {s : St} {H : Hp} {Q : VK} {r : R2} (hr : ∀ x y H Q, r2 g E f x y H Q → r x y H Q) (h : rdE g E (eBin f ma mb) s H Q) : L2.tOp r (rdE g E ma) (rdE g E mb) s H Q := by
  obtain ⟨ro, L, S, hL, hS, h⟩ := h
  refine ⟨ro, L, S, hL, hS, Post.bind h fun d S1 ro1 H1 v gr ex hS1 rv h => ?_⟩
  refine ⟨ro1, L, S1, hL.mono gr ex, hS1, Post.bind h fun d2 S2 ro2 H2 v2 gr2 ex2 hS2 rv2 h => ?_⟩
  exact hr _ _ _ _ ⟨ro2, S2, d, d2, hS2, rv.mono gr2 ex2, rv2, h⟩
theorem se_bin {op : Operator} {f : Op2} (ho : O2 X g E (binaryOp op) f) (ha : SE X g E a ma) (hb : SE X g E b mb) : SE X g E (.BinOp a op b pos) (eBin f ma mb) :=
  ⟨pe_imp (pe_op ho ha.run hb.run) fun _ _ _ h => rd_bin (fun _ _ _ _ z => z) h⟩
theorem se_cmp {op : CmpOp} {f : Op2} (ho : O2 X g E (compareOp op) f) (ha : SE X g E a ma) (hb : SE X g E b mb) (hm : behindInMarks op b = false) : SE X g E (.Compare a [op] [b] pos) (eBin f ma mb) :=
  ⟨pe_imp (pe_cmpR ho ha.run hb.run hm) fun _ _ _ h => rd_bin (fun _ _ _ _ z => z) h⟩
/-- a test by its value -/
theorem rd_tv {m : EM} {s : St} {H : Hp} {Q : Bool → Hp → Prop} (h : rdT g E (tV m) s H Q) : rdE g E m s H fun x H1 => ∃ k, x = .bl k ∧ Q k H1 := by
  obtain ⟨ro, L, S, hL, hS, h⟩ := h
  refine ⟨ro, L, S, hL, hS, Post.bind h fun d S1 ro1 H1 v gr ex hS1 rv h => ?_⟩
  cases d with
  | bl k => exact ⟨k, rv.bl_inv, h ro1 H1 k (.refl _) (.refl _) hS1 rfl⟩
  | _ => exact h.elim
theorem st_cmp {op : CmpOp} {f : Op2} (ho : O2 X g E (compareOp op) f) (ha : SE X g E a ma) (hb : SE X g E b mb) (hm : behindInMarks op b = false) : ST X g E (.Compare a [op] [b] pos) (tV (eBin f ma mb)) :=
  ⟨pt_imp (pt_cmpR ho ha.run hb.run hm) fun _ _ _ h => by
    obtain ⟨ro, L, S, hL, hS, h⟩ := rd_tv h
    exact rd_bin (fun _ _ _ _ z => z) ⟨ro, L, S, hL, hS, h⟩⟩
theorem st_val (ha : SE X g E a ma) (he : ∀ whole, isTrue a X.env whole = (do let v ← whole; standAt a.pos; holding [v] (truthy v)) := by intro _; rfl) : ST X g E a (tV ma) :=
  ⟨pt_imp (pt_val ha.run he) fun _ _ _ h => rd_tv h⟩

/-! ### names, constants -/
theorem se_var (i : Nat) {x : Str} {pos : Pos} (hN : X.N[i]? = some x := by rfl) (hv : Vis X.env.scope x := by first | exact Or.inl rfl | exact Or.inr (Or.inl rfl) | exact Or.inr (Or.inr rfl)) (hd : (x == ("__debug__" : Str)) = false := by decide)
    (hcd : (x == ("__classdict__" : Str)) = false := by decide) : SE X g E (.Name x pos) (eV i) := ⟨pe_imp (pe_var hN hv hd hcd) fun s H Q h => by
  obtain ⟨ro, L, S, hL, hS, h⟩ := h
  unfold eV at h
  split at h
  · rename_i d e
    obtain ⟨v, e1, r⟩ := hL.get e
    exact ⟨v, e1, h ro H v (.refl _) (.refl _) hS r⟩
  · exact h.elim⟩
theorem se_int {i : Int} {j : Nat} {pos : Pos} : SE X g E (.Constant (.int i) j pos) (eC (.int i)) := ⟨pe_imp pe_int fun s H Q ⟨ro, L, S, hL, hS, h⟩ => h ro H _ (.refl _) (.refl _) hS .int_mk⟩
theorem se_bl {i : Bool} {j : Nat} {pos : Pos} : SE X g E (.Constant (.bool i) j pos) (eC (.bl i)) := ⟨pe_imp pe_bl fun s H Q ⟨ro, L, S, hL, hS, h⟩ => h ro H _ (.refl _) (.refl _) hS .bl_mk⟩
theorem se_non {j : Nat} {pos : Pos} : SE X g E (.Constant .none j pos) (eC .non) := ⟨pe_imp pe_non fun s H Q ⟨ro, L, S, hL, hS, h⟩ => h ro H _ (.refl _) (.refl _) hS .non_mk⟩
theorem se_str {x : List Nat} {y : Str} {j : Nat} {pos : Pos} (e : y = ⟨x.toArray⟩ := by decide +kernel) (hx : okS x = true := by decide +kernel) : SE X g E (.Constant (.str y) j pos) (eC (.str x)) := ⟨pe_imp pe_str fun s H Q ⟨ro, L, S, hL, hS, h⟩ => by
  subst e
  refine h ro H _ (.refl _) (.refl _) hS (.str_mk fun c hc => ?_)
  simpa using List.all_eq_true.mp hx c hc⟩
/-- a constant of the module -/
theorem se_glob {x : Str} {d : D} {v : V} {u : Value} {pos : Pos} (hg : Gl X x) (hm : X.mg x = some u) (r : RelV v u) (rd : ∀ ro H, RelD ro H d v) (hd : (x == ("__debug__" : Str)) = false := by decide) : SE X g E (.Name x pos) (eC d) :=
  ⟨pe_imp (pe_glob hg hm r hd) fun s H Q ⟨ro, L, S, hL, hS, h⟩ => h ro H _ (.refl _) (.refl _) hS (rd _ _)⟩

/-! ### and, or, not, if -/
theorem se_one {op : BoolOp} (h : SE X g E a ma) : SE X g E (.BoolOp op [a] pos) ma := ⟨pe_one h.run⟩
theorem se_and {rest : List Expr} (ha : SE X g E a ma) (hb : SE X g E (.BoolOp .And (b :: rest) pos) mb) : SE X g E (.BoolOp .And (a :: b :: rest) pos) (eAnd ma mb) := ⟨pe_imp (pe_and ha.run hb.run) fun s H Q h => by
  obtain ⟨ro, L, S, hL, hS, h⟩ := h
  refine ⟨ro, L, S, hL, hS, Post.bind h fun d S1 ro1 H1 v gr ex hS1 rv h => ?_⟩
  cases d with
  | bl k =>
    refine ⟨k, rv.bl_inv, ?_⟩
    cases k with
    | true => rw [if_pos rfl]; exact ⟨ro1, L, S1, hL.mono gr ex, hS1, h⟩
    | false => rw [if_neg Bool.false_ne_true]; exact h ro1 H1 _ (.refl _) (.refl _) hS1 .bl_mk
  | _ => exact h.elim⟩
theorem se_or {rest : List Expr} (ha : SE X g E a ma) (hb : SE X g E (.BoolOp .Or (b :: rest) pos) mb) : SE X g E (.BoolOp .Or (a :: b :: rest) pos) (eOr ma mb) := ⟨pe_imp (pe_or ha.run hb.run) fun s H Q h => by
  obtain ⟨ro, L, S, hL, hS, h⟩ := h
  refine ⟨ro, L, S, hL, hS, Post.bind h fun d S1 ro1 H1 v gr ex hS1 rv h => ?_⟩
  cases d with
  | bl k =>
    refine ⟨k, rv.bl_inv, ?_⟩
    cases k with
    | true => rw [if_pos rfl]; exact h ro1 H1 _ (.refl _) (.refl _) hS1 .bl_mk
    | false => rw [if_neg Bool.false_ne_true]; exact ⟨ro1, L, S1, hL.mono gr ex, hS1, h⟩
  | _ => exact h.elim⟩
theorem se_not (ha : SE X g E a ma) : SE X g E (.UnaryOp .Not a pos) (eNot ma) := ⟨pe_imp (pe_not ha.run) fun s H Q h => by
  obtain ⟨ro, L, S, hL, hS, h⟩ := h
  refine ⟨ro, L, S, hL, hS, Post.bind h fun d S1 ro1 H1 v gr ex hS1 rv h => ?_⟩
  cases d with
  | bl k => exact ⟨k, rv.bl_inv, h ro1 H1 _ (.refl _) (.refl _) hS1 .bl_mk⟩
  | _ => exact h.elim⟩
theorem rd_if {t : BM} {s : St} {H : Hp} {Q : VK} (h : rdE g E (eIf t ma mb) s H Q) : rdT g E t s H fun c H1 => if c = true then rdE g E ma s H1 Q else rdE g E mb s H1 Q := by
  obtain ⟨ro, L, S, hL, hS, h⟩ := h
  refine ⟨ro, L, S, hL, hS, Post.bind h fun d S1 ro1 H1 v gr ex hS1 rv h => ?_⟩
  obtain rfl : d = v := rv
  cases d with
  | true => rw [if_pos rfl] at h ⊢; exact ⟨ro1, L, S1, hL.mono gr ex, hS1, h⟩
  | false => rw [if_neg Bool.false_ne_true] at h ⊢; exact ⟨ro1, L, S1, hL.mono gr ex, hS1, h⟩
theorem se_if {t : BM} (hc : ST X g E c t) (ha : SE X g E a ma) (hb : SE X g E b mb) : SE X g E (.IfExp c a b pos) (eIf t ma mb) := ⟨pe_imp (pe_ifExp hc.run ha.run hb.run) fun s H Q h => rd_if h⟩
theorem sw_one {op : BoolOp} {t : BM} (ha : ST X g E a t) : SW X g E (.BoolOp op [a] pos) t := ⟨by cases op; exact pw_and1 ha.run; exact pw_or1 ha.run⟩
theorem sw_and {rest : List Expr} {t u : BM} (ha : ST X g E a t) (hb : SW X g E (.BoolOp .And (b :: rest) pos) u) : SW X g E (.BoolOp .And (a :: b :: rest) pos) (tAnd t u) := ⟨pw_imp (pw_and ha.run hb.run) fun s H Q h => by
  obtain ⟨ro, L, S, hL, hS, h⟩ := h
  refine ⟨ro, L, S, hL, hS, Post.bind h fun d S1 ro1 H1 v gr ex hS1 rv h => ?_⟩
  obtain rfl : d = v := rv
  cases d with
  | true => rw [if_pos rfl] at h ⊢; exact ⟨ro1, L, S1, hL.mono gr ex, hS1, h⟩
  | false => rw [if_neg Bool.false_ne_true] at h ⊢; exact h ro1 H1 _ (.refl _) (.refl _) hS1 rfl⟩
theorem sw_or {rest : List Expr} {t u : BM} (ha : ST X g E a t) (hb : SW X g E (.BoolOp .Or (b :: rest) pos) u) : SW X g E (.BoolOp .Or (a :: b :: rest) pos) (tOr t u) := ⟨pw_imp (pw_or ha.run hb.run) fun s H Q h => by
  obtain ⟨ro, L, S, hL, hS, h⟩ := h
  refine ⟨ro, L, S, hL, hS, Post.bind h fun d S1 ro1 H1 v gr ex hS1 rv h => ?_⟩
  obtain rfl : d = v := rv
  cases d with
  | true => rw [if_pos rfl] at h ⊢; exact h ro1 H1 _ (.refl _) (.refl _) hS1 rfl
  | false => rw [if_neg Bool.false_ne_true] at h ⊢; exact ⟨ro1, L, S1, hL.mono gr ex, hS1, h⟩⟩
theorem st_bool {t : BM} (h : SW X g E a t) : ST X g E a t := ⟨h.run.pt⟩
theorem st_not {t : BM} (ha : ST X g E a t) : ST X g E (.UnaryOp .Not a pos) (tNot t) := ⟨pt_imp (pt_not ha.run) fun s H Q h => by
  obtain ⟨ro, L, S, hL, hS, h⟩ := h
  refine ⟨ro, L, S, hL, hS, Post.bind h fun d S1 ro1 H1 v gr ex hS1 rv h => ?_⟩
  obtain rfl : d = v := rv
  exact h ro1 H1 _ (.refl _) (.refl _) hS1 rfl⟩

/-! ### arguments, displays -/
theorem sa_nil : SA X g E [] aNil := ⟨pa_imp pa_nil fun s H Q ⟨ro, L, S, hL, hS, h⟩ => h ro H _ (.refl _) (.refl _) hS .nil⟩
theorem sa_cons {es : List Expr} {ms : AM} (ha : SE X g E e ma) (hr : SA X g E es ms) (hs : starEach (e :: es) X.env = (false, eval e X.env) :: starEach es X.env := by rfl) : SA X g E (e :: es) (aCons ma ms) := ⟨pa_imp (pa_cons ha.run hr.run hs) fun s H Q h => by
  obtain ⟨ro, L, S, hL, hS, h⟩ := h
  refine ⟨ro, L, S, hL, hS, Post.bind h fun d S1 ro1 H1 v gr ex hS1 rv h => ?_⟩
  refine ⟨ro1, L, S1, hL.mono gr ex, hS1, Post.bind h fun ds S2 ro2 H2 vs gr2 ex2 hS2 rv2 h => ?_⟩
  exact h ro2 H2 _ (.refl _) (.refl _) hS2 (.cons (rv.mono gr2 ex2) rv2)⟩
theorem sz_eq : sz = sizeLine := by rw [sizeLine_eq] <;> rfl
theorem se_tup {es : List Expr} {ms : AM} {x1 : Nat} (h : SA X g E es ms) : SE X g E (.Tuple es x1 pos) (eTup ms) := ⟨pe_imp (pe_tup h.run) fun s H Q h => by
  obtain ⟨ro, L, S, hL, hS, h⟩ := h
  refine ⟨ro, L, S, hL, hS, Post.bind h fun ds S1 ro1 H1 vs gr ex hS1 rv h => ?_⟩
  by_cases hz : ds.length ≤ sz
  · rw [if_pos hz] at h
    refine ⟨by rw [← rv.length, ← sz_eq]; exact hz, fun p hp => h ro1 _ _ (.refl _) (.new hp) (hS1.aside hp) (.tup_mk upd_same (rv.mono (.refl _) (.new hp)))⟩
  · rw [if_neg hz] at h
    exact h.elim⟩
theorem Post.push {g : G} {E : XK} {ro : List Addr} {H : Hp} {Q : VK} {S : Sto} {ob : Ob} {u : HO} {p : Addr} (h : Post RelD g E ro H Q (.ok (.ref S.length) (S ++ [ob]))) (R : RelS g ro S H) (hp : H p = none) (ho : RelOb g (ro ++ [p]) (upd H p u) p ob) : Q (.ref p) (upd H p u) :=
  h (ro ++ [p]) _ _ (.snoc _ _) (.new hp) (R.push hp ho) (.ref_mk (by rw [← R.len, List.getElem?_append_right (Nat.le_refl _), Nat.sub_self] <;> rfl))
theorem se_lst {es : List Expr} {ms : AM} (h : SA X g E es ms) : SE X g E (.List es pos) (eLst ms) := ⟨pe_imp (pe_lst h.run) fun s H Q h => by
  obtain ⟨ro, L, S, hL, hS, h⟩ := h
  refine ⟨ro, L, S, hL, hS, Post.bind h fun ds S1 ro1 H1 vs gr ex hS1 rv h => ?_⟩
  by_cases hz : ds.length ≤ sz
  · rw [if_pos hz] at h
    exact ⟨by rw [← rv.length, ← sz_eq]; exact hz, fun p hp => h.push hS1 hp ⟨vs, rv.mono (.snoc _ _) (.new hp), upd_same⟩⟩
  · rw [if_neg hz] at h
    exact h.elim⟩
theorem se_dicK : SE X g E (.Dict [] [] pos) (eDic false) := ⟨pe_imp pe_dnewK fun s H Q ⟨ro, L, S, hL, hS, h⟩ p hp => h.push hS hp (show ∃ ws, RelKV _ _ [] ws ∧ AtL _ p false (.dK ws) from ⟨[], .nil, upd_same⟩)⟩
theorem se_dicT : SE X g E (.Dict [] [] pos) (eDic true) := ⟨pe_imp pe_dnewT fun s H Q ⟨ro, L, S, hL, hS, h⟩ p hp => h.push hS hp (show ∃ ws, RelTV _ _ [] ws ∧ AtL _ p false (.dT ws) from ⟨[], .nil, upd_same⟩)⟩
end
end MP

namespace MP
open PySem L2
/-- what is wanted behind a statement -/
def PostS (g : G) (E : XK) (ro : List Addr) (H : Hp) (D : Ends) : RS → Prop
  | .nx L S => ∀ (ro' : List Addr) (H' : Hp) (s : St), Gr ro ro' → Ext H H' → RelS g ro' S H' → RelL ro' H' L s → D.nx s H'
  | .rt d S => ∀ (ro' : List Addr) (H' : Hp) (v : V), Gr ro ro' → Ext H H' → RelS g ro' S H' → RelD ro' H' d v → D.rt v H'
  | .bk L S => ∀ (ro' : List Addr) (H' : Hp) (s : St), Gr ro ro' → Ext H H' → RelS g ro' S H' → RelL ro' H' L s → D.bk s H'
  | .ct L S => ∀ (ro' : List Addr) (H' : Hp) (s : St), Gr ro ro' → Ext H H' → RelS g ro' S H' → RelL ro' H' L s → D.ct s H'
  | .exc x _ S => ∀ (ro' : List Addr) (H' : Hp) (c : Value) (dd : Option Addr), Gr ro ro' → Ext H H' → RelS g ro' S H' → RelX g ro' H' x c dd → E c dd H'
  | .err => False
theorem PostS.mono {g : G} {E : XK} {ro ro' : List Addr} {H H' : Hp} {D : Ends} {r : RS} (gr : Gr ro ro') (ex : Ext H H') (h : PostS g E ro H D r) : PostS g E ro' H' D r := by
  cases r with
  | err => exact h
  | exc x L S => exact fun ro1 H1 c dd a b => h ro1 H1 c dd (gr.trans a) (ex.trans b)
  | _ => exact fun ro1 H1 s a b => h ro1 H1 s (gr.trans a) (ex.trans b)
/-- a statement that begins with an expression -/
theorem PostS.st {α β : Type} {RA : List Addr → Hp → α → β → Prop} {g : G} {E : XK} {ro : List Addr} {H : Hp} {D : Ends} {Q' : β → Hp → Prop} {r : R α} {L : Loc} {f : α → Sto → RS}
    (h : PostS g E ro H D (r.st L f)) (k : ∀ (d : α) (S : Sto) (ro' : List Addr) (H' : Hp) (v : β), Gr ro ro' → Ext H H' → RelS g ro' S H' → RA ro' H' d v → PostS g E ro' H' D (f d S) → Q' v H') : Post RA g E ro H Q' r := by
  cases r with
  | ok d S => exact fun ro' H' v a b c e => k d S ro' H' v a b c e (PostS.mono a b h)
  | exc x S => exact h
  | err => exact h
def rdS (g : G) (E : XK) (m : SM) : TS := fun D s H => ∃ (ro : List Addr) (L : Loc) (S : Sto), RelL ro H L s ∧ RelS g ro S H ∧ PostS g E ro H D (m L S)
structure SS (X : Cx) (g : G) (E : XK) (st : Stmt) (m : SM) : Prop where
  run : PS X st (rdS g E m)
structure SSs (X : Cx) (g : G) (E : XK) (st : List Stmt) (m : SM) : Prop where
  run : PSs X st (rdS g E m)
/-- what is wanted of a target -/
def PostG (g : G) (ro : List Addr) (H : Hp) (Q : St → Hp → Prop) : R Loc → Prop
  | .ok L S => ∀ (ro' : List Addr) (H' : Hp) (s : St), Gr ro ro' → Ext H H' → RelS g ro' S H' → RelL ro' H' L s → Q s H'
  | _ => False
def rdG (g : G) (t : TM) : TG := fun v s H Q => ∃ (ro : List Addr) (L : Loc) (S : Sto) (d : D), RelL ro H L s ∧ RelS g ro S H ∧ RelD ro H d v ∧ PostG g ro H Q (t d L S)
def rdGs (g : G) (t : List D → Loc → Sto → R Loc) : TGs := fun vs s H Q => ∃ (ro : List Addr) (L : Loc) (S : Sto) (ds : List D), RelL ro H L s ∧ RelS g ro S H ∧ RelDs ro H ds vs ∧ PostG g ro H Q (t ds L S)
theorem PostG.mono {g : G} {ro ro' : List Addr} {H H' : Hp} {Q : St → Hp → Prop} {r : R Loc} (gr : Gr ro ro') (ex : Ext H H') (h : PostG g ro H Q r) : PostG g ro' H' Q r := by
  cases r with
  | ok L S => exact fun ro1 H1 s a b => h ro1 H1 s (gr.trans a) (ex.trans b)
  | _ => exact h
structure SG (X : Cx) (g : G) (tg : Expr) (t : TM) : Prop where
  run : PG X tg (rdG g t)
structure SGs (X : Cx) (g : G) (ts : List Expr) (t : List D → Loc → Sto → R Loc) : Prop where
  run : PGs X ts (rdGs g t)
section
variable {X : Cx} {g : G} {E : XK} {e c o : Expr} {m : EM} {st : Stmt} {rest : List Stmt} {a b : SM} {pos pos' : Pos}
theorem pg_imp {tg : Expr} {t t' : TG} (h : PG X tg t) (i : ∀ v s H Q, t' v s H Q → t v s H Q) : PG X tg t' := ⟨fun pins s σ H v u Q I r q => h.run pins s σ H v u Q I r (i _ _ _ _ q)⟩
theorem pgs_imp {tg : List Expr} {t t' : TGs} (h : PGs X tg t) (i : ∀ v s H Q, t' v s H Q → t v s H Q) : PGs X tg t' := ⟨fun pins s σ H v u Q I r q => h.run pins s σ H v u Q I r (i _ _ _ _ q)⟩
theorem ss_nil : SSs X g E [] sNx := ⟨pss_imp pss_nil fun D s H ⟨ro, L, S, hL, hS, h⟩ => h ro H s (.refl _) (.refl _) hS hL⟩
theorem ss_pass : SS X g E (.Pass pos) sNx := ⟨ps_imp ps_pass fun D s H ⟨ro, L, S, hL, hS, h⟩ => h ro H s (.refl _) (.refl _) hS hL⟩
theorem ss_brk : SS X g E (.Break pos) sBrk := ⟨ps_imp ps_break fun D s H ⟨ro, L, S, hL, hS, h⟩ => h ro H s (.refl _) (.refl _) hS hL⟩
theorem ss_cnt : SS X g E (.Continue pos) sCnt := ⟨ps_imp ps_continue fun D s H ⟨ro, L, S, hL, hS, h⟩ => h ro H s (.refl _) (.refl _) hS hL⟩
theorem ss_one (h : SS X g E st a) : SSs X g E [st] a := ⟨pss_one h.run⟩
theorem ss_cons (h1 : SS X g E st a) (h2 : SSs X g E rest b) : SSs X g E (st :: rest) (sSeq a b) := ⟨pss_imp (pss_cons h1.run h2.run) fun D s H ⟨ro, L, S, hL, hS, h⟩ => by
  refine ⟨ro, L, S, hL, hS, ?_⟩
  unfold sSeq at h
  cases q : a L S with
  | nx L1 S1 =>
    rw [q] at h
    exact fun ro' H' s' gr ex R r => ⟨ro', L1, S1, r, R, PostS.mono gr ex h⟩
  | rt d S1 => rw [q] at h; exact h
  | bk L1 S1 => rw [q] at h; exact h
  | ct L1 S1 => rw [q] at h; exact h
  | exc x L1 S1 => rw [q] at h; exact h
  | err => rw [q] at h; exact h⟩
theorem ss_expr (he : SE X g E e m) (hs : swapsWith e none pos.line X.env = pure false := by rfl) : SS X g E (.Expr e pos) (sExpr m) := ⟨ps_imp (ps_expr he.run hs) fun D s H ⟨ro, L, S, hL, hS, h⟩ =>
  ⟨ro, L, S, hL, hS, PostS.st h fun d S1 ro1 H1 v gr ex hS1 rv h => h ro1 H1 s (.refl _) (.refl _) hS1 (hL.mono gr ex)⟩⟩
theorem ss_doc {x : Str} {j : Nat} : SS X g E (.Expr (.Constant (.str x) j pos') pos) sNx := ⟨ps_imp ps_doc fun D s H ⟨ro, L, S, hL, hS, h⟩ => h ro H s (.refl _) (.refl _) hS hL⟩
theorem ss_ret (he : SE X g E e m) : SS X g E (.Return (some e) pos) (sRet m) := ⟨ps_imp (ps_ret he.run) fun D s H ⟨ro, L, S, hL, hS, h⟩ =>
  ⟨ro, L, S, hL, hS, PostS.st h fun d S1 ro1 H1 v gr ex hS1 rv h => h ro1 H1 v (.refl _) (.refl _) hS1 rv⟩⟩
theorem ss_retN : SS X g E (.Return none pos) sRetN := ⟨ps_imp ps_retN fun D s H ⟨ro, L, S, hL, hS, h⟩ => h ro H _ (.refl _) (.refl _) hS .non_mk⟩
theorem ss_if {t : BM} {p q : List Stmt} (hc : ST X g E c t) (ha : SSs X g E p a) (hb : SSs X g E q b) : SS X g E (.If c p q pos) (sIf t a b) := ⟨ps_imp (ps_if hc.run ha.run hb.run) fun D s H ⟨ro, L, S, hL, hS, h⟩ =>
  ⟨ro, L, S, hL, hS, PostS.st h fun d S1 ro1 H1 v gr ex hS1 rv h => by
    obtain rfl : d = v := rv
    cases d with
    | true => rw [if_pos rfl] at h ⊢; exact ⟨ro1, L, S1, hL.mono gr ex, hS1, h⟩
    | false => rw [if_neg Bool.false_ne_true] at h ⊢; exact ⟨ro1, L, S1, hL.mono gr ex, hS1, h⟩⟩⟩

/-! ### targets -/
theorem sg_name (i : Nat) {x : Str} (hN : X.N.Nodup) (hi : X.N[i]? = some x := by rfl) (hx : L2.Loc X.env.scope x := by first | exact Or.inl rfl | exact Or.inr rfl) (hf : X.fn x = true ∨ X.env.scope.names.lookup x = some .local := by first | exact Or.inl rfl | exact Or.inr rfl) : SG X g (.Name x pos) (gV i) :=
  ⟨pg_imp (pg_name hN hi hx hf) fun v s H Q ⟨ro, L, S, d, hL, hS, rv, h⟩ => h ro H _ (.refl _) (.refl _) hS (hL.set i rv)⟩
theorem sgs_nil : SGs X g [] gNil := ⟨pgs_imp pgs_nil fun v s H Q ⟨ro, L, S, ds, hL, hS, rv, h⟩ => by
  unfold MP.gNil at h
  split at h
  · rename_i e
    subst e
    exact ⟨rv.inv0, h ro H _ (.refl _) (.refl _) hS hL⟩
  · exact h.elim⟩
theorem sgs_cons {es : List Expr} {t : TM} {u : List D → Loc → Sto → R Loc} (h1 : SG X g e t) (h2 : SGs X g es u) (hs : (assignEach (e :: es) X.env).map (·.2) = assign e X.env :: (assignEach es X.env).map (·.2) := by rfl) : SGs X g (e :: es) (gCons t u) :=
  ⟨pgs_imp (pgs_cons h1.run h2.run hs) fun v s H Q ⟨ro, L, S, ds, hL, hS, rv, h⟩ => by
    unfold MP.gCons at h
    cases ds with
    | nil => exact h.elim
    | cons d ds =>
      obtain ⟨x, r, rfl, r1, r2⟩ := rv.inv
      refine ⟨x, r, rfl, ro, L, S, d, hL, hS, r1, ?_⟩
      simp only at h
      cases q : t d L S with
      | ok L1 S1 =>
        rw [q] at h
        exact fun ro' H' s' gr ex R rl => ⟨ro', L1, S1, ds, rl, R, r2.mono gr ex, PostG.mono gr ex h⟩
      | exc x S1 => rw [q] at h; exact h
      | err => rw [q] at h; exact h⟩
theorem sg_tup {es : List Expr} {k : Nat} {u : List D → Loc → Sto → R Loc} {n : Nat} (hc : X.calm = true) (h : SGs X g es u) (hn : (assignEach es X.env).length = n := by rfl) (hst : (assignEach es X.env).findIdx? (·.1) = none := by rfl) : SG X g (.Tuple es k pos) (gTup n u) :=
  ⟨pg_imp (pg_tup hc h.run hn hst) fun v s H Q ⟨ro, L, S, d, hL, hS, rv, h⟩ => by
    cases d with
    | tup ds =>
      obtain ⟨a, vs, rfl, ha, r⟩ := rv.tup_inv
      unfold MP.gTup at h
      simp only at h
      split at h
      · rename_i hn
        exact ⟨a, vs, rfl, SqT.of ha, by rw [← r.length]; exact hn, ro, L, S, ds, hL, hS, r, h⟩
      · exact h.elim
    | _ => exact h.elim⟩
theorem ss_asg {tg : Expr} {t : TM} (he : SE X g E e m) (hg : SG X g tg t) (hs : swapsWithSole [tg] e pos.line X.env = pure false := by rfl) (hw : swappedStores [tg] e X.env = pure none := by rfl) (h1 : (assignEach [tg] X.env).map (·.2) = [assign tg X.env] := by rfl) :
    SS X g E (.Assign [tg] e pos) (sAsg m t) := ⟨ps_imp (ps_asg he.run hg.run hs hw h1) fun D s H ⟨ro, L, S, hL, hS, h⟩ =>
  ⟨ro, L, S, hL, hS, PostS.st h fun d S1 ro1 H1 v gr ex hS1 rv h => ⟨ro1, L, S1, d, hL.mono gr ex, hS1, rv, by
    cases q : t d L S1 with
    | ok L1 S2 => rw [q] at h; exact h
    | exc x S2 => rw [q] at h; exact h
    | err => rw [q] at h; exact h⟩⟩⟩
/-- name = e -/
theorem ss_set (i : Nat) {x : Str} {pos2 : Pos} (hN : X.N.Nodup) (he : SE X g E e m) (hi : X.N[i]? = some x := by rfl) (hx : L2.Loc X.env.scope x := by first | exact Or.inl rfl | exact Or.inr rfl) (hs : swapsWith e (some (.Name x pos2)) pos.line X.env = pure false := by rfl)
    (hf : X.fn x = true ∨ X.env.scope.names.lookup x = some .local := by first | exact Or.inl rfl | exact Or.inr rfl) : SS X g E (.Assign [.Name x pos2] e pos) (sAsg m (gV i)) := ⟨ps_imp (ps_set hN hi hx he.run hs hf) fun D s H ⟨ro, L, S, hL, hS, h⟩ =>
  ⟨ro, L, S, hL, hS, PostS.st h fun d S1 ro1 H1 v gr ex hS1 rv h => h ro1 H1 _ (.refl _) (.refl _) hS1 ((hL.mono gr ex).set i rv)⟩⟩
/-- a, b = x, y: two names -/
theorem ss_par2 {i j : Nat} {x y : Str} {p q : Expr} {mp mq : EM} {px py pt : Pos} {kt k2 : Nat} {pt2 : Pos} (hc : X.calm = true) (hN : X.N.Nodup) (hp : SE X g E p mp) (hq : SE X g E q mq) (hij : i ≠ j) (hi : X.N[i]? = some x := by rfl) (hj : X.N[j]? = some y := by rfl)
    (hx : X.env.scope.names.lookup x = some .local := by rfl) (hy : X.env.scope.names.lookup y = some .local := by rfl)
    (hw : swappedStores [.Tuple [.Name x px, .Name y py] kt pt] (.Tuple [p, q] k2 pt2) X.env = pure (some [x, y]) := by rfl) (hs : swapsWithSole [.Tuple [.Name x px, .Name y py] kt pt] (.Tuple [p, q] k2 pt2) pos.line X.env = pure false := by rfl)
    (h1 : starEach [p, q] X.env = (false, eval p X.env) :: starEach [q] X.env := by rfl) (h2 : starEach [q] X.env = (false, eval q X.env) :: starEach [] X.env := by rfl) :
    SS X g E (.Assign [.Tuple [.Name x px, .Name y py] kt pt] (.Tuple [p, q] k2 pt2) pos) (sAsg (eTup (aCons mp (aCons mq aNil))) (gTup 2 (gCons (gV i) (gCons (gV j) gNil)))) :=
  ⟨ps_imp (ps_par hc hN hi hj hij hx hy (sa_cons hp (sa_cons hq sa_nil h2) h1).run hw hs) fun D s H ⟨ro, L, S, hL, hS, h⟩ => by
    refine ⟨ro, L, S, hL, hS, ?_⟩
    unfold sAsg MP.eTup at h
    cases z : aCons mp (aCons mq aNil) L S with
    | ok ds S1 =>
      rw [z] at h
      simp only [R.bind_ok] at h
      intro ro1 H1 vs gr ex hS1 rv
      split at h
      · match ds with
        | [d1, d2] =>
          obtain ⟨v1, r, rfl, r1, rr⟩ := rv.inv
          obtain ⟨v2, r', rfl, r2, rr2⟩ := rr.inv
          cases rr2.inv0
          simp only [R.st_ok, MP.gTup, MP.gCons, MP.gV, MP.gNil, R.bind_ok, List.length_cons, List.length_nil, if_true] at h
          exact ⟨v1, v2, rfl, h ro1 H1 _ gr ex hS1 (((hL.mono gr ex).set i r1).set j r2)⟩
        | [] => exact absurd h (by simp [R.st_ok, MP.gTup, PostS])
        | [_] => exact absurd h (by simp [R.st_ok, MP.gTup, PostS])
        | _ :: _ :: _ :: _ => exact absurd h (by simp [R.st_ok, MP.gTup, PostS])
      · exact h.elim
    | exc x S1 => rw [z] at h; exact h
    | err => rw [z] at h; exact h⟩
end
end MP

namespace MP
open PySem L2
/-- the iterator tells the items as long as what is checked holds -/
def WkOk (g : G) (ro : List Addr) (H : Hp) (k : Wk) (J : It) : Prop :=
  ∀ (i : Nat) (ro' : List Addr) (S' : Sto) (H' : Hp), Gr ro ro' → Ext H H' → RelS g ro' S' H' → k.chk S' = true →
    (∀ d, k.items[i]? = some d → J.go i H' ∧ ∀ x H'', J.yld i H' x H'' → Ext H' H'' ∧ RelS g ro' S' H'' ∧ RelD ro' H'' d x) ∧ (i = k.items.length → J.stop i H')
theorem WkOk.mono {g : G} {ro ro' : List Addr} {H H' : Hp} {k : Wk} {J : It} (gr : Gr ro ro') (ex : Ext H H') (h : WkOk g ro H k J) : WkOk g ro' H' k J := fun i ro1 S1 H1 a b => h i ro1 S1 H1 (gr.trans a) (ex.trans b)
structure SI (X : Cx) (g : G) (E : XK) (tg iter : Expr) (w : WM) : Prop where
  run : PI X tg iter (rd (WkOk g) g E w)
section
variable {X : Cx} {g : G} {E : XK} {tg e a b : Expr} {m ma mb : EM} {pos p : Pos}
theorem pi_imp {iter : Expr} {t t' : TI} (h : PI X tg iter t) (i : ∀ s H Q, t' s H Q → t s H Q) : PI X tg iter t' := ⟨fun pins s σ H R I q => h.run pins s σ H R I (i _ _ _ q)⟩
theorem drop_at {α : Type} {l : List α} {i : Nat} (h : i < l.length) : ∃ x, l[i]? = some x ∧ l.drop i = x :: l.drop (i + 1) := ⟨l[i], List.getElem?_eq_getElem h, List.drop_eq_getElem_cons h⟩
theorem si_lst (hK : X.K = g.K) (ha : SE X g E a ma) : SI X g E tg a (wLst ma) := ⟨pi_imp (pi_list ha.run) fun s H Q ⟨ro, L, S, hL, hS, h⟩ => by
  refine ⟨ro, L, S, hL, hS, Post.bind h fun d S1 ro1 H1 v gr ex hS1 rv h => ?_⟩
  cases d with
  | ref n =>
    obtain ⟨p, hp, rfl⟩ := rv.ref_inv
    simp only at h
    split at h
    · rename_i xs e
      obtain ⟨vs, r, q⟩ := hS1.at hp e
      refine ⟨p, rfl, ⟨vs, SqL.of q⟩, h ro1 H1 _ (.refl _) (.refl _) hS1 fun i ro' S' H' gr' ex' R hk => ?_⟩
      have e' : S'[n]? = some (.lst xs) := of_decide_eq_true hk
      obtain ⟨us, r', q'⟩ := R.at (gr' _ _ hp) e'
      refine ⟨fun d hd => ?_, fun hi => ⟨us, SqL.of q', by rw [hi, r'.length]; exact Nat.le_refl _⟩⟩
      obtain ⟨v, h1, h2⟩ := r'.get hd
      refine ⟨⟨us, v, SqL.of q', h1⟩, fun x H'' ⟨e1, e2⟩ => ?_⟩
      subst e1
      have z := e2 us (SqL.of q')
      rw [h1] at z
      cases z
      exact ⟨.refl _, R, h2⟩
    · exact h.elim
  | _ => exact h.elim⟩
theorem si_tup (hK : X.K = g.K) (ha : SE X g E a ma) : SI X g E tg a (wTup ma) := ⟨pi_imp (pi_tup ha.run) fun s H Q ⟨ro, L, S, hL, hS, h⟩ => by
  refine ⟨ro, L, S, hL, hS, Post.bind h fun d S1 ro1 H1 v gr ex hS1 rv h => ?_⟩
  cases d with
  | tup xs =>
    obtain ⟨p, vs, rfl, hp, r⟩ := rv.tup_inv
    refine ⟨p, rfl, ⟨vs, SqT.of hp⟩, h ro1 H1 _ (.refl _) (.refl _) hS1 fun i ro' S' H' gr' ex' R hk => ?_⟩
    have q' := ex'.tup _ _ hp
    have r' := RelDs.mono gr' ex'.tup _ _ r
    refine ⟨fun d hd => ?_, fun hi => ⟨vs, SqT.of q', by rw [hi, r'.length]; exact Nat.le_refl _⟩⟩
    obtain ⟨v, h1, h2⟩ := r'.get hd
    refine ⟨⟨vs, v, SqT.of q', h1⟩, fun x H'' ⟨e1, e2⟩ => ?_⟩
    subst e1
    have z := e2 vs (SqT.of q')
    rw [h1] at z
    cases z
    exact ⟨.refl _, R, h2⟩
  | _ => exact h.elim⟩
theorem rng_ok {ro : List Addr} {H : Hp} {lo : Int} {n : Nat} {chk : Sto → Bool} : WkOk g ro H ⟨rngD lo n, chk⟩ (Itr lo n) := fun i ro' S' H' gr' ex' R hk => by
  refine ⟨fun d hd => ?_, fun hi => ?_⟩
  · unfold rngD at hd
    rw [List.getElem?_map] at hd
    cases q : (List.range n)[i]? with
    | none => rw [q] at hd; cases hd
    | some j =>
      rw [q] at hd
      obtain ⟨h1, h2⟩ := List.getElem?_eq_some_iff.mp q
      rw [List.length_range] at h1
      rw [List.getElem_range] at h2
      subst h2
      cases hd
      refine ⟨h1, fun x H'' ⟨e1, e2⟩ => ?_⟩
      subst e1 e2
      exact ⟨.refl _, R, .int_mk⟩
  · show n ≤ i
    rw [hi]
    simp [rngD]
theorem si_rng1 (hg : Gl X "range") (hm : X.mg "range" = none) (ha : SE X g E a ma) (h1 : starEach [a] X.env = (false, eval a X.env) :: starEach [] X.env := by rfl) (hs : starEach [a] X.env = [(false, eval a X.env)] := by rfl) :
    SI X g E tg (.Call (.Name "range" p) [a] [] pos) (wRng1 ma) := ⟨pi_imp (pi_range1 hg hm (sa_cons ha sa_nil h1).run hs) fun s H Q ⟨ro, L, S, hL, hS, h⟩ => by
  refine ⟨ro, L, S, hL, hS, ?_⟩
  unfold wRng1 at h
  unfold aCons
  cases z : ma L S with
  | ok d S1 =>
    rw [z] at h
    simp only [R.bind_ok, aNil] at h ⊢
    intro ro1 H1 vs gr ex hS1 rv
    obtain ⟨v, r, rfl, r1, r2⟩ := rv.inv
    cases r2.inv0
    cases d with
    | int j =>
      simp only at h
      split at h
      · rename_i hj
        exact ⟨j, by rw [r1.int_inv], hj.1, hj.2, h ro1 H1 _ gr ex hS1 rng_ok⟩
      · exact h.elim
    | _ => exact h.elim
  | exc x S1 => rw [z] at h; exact h
  | err => rw [z] at h; exact h⟩
theorem si_rng2 (hg : Gl X "range") (hm : X.mg "range" = none) (ha : SE X g E a ma) (hb : SE X g E b mb) (h1 : starEach [a, b] X.env = (false, eval a X.env) :: starEach [b] X.env := by rfl) (h2 : starEach [b] X.env = (false, eval b X.env) :: starEach [] X.env := by rfl)
    (hs : starEach [a, b] X.env = [(false, eval a X.env), (false, eval b X.env)] := by rfl) (hs2 : starEach [b] X.env = [(false, eval b X.env)] := by rfl) :
    SI X g E tg (.Call (.Name "range" p) [a, b] [] pos) (wRng2 ma mb) := ⟨pi_imp (pi_range2 hg hm (sa_cons ha (sa_cons hb sa_nil h2) h1).run hs hs2) fun s H Q ⟨ro, L, S, hL, hS, h⟩ => by
  refine ⟨ro, L, S, hL, hS, ?_⟩
  unfold wRng2 at h
  unfold aCons
  cases z : ma L S with
  | ok d S1 =>
    rw [z] at h
    simp only [R.bind_ok] at h ⊢
    cases z2 : mb L S1 with
    | ok d2 S2 =>
      rw [z2] at h
      simp only [R.bind_ok, aNil] at h ⊢
      intro ro1 H1 vs gr ex hS1 rv
      obtain ⟨v, r, rfl, r1, rr⟩ := rv.inv
      obtain ⟨v2, r', rfl, r2, rr2⟩ := rr.inv
      cases rr2.inv0
      cases d with
      | int i =>
        cases d2 with
        | int j =>
          simp only at h
          split at h
          · rename_i hj
            exact ⟨i, j, by rw [r1.int_inv, r2.int_inv], hj, h ro1 H1 _ gr ex hS1 rng_ok⟩
          · exact h.elim
        | _ => exact h.elim
      | _ => cases d2 <;> exact h.elim
    | exc x S2 => rw [z2] at h; exact h
    | err => rw [z2] at h; exact h
  | exc x S1 => rw [z] at h; exact h
  | err => rw [z] at h; exact h⟩
/-- for .. in ..: -/
theorem ss_for {iter : Expr} {body : List Stmt} {w : WM} {t : TM} {bm : SM} (hp : PassesOwn (model X.prog X.w) X.A X.env X.xe) (hc : X.calm = true) (hi : SI X g E tg iter w) (hg : SG X g tg t) (hb : SSs X g E body bm)
    (hs : ∀ x, foldedSetIterable iter X.env x = pure x := by intro _; rfl) : SS X g E (.For tg iter body [] pos) (sFor w t bm) := ⟨ps_imp (ps_for hp hc hi.run hg.run hb.run hs) fun D s H ⟨ro, L, S, hL, hS, h⟩ => by
  refine ⟨ro, L, S, hL, hS, PostS.st h fun k S1 ro1 H1 J gr ex hS1 wk h => ?_⟩
  refine ⟨fun i m s H' => m = k.items.length - i ∧ i ≤ k.items.length ∧ ∃ (ro' : List Addr) (L' : MP.Loc) (S' : Sto), Gr ro1 ro' ∧ Ext H1 H' ∧ RelL ro' H' L' s ∧ RelS g ro' S' H' ∧ PostS g E ro' H' D (forL k.chk t bm (k.items.drop i) L' S'),
    ⟨_, rfl, Nat.zero_le _, ro1, L, S1, .refl _, .refl _, hL.mono gr ex, hS1, h⟩, ?_⟩
  rintro i m s' H' ⟨rfl, hi, ro', L', S', gr', ex', hL', hS', h⟩
  by_cases hlt : i < k.items.length
  · obtain ⟨d, hd, e⟩ := drop_at hlt
    rw [e] at h
    unfold forL at h
    split at h
    · rename_i hk
      obtain ⟨go, yl⟩ := (wk i ro' S' H' gr' ex' hS' hk).1 d hd
      refine .inr ⟨go, fun σ' H' => ∃ (ro' : List Addr) (L' : MP.Loc) (S' : Sto), Gr ro1 ro' ∧ Ext H1 H' ∧ RelL ro' H' L' σ' ∧ RelS g ro' S' H' ∧ PostS g E ro' H' D (forL k.chk t bm (k.items.drop (i + 1)) L' S'), fun σ' H' n' => ⟨_, by omega, rfl, hlt, n'⟩, fun x H2 hy => ?_⟩
      obtain ⟨ex2, hS2, rv⟩ := yl x H2 hy
      refine ⟨ro', L', S', d, hL'.mono (.refl _) ex2, hS2, rv, ?_⟩
      cases q : t d L' S' with
      | ok L1 S3 =>
        rw [q] at h
        intro ro3 H3 s3 gr3 ex3 hS3 hL3
        refine ⟨ro3, L1, S3, hL3, hS3, ?_⟩
        have h := PostS.mono gr3 (ex2.trans ex3) h
        simp only at h
        have up := gr'.trans gr3
        have ux := ex'.trans (ex2.trans ex3)
        cases z : bm L1 S3 with
        | nx L4 S4 =>
          rw [z] at h
          exact fun ro4 H4 s4 gr4 ex4 hS4 hL4 => ⟨ro4, L4, S4, up.trans gr4, ux.trans ex4, hL4, hS4, PostS.mono gr4 ex4 h⟩
        | ct L4 S4 =>
          rw [z] at h
          exact fun ro4 H4 s4 gr4 ex4 hS4 hL4 => ⟨ro4, L4, S4, up.trans gr4, ux.trans ex4, hL4, hS4, PostS.mono gr4 ex4 h⟩
        | bk L4 S4 => rw [z] at h; exact h
        | rt d4 S4 => rw [z] at h; exact h
        | exc x4 L4 S4 => rw [z] at h; exact h
        | err => rw [z] at h; exact h
      | exc x S3 => rw [q] at h; exact h.elim
      | err => rw [q] at h; exact h.elim
    · exact h.elim
  · have e : i = k.items.length := by omega
    subst e
    rw [List.drop_length] at h
    unfold forL at h
    split at h
    · rename_i hk
      exact .inl ⟨(wk _ ro' S' H' gr' ex' hS' hk).2 rfl, h ro' H' s' (.refl _) (.refl _) hS' hL'⟩
    · exact h.elim⟩

/-! ### while -/
theorem whileN_up {t : BM} {bm : SM} : ∀ {n m : Nat} {L : MP.Loc} {S : Sto}, n ≤ m → whileN t bm n L S ≠ .err → whileN t bm m L S = whileN t bm n L S
  | 0, _, L, S, _, h => absurd rfl h
  | n + 1, 0, L, S, hl, _ => by omega
  | n + 1, m + 1, L, S, hl, h => by
    unfold whileN at h ⊢
    cases q : t L S with
    | ok c S1 =>
      rw [q] at h
      simp only [R.st_ok] at h ⊢
      cases c with
      | true =>
        simp only [if_true] at h ⊢
        cases z : bm L S1 with
        | nx L2 S2 => rw [z] at h; exact whileN_up (by omega) h
        | ct L2 S2 => rw [z] at h; exact whileN_up (by omega) h
        | _ => rfl
      | false => rfl
    | exc x S1 => rfl
    | err => rfl
theorem sWhile_of {t : BM} {bm : SM} {n : Nat} {L : MP.Loc} {S : Sto} (h : whileN t bm n L S ≠ .err) : sWhile t bm L S = whileN t bm n L S := by
  have ex : ∃ n, whileN t bm n L S ≠ .err := ⟨n, h⟩
  unfold sWhile
  rw [dif_pos ex]
  have h2 := ex.choose_spec
  rcases Nat.le_total n ex.choose with l | l
  · exact whileN_up l h
  · exact (whileN_up l h2).symm
/-- one turn -/
theorem sWhile_eq (t : BM) (bm : SM) (L : MP.Loc) (S : Sto) : sWhile t bm L S = (t L S).st L fun c S1 => if c = true then (match bm L S1 with
    | .nx L2 S2 => sWhile t bm L2 S2
    | .ct L2 S2 => sWhile t bm L2 S2
    | .bk L2 S2 => .nx L2 S2
    | r => r) else .nx L S1 := by
  by_cases ex : ∃ n, whileN t bm n L S ≠ .err
  · obtain ⟨n, h⟩ := ex
    rw [sWhile_of h]
    cases n with
    | zero => exact absurd rfl h
    | succ n =>
      unfold whileN at h ⊢
      cases q : t L S with
      | ok c S1 =>
        rw [q] at h
        simp only [R.st_ok] at h ⊢
        cases c with
        | true =>
          simp only [if_true] at h ⊢
          cases z : bm L S1 with
          | nx L2 S2 => rw [z] at h; exact (sWhile_of h).symm
          | ct L2 S2 => rw [z] at h; exact (sWhile_of h).symm
          | _ => rfl
        | false => rfl
      | exc x S1 => rfl
      | err => rfl
  · have e1 : sWhile t bm L S = .err := by unfold sWhile; rw [dif_neg ex]
    rw [e1]
    have e2 : ∀ n, whileN t bm n L S = .err := fun n => Classical.byContradiction fun z => ex ⟨n, z⟩
    cases q : t L S with
    | ok c S1 =>
      simp only [R.st_ok]
      cases c with
      | true =>
        simp only [if_true]
        have more : ∀ L2 S2, (bm L S1 = .nx L2 S2 ∨ bm L S1 = .ct L2 S2) → sWhile t bm L2 S2 = .err := fun L2 S2 z => by
          have e3 : ∀ n, whileN t bm n L2 S2 = .err := fun n => by
            have := e2 (n + 1)
            unfold whileN at this
            rw [q] at this
            simp only [R.st_ok, if_true] at this
            rcases z with z | z <;> (rw [z] at this; exact this)
          unfold sWhile
          rw [dif_neg fun ⟨n, h⟩ => h (e3 n)]
        have h1 := e2 1
        unfold whileN at h1
        rw [q] at h1
        simp only [R.st_ok, if_true] at h1
        cases z : bm L S1 with
        | nx L2 S2 => exact (more L2 S2 (.inl z)).symm
        | ct L2 S2 => exact (more L2 S2 (.inr z)).symm
        | bk L2 S2 => rw [z] at h1; cases h1
        | rt d S2 => rw [z] at h1; cases h1
        | exc x L2 S2 => rw [z] at h1; cases h1
        | err => rfl
      | false =>
        have h1 := e2 1
        unfold whileN at h1
        rw [q] at h1
        simp only [R.st_ok, Bool.false_eq_true, if_false] at h1
        cases h1
    | exc x S1 =>
      have h1 := e2 1
      unfold whileN at h1
      rw [q] at h1
      cases h1
    | err => rfl
theorem ss_while {c : Expr} {body : List Stmt} {t : BM} {bm : SM} (hp : PassesOwn (model X.prog X.w) X.A X.env X.xe) (hc : ST X g E c t) (hb : SSs X g E body bm) : SS X g E (.While c body [] pos) (sWhile t bm) := ⟨ps_imp (ps_while hp hc.run hb.run) fun D s H ⟨ro, L, S, hL, hS, h⟩ => by
  by_cases ex : ∃ n, whileN t bm n L S ≠ .err
  · obtain ⟨n, hn⟩ := ex
    rw [sWhile_of hn] at h
    refine ⟨fun m s H' => ∃ (ro' : List Addr) (L' : MP.Loc) (S' : Sto), RelL ro' H' L' s ∧ RelS g ro' S' H' ∧ PostS g E ro' H' D (whileN t bm m L' S'), ⟨n, ro, L, S, hL, hS, h⟩, ?_⟩
    rintro m s' H' ⟨ro', L', S', hL', hS', h⟩
    refine ⟨ro', L', S', hL', hS', ?_⟩
    cases m with
    | zero => exact h.elim
    | succ m =>
      unfold whileN at h
      refine PostS.st h fun d S1 ro1 H1 v gr ex hS1 rv h => ?_
      obtain rfl : d = v := rv
      cases d with
      | true =>
        rw [if_pos rfl] at h ⊢
        refine ⟨fun s H' => ∃ (ro' : List Addr) (L' : MP.Loc) (S' : Sto), RelL ro' H' L' s ∧ RelS g ro' S' H' ∧ PostS g E ro' H' D (whileN t bm m L' S'), fun s' H' n' => ⟨m, Nat.lt_succ_self _, n'⟩, ro1, L', S1, hL'.mono gr ex, hS1, ?_⟩
        cases z : bm L' S1 with
        | nx L4 S4 =>
          rw [z] at h
          exact fun ro4 H4 s4 gr4 ex4 hS4 hL4 => ⟨ro4, L4, S4, hL4, hS4, PostS.mono gr4 ex4 h⟩
        | ct L4 S4 =>
          rw [z] at h
          exact fun ro4 H4 s4 gr4 ex4 hS4 hL4 => ⟨ro4, L4, S4, hL4, hS4, PostS.mono gr4 ex4 h⟩
        | bk L4 S4 => rw [z] at h; exact h
        | rt d4 S4 => rw [z] at h; exact h
        | exc x4 L4 S4 => rw [z] at h; exact h
        | err => rw [z] at h; exact h
      | false =>
        rw [if_neg Bool.false_ne_true] at h ⊢
        exact h ro1 H1 s' (.refl _) (.refl _) hS1 (hL'.mono gr ex)
  · have e1 : sWhile t bm L S = .err := by unfold sWhile; rw [dif_neg ex]
    rw [e1] at h
    exact h.elim⟩
end
end MP

namespace MP
open PySem L2
/-! ### targets that store names of their own alone -/
def rdGw (g : G) (vs : List Nat) (t : TM) : TG := fun v s H Q => ∃ (ro : List Addr) (L : Loc) (S : Sto) (d : D), RelL ro H L s ∧ RelS g ro S H ∧ RelD ro H d v ∧
  ∃ L', t d L S = .ok L' S ∧ ∀ (H' : Hp) (s' : St), Ext H H' → RelS g ro S H' → RelL ro H' L' s' → L2.wipe s' vs = L2.wipe s vs → Q s' H'
def rdGws (g : G) (vs : List Nat) (t : List D → Loc → Sto → R Loc) : TGs := fun us s H Q => ∃ (ro : List Addr) (L : Loc) (S : Sto) (ds : List D), RelL ro H L s ∧ RelS g ro S H ∧ RelDs ro H ds us ∧
  ∃ L', t ds L S = .ok L' S ∧ ∀ (H' : Hp) (s' : St), Ext H H' → RelS g ro S H' → RelL ro H' L' s' → L2.wipe s' vs = L2.wipe s vs → Q s' H'
structure SGw (X : Cx) (g : G) (vs : List Nat) (tg : Expr) (t : TM) : Prop where
  run : PG X tg (rdGw g vs t)
structure SGws (X : Cx) (g : G) (vs : List Nat) (tg : List Expr) (t : List D → Loc → Sto → R Loc) : Prop where
  run : PGs X tg (rdGws g vs t)
/-- the store stays -/
class PureT (t : TM) : Prop where
  same : ∀ d L S L' S', t d L S = .ok L' S' → S' = S
class PureTs (t : List D → Loc → Sto → R Loc) : Prop where
  same : ∀ d L S L' S', t d L S = .ok L' S' → S' = S
instance (i : Nat) : PureT (gV i) := ⟨fun d L S L' S' h => by cases h; rfl⟩
instance : PureTs MP.gNil := ⟨fun d L S L' S' h => by
  unfold MP.gNil at h
  split at h
  · cases h; rfl
  · cases h⟩
instance (t : TM) (u : List D → Loc → Sto → R Loc) [p : PureT t] [q : PureTs u] : PureTs (MP.gCons t u) := ⟨fun d L S L' S' h => by
  unfold MP.gCons at h
  cases d with
  | nil => cases h
  | cons d ds =>
    simp only at h
    cases z : t d L S with
    | ok L1 S1 =>
      obtain rfl := p.same _ _ _ _ _ z
      rw [z] at h
      exact q.same _ _ _ _ _ h
    | exc x S1 => rw [z] at h; cases h
    | err => rw [z] at h; cases h⟩
instance (n : Nat) (u : List D → Loc → Sto → R Loc) [q : PureTs u] : PureT (MP.gTup n u) := ⟨fun d L S L' S' e1 => by
  unfold MP.gTup at e1
  cases d with
  | tup ds =>
    simp only at e1
    split at e1
    · exact q.same _ _ _ _ _ e1
    · cases e1
  | _ => cases e1⟩
theorem wipe_set {s : St} {i : Nat} {x : Option V} : ∀ {vs : List Nat}, i ∈ vs → L2.wipe (s.set i x) vs = L2.wipe s vs
  | [], h => by simp at h
  | v :: vs, h => by
    unfold L2.wipe
    by_cases hv : i ∈ vs
    · rw [wipe_set hv]
    · have e : i = v := by
        rcases List.mem_cons.mp h with h | h
        · exact h
        · exact absurd h hv
      subst e
      have out : ∀ {ws : List Nat} {s : St} {y : Option V}, i ∉ ws → L2.wipe (s.set i y) ws = (L2.wipe s ws).set i y := by
        intro ws
        induction ws with
        | nil => intro s y _; rfl
        | cons w ws ih =>
          intro s y hn
          unfold L2.wipe
          rw [ih fun z => hn (List.mem_cons_of_mem _ z), List.set_comm _ _ (fun z => hn (by rw [z]; exact List.mem_cons_self))]
      rw [out hv, List.set_set]
theorem wipe_at {s : St} {i : Nat} : ∀ {vs : List Nat}, (L2.wipe s vs)[i]? = if i ∈ vs then s[i]?.map (fun _ => none) else s[i]?
  | [] => by simp [L2.wipe]
  | v :: vs => by
    unfold L2.wipe
    by_cases e : v = i
    · subst e
      rw [if_pos List.mem_cons_self]
      by_cases h : v < s.length
      · rw [List.getElem?_set_self (by rw [wipe_length]; exact h), List.getElem?_eq_getElem h]
        rfl
      · rw [List.getElem?_eq_none (by rw [List.length_set, wipe_length]; omega), List.getElem?_eq_none (by omega)]
        rfl
    · rw [List.getElem?_set_ne e, wipe_at]
      by_cases h : i ∈ vs
      · rw [if_pos h, if_pos (List.mem_cons_of_mem _ h)]
      · rw [if_neg h, if_neg (fun z => (List.mem_cons.mp z).elim (fun q => e q.symm) h)]
theorem wipe_wipe {s : St} {vs : List Nat} : L2.wipe (L2.wipe s vs) vs = L2.wipe s vs := by
  apply List.ext_getElem?
  intro i
  rw [wipe_at, wipe_at]
  split
  · cases s[i]? <;> rfl
  · rfl
section
variable {X : Cx} {g : G} {E : XK} {tg e a b o : Expr} {m ma mb : EM} {pos p : Pos} {vs : List Nat}
theorem sgw_name (i : Nat) {x : Str} (hv : i ∈ vs) (hN : X.N.Nodup) (hi : X.N[i]? = some x := by rfl) (hx : L2.Loc X.env.scope x := by first | exact Or.inl rfl | exact Or.inr rfl) (hf : X.fn x = true ∨ X.env.scope.names.lookup x = some .local := by first | exact Or.inr rfl | exact Or.inl rfl) : SGw X g vs (.Name x pos) (gV i) :=
  ⟨pg_imp (pg_name hN hi hx hf) fun v s H Q ⟨ro, L, S, d, hL, hS, rv, L', h1, h2⟩ => by
    cases h1
    exact h2 H _ (.refl _) hS (hL.set i rv) (wipe_set hv)⟩
theorem sgws_nil : SGws X g vs [] MP.gNil := ⟨pgs_imp pgs_nil fun v s H Q ⟨ro, L, S, ds, hL, hS, rv, L', h1, h2⟩ => by
  unfold MP.gNil at h1
  split at h1
  · rename_i e
    subst e
    cases h1
    exact ⟨rv.inv0, h2 H _ (.refl _) hS hL rfl⟩
  · cases h1⟩
theorem sgws_cons {es : List Expr} {t : TM} {u : List D → MP.Loc → Sto → R MP.Loc} [pt : PureT t] (h1 : SGw X g vs e t) (h2 : SGws X g vs es u) (hs : (assignEach (e :: es) X.env).map (·.2) = assign e X.env :: (assignEach es X.env).map (·.2) := by rfl) : SGws X g vs (e :: es) (MP.gCons t u) :=
  ⟨pgs_imp (pgs_cons h1.run h2.run hs) fun v s H Q ⟨ro, L, S, ds, hL, hS, rv, L', e1, e2⟩ => by
    unfold MP.gCons at e1
    cases ds with
    | nil => cases e1
    | cons d ds =>
      obtain ⟨x, r, rfl, r1, r2⟩ := rv.inv
      refine ⟨x, r, rfl, ro, L, S, d, hL, hS, r1, ?_⟩
      simp only at e1
      cases q : t d L S with
      | ok L1 S1 =>
        obtain rfl := pt.same _ _ _ _ _ q
        rw [q] at e1
        exact ⟨L1, rfl, fun H' s' ex R rl w => ⟨ro, L1, S1, ds, rl, R, RelDs.mono (.refl _) ex.tup _ _ r2, L', e1, fun H2 s2 ex2 R2 rl2 w2 => e2 H2 s2 (ex.trans ex2) R2 rl2 (w2.trans w)⟩⟩
      | exc x S1 => rw [q] at e1; cases e1
      | err => rw [q] at e1; cases e1⟩
theorem sgw_tup {es : List Expr} {k : Nat} {u : List D → MP.Loc → Sto → R MP.Loc} {n : Nat} (hc : X.calm = true) (h : SGws X g vs es u) (hn : (assignEach es X.env).length = n := by rfl) (hst : (assignEach es X.env).findIdx? (·.1) = none := by rfl) : SGw X g vs (.Tuple es k pos) (MP.gTup n u) :=
  ⟨pg_imp (pg_tup hc h.run hn hst) fun v s H Q ⟨ro, L, S, d, hL, hS, rv, L', e1, e2⟩ => by
    cases d with
    | tup ds =>
      obtain ⟨a, ws, rfl, ha, r⟩ := rv.tup_inv
      unfold MP.gTup at e1
      simp only at e1
      split at e1
      · rename_i hn
        exact ⟨a, ws, rfl, SqT.of ha, by rw [← r.length]; exact hn, ro, L, S, ds, hL, hS, r, L', e1, e2⟩
      · cases e1
    | _ => cases e1⟩

/-! ### comprehensions -/
structure STs (X : Cx) (g : G) (E : XK) (ifs : List Expr) (t : BM) : Prop where
  run : PTs X ifs (rdT g E t)
theorem sts_nil : STs X g E [] MP.tYes := ⟨⟨fun pins s σ H Q I ⟨ro, L, S, hL, hS, h⟩ => pts_nil.run pins s σ H Q I (h ro H _ (.refl _) (.refl _) hS rfl)⟩⟩
theorem sts_one {t : BM} (h : ST X g E a t) : STs X g E [a] t := ⟨pts_one h.run⟩
theorem lc_rd {iter : Expr} {vs : List Nat} {w : WM} {t : TM} {tt : BM} {em : EM} [pt : PureT t] {s : St} {H : Hp} {Q : VK} (h : rdE g E (eLc w t tt em vs) s H Q) : tLc (rd (WkOk g) g E w) (rdGw g vs t) (rdT g E0 tt) (rdE g E0 em) vs s H Q := by
    obtain ⟨ro, L, S, hL, hS, h⟩ := h
    refine ⟨ro, L, S, hL, hS, Post.bind h fun k S1 ro1 H1 J gr ex hS1 wk h => ?_⟩
    intro D hD
    have hL1 := (RelL.mono gr ex.tup hL).wipe vs
    have hS2 : RelS g (ro1 ++ [D]) (S1 ++ [.lst []]) (upd H1 D (.lst [])) := hS1.push hD ⟨[], .nil, upd_same⟩
    have hDn : (ro1 ++ [D])[S1.length]? = some D := by rw [← hS1.len, List.getElem?_append_right (Nat.le_refl _), Nat.sub_self] <;> rfl
    generalize hn : S1.length = n at h hDn
    refine ⟨fun i m H' => m = k.items.length - i ∧ i ≤ k.items.length ∧ ∃ (ro' : List Addr) (S' : Sto), Gr (ro1 ++ [D]) ro' ∧ Ext (upd H1 D (.lst [])) H' ∧ RelS g ro' S' H' ∧ Post RelD g E ro' H' Q (lcL k.chk t tt em (MP.wipe L vs) n (k.items.drop i) S'),
      ⟨_, rfl, Nat.zero_le _, _, _, .refl _, .refl _, hS2, Post.mono (.snoc _ _) (.new hD) h⟩, ?_⟩
    rintro i m H' ⟨rfl, hi, ro', S', gr', ex', hS', h⟩
    have gr1 := (Gr.snoc ro1 D).trans gr'
    have ex1 := (Ext.new hD).trans ex'
    by_cases hlt : i < k.items.length
    · obtain ⟨d, hd, e⟩ := drop_at hlt
      rw [e] at h
      unfold lcL at h
      split at h
      · rename_i hk
        obtain ⟨go, yl⟩ := (wk i ro' S' H' gr1 ex1 hS' hk).1 d hd
        refine .inr ⟨go, fun H' => ∃ (ro' : List Addr) (S' : Sto), Gr (ro1 ++ [D]) ro' ∧ Ext (upd H1 D (.lst [])) H' ∧ RelS g ro' S' H' ∧ Post RelD g E ro' H' Q (lcL k.chk t tt em (MP.wipe L vs) n (k.items.drop (i + 1)) S'), fun H' n' => ⟨_, by omega, rfl, hlt, n'⟩, fun x H2 hy => ?_⟩
        obtain ⟨ex2, hS3, rv⟩ := yl x H2 hy
        cases q : t d (MP.wipe L vs) S' with
        | ok L1 S3 =>
          rw [q] at h
          obtain rfl : S3 = S' := pt.same _ _ _ _ _ q
          refine ⟨ro', _, S3, d, RelL.mono (.refl _) ex2.tup (RelL.mono gr1 ex1.tup hL1), hS3, rv, L1, q, fun H3 s3 ex3 hS4 hL4 hw => ⟨hw.trans wipe_wipe, ro', L1, S3, hL4, hS4, ?_⟩⟩
          simp only at h
          cases z : tt L1 S3 with
          | ok kb S4 =>
            rw [z] at h
            intro ro4 H4 v4 gr4 ex4 hS5 rv4
            obtain rfl : kb = v4 := rv4
            cases kb with
            | true =>
              rw [if_pos rfl]
              simp only at h
              refine ⟨ro4, L1, S4, RelL.mono gr4 ex4.tup hL4, hS5, ?_⟩
              cases y : em L1 S4 with
              | ok d5 S5 =>
                rw [y] at h
                intro ro5 H5 v5 gr5 ex5 hS6 rv5
                simp only at h
                split at h
                · rename_i acc ha
                  have hD5 : ro5[n]? = some D := gr5 _ _ (gr4 _ _ (gr' _ _ hDn))
                  obtain ⟨us, r5, q5⟩ := hS6.at hD5 ha
                  split at h
                  · rename_i hz
                    refine ⟨us, q5, by rw [← r5.length, ← sz_eq]; exact hz, ro5, S5.set n (.lst (acc ++ [d5])), gr'.trans (gr4.trans gr5), ?_, ?_, ?_⟩
                    · exact ex'.trans (ex2.trans (ex3.trans (ex4.trans (ex5.trans (.put q5 lst_tup lst_frz)))))
                    · exact hS6.put hD5 ha (fun z => z.elim) (fun z => z.elim) q5 ⟨us ++ [v5], RelDs.mono (.refl _) (.put q5 lst_tup) _ _ (r5.append (.cons rv5 .nil)), upd_same⟩ nu_lst
                    · exact Post.mono (gr4.trans gr5) (ex2.trans (ex3.trans (ex4.trans (ex5.trans (.put q5 lst_tup lst_frz))))) h
                  · exact h.elim
                · exact h.elim
              | exc x5 S5 => rw [y] at h; exact h.elim
              | err => rw [y] at h; exact h.elim
            | false =>
              rw [if_neg Bool.false_ne_true]
              exact ⟨ro4, S4, gr'.trans gr4, ex'.trans (ex2.trans (ex3.trans ex4)), hS5, Post.mono gr4 (ex2.trans (ex3.trans ex4)) h⟩
          | exc x4 S4 => rw [z] at h; exact h.elim
          | err => rw [z] at h; exact h.elim
        | exc x3 S3 => rw [q] at h; exact h.elim
        | err => rw [q] at h; exact h.elim
      · exact h.elim
    · have e : i = k.items.length := by omega
      subst e
      rw [List.drop_length] at h
      unfold lcL at h
      split at h
      · rename_i hk
        exact .inl ⟨(wk _ ro' S' H' gr1 ex1 hS' hk).2 rfl, h ro' H' _ (.refl _) (.refl _) hS' (.ref_mk (gr' _ _ hDn))⟩
      · exact h.elim
theorem se_lc {iter elt : Expr} {ifs : List Expr} {scope : Scope} {own : List (Str × Nat)} {w : WM} {t : TM} {tt : BM} {em : EM} [pt : PureT t] (hc : X.calm = true) (hN : X.N.Nodup) (hi : SI X g E tg iter w) (ok : BlkOk X.N X.env.scope scope own)
    (hg : ∀ (s : Shared) (H : Hp) (C : Addr) (cl : List (Str × Addr)) (fp : List Addr), SGw (X.blk s H scope (compEnvC scope cl C X.env) fp) g (own.map (·.2)) tg t) (ht : ∀ (s : Shared) (H : Hp) (C : Addr) (cl : List (Str × Addr)) (fp : List Addr), STs (X.blk s H scope (compEnvC scope cl C X.env) fp) g E0 ifs tt)
    (he : ∀ (s : Shared) (H : Hp) (C : Addr) (cl : List (Str × Addr)) (fp : List Addr), SE (X.blk s H scope (compEnvC scope cl C X.env) fp) g E0 elt em) (hs : ∀ x, foldedSetIterable iter X.env x = pure x := by intro _; rfl) :
    SE X g E (.ListComp elt [⟨tg, iter, ifs, 0⟩] scope pos) (eLc w t tt em (own.map (·.2))) :=
  ⟨pe_imp (pe_lc hc hN hi.run ok (fun s H C cl fp => (hg s H C cl fp).run) (fun s H C cl fp => (ht s H C cl fp).run) (fun s H C cl fp => (he s H C cl fp).run) hs) fun s H Q h => lc_rd (iter := iter) h⟩
end
end MP

namespace MP
open PySem L2 PySem.Spec PyProof.Rows
/-- the promise of a def that computes F -/
def spM (g : G) (F : Fn) : Sp := fun vs H Q E => ∃ (ro : List Addr) (S : Sto) (ds : List D), RelS g ro S H ∧ RelDs ro H ds vs ∧ Post RelD g E ro H Q (F ds S)
abbrev FOk (g : G) (k : Nat) (f : Addr) (fd : FuncData) (ps : List Str) (F : Fn) : Prop := FnOk g.P g.w g.K g.mg g.base (L2N.CX g.P g.w) k f fd ps (spM g F)
/-- the name x is a def that computes F -/
def Df (g : G) (k : Nat) (x : Str) (F : Fn) : Prop := ∃ (f : Addr) (fd : FuncData) (ps : List Str), FOk g k f fd ps F ∧ g.mg x = some (.ref f) ∧ PySem.W.keepIn g.K (.ref f) = true ∧ Binds g.K fd ps []
/-- a method m of the class c -/
def Me (g : G) (k : Nat) (c : Nat) (m : Str) (F : Fn) : Prop := ∃ (f : Addr) (fd : FuncData) (ps : List Str), FOk g k f fd ps F ∧ Cls g.K (g.cls c) ∧ Meth g.K (g.cls c) m f ∧ Binds g.K fd ps []
/-- the name x is the class c, its __init__ computes F -/
def Mi (g : G) (k : Nat) (x : Str) (c : Nat) (F : Fn) : Prop := ∃ (f : Addr) (fd : FuncData) (ps : List Str), FOk g k f fd ps F ∧ g.mg x = some (.ref (g.cls c)) ∧ Mk g.K (g.cls c) f ∧ Binds g.K fd ps []
section
variable {X : Cx} {g : G} {E : XK} {e o : Expr} {es : List Expr} {m mo : EM} {ms : AM} {pos p apos : Pos} {k : Nat} {x : Str} {F : Fn}
theorem passM (c : Ctx g E X) : Passes (L2N.CX X.prog X.w) X E := L2N.passes_call c.takes fun _ _ _ _ h => h
theorem FOk.at (c : Ctx g E X) {f : Addr} {fd : FuncData} {ps : List Str} (h : FOk g k f fd ps F) : FnOk X.prog X.w X.K X.mg X.base (L2N.CX X.prog X.w) k f fd ps (spM g F) := by
  rw [c.P, c.w, c.K, c.mg, c.base]
  exact h
/-- f(e, ..) -/
theorem se_call (c : Ctx g E X) (d : Df g k x F) (hr : Room k X.A) (hg : Gl X x) (ha : SA X g E (e :: es) ms) (hdb : (x == ("__debug__" : Str)) = false := by decide) (he : starEach (e :: es) X.env = (false, eval e X.env) :: starEach es X.env := by rfl)
    (hpl : (backTo pos (starEach es X.env)).any (·.1) = false := by rfl) : SE X g E (.Call (.Name x p) (e :: es) [] pos) (eCall F ms) := by
  obtain ⟨f, fd, ps, h, hm, hk, hb⟩ := d
  refine ⟨pe_imp (pe_call (h.at c) hr hg (by rw [c.mg]; exact hm) (by rw [c.K]; exact hk) (by rw [c.K]; exact hb) .nil (passM c) ha.run hdb he hpl) fun s H Q ⟨ro, L, S, hL, hS, h⟩ => ?_⟩
  refine ⟨ro, L, S, hL, hS, Post.bind h fun ds S1 ro1 H1 vs gr ex hS1 rv h => ⟨ro1, S1, ds, hS1, by rw [List.append_nil]; exact rv, h⟩⟩
theorem se_call0 (c : Ctx g E X) (d : Df g k x F) (hr : Room k X.A) (hg : Gl X x) (hdb : (x == ("__debug__" : Str)) = false := by decide) : SE X g E (.Call (.Name x p) [] [] pos) (eCall F aNil) := by
  obtain ⟨f, fd, ps, h, hm, hk, hb⟩ := d
  exact ⟨pe_imp (pe_call0 (h.at c) hr hg (by rw [c.mg]; exact hm) (by rw [c.K]; exact hk) (by rw [c.K]; exact hb) .nil (passM c) hdb) fun s H Q ⟨ro, L, S, hL, hS, h⟩ => ⟨ro, S, [], hS, .nil, h⟩⟩
theorem fget_rel {ro : List Addr} {H : Hp} {f : Nat} : ∀ {fs : List (Nat × D)} {ws : List (Str × V)}, RelF g ro H fs ws → (∀ d, fget f fs = some d → ∃ v, ws.lookup (g.fname f) = some v ∧ RelD ro H d v) ∧ (fget f fs = none → ws.lookup (g.fname f) = none)
  | _, _, .nil => ⟨fun d h => by simp [fget] at h, fun _ => rfl⟩
  | (n, d) :: fs, (y, v) :: ws, .cons ⟨h1, h2⟩ t => by
    have h1 : y = g.fname n := h1
    subst h1
    obtain ⟨i1, i2⟩ := fget_rel t
    unfold fget
    by_cases q : f = n
    · subst q
      rw [if_pos rfl]
      refine ⟨fun d' e => ?_, fun e => by cases e⟩
      cases e
      exact ⟨v, by simp [List.lookup], h2⟩
    · rw [if_neg q]
      have z : (g.fname f == g.fname n) = false := by simpa using fun w => q (g.finj _ _ w)
      have l : ∀ r, ws.lookup (g.fname f) = r → List.lookup (g.fname f) ((g.fname n, v) :: ws) = r := fun r e => by simp [List.lookup, z, e]
      exact ⟨fun d' e => let ⟨v', a, b⟩ := i1 d' e; ⟨v', l _ a, b⟩, fun e => l _ (i2 e)⟩
theorem fput_rel {ro : List Addr} {H : Hp} {f : Nat} {d : D} {v : V} (r : RelD ro H d v) : ∀ {fs : List (Nat × D)} {ws : List (Str × V)}, RelF g ro H fs ws → RelF g ro H (fput f d fs) (putF (g.fname f) v ws)
  | _, _, .nil => .cons ⟨rfl, r⟩ .nil
  | (n, d') :: fs, (y, v') :: ws, .cons ⟨h1, h2⟩ t => by
    have h1 : y = g.fname n := h1
    subst h1
    unfold fput putF
    by_cases q : n = f
    · subst q
      rw [if_pos rfl, if_pos rfl]
      exact .cons ⟨rfl, r⟩ t
    · rw [if_neg q, if_neg fun w => q (g.finj _ _ w)]
      exact .cons ⟨rfl, h2⟩ (fput_rel r t)
theorem RelF.len {ro : List Addr} {H : Hp} : ∀ {fs : List (Nat × D)} {ws : List (Str × V)}, RelF g ro H fs ws → fs.length = ws.length
  | _, _, .nil => rfl
  | _, _, .cons _ t => by simp only [List.length_cons, RelF.len t]
/-- o.m(..) -/
theorem se_meth {c mi : Nat} {mn : Str} (cx : Ctx g E X) (d : Me g k c mn F) (hr : Room k X.A) (hmn : mn = g.fname mi) (ho : SE X g E o mo) (ha : SA X g E (e :: es) ms) {pl : Sem Bool}
    (hst : starEach (e :: es) X.env = (false, eval e X.env) :: starEach es X.env := by rfl) (hpl : (backTo pos (starEach es X.env)).any (·.1) = false := by rfl)
    (ht : eval (.Call (.Attribute o mn apos) (e :: es) [] pos) X.env = (do
      let ov ← eval o X.env
      standAt apos.atName
      let (f, first) ← holding [ov] (getMethod ov mn pl)
      callWith pos f first (backTo pos (starEach (e :: es) X.env)) (backToKw pos (keywordEach [] X.env))) := by rfl) :
    SE X g E (.Call (.Attribute o mn apos) (e :: es) [] pos) (eMeth c mi F mo ms) := by
  obtain ⟨f, fd, ps, h, hc, hm, hb⟩ := d
  refine ⟨pe_imp (pe_meth ho.run (by rw [cx.K]; exact hc) (by rw [cx.K]; exact hm) (h.at cx) hr (by rw [cx.K]; exact hb) .nil (passM cx) ha.run hst hpl ht) fun s H Q ⟨ro, L, S, hL, hS, h⟩ => ?_⟩
  refine ⟨ro, L, S, hL, hS, Post.bind h fun d S1 ro1 H1 v gr ex hS1 rv w => ?_⟩
  clear h
  cases d with
  | ref n =>
    obtain ⟨a, ha, rfl⟩ := rv.ref_inv
    simp only at w
    split at w
    · rename_i c' fs e1
      split at w
      · rename_i hc'
        obtain ⟨rfl, hf⟩ := hc'
        obtain ⟨dx, ws, r, q⟩ := hS1.at ha e1
        refine ⟨a, dx, ws, rfl, q, by rw [hmn]; exact (fget_rel r).2 hf, ro1, L, S1, hL.mono gr ex, hS1, Post.bind w fun ds S2 ro2 H2 vs gr2 ex2 hS2 rv2 w => ?_⟩
        exact ⟨ro2, S2, .ref n :: ds, hS2, .cons (.ref_mk (gr2 _ _ ha)) (by rw [List.append_nil]; exact rv2), w⟩
      · exact w.elim
    · exact w.elim
  | _ => exact w.elim
theorem se_meth0 {c mi : Nat} {mn : Str} (cx : Ctx g E X) (d : Me g k c mn F) (hr : Room k X.A) (hmn : mn = g.fname mi) (ho : SE X g E o mo) {pl : Sem Bool}
    (ht : eval (.Call (.Attribute o mn apos) [] [] pos) X.env = (do
      let ov ← eval o X.env
      standAt apos.atName
      let (f, first) ← holding [ov] (getMethod ov mn pl)
      callWith pos f first (backTo pos (starEach [] X.env)) (backToKw pos (keywordEach [] X.env))) := by rfl) :
    SE X g E (.Call (.Attribute o mn apos) [] [] pos) (eMeth c mi F mo aNil) := by
  obtain ⟨f, fd, ps, h, hc, hm, hb⟩ := d
  refine ⟨pe_imp (pe_meth0 ho.run (by rw [cx.K]; exact hc) (by rw [cx.K]; exact hm) (h.at cx) hr (by rw [cx.K]; exact hb) .nil (passM cx) ht) fun s H Q ⟨ro, L, S, hL, hS, h⟩ => ?_⟩
  refine ⟨ro, L, S, hL, hS, Post.bind h fun d S1 ro1 H1 v gr ex hS1 rv w => ?_⟩
  clear h
  cases d with
  | ref n =>
    obtain ⟨a, ha, rfl⟩ := rv.ref_inv
    simp only at w
    split at w
    · rename_i c' fs e1
      split at w
      · rename_i hc'
        obtain ⟨rfl, hf⟩ := hc'
        obtain ⟨dx, ws, r, q⟩ := hS1.at ha e1
        exact ⟨a, dx, ws, rfl, q, by rw [hmn]; exact (fget_rel r).2 hf, ro1, S1, [.ref n], hS1, .cons (.ref_mk ha) .nil, w⟩
      · exact w.elim
    · exact w.elim
  | _ => exact w.elim
/-- what is wanted behind C(..) -/
theorem make_rd {c : Nat} {ro : List Addr} {H : Hp} {S : Sto} {ds : List D} {vs : List V} {Q : VK} (hS : RelS g ro S H) (rv : RelDs ro H ds vs)
    (h : Post RelD g E ro H Q ((F (.ref S.length :: ds) (S ++ [.ins c []])).bind fun v S2 => if v = .non then .ok (.ref S.length) S2 else .err)) (y dx : Addr) (hy : H y = none) (hdx : H dx = none) (ne : dx ≠ y) :
    spM g F (.ref y :: vs) (upd (upd H dx (.own y)) y (.ins (g.cls c) dx [])) (fun v H2 => v = .non ∧ Q (.ref y) H2) E := by
  have hS1 : RelS g ro S (upd H dx (.own y)) := hS.aside hdx
  have hy1 : upd H dx (.own y) y = none := by rw [upd_ne (Ne.symm ne)]; exact hy
  have hS2 : RelS g (ro ++ [y]) (S ++ [.ins c []]) (upd (upd H dx (.own y)) y (.ins (g.cls c) dx [])) := hS1.push hy1 ⟨dx, [], .nil, upd_same⟩
  have ex : Ext H (upd (upd H dx (.own y)) y (.ins (g.cls c) dx [])) := (Ext.new hdx).trans (.new hy1)
  have hat : (ro ++ [y])[S.length]? = some y := by rw [← hS.len, List.getElem?_append_right (Nat.le_refl _), Nat.sub_self] <;> rfl
  refine ⟨ro ++ [y], _, _, hS2, .cons (.ref_mk hat) (RelDs.mono (.snoc _ _) ex.tup _ _ rv), Post.bind (Post.mono (.snoc _ _) ex h) fun d S3 ro3 H3 v gr3 ex3 hS3 rv3 h => ?_⟩
  split at h
  · rename_i e
    subst e
    exact ⟨rv3.non_inv, h ro3 H3 _ (.refl _) (.refl _) hS3 (.ref_mk (gr3 _ _ hat))⟩
  · exact h.elim
theorem se_make {c : Nat} (cx : Ctx g E X) (d : Mi g k x c F) (hr : Room (k + 1) X.A) (hg : Gl X x) (ha : SA X g E (e :: es) ms) (hdb : (x == ("__debug__" : Str)) = false := by decide) (he : starEach (e :: es) X.env = (false, eval e X.env) :: starEach es X.env := by rfl)
    (hpl : (backTo pos (starEach es X.env)).any (·.1) = false := by rfl) : SE X g E (.Call (.Name x p) (e :: es) [] pos) (eMake c F ms) := by
  obtain ⟨f, fd, ps, h, hm, hk, hb⟩ := d
  refine ⟨pe_imp (pe_make (by rw [cx.K]; exact hk) (h.at cx) hr hg (by rw [cx.mg]; exact hm) (by rw [cx.K]; exact hb) .nil (passM cx) ha.run hdb he hpl) fun s H Q ⟨ro, L, S, hL, hS, h⟩ => ?_⟩
  refine ⟨ro, L, S, hL, hS, Post.bind h fun ds S1 ro1 H1 vs gr ex hS1 rv h => ?_⟩
  intro y dx hy hdx ne
  rw [List.append_nil]
  exact make_rd hS1 rv h y dx hy hdx ne
theorem se_make0 {c : Nat} (cx : Ctx g E X) (d : Mi g k x c F) (hr : Room (k + 1) X.A) (hg : Gl X x) (hdb : (x == ("__debug__" : Str)) = false := by decide) : SE X g E (.Call (.Name x p) [] [] pos) (eMake c F aNil) := by
  obtain ⟨f, fd, ps, h, hm, hk, hb⟩ := d
  refine ⟨pe_imp (pe_make0 (by rw [cx.K]; exact hk) (h.at cx) hr hg (by rw [cx.mg]; exact hm) (by rw [cx.K]; exact hb) .nil (passM cx) hdb) fun s H Q ⟨ro, L, S, hL, hS, h⟩ => ?_⟩
  intro y dx hy hdx ne
  exact make_rd hS .nil h y dx hy hdx ne

/-! ### fields -/
theorem se_fld {c fi : Nat} {f : Str} (cx : Ctx g E X) (hf : f = g.fname fi) (hc : Cls g.K (g.cls c)) (hn : NoAttr g.K (g.cls c) f) (ho : SE X g E o mo) (hb : attributeBase o f X.env (eval o X.env) = eval o X.env := by rfl) : SE X g E (.Attribute o f pos) (eUn (opFld c fi) mo) :=
  ⟨pe_imp (pe_fld ho.run hb) fun s H Q ⟨ro, L, S, hL, hS, h⟩ => by
    refine ⟨ro, L, S, hL, hS, Post.bind h fun d S1 ro1 H1 v gr ex hS1 rv w => ?_⟩
    clear h
    cases d with
    | ref n =>
      obtain ⟨a, ha, rfl⟩ := rv.ref_inv
      simp only [opFld] at w
      split at w
      · rename_i c' fs e1
        split at w
        · rename_i hc'
          subst hc'
          obtain ⟨dx, ws, r, q⟩ := hS1.at ha e1
          split at w
          · rename_i d2 e2
            obtain ⟨v, l, r2⟩ := (fget_rel r).1 _ e2
            exact ⟨a, _, dx, ws, v, rfl, q, by rw [cx.K]; exact hc, by rw [cx.K]; exact hn, by rw [hf]; exact l, w ro1 H1 v (.refl _) (.refl _) hS1 r2⟩
          · exact w.elim
        · exact w.elim
      · exact w.elim
    | _ => exact w.elim⟩
theorem ss_fld {c fi : Nat} {f : Str} {pos' : Pos} (cx : Ctx g E X) (hf : f = g.fname fi) (hc : Cls g.K (g.cls c)) (hn : NoAttr g.K (g.cls c) f) (ho : SE X g E o mo) (he : SE X g E e m) (hs : swapsWith e (some (.Attribute o f pos')) pos.line X.env = pure false := by rfl) :
    SS X g E (.Assign [.Attribute o f pos'] e pos) (sAsg m (gFld c fi mo)) := ⟨ps_imp (ps_fld ho.run he.run hs) fun D s H ⟨ro, L, S, hL, hS, h⟩ => by
  refine ⟨ro, L, S, hL, hS, PostS.st h fun d S1 ro1 H1 v gr ex hS1 rv w => ?_⟩
  clear h
  refine ⟨ro1, L, S1, hL.mono gr ex, hS1, ?_⟩
  unfold gFld at w
  cases z : mo L S1 with
  | ok d2 S2 =>
    rw [z] at w
    simp only [R.bind_ok] at w
    intro ro2 H2 v2 gr2 ex2 hS2 rv2
    cases d2 with
    | ref n =>
      obtain ⟨a, ha, rfl⟩ := rv2.ref_inv
      simp only at w
      cases e1 : S2[n]? with
      | none => rw [e1] at w; exact w.elim
      | some ob =>
        rw [e1] at w
        cases ob with
        | ins c' fs =>
          simp only at w
          by_cases hc' : c' = c ∧ fs.length < 1000
          · rw [if_pos hc'] at w
            obtain ⟨rfl, hz⟩ := hc'
            obtain ⟨dx, ws, r, q⟩ := hS2.at ha e1
            refine ⟨a, _, dx, ws, rfl, q, by rw [cx.K]; exact hc, by rw [cx.K]; exact hn, by rw [← r.len]; exact hz, ?_⟩
            have ex3 : Ext H2 (upd H2 a (.ins (g.cls c') dx (putF f v ws))) := .put q ins_tup ins_frz
            have up := RelD.mono gr2 ex2.tup _ _ rv
            refine w ro2 _ s gr2 (ex2.trans ex3) (hS2.put ha e1 (fun z => z.elim) (fun z => z.elim) q ⟨dx, _, ?_, upd_same⟩ nu_ins) (RelL.mono gr2 (ex2.trans ex3).tup (RelL.mono gr ex.tup hL))
            rw [hf] at ex3 ⊢
            exact RelF.mono (.refl _) ex3.tup (fput_rel up r)
          · rw [if_neg hc'] at w; exact w.elim
        | _ => exact w.elim
    | _ => exact w.elim
  | exc x S2 => rw [z] at w; exact w.elim
  | err => rw [z] at w; exact w.elim⟩

/-! ### a def by its body -/
theorem df_body {y qual : Str} {st : Stmt} {f : Addr} {fd : FuncData} {N ps : List Str} {body : SM} (fn : Fun g.K y qual st f fd) (S : FnScope N ps (defScope st))
    (hb : ∀ (X : Cx) (E : XK), (∃ (cdv : Value) (A : Around) (outer : List Env) (s : Shared) (H : Hp), Room k (A.deeper (envOfC qual (defScope st) s.heap.objs.size f cdv)) ∧ X = cxOf (L2N.CX g.P g.w) g.P g.w g.K g.mg g.base N qual (defScope st) f cdv A outer s H E) → SSs X g E (defBody st) body) :
    FOk g (k + 1) f fd ps (MP.fn ps.length N.length body) := by
  obtain ⟨oc, od, kV, doc, pm, an, cdv, ct, osl, rfl, lk, hcd⟩ := fn.ex
  refine fn_of lk hcd S (fun vs H Q E ⟨ro, S, ds, hS, rv, h⟩ => ?_) fun A outer s H vs Q E hr ⟨ro, S', ds, hS, rv, h⟩ => ⟨_, (hb _ E ⟨cdv, A, outer, s, H, hr, rfl⟩).run, ?_⟩
  · unfold MP.fn at h
    split at h
    · rename_i e
      rw [← rv.length, e]
    · exact h.elim
  · unfold MP.fn at h
    split at h
    · rename_i e
      rw [← e] at h
      refine ⟨ro, _, S', RelL.start N rv, hS, ?_⟩
      cases z : body (ds.map some ++ List.replicate (N.length - ds.length) none) S' with
      | nx L1 S1 => rw [z] at h; exact fun ro' H' s' gr ex R r => h ro' H' _ gr ex R .non_mk
      | rt d S1 => rw [z] at h; exact h
      | exc x L1 S1 => rw [z] at h; exact h
      | bk L1 S1 => rw [z] at h; exact h.elim
      | ct L1 S1 => rw [z] at h; exact h.elim
      | err => rw [z] at h; exact h.elim
    · exact h.elim
/-- the context of a def's body -/
theorem ctx_of {cdv : Value} {A : Around} {outer : List Env} {s : Shared} {H : Hp} {N : List Str} {qual : Str} {sc : Scope} {f : Addr} (hr : Room k (A.deeper (envOfC qual sc s.heap.objs.size f cdv))) :
    Ctx g E (cxOf (L2N.CX g.P g.w) g.P g.w g.K g.mg g.base N qual sc f cdv A outer s H E) := ⟨rfl, rfl, rfl, rfl, rfl, L2N.takes_of rfl rfl rfl rfl, by have := hr.un; show (A.deeper _).units + 66 < cLine; omega⟩
theorem own_of {cdv : Value} {A : Around} {outer : List Env} {s : Shared} {H : Hp} {N : List Str} {qual : Str} {sc : Scope} {f : Addr} :
    PassesOwn (model (cxOf (L2N.CX g.P g.w) g.P g.w g.K g.mg g.base N qual sc f cdv A outer s H E).prog (cxOf (L2N.CX g.P g.w) g.P g.w g.K g.mg g.base N qual sc f cdv A outer s H E).w) (cxOf (L2N.CX g.P g.w) g.P g.w g.K g.mg g.base N qual sc f cdv A outer s H E).A
      (cxOf (L2N.CX g.P g.w) g.P g.w g.K g.mg g.base N qual sc f cdv A outer s H E).env (cxOf (L2N.CX g.P g.w) g.P g.w g.K g.mg g.base N qual sc f cdv A outer s H E).xe := passes_of (K := fun e s' => L2N.CX g.P g.w outer H s E e s') rfl
/-- .. of a comprehension's block -/
theorem ctx_blk {s : Shared} {H : Hp} {scope : Scope} {cenv : Env} {fp : List Addr} (c : Ctx g E X) : Ctx g E0 (X.blk s H scope cenv fp) := ⟨c.P, c.w, c.K, c.mg, c.base, fun u s' x => by
  obtain ⟨_, _, _, _, _, _, _, _, _, _, _, _, _, _, _, _, z⟩ := x
  exact z.elim, c.units⟩
end
end MP

namespace MP
open PySem L2
section
variable {X : Cx} {g : G} {E : XK} {a b e c : Expr} {m ma mb : EM} {pos : Pos}
theorem o_ints {k : Value → Value → Sem Value} {f : Op2} (h : ∀ (i j : Int) (S : Sto) (pins : List (Addr × Obj)) (s : Shared) (σ : St) (H : Hp) (v u : Value) (Q : VK) (ro : List Addr), Inv X pins σ H s → RelV (.int i) v → RelV (.int j) u → RelS g ro S H → Post RelD g E ro H Q (f (.int i) (.int j) S) →
      wpAny (model X.prog X.w) X.A (k v u) (EP X pins σ Q) X.xe s) (hf : ∀ dx dy S, (∀ i j, ¬ (dx = .int i ∧ dy = .int j)) → f dx dy S = .err) : O2 X g E k f := by
  intro pins s σ H x y v u Q I rx ry ⟨ro, S, dx, dy, hS, r1, r2, w⟩
  by_cases q : ∃ i j, dx = .int i ∧ dy = .int j
  · obtain ⟨i, j, rfl, rfl⟩ := q
    rw [r1.int_inv] at rx
    rw [r2.int_inv] at ry
    exact h i j S pins s σ H v u Q ro I rx ry hS w
  · rw [hf dx dy S fun i j z => q ⟨i, j, z⟩] at w
    exact w.elim
theorem o_cmp {k : Value → Value → Sem Value} {p : Int → Int → Bool} (h : OpR X k (rI0 fun i j => .bl (p i j))) : O2 X g E k (opCmp p) :=
  o_ints (fun i j S pins s σ H v u Q ro I rx ry hS w => h pins s σ H _ _ v u Q I rx ry ⟨i, j, rfl, rfl, w ro H _ (.refl _) (.refl _) hS .bl_mk⟩) fun dx dy S q => by
    unfold opCmp
    split
    · exact (q _ _ ⟨rfl, rfl⟩).elim
    · rfl
theorem o_lt : O2 X g E (compareOp .Lt) opLt := o_cmp op_lt
theorem o_le : O2 X g E (compareOp .LtE) opLe := o_cmp op_le
theorem o_gt : O2 X g E (compareOp .Gt) opGt := o_cmp op_gt
theorem o_ge : O2 X g E (compareOp .GtE) opGe := o_cmp op_ge
theorem o_sub : O2 X g E (binaryOp .Sub) opSub :=
  o_ints (fun i j S pins s σ H v u Q ro I rx ry hS w => op_sub pins s σ H _ _ v u Q I rx ry ⟨i, j, rfl, rfl, w ro H _ (.refl _) (.refl _) hS .int_mk⟩) fun dx dy S q => by
    unfold opSub
    split
    · exact (q _ _ ⟨rfl, rfl⟩).elim
    · rfl
theorem o_mod : O2 X g E (binaryOp .Mod) opMod :=
  o_ints (fun i j S pins s σ H v u Q ro I rx ry hS w => by
    simp only [opMod] at w
    split at w
    · rename_i hj
      exact op_mod pins s σ H _ _ v u Q I rx ry ⟨i, j, rfl, rfl, hj, w ro H _ (.refl _) (.refl _) hS .int_mk⟩
    · exact w.elim) fun dx dy S q => by
    unfold opMod
    split
    · exact (q _ _ ⟨rfl, rfl⟩).elim
    · rfl
theorem o_div : O2 X g E (binaryOp .FloorDiv) opDiv :=
  o_ints (fun i j S pins s σ H v u Q ro I rx ry hS w => by
    simp only [opDiv] at w
    split at w
    · rename_i hj
      have z : j.natAbs < 2 ^ 200 := by
        have h1 := hj.1
        have h2 := hj.2
        omega
      exact op_fdivW pins s σ H _ _ v u Q I rx ry ⟨i, j, rfl, rfl, wide_div hj.1 z (by decide) (by decide), w ro H _ (.refl _) (.refl _) hS .int_mk⟩
    · exact w.elim) fun dx dy S q => by
    unfold opDiv
    split
    · exact (q _ _ ⟨rfl, rfl⟩).elim
    · rfl
theorem o_pow : O2 X g E (binaryOp .Pow) opPow :=
  o_ints (fun i j S pins s σ H v u Q ro I rx ry hS w => by
    simp only [opPow] at w
    split at w
    · rename_i hj
      exact op_pow pins s σ H _ _ v u Q I rx ry ⟨i, j, rfl, rfl, hj, w ro H _ (.refl _) (.refl _) hS .int_mk⟩
    · exact w.elim) fun dx dy S q => by
    unfold opPow
    split
    · exact (q _ _ ⟨rfl, rfl⟩).elim
    · rfl
theorem okS_app {x y : List Nat} (h1 : ∀ c ∈ x, c < 0x110000) (h2 : ∀ c ∈ y, c < 0x110000) : ∀ c ∈ x ++ y, c < 0x110000 := fun c hc => (List.mem_append.mp hc).elim (h1 c) (h2 c)
theorem str_len (x : List Nat) : (⟨x.toArray⟩ : Str).length = x.length := SX.S_len x
theorem o_add (cx : Ctx g E X) : O2 X g E (binaryOp .Add) opAdd := by
  intro pins s σ H x y v u Q I rx ry ⟨ro, S, dx, dy, hS, r1, r2, w⟩
  cases dx with
  | int i =>
    cases dy with
    | int j => exact op_add pins s σ H x y v u Q I rx ry ⟨i, j, r1.int_inv, r2.int_inv, w ro H _ (.refl _) (.refl _) hS .int_mk⟩
    | _ => exact w.elim
  | str i =>
    cases dy with
    | str j =>
      simp only [opAdd] at w
      split at w
      · rename_i hz
        obtain ⟨e1, k1⟩ := r1.str_inv
        obtain ⟨e2, k2⟩ := r2.str_inv
        refine op_add_str pins s σ H x y v u Q I rx ry ⟨_, _, e1, e2, by rw [str_len, str_len, ← sz_eq]; exact hz, ?_⟩
        have q := w ro H _ (.refl _) (.refl _) hS (.str_mk (okS_app k1 k2))
        rw [SX.S_cat]
        exact q
      · exact w.elim
    | _ => exact w.elim
  | tup i =>
    cases dy with
    | tup j =>
      simp only [opAdd] at w
      split at w
      · rename_i hz
        obtain ⟨p1, xs, e1, h1, q1⟩ := r1.tup_inv
        obtain ⟨p2, ys, e2, h2, q2⟩ := r2.tup_inv
        refine op_catA pins s σ H x y v u Q I rx ry ⟨p1, p2, xs, ys, e1, e2, SqT.of h1, SqT.of h2, by rw [← q1.length, ← q2.length, ← sz_eq]; exact hz, fun z => ?_, fun _ z => ?_, fun _ _ p hp => ?_⟩
        · subst z
          have : i = [] := List.length_eq_zero_iff.mp (by rw [q1.length]; rfl)
          subst this
          exact w ro H _ (.refl _) (.refl _) hS (.tup_mk h2 q2)
        · subst z
          have : j = [] := List.length_eq_zero_iff.mp (by rw [q2.length]; rfl)
          subst this
          rw [List.append_nil] at w
          exact w ro H _ (.refl _) (.refl _) hS (.tup_mk h1 q1)
        · exact w ro _ _ (.refl _) (.new hp) (hS.aside hp) (.tup_mk upd_same (RelDs.mono (.refl _) (.new hp) _ _ (q1.append q2)))
      · exact w.elim
    | _ => exact w.elim
  | ref i =>
    cases dy with
    | ref j =>
      obtain ⟨p1, h1, e1⟩ := r1.ref_inv
      obtain ⟨p2, h2, e2⟩ := r2.ref_inv
      simp only [opAdd] at w
      split at w
      · rename_i xs ys z1 z2
        split at w
        · rename_i hz
          obtain ⟨vs1, q1, t1⟩ := hS.at h1 z1
          obtain ⟨vs2, q2, t2⟩ := hS.at h2 z2
          refine op_cat pins s σ H x y v u Q I rx ry ⟨p1, p2, vs1, vs2, e1, e2, t1, t2, by rw [← q1.length, ← q2.length, ← sz_eq]; exact hz, fun p hp => ?_⟩
          exact w.push hS hp ⟨_, RelDs.mono (.snoc _ _) (.new hp) _ _ (q1.append q2), upd_same⟩
        · exact w.elim
      · exact w.elim
    | _ => exact w.elim
  | _ => cases dy <;> exact w.elim
theorem mulOk_ok {i j : Int} (h : mulOk i j = true) : IntMulOk i j := by
  unfold mulOk at h
  simp only [Bool.or_eq_true, Bool.and_eq_true, decide_eq_true_eq] at h
  rcases h with (⟨h1, h2⟩ | ⟨h1, h2⟩) | ⟨h1, h2⟩
  · exact CMul.ok (.inl ⟨h1, h2⟩)
  · exact CMul.ok (.inr ⟨h1, h2⟩)
  · exact CMulW.ok (wide_mul h1 h2 (by decide) (by decide) (by decide))
theorem flat_rep {ro : List Addr} {H : Hp} {ds : List D} {vs : List V} (h : RelDs ro H ds vs) : ∀ n : Nat, RelDs ro H (List.replicate n ds).flatten (List.replicate n vs).flatten
  | 0 => .nil
  | n + 1 => by
    rw [List.replicate_succ, List.replicate_succ, List.flatten_cons, List.flatten_cons]
    exact h.append (flat_rep h n)
theorem o_mul (cx : Ctx g E X) : O2 X g E (binaryOp .Mult) opMul := by
  intro pins s σ H x y v u Q I rx ry ⟨ro, S, dx, dy, hS, r1, r2, w⟩
  cases dx with
  | int i =>
    cases dy with
    | int j =>
      simp only [opMul] at w
      split at w
      · rename_i hz
        rw [r1.int_inv] at rx
        rw [r2.int_inv] at ry
        obtain ⟨t, rfl⟩ := rx
        obtain ⟨t', rfl⟩ := ry
        exact PyProof.Rows.mul_int ⟨.int (i * j), H, I.tok _, ⟨_, rfl⟩, w ro H _ (.refl _) (.refl _) hS .int_mk⟩ (mulOk_ok hz)
      · exact w.elim
    | _ => exact w.elim
  | tup i =>
    cases dy with
    | int k =>
      simp only [opMul] at w
      split at w
      · rename_i hz
        obtain ⟨p1, xs, e1, h1, q1⟩ := r1.tup_inv
        refine op_repT pins s σ H x y v u Q I rx ry ⟨p1, k, xs, e1, r2.int_inv, SqT.of h1, fun z => hz.1 (List.length_eq_zero_iff.mp (by rw [q1.length, z]; rfl)), hz.2.1, hz.2.2.1, by rw [← q1.length]; exact hz.2.2.2, fun p hp => ?_⟩
        exact w ro _ _ (.refl _) (.new hp) (hS.aside hp) (.tup_mk upd_same (RelDs.mono (.refl _) (.new hp) _ _ (flat_rep q1 _)))
      · exact w.elim
    | _ => exact w.elim
  | ref n =>
    cases dy with
    | int k =>
      obtain ⟨p1, h1, e1⟩ := r1.ref_inv
      simp only [opMul] at w
      split at w
      · rename_i xs z1
        split at w
        · rename_i hz
          obtain ⟨vs1, q1, t1⟩ := hS.at h1 z1
          refine op_rep pins s σ H x y v u Q I rx ry ⟨p1, k, vs1, e1, r2.int_inv, t1, hz.1, hz.2.1, by rw [← q1.length, ← sz_eq]; exact hz.2.2, fun p hp => ?_⟩
          exact w.push hS hp ⟨_, RelDs.mono (.snoc _ _) (.new hp) _ _ (flat_rep q1 _), upd_same⟩
        · exact w.elim
      · exact w.elim
    | _ => exact w.elim
  | _ => cases dy <;> exact w.elim

/-! ### data compared -/
theorem reify_dp {ro : List Addr} {S : Sto} {H : Hp} (hS : RelS g ro S H) : ∀ (n : Nat) (d : D) (v : V) (p : PyData), RelD ro H d v → reify n S d = some p → Dp g.K H v p ∧ p.canLay0 = true ∧ p.depth ≤ n := by
  have str : ∀ (n : Nat) (x : List Nat) (v : V) (p : PyData), RelD ro H (.str x) v → p = .str ⟨x.toArray⟩ → Dp g.K H v p ∧ p.canLay0 = true ∧ p.depth ≤ n := by
    intro n x v p r e
    subst e
    obtain ⟨e, k⟩ := r.str_inv
    subst e
    refine ⟨.str _, ?_, Nat.zero_le _⟩
    simp only [PyData.canLay0, PyData.strOk]
    rw [Array.all_eq_true']
    intro c hc
    simpa using k c (by simpa using hc)
  intro n
  induction n with
  | zero =>
    intro d v p r e
    cases d with
    | non => cases e; rw [r.non_inv]; exact ⟨.non, rfl, Nat.le_refl _⟩
    | bl b => cases e; rw [r.bl_inv]; exact ⟨.bl b, rfl, Nat.le_refl _⟩
    | int b => cases e; rw [r.int_inv]; exact ⟨.int b, rfl, Nat.le_refl _⟩
    | str x => exact str 0 x v p r (by simpa [reify] using e.symm)
    | _ => simp [reify] at e
  | succ n ih =>
    have all : ∀ (ds : List D) (vs : List V) (ps : List PyData), RelDs ro H ds vs → ds.mapM (reify n S) = some ps → DpAll g.K H vs ps ∧ PyData.canLayAll0 ps = true ∧ PyData.depthAll ps ≤ n := by
      intro ds
      induction ds with
      | nil =>
        intro vs ps r e
        rw [List.mapM_nil] at e
        cases e
        rw [r.inv0]
        exact ⟨.nil, rfl, Nat.zero_le _⟩
      | cons d ds ihd =>
        intro vs ps r e
        rw [List.mapM_cons] at e
        obtain ⟨x, us, rfl, r1, r2⟩ := r.inv
        cases h1 : reify n S d with
        | none => rw [h1] at e; cases e
        | some p =>
          cases h2 : ds.mapM (reify n S) with
          | none => rw [h1, h2] at e; cases e
          | some qs =>
            rw [h1, h2] at e
            cases e
            obtain ⟨a1, a2, a3⟩ := ih d x p r1 h1
            obtain ⟨b1, b2, b3⟩ := ihd us qs r2 h2
            refine ⟨.cons a1 b1, ?_, ?_⟩
            · simp only [PyData.canLayAll0, a2, b2, Bool.and_self]
            · simp only [PyData.depthAll]
              omega
    intro d v p r e
    cases d with
    | non => cases e; rw [r.non_inv]; exact ⟨.non, rfl, Nat.zero_le _⟩
    | bl b => cases e; rw [r.bl_inv]; exact ⟨.bl b, rfl, Nat.zero_le _⟩
    | int b => cases e; rw [r.int_inv]; exact ⟨.int b, rfl, Nat.zero_le _⟩
    | str x => exact str (n + 1) x v p r (by simpa [reify] using e.symm)
    | tup ds =>
      obtain ⟨a, vs, rfl, ha, rr⟩ := r.tup_inv
      simp only [reify] at e
      cases h1 : ds.mapM (reify n S) with
      | none => rw [h1] at e; cases e
      | some ps =>
        rw [h1] at e
        cases e
        obtain ⟨b1, b2, b3⟩ := all ds vs ps rr h1
        refine ⟨.tup (SqT.of ha) b1, b2, ?_⟩
        simp only [PyData.depth]
        omega
    | ref k =>
      obtain ⟨a, ha, rfl⟩ := r.ref_inv
      simp only [reify] at e
      have go : ∀ (xs : List D) (vs : List V), SqL g.K H a vs → RelDs ro H xs vs → (xs.mapM (reify n S)).map PyData.list = some p → Dp g.K H (.ref a) p ∧ p.canLay0 = true ∧ p.depth ≤ n + 1 := by
        intro xs vs hs rr e
        cases h1 : xs.mapM (reify n S) with
        | none => rw [h1] at e; cases e
        | some ps =>
          rw [h1] at e
          cases e
          obtain ⟨b1, b2, b3⟩ := all xs vs ps rr h1
          refine ⟨.lst hs b1, b2, ?_⟩
          simp only [PyData.depth]
          omega
      split at e
      · rename_i xs z
        obtain ⟨vs, q, t⟩ := hS.at ha z
        exact go xs vs (SqL.of t) q e
      · rename_i xs z
        obtain ⟨vs, q, t⟩ := hS.at ha z
        exact go xs vs t.sq q e
      · cases e
    | exn _ _ => simp [reify] at e
theorem shaped_of {p : PyData} (h1 : p.canLay0 = true) (h2 : p.depth ≤ 60) : SeqAt.shaped p = true := by
  unfold SeqAt.shaped
  rw [h1, decide_eq_true (by omega : p.depth ≤ 64)]
  rfl
theorem o_eq (cx : Ctx g E X) : O2 X g E (compareOp .Eq) opEq := by
  intro pins s σ H x y v u Q I rx ry ⟨ro, S, dx, dy, hS, r1, r2, w⟩
  unfold opEq at w
  split at w
  · rename_i p q h1 h2
    obtain ⟨a1, a2, a3⟩ := reify_dp hS 60 dx x p r1 h1
    obtain ⟨b1, b2, b3⟩ := reify_dp hS 60 dy y q r2 h2
    exact op_eqD (by have := cx.units; omega) pins s σ H x y v u Q I rx ry ⟨p, q, by rw [cx.K]; exact a1, by rw [cx.K]; exact b1, shaped_of a2 a3, shaped_of b2 b3, w ro H _ (.refl _) (.refl _) hS .bl_mk⟩
  · exact w.elim
theorem o_ne (cx : Ctx g E X) : O2 X g E (compareOp .NotEq) opNe := by
  intro pins s σ H x y v u Q I rx ry ⟨ro, S, dx, dy, hS, r1, r2, w⟩
  unfold opNe at w
  split at w
  · rename_i p q h1 h2
    obtain ⟨a1, a2, a3⟩ := reify_dp hS 60 dx x p r1 h1
    obtain ⟨b1, b2, b3⟩ := reify_dp hS 60 dy y q r2 h2
    exact op_neD (by have := cx.units; omega) pins s σ H x y v u Q I rx ry ⟨p, q, by rw [cx.K]; exact a1, by rw [cx.K]; exact b1, shaped_of a2 a3, shaped_of b2 b3, w ro H _ (.refl _) (.refl _) hS .bl_mk⟩
  · exact w.elim
/-- is None .. -/
theorem se_isN {j : Nat} {pos2 : Pos} (ha : SE X g E a ma) : SE X g E (.Compare a [.Is] [.Constant .none j pos2] pos) (eUn opIsN ma) := ⟨pe_imp (pe_cmp (pc_isN ha.run) rfl) fun s H Q ⟨ro, L, S, hL, hS, h⟩ =>
  ⟨ro, L, S, hL, hS, Post.bind h fun d S1 ro1 H1 v gr ex hS1 rv w => by
    have q := w ro1 H1 _ (.refl _) (.refl _) hS1 .bl_mk
    have e : decide (d = .non) = decide (v = .non) := by
      cases d with
      | non => rw [rv.non_inv] <;> rfl
      | bl b => rw [rv.bl_inv] <;> rfl
      | int b => rw [rv.int_inv] <;> rfl
      | str b => rw [rv.str_inv.1] <;> rfl
      | tup b => obtain ⟨_, _, e, _⟩ := rv.tup_inv; rw [e] <;> rfl
      | ref b => obtain ⟨_, _, e⟩ := rv.ref_inv; rw [e] <;> rfl
      | exn _ _ => rw [rv.exn_inv] <;> rfl
    rw [e] at q
    exact q⟩⟩
theorem se_notN {j : Nat} {pos2 : Pos} (ha : SE X g E a ma) : SE X g E (.Compare a [.IsNot] [.Constant .none j pos2] pos) (eUn opNotN ma) := ⟨pe_imp (pe_cmp (pc_notN ha.run) rfl) fun s H Q ⟨ro, L, S, hL, hS, h⟩ =>
  ⟨ro, L, S, hL, hS, Post.bind h fun d S1 ro1 H1 v gr ex hS1 rv w => by
    have q := w ro1 H1 _ (.refl _) (.refl _) hS1 .bl_mk
    have e : decide (d = .non) = decide (v = .non) := by
      cases d with
      | non => rw [rv.non_inv] <;> rfl
      | bl b => rw [rv.bl_inv] <;> rfl
      | int b => rw [rv.int_inv] <;> rfl
      | str b => rw [rv.str_inv.1] <;> rfl
      | tup b => obtain ⟨_, _, e, _⟩ := rv.tup_inv; rw [e] <;> rfl
      | ref b => obtain ⟨_, _, e⟩ := rv.ref_inv; rw [e] <;> rfl
      | exn _ _ => rw [rv.exn_inv] <;> rfl
    rw [e] at q
    exact q⟩⟩
end
end MP

namespace MP
open PySem L2
section
variable {X : Cx} {g : G} {E : XK} {a b e c o : Expr} {es : List Expr} {m ma mb mo : EM} {ms : AM} {pos p apos : Pos}
/-! ### subscripts by values -/
theorem ixN_eq (n : Nat) (i : Int) : MP.ixN n i = L2.ixN n i := rfl
theorem atI_rel {ro : List Addr} {H : Hp} {ds : List D} {vs : List V} {i : Int} {d : D} (h : RelDs ro H ds vs) (e : MP.atI ds i = some d) : ∃ v, L2.atI vs i = some v ∧ RelD ro H d v := by
  unfold MP.atI at e
  unfold L2.atI
  rw [← h.length]
  cases q : MP.ixN ds.length i with
  | none => rw [q] at e; cases e
  | some j =>
    rw [q] at e
    rw [ixN_eq] at q
    rw [q]
    exact h.get e
theorem se_ix (cx : Ctx g E X) (ha : SE X g E a ma) (hb : SE X g E b mb) (hs : PlainIx b := by intro _ _; rfl) : SE X g E (.Subscript a b pos) (eBin opIx ma mb) :=
  ⟨pe_imp (pe_ix ix_seq ha.run hb.run hs) fun s H Q h => rd_bin (fun x y H Q ⟨ro, S, dx, dy, hS, r1, r2, w⟩ => by
    cases dx with
    | tup xs =>
      cases dy with
      | int i =>
        obtain ⟨p1, vs, e1, h1, q1⟩ := r1.tup_inv
        simp only [opIx] at w
        split at w
        · rename_i d z
          obtain ⟨v, z2, r⟩ := atI_rel q1 z
          exact .inr (.inl ⟨p1, vs, i, v, e1, r2.int_inv, SqT.of h1, z2, w ro H v (.refl _) (.refl _) hS r⟩)
        · exact w.elim
      | _ => exact w.elim
    | str z =>
      cases dy with
      | int i =>
        obtain ⟨e1, k1⟩ := r1.str_inv
        simp only [opIx] at w
        split at w
        · rename_i hz
          split at w
          · rename_i c z2
            refine .inr (.inr ⟨_, i, c, e1, r2.int_inv, by rw [str_len, ← sz_eq]; exact hz, ?_, ?_⟩)
            · show L2.atI z i = some c
              unfold L2.atI
              rw [← ixN_eq]
              exact z2
            · refine w ro H _ (.refl _) (.refl _) hS (.str_mk fun c' hc => ?_)
              rw [List.mem_singleton] at hc
              subst hc
              unfold MP.atI at z2
              cases q : MP.ixN z.length i with
              | none => rw [q] at z2; cases z2
              | some j => rw [q] at z2; exact k1 _ (List.mem_of_getElem? z2)
          · exact w.elim
        · exact w.elim
      | _ => exact w.elim
    | ref n =>
      cases dy with
      | int i =>
        obtain ⟨p1, h1, e1⟩ := r1.ref_inv
        simp only [opIx] at w
        split at w
        · rename_i xs z
          obtain ⟨vs, q, t⟩ := hS.at h1 z
          split at w
          · rename_i d z1
            obtain ⟨v, z2, r⟩ := atI_rel q z1
            exact .inl ⟨p1, vs, i, v, e1, r2.int_inv, SqL.of t, z2, w ro H v (.refl _) (.refl _) hS r⟩
          · exact w.elim
        · rename_i xs z
          obtain ⟨vs, q, t⟩ := hS.at h1 z
          split at w
          · rename_i d z1
            obtain ⟨v, z2, r⟩ := atI_rel q z1
            exact .inl ⟨p1, vs, i, v, e1, r2.int_inv, by rw [cx.K]; exact t.sq, z2, w ro H v (.refl _) (.refl _) hS r⟩
          · exact w.elim
        · exact w.elim
      | _ => exact w.elim
    | _ => cases dy <;> exact w.elim) h⟩
/-- x is True .. -/
theorem se_isB {k : Bool} {j : Nat} {pos2 : Pos} (ha : SE X g E a ma) : SE X g E (.Compare a [.Is] [.Constant (.bool k) j pos2] pos) (eUn (opIsB k) ma) :=
  ⟨pe_imp (pe_cmpR op_is_bl ha.run (se_bl (g := g) (E := E)).run rfl) fun s H Q ⟨ro, L, S, hL, hS, h⟩ => ⟨ro, L, S, hL, hS, Post.bind h fun d S1 ro1 H1 v gr ex hS1 rv w => ⟨ro1, L, S1, hL.mono gr ex, hS1, fun ro2 H2 v2 gr2 ex2 hS2 rv2 => by
    cases d with
    | bl b => exact ⟨b, k, rv.bl_inv, rv2.bl_inv, w ro2 H2 _ gr2 ex2 hS2 .bl_mk⟩
    | _ => exact w.elim⟩⟩⟩
theorem se_notB {k : Bool} {j : Nat} {pos2 : Pos} (ha : SE X g E a ma) : SE X g E (.Compare a [.IsNot] [.Constant (.bool k) j pos2] pos) (eUn (opNotB k) ma) :=
  ⟨pe_imp (pe_cmpR op_isnot_bl ha.run (se_bl (g := g) (E := E)).run rfl) fun s H Q ⟨ro, L, S, hL, hS, h⟩ => ⟨ro, L, S, hL, hS, Post.bind h fun d S1 ro1 H1 v gr ex hS1 rv w => ⟨ro1, L, S1, hL.mono gr ex, hS1, fun ro2 H2 v2 gr2 ex2 hS2 rv2 => by
    cases d with
    | bl b => exact ⟨b, k, rv.bl_inv, rv2.bl_inv, w ro2 H2 _ gr2 ex2 hS2 .bl_mk⟩
    | _ => exact w.elim⟩⟩⟩
theorem se_neg (ha : SE X g E a ma) : SE X g E (.UnaryOp .USub a pos) (eUn opNeg ma) := ⟨pe_imp (pe_un un_neg ha.run) fun s H Q ⟨ro, L, S, hL, hS, h⟩ => ⟨ro, L, S, hL, hS, Post.bind h fun d S1 ro1 H1 v gr ex hS1 rv w => by
  cases d with
  | int i => exact ⟨i, rv.int_inv, w ro1 H1 _ (.refl _) (.refl _) hS1 .int_mk⟩
  | _ => exact w.elim⟩⟩

/-! ### slices -/
structure SP (X : Cx) (g : G) (E : XK) (e : Option Expr) (m : PM) : Prop where
  run : PO X e (rd (fun _ _ a b => a = b) g E m)
theorem sp_no : SP X g E none pNo := ⟨⟨fun pins s σ H Q I ⟨ro, L, S, hL, hS, h⟩ => po_none.run pins s σ H Q I (h ro H _ (.refl _) (.refl _) hS rfl)⟩⟩
theorem sp_some (ha : SE X g E a ma) : SP X g E (some a) (pSome ma) := ⟨⟨fun pins s σ H Q I ⟨ro, L, S, hL, hS, h⟩ => (po_some ha.run).run pins s σ H Q I ⟨ro, L, S, hL, hS, Post.bind h fun d S1 ro1 H1 v gr ex hS1 rv w => by
  cases d with
  | int i => exact ⟨i, rv.int_inv, w ro1 H1 _ (.refl _) (.refl _) hS1 rfl⟩
  | _ => exact w.elim⟩⟩⟩
theorem sIx_eq (n d : Nat) (o : Option Int) : MP.sIx n d o = HT.sIx n d o := by cases o <;> rfl
theorem cut_rel {ro : List Addr} {H : Hp} {ds : List D} {vs : List V} (h : RelDs ro H ds vs) (lo hi : Option Int) : RelDs ro H (cut ds lo hi) (cutV vs lo hi) := by
  unfold cut cutV
  rw [sIx_eq, sIx_eq, h.length]
  exact (h.drop _).take _
theorem se_sl {lo hi : Option Expr} {ml mh : PM} {pos2 : Pos} (cx : Ctx g E X) (ha : SE X g E a ma) (hl : SP X g E lo ml) (hh : SP X g E hi mh) : SE X g E (.Subscript a (.Slice lo hi none pos2) pos) (eSl ma ml mh) :=
  ⟨pe_imp (pe_slice (sl_list.or (sl_tupA.or sl_str)) ha.run hl.run hh.run) fun s H Q ⟨ro, L, S, hL, hS, h⟩ => by
    refine ⟨ro, L, S, hL, hS, Post.bind h fun d S1 ro1 H1 v gr ex hS1 rv w => ⟨ro1, L, S1, hL.mono gr ex, hS1, Post.bind w fun l S2 ro2 H2 l' gr2 ex2 hS2 el w => ⟨ro2, L, S2, RelL.mono gr2 ex2.tup (hL.mono gr ex), hS2, Post.bind w fun u S3 ro3 H3 u' gr3 ex3 hS3 eu w => ?_⟩⟩⟩
    subst el eu
    have rv := RelD.mono gr3 ex3.tup _ _ (RelD.mono gr2 ex2.tup _ _ rv)
    cases d with
    | tup xs =>
      obtain ⟨p1, vs, e1, h1, q1⟩ := rv.tup_inv
      refine .inr (.inl ⟨p1, vs, e1, SqT.of h1, fun z => ?_, fun _ p hp => ?_⟩)
      · have e : cut xs l u = xs := by
          unfold cut
          rw [sIx_eq, sIx_eq, q1.length, z.1, z.2, List.drop_zero, ← q1.length, Nat.sub_zero, List.take_length]
        have w : Post RelD g E ro3 H3 Q (.ok (.tup (cut xs l u)) S3) := w
        rw [e] at w
        exact w ro3 H3 _ (.refl _) (.refl _) hS3 (.tup_mk h1 q1)
      · exact w ro3 _ _ (.refl _) (.new hp) (hS3.aside hp) (.tup_mk upd_same (RelDs.mono (.refl _) (.new hp) _ _ (cut_rel q1 l u)))
    | str z =>
      obtain ⟨e1, k1⟩ := rv.str_inv
      simp only [opSl] at w
      split at w
      · rename_i hz
        refine .inr (.inr ⟨_, e1, by rw [str_len, ← sz_eq]; exact hz, ?_⟩)
        have q := w ro3 H3 _ (.refl _) (.refl _) hS3 (.str_mk (x := cut z l u) fun c hc => k1 c ?_)
        · have e : (⟨(cut z l u).toArray⟩ : Str) = cutS ⟨z.toArray⟩ l u := by
            unfold cut cutS
            rw [sIx_eq, sIx_eq, str_len]
          rw [e] at q
          exact q
        · unfold cut at hc
          exact List.mem_of_mem_drop (List.mem_of_mem_take hc)
      · exact w.elim
    | ref n =>
      obtain ⟨p1, h1, e1⟩ := rv.ref_inv
      simp only [opSl] at w
      split at w
      · rename_i xs z
        obtain ⟨vs, q, t⟩ := hS3.at h1 z
        exact .inl ⟨p1, vs, e1, SqL.of t, fun p hp => w.push hS3 hp ⟨_, RelDs.mono (.snoc _ _) (.new hp) _ _ (cut_rel q l u), upd_same⟩⟩
      · exact w.elim
    | _ => exact w.elim⟩

/-! ### builtins -/
def rN (g : G) (E : XK) (F : Fn) : List V → Hp → VK → Prop := fun vs H Q => ∃ (ro : List Addr) (S : Sto) (ds : List D), RelS g ro S H ∧ RelDs ro H ds vs ∧ Post RelD g E ro H Q (F ds S)
theorem se_callB {x : Str} {id : String} {F : Fn} (hc : CallR X (.builtin id) (rN g E F)) (hg : Gl X x) (hm : X.mg x = none) (hv : bootBuiltins x = some (.builtin id)) (ha : SA X g E (e :: es) ms) (hn : x ≠ "__name__" := by decide) (hdb : (x == ("__debug__" : Str)) = false := by decide)
    (he : starEach (e :: es) X.env = (false, eval e X.env) :: starEach es X.env := by rfl) (hpl : (backTo pos (starEach es X.env)).any (·.1) = false := by rfl) : SE X g E (.Call (.Name x p) (e :: es) [] pos) (eCall F ms) :=
  ⟨pe_imp (pe_callB hc hg hm hv ha.run hn hdb he hpl) fun s H Q ⟨ro, L, S, hL, hS, h⟩ => ⟨ro, L, S, hL, hS, Post.bind h fun ds S1 ro1 H1 vs gr ex hS1 rv w => ⟨ro1, S1, ds, hS1, rv, w⟩⟩⟩
theorem se_callT {x : Str} {T : String} {F : Fn} (hc : CallR X (.type T) (rN g E F)) (hg : Gl X x) (hm : X.mg x = none) (hv : bootBuiltins x = some (.type T)) (ha : SA X g E (e :: es) ms) (hn : x ≠ "__name__" := by decide) (hdb : (x == ("__debug__" : Str)) = false := by decide)
    (he : starEach (e :: es) X.env = (false, eval e X.env) :: starEach es X.env := by rfl) (hpl : (backTo pos (starEach es X.env)).any (·.1) = false := by rfl) : SE X g E (.Call (.Name x p) (e :: es) [] pos) (eCall F ms) :=
  ⟨pe_imp (pe_callTy hc hg hm hv ha.run hn hdb he hpl) fun s H Q ⟨ro, L, S, hL, hS, h⟩ => ⟨ro, L, S, hL, hS, Post.bind h fun ds S1 ro1 H1 vs gr ex hS1 rv w => ⟨ro1, S1, ds, hS1, rv, w⟩⟩⟩
theorem callR_imp {f : Value} {r r' : List V → Hp → VK → Prop} (h : CallR X f r) (i : ∀ xs H Q, r' xs H Q → r xs H Q) : CallR X f r' := fun pins s σ H xs us Q I rv q => h pins s σ H xs us Q I rv (i _ _ _ q)
theorem c_len (cx : Ctx g E X) : CallR X (.builtin "len") (rN g E fLen) := callR_imp call_len fun xs H Q ⟨ro, S, ds, hS, rv, w⟩ => by
  unfold fLen at w
  split at w
  · rename_i z
    obtain ⟨v, r, rfl, r1, r2⟩ := rv.inv
    cases r2.inv0
    split at w
    · rename_i hz
      rw [r1.str_inv.1]
      exact ⟨_, z.length, rfl, ⟨by rw [str_len, ← sz_eq]; exact hz, (str_len z).symm⟩, w ro H _ (.refl _) (.refl _) hS .int_mk⟩
    · exact w.elim
  · rename_i ys
    obtain ⟨v, r, rfl, r1, r2⟩ := rv.inv
    cases r2.inv0
    obtain ⟨p1, vs, rfl, h1, q1⟩ := r1.tup_inv
    exact ⟨_, ys.length, rfl, .inr ⟨vs, SqT.of h1, q1.length⟩, w ro H _ (.refl _) (.refl _) hS .int_mk⟩
  · rename_i n
    obtain ⟨v, r, rfl, r1, r2⟩ := rv.inv
    cases r2.inv0
    obtain ⟨p1, h1, rfl⟩ := r1.ref_inv
    split at w
    · rename_i ys z
      obtain ⟨vs, q, t⟩ := hS.at h1 z
      exact ⟨_, ys.length, rfl, .inl ⟨vs, SqL.of t, q.length⟩, w ro H _ (.refl _) (.refl _) hS .int_mk⟩
    · rename_i ys z
      obtain ⟨vs, q, t⟩ := hS.at h1 z
      exact ⟨_, ys.length, rfl, .inl ⟨vs, by rw [cx.K]; exact t.sq, q.length⟩, w ro H _ (.refl _) (.refl _) hS .int_mk⟩
    · exact w.elim
  · exact w.elim
theorem c_max2 (hc : X.calm = true) : CallR X (.builtin "max") (rN g E fMax2) := callR_imp (call_max2 hc) fun xs H Q ⟨ro, S, ds, hS, rv, w⟩ => by
  unfold fMax2 at w
  split at w
  · obtain ⟨v, r, rfl, r1, rr⟩ := rv.inv
    obtain ⟨v2, r', rfl, r2, rr2⟩ := rr.inv
    cases rr2.inv0
    exact ⟨_, _, by rw [r1.int_inv, r2.int_inv], w ro H _ (.refl _) (.refl _) hS .int_mk⟩
  · exact w.elim
theorem c_min2 (hc : X.calm = true) : CallR X (.builtin "min") (rN g E fMin2) := callR_imp (call_min2 hc) fun xs H Q ⟨ro, S, ds, hS, rv, w⟩ => by
  unfold fMin2 at w
  split at w
  · obtain ⟨v, r, rfl, r1, rr⟩ := rv.inv
    obtain ⟨v2, r', rfl, r2, rr2⟩ := rr.inv
    cases rr2.inv0
    exact ⟨_, _, by rw [r1.int_inv, r2.int_inv], w ro H _ (.refl _) (.refl _) hS .int_mk⟩
  · exact w.elim
theorem c_int : CallR X (.type "int") (rN g E fInt) := callR_imp call_int1 fun xs H Q ⟨ro, S, ds, hS, rv, w⟩ => by
  unfold fInt at w
  split at w
  · obtain ⟨v, r, rfl, r1, rr⟩ := rv.inv
    cases rr.inv0
    exact .inl ⟨_, by rw [r1.int_inv], w ro H _ (.refl _) (.refl _) hS .int_mk⟩
  · obtain ⟨v, r, rfl, r1, rr⟩ := rv.inv
    cases rr.inv0
    exact .inr ⟨_, by rw [r1.bl_inv], w ro H _ (.refl _) (.refl _) hS .int_mk⟩
  · exact w.elim
theorem allB_rel {ro : List Addr} {H : Hp} : ∀ {ds : List D} {vs : List V} {b : Bool}, RelDs ro H ds vs → allB ds = some b → ∃ bs : List Bool, vs = bs.map V.bl ∧ b = bs.all id
  | [], vs, b, h, e => by cases e; exact ⟨[], by rw [h.inv0] <;> rfl, rfl⟩
  | d :: ds, vs, b, h, e => by
    obtain ⟨v, r, rfl, h2, h3⟩ := h.inv
    cases d with
    | bl k =>
      simp only [allB] at e
      cases q : allB ds with
      | none => rw [q] at e; cases e
      | some b' =>
        rw [q] at e
        cases e
        obtain ⟨bs, e1, e2⟩ := allB_rel h3 q
        exact ⟨k :: bs, by rw [h2.bl_inv, e1] <;> rfl, by rw [e2] <;> rfl⟩
    | _ => simp [allB] at e
theorem c_all (hc : X.calm = true) : CallR X (.builtin "all") (rN g E fAll) := callR_imp (cr_all hc) fun xs H Q ⟨ro, S, ds, hS, rv, w⟩ => by
  unfold fAll at w
  split at w
  · rename_i n
    obtain ⟨v, r, rfl, r1, r2⟩ := rv.inv
    cases r2.inv0
    obtain ⟨p1, h1, rfl⟩ := r1.ref_inv
    split at w
    · rename_i ys z
      obtain ⟨vs, q, t⟩ := hS.at h1 z
      split at w
      · rename_i b hb
        obtain ⟨bs, e1, e2⟩ := allB_rel q hb
        subst e1 e2
        exact ⟨p1, bs, rfl, SqL.of t, w ro H _ (.refl _) (.refl _) hS .bl_mk⟩
      · exact w.elim
    · exact w.elim
  · exact w.elim
theorem intsOf_rel {ro : List Addr} {H : Hp} : ∀ {ds : List D} {vs : List V} {is : List Int}, RelDs ro H ds vs → intsOf ds = some is → vs = is.map V.int
  | [], vs, b, h, e => by cases e; rw [h.inv0] <;> rfl
  | d :: ds, vs, b, h, e => by
    obtain ⟨v, r, rfl, h2, h3⟩ := h.inv
    cases d with
    | int k =>
      simp only [intsOf] at e
      cases q : intsOf ds with
      | none => rw [q] at e; cases e
      | some b' =>
        rw [q] at e
        cases e
        rw [h2.int_inv, intsOf_rel h3 q] <;> rfl
    | _ => simp [intsOf] at e
theorem c_sum (hc : X.calm = true) : CallR X (.builtin "sum") (rN g E fSum) := callR_imp (cr_sum hc) fun xs H Q ⟨ro, S, ds, hS, rv, w⟩ => by
  unfold fSum at w
  split at w
  · rename_i n
    obtain ⟨v, r, rfl, r1, r2⟩ := rv.inv
    cases r2.inv0
    obtain ⟨p1, h1, rfl⟩ := r1.ref_inv
    split at w
    · rename_i ys z
      obtain ⟨vs, q, t⟩ := hS.at h1 z
      split at w
      · rename_i b hb
        have e1 := intsOf_rel q hb
        subst e1
        exact ⟨p1, _, rfl, SqL.of t, w ro H _ (.refl _) (.refl _) hS .int_mk⟩
      · exact w.elim
    · exact w.elim
  · exact w.elim
theorem c_list : CallR X (.type "list") (rN g E fList) := callR_imp call_list_of fun xs H Q ⟨ro, S, ds, hS, rv, w⟩ => by
  unfold fList at w
  split at w
  · rename_i n
    obtain ⟨v, r, rfl, r1, r2⟩ := rv.inv
    cases r2.inv0
    obtain ⟨p1, h1, rfl⟩ := r1.ref_inv
    split at w
    · rename_i ys z
      obtain ⟨vs, q, t⟩ := hS.at h1 z
      exact ⟨p1, vs, rfl, .inl (SqL.of t), fun l hl => w.push hS hl ⟨vs, RelDs.mono (.snoc _ _) (.new hl) _ _ q, upd_same⟩⟩
    · exact w.elim
  · rename_i ys
    obtain ⟨v, r, rfl, r1, r2⟩ := rv.inv
    cases r2.inv0
    obtain ⟨p1, vs, rfl, h1, q⟩ := r1.tup_inv
    exact ⟨p1, vs, rfl, .inr (SqT.of h1), fun l hl => w.push hS hl ⟨vs, RelDs.mono (.snoc _ _) (.new hl) _ _ q, upd_same⟩⟩
  · exact w.elim
theorem c_tuple : CallR X (.type "tuple") (rN g E fTuple) := callR_imp call_tuple_of fun xs H Q ⟨ro, S, ds, hS, rv, w⟩ => by
  unfold fTuple at w
  split at w
  · rename_i n
    obtain ⟨v, r, rfl, r1, r2⟩ := rv.inv
    cases r2.inv0
    obtain ⟨p1, h1, rfl⟩ := r1.ref_inv
    split at w
    · rename_i ys z
      obtain ⟨vs, q, t⟩ := hS.at h1 z
      exact ⟨p1, vs, rfl, .inl ⟨SqL.of t, fun l hl => w ro _ _ (.refl _) (.new hl) (hS.aside hl) (.tup_mk upd_same (RelDs.mono (.refl _) (.new hl) _ _ q))⟩⟩
    · exact w.elim
  · rename_i ys
    obtain ⟨v, r, rfl, r1, r2⟩ := rv.inv
    cases r2.inv0
    obtain ⟨p1, vs, rfl, h1, q⟩ := r1.tup_inv
    exact ⟨p1, vs, rfl, .inr ⟨SqT.of h1, w ro H _ (.refl _) (.refl _) hS (.tup_mk h1 q)⟩⟩
  · exact w.elim
/-- isinstance(x, T) -/
theorem tyNm_rel {ro : List Addr} {S : Sto} {H : Hp} (hS : RelS g ro S H) {d : D} {v : V} {t : String} (r : RelD ro H d v) (e : tyNm S d = some t) : TyX g.K H v (.type t) ∧ t ∈ ["NoneType", "bool", "int", "str", "tuple", "list", "dict"] := by
  cases d with
  | non => cases e; rw [r.non_inv]; exact ⟨.base .non, by simp⟩
  | bl b => cases e; rw [r.bl_inv]; exact ⟨.base (.bl b), by simp⟩
  | int b => cases e; rw [r.int_inv]; exact ⟨.base (.int b), by simp⟩
  | str b => cases e; rw [r.str_inv.1]; exact ⟨.base (.str _), by simp⟩
  | tup b => cases e; obtain ⟨_, _, rfl, h1, _⟩ := r.tup_inv; exact ⟨.base (.tup h1), by simp⟩
  | ref n =>
    obtain ⟨a, h1, rfl⟩ := r.ref_inv
    simp only [tyNm] at e
    split at e
    · rename_i xs z
      cases e
      obtain ⟨vs, q, t⟩ := hS.at h1 z
      exact ⟨.base (.lst t), by simp⟩
    · rename_i t' kvs z
      cases e
      have q := hS.at h1 z
      cases t' with
      | true => obtain ⟨ws, _, q⟩ := (show ∃ ws, RelTV ro H kvs ws ∧ AtL H a false (.dT ws) from q); exact ⟨.base (.dT q), by simp⟩
      | false => obtain ⟨ws, _, q⟩ := (show ∃ ws, RelKV ro H kvs ws ∧ AtL H a false (.dK ws) from q); exact ⟨.base (.dK q), by simp⟩
    · cases e
  | exn _ _ => cases e
theorem se_isi {T : String} {x : Str} {p2 : Pos} (cx : Ctx g E X) (hT : T ∈ ["int", "bool", "str", "tuple", "list"]) (ha : SE X g E a ma) (hm : X.mg "isinstance" = none) (hm2 : X.mg x = none) (hv : bootBuiltins x = some (.type T)) (hg : Gl X "isinstance" := by rfl) (hg2 : Gl X x := by rfl) (hn : x ≠ "__name__" := by decide) (hdb : (x == ("__debug__" : Str)) = false := by decide)
    (h1 : starEach [a, .Name x p2] X.env = (false, eval a X.env) :: starEach [.Name x p2] X.env := by rfl) (h2 : starEach [.Name x p2] X.env = (false, eval (.Name x p2) X.env) :: starEach [] X.env := by rfl) (hpl : (backTo pos (starEach [.Name x p2] X.env)).any (·.1) = false := by rfl) :
    SE X g E (.Call (.Name "isinstance" p) [a, .Name x p2] [] pos) (eUn (opIsi T) ma) := by
  have ht : PE X (.Name x p2) (tC (.ty T)) := pe_bltn hg2 hm2 hv rfl hn hdb
  refine ⟨pe_imp (pe_callB call_isi hg hm (by decide +kernel) (pa_cons ha.run (pa_cons ht pa_nil h2) h1) (by decide) (by decide) h1 hpl) fun s H Q ⟨ro, L, S, hL, hS, h⟩ => ?_⟩
  refine ⟨ro, L, S, hL, hS, Post.bind h fun d S1 ro1 H1 v gr ex hS1 rv w => ?_⟩
  unfold opIsi at w
  split at w
  · rename_i t ht
    obtain ⟨q1, q2⟩ := tyNm_rel hS1 rv ht
    refine ⟨v, .ty T, .type t, .type T, _, rfl, .ty T, by rw [cx.K]; exact q1, kit_ty ?_, w ro1 H1 _ (.refl _) (.refl _) hS1 .bl_mk⟩
    simp only [List.mem_cons, List.not_mem_nil, or_false] at q2 hT
    rcases q2 with rfl | rfl | rfl | rfl | rfl | rfl | rfl <;> rcases hT with rfl | rfl | rfl | rfl | rfl <;> decide +kernel
  · exact w.elim
end
end MP

namespace MP
open PySem L2
section
variable {X : Cx} {g : G} {E : XK} {a b e c o : Expr} {es : List Expr} {m ma mb mo : EM} {ms : AM} {pos p apos : Pos}
/-! ### methods of lists -/
def rM (g : G) (E : XK) (F : Fn) : V → List V → Hp → VK → Prop := fun x vs H Q => rN g E F (x :: vs) H Q
theorem mtr_imp {id : String} {r r' : V → List V → Hp → VK → Prop} (h : MtR X id r) (i : ∀ x xs H Q, r' x xs H Q → r x xs H Q) : MtR X id r' := fun pins s σ H x xs v us Q I rx rv q => h pins s σ H x xs v us Q I rx rv (i _ _ _ _ q)
theorem rd_bm {T : String} {F : Fn} {s : St} {H : Hp} {Q : VK} (hK : X.K = g.K) (hT : T = "list" ∨ T = "str") (h : rdE g E (eBM T F mo ms) s H Q) : tBM X.K T (rM g E F) (rdE g E mo) (rdA g E ms) s H Q := by
  obtain ⟨ro, L, S, hL, hS, h⟩ := h
  refine ⟨ro, L, S, hL, hS, Post.bind h fun d S1 ro1 H1 v gr ex hS1 rv w => ?_⟩
  split at w
  · rename_i ht
    refine ⟨?_, ro1, L, S1, hL.mono gr ex, hS1, Post.bind w fun ds S2 ro2 H2 vs gr2 ex2 hS2 rv2 w => ⟨ro2, S2, d :: ds, hS2, .cons (rv.mono gr2 ex2) rv2, w⟩⟩
    cases d with
    | non => cases ht; rcases hT with q | q <;> exact absurd q (by decide)
    | bl b => cases ht; rcases hT with q | q <;> exact absurd q (by decide)
    | int b => cases ht; rcases hT with q | q <;> exact absurd q (by decide)
    | str b => cases ht; rw [rv.str_inv.1] <;> rfl
    | tup b => cases ht; rcases hT with q | q <;> exact absurd q (by decide)
    | ref n =>
      obtain ⟨p1, h1, rfl⟩ := rv.ref_inv
      simp only [tyNm] at ht
      split at ht
      · rename_i xs z
        cases ht
        obtain ⟨vs, q, t⟩ := hS1.at h1 z
        exact .inl ⟨rfl, vs, SqL.of t⟩
      · cases ht; rcases hT with q | q <;> exact absurd q (by decide)
      · cases ht
    | exn _ _ => cases ht
  · exact w.elim
theorem se_bm {T id : String} {name : Str} {F : Fn} (cx : Ctx g E X) (pa : PlainAttrs T) (slot : Slot T name id) (hty : typeOf (.builtin id) = pure (.type "method_descriptor")) (hm : MtR X id (rM g E F)) (hT : T = "list" ∨ T = "str") (ho : SE X g E o mo) (ha : SA X g E (e :: es) ms)
    (hbase : attributeBase o name X.env (eval o X.env) = eval o X.env := by rfl)
    (hfew : ((backTo pos (starEach (e :: es) X.env)).all (fun x => !x.1) && (backToKw pos (keywordEach [] X.env)).all (fun x => x.1.isSome)
      && decide ((e :: es).length + ([] : List Keyword).length + (if ([] : List Keyword).isEmpty then 0 else 1) < 30)) = true := by rfl)
    (hline : (apos.endLine == pos.line) = true := by rfl) (hs : starEach (e :: es) X.env = (false, eval e X.env) :: starEach es X.env := by rfl) (hplain : (backTo pos (starEach es X.env)).any (·.1) = false := by rfl) :
    SE X g E (.Call (.Attribute o name apos) (e :: es) [] pos) (eBM T F mo ms) := ⟨pe_imp (pe_bm pa slot hty hm ho.run ha.run hbase hfew hline hs hplain) fun s H Q h => rd_bm cx.K hT h⟩
theorem RelS.putL {ro : List Addr} {S : Sto} {H : Hp} (hS : RelS g ro S H) {n : Nat} {a : Addr} {xs ys : List D} {vs us : List V} (hn : ro[n]? = some a) (e : S[n]? = some (.lst xs)) (h : H a = some (.lst vs)) (r : RelDs ro H ys us) : RelS g ro (S.set n (.lst ys)) (upd H a (.lst us)) :=
  hS.put hn e (fun z => z.elim) (fun z => z.elim) h ⟨us, RelDs.mono (.refl _) (.put h lst_tup) _ _ r, upd_same⟩ nu_lst
theorem m_append : MtR X "list.append" (rM g E fAppend) := mtr_imp mt_append fun x xs H Q ⟨ro, S, ds, hS, rv, w⟩ => by
  unfold fAppend at w
  split at w
  · rename_i n y
    obtain ⟨v, r, e1, r1, rr⟩ := rv.inv
    obtain ⟨v2, r', rfl, r2, rr2⟩ := rr.inv
    cases rr2.inv0
    cases e1
    obtain ⟨p1, h1, rfl⟩ := r1.ref_inv
    split at w
    · rename_i ys z
      obtain ⟨vs, q, t⟩ := hS.at h1 z
      split at w
      · rename_i hz
        exact ⟨p1, vs, v2, rfl, rfl, t, by rw [← q.length, ← sz_eq]; exact hz, w ro _ _ (.refl _) (.put t lst_tup lst_frz) (hS.putL h1 z t (q.append (.cons r2 .nil))) .non_mk⟩
      · exact w.elim
    · exact w.elim
  · exact w.elim
theorem m_insert : MtR X "list.insert" (rM g E fInsert) := mtr_imp mt_insert fun x xs H Q ⟨ro, S, ds, hS, rv, w⟩ => by
  unfold fInsert at w
  split at w
  · rename_i n i y
    obtain ⟨v, r, e1, r1, rr⟩ := rv.inv
    obtain ⟨v2, r', rfl, r2, rr2⟩ := rr.inv
    obtain ⟨v3, r'', rfl, r3, rr3⟩ := rr2.inv
    cases rr3.inv0
    cases e1
    obtain ⟨p1, h1, rfl⟩ := r1.ref_inv
    split at w
    · rename_i ys z
      obtain ⟨vs, q, t⟩ := hS.at h1 z
      split at w
      · rename_i hz
        exact ⟨p1, vs, i, v3, rfl, by rw [r2.int_inv], t, by rw [← q.length, ← sz_eq]; exact hz.1, hz.2.1, hz.2.2, w ro _ _ (.refl _) (.put t lst_tup lst_frz) (hS.putL h1 z t (((q.take _).append (.cons r3 .nil)).append (q.drop _))) .non_mk⟩
      · exact w.elim
    · exact w.elim
  · exact w.elim
theorem m_pop0 : MtR X "list.pop" (rM g E fPopAt) := mtr_imp mt_popAt fun x xs H Q ⟨ro, S, ds, hS, rv, w⟩ => by
  unfold fPopAt at w
  split at w
  · rename_i n i
    obtain ⟨v, r, e1, r1, rr⟩ := rv.inv
    obtain ⟨v2, r', rfl, r2, rr2⟩ := rr.inv
    cases rr2.inv0
    cases e1
    obtain ⟨p1, h1, rfl⟩ := r1.ref_inv
    split at w
    · rename_i ys z
      obtain ⟨vs, q, t⟩ := hS.at h1 z
      split at w
      · rename_i y rest
        split at w
        · rename_i hi
          subst hi
          obtain ⟨u, us, rfl, q1, q2⟩ := q.inv
          refine ⟨p1, _, 0, 0, u, rfl, by rw [r2.int_inv], t, by decide, by decide, ?_, rfl, w ro _ _ (.refl _) (.put t lst_tup lst_frz) (hS.putL h1 z t q2) (q1.mono (.refl _) (Ext.put t lst_tup lst_frz).tup)⟩
          simp [seqIndex?]
        · exact w.elim
      · exact w.elim
    · exact w.elim
  · exact w.elim
/-- xs[i] = v -/
theorem sg_setL {i : Expr} {mi : EM} (cx : Ctx g E X) (ho : SE X g E o mo) (hi : SE X g E i mi)
    (ha : ∀ v, assign (.Subscript o i pos) X.env v = (do
      let ov ← holding [v] (eval o X.env)
      let iv ← holding [v, ov] (eval i X.env)
      standAt pos
      holding [v, ov, iv] (setItem ov iv v)
      release [v, ov, iv] []) := by intro _; rfl) : SG X g (.Subscript o i pos) (gSub setL mo mi) :=
  ⟨pg_imp (pg_sub ho.run hi.run set_list ha) fun v s H Q ⟨ro, L, S, d, hL, hS, rv, w⟩ => by
    refine ⟨ro, L, S, hL, hS, ?_⟩
    unfold MP.gSub at w
    cases z : mo L S with
    | ok d1 S1 =>
      rw [z] at w
      simp only [R.bind_ok] at w
      intro ro1 H1 v1 gr1 ex1 hS1 rv1
      refine ⟨ro1, L, S1, hL.mono gr1 ex1, hS1, ?_⟩
      cases z2 : mi L S1 with
      | ok d2 S2 =>
        rw [z2] at w
        simp only [R.bind_ok] at w
        intro ro2 H2 v2 gr2 ex2 hS2 rv2
        unfold setL at w
        split at w
        · rename_i n i
          obtain ⟨p1, h1, rfl⟩ := rv1.ref_inv
          have h2 := gr2 _ _ h1
          cases z3 : S2[n]? with
          | none => rw [z3] at w; exact w.elim
          | some ob =>
            rw [z3] at w
            cases ob with
            | lst xs =>
              simp only at w
              obtain ⟨vs, q, t⟩ := hS2.at h2 z3
              cases z4 : MP.ixN xs.length i with
              | none => rw [z4] at w; exact w.elim
              | some j =>
                rw [z4] at w
                simp only [R.bind_ok] at w
                have r3 := RelD.mono gr2 ex2.tup _ _ (RelD.mono gr1 ex1.tup _ _ rv)
                refine ⟨p1, vs, i, j, rfl, rv2.int_inv, t, by rw [← q.length]; exact z4, ?_⟩
                exact w ro2 _ s (gr1.trans gr2) (ex1.trans (ex2.trans (.put t lst_tup lst_frz))) (hS2.putL h2 z3 t (RelDs.set r3 j q)) (RelL.mono (gr1.trans gr2) (ex1.trans (ex2.trans (.put t lst_tup lst_frz))).tup hL)
            | _ => exact w.elim
        · exact w.elim
      | exc x S2 => rw [z2] at w; exact w.elim
      | err => rw [z2] at w; exact w.elim
    | exc x S1 => rw [z] at w; exact w.elim
    | err => rw [z] at w; exact w.elim⟩

/-! ### in -/
theorem all_dp {ro : List Addr} {S : Sto} {H : Hp} (hS : RelS g ro S H) : ∀ (ds : List D) (vs : List V) (ps : List PyData) (n : Nat), RelDs ro H ds vs → ds.mapM (reify n S) = some ps → DpAll g.K H vs ps ∧ PyData.canLayAll0 ps = true ∧ PyData.depthAll ps ≤ n
  | [], vs, ps, n, r, e => by
    rw [List.mapM_nil] at e
    cases e
    rw [r.inv0]
    exact ⟨.nil, rfl, Nat.zero_le _⟩
  | d :: ds, vs, ps, n, r, e => by
    rw [List.mapM_cons] at e
    obtain ⟨x, us, rfl, r1, r2⟩ := r.inv
    cases h1 : reify n S d with
    | none => rw [h1] at e; cases e
    | some p =>
      cases h2 : ds.mapM (reify n S) with
      | none => rw [h1, h2] at e; cases e
      | some qs =>
        rw [h1, h2] at e
        cases e
        obtain ⟨a1, a2, a3⟩ := reify_dp hS n d x p r1 h1
        obtain ⟨b1, b2, b3⟩ := all_dp hS ds us qs n r2 h2
        refine ⟨.cons a1 b1, ?_, ?_⟩
        · simp only [PyData.canLayAll0, a2, b2, Bool.and_self]
        · simp only [PyData.depthAll]
          omega
theorem o_inL (cx : Ctx g E X) : O2 X g E (compareOp .In) (inL false) := by
  intro pins s σ H x y v u Q I rx ry ⟨ro, S, dx, dy, hS, r1, r2, w⟩
  unfold inL at w
  split at w
  · rename_i n
    obtain ⟨p1, h1, rfl⟩ := r2.ref_inv
    split at w
    · rename_i xs z
      obtain ⟨vs, q, t⟩ := hS.at h1 z
      split at w
      · rename_i p ps e1 e2
        obtain ⟨a1, a2, a3⟩ := reify_dp hS 60 dx x p r1 e1
        obtain ⟨b1, b2, b3⟩ := all_dp hS xs vs ps 59 q e2
        refine op_inD (by have := cx.units; omega) pins s σ H x _ v u Q I rx ry ⟨p, ps, by rw [cx.K]; exact a1, by rw [cx.K]; exact .lst (SqL.of t) b1, shaped_of a2 a3, shaped_of (p := .list ps) b2 (by simp only [PyData.depth]; omega), ?_⟩
        exact w ro H _ (.refl _) (.refl _) hS .bl_mk
      · exact w.elim
    · exact w.elim
  · exact w.elim
theorem o_notInL (cx : Ctx g E X) : O2 X g E (compareOp .NotIn) (inL true) := by
  intro pins s σ H x y v u Q I rx ry ⟨ro, S, dx, dy, hS, r1, r2, w⟩
  unfold inL at w
  split at w
  · rename_i n
    obtain ⟨p1, h1, rfl⟩ := r2.ref_inv
    split at w
    · rename_i xs z
      obtain ⟨vs, q, t⟩ := hS.at h1 z
      split at w
      · rename_i p ps e1 e2
        obtain ⟨a1, a2, a3⟩ := reify_dp hS 60 dx x p r1 e1
        obtain ⟨b1, b2, b3⟩ := all_dp hS xs vs ps 59 q e2
        refine op_notInD (by have := cx.units; omega) pins s σ H x _ v u Q I rx ry ⟨p, ps, by rw [cx.K]; exact a1, by rw [cx.K]; exact .lst (SqL.of t) b1, shaped_of a2 a3, shaped_of (p := .list ps) b2 (by simp only [PyData.depth]; omega), ?_⟩
        exact w ro H _ (.refl _) (.refl _) hS .bl_mk
      · exact w.elim
    · exact w.elim
  · exact w.elim
theorem o_inS : O2 X g E (compareOp .In) (inS false) := by
  intro pins s σ H x y v u Q I rx ry ⟨ro, S, dx, dy, hS, r1, r2, w⟩
  unfold inS at w
  split at w
  · rename_i c z
    refine op_in_sign pins s σ H x y v u Q I rx ry ⟨c, ⟨z.toArray⟩, r1.str_inv.1, r2.str_inv.1, ?_⟩
    exact w ro H _ (.refl _) (.refl _) hS .bl_mk
  · exact w.elim
theorem o_notInS : O2 X g E (compareOp .NotIn) (inS true) := by
  intro pins s σ H x y v u Q I rx ry ⟨ro, S, dx, dy, hS, r1, r2, w⟩
  unfold inS at w
  split at w
  · rename_i c z
    refine op_notIn_sign pins s σ H x y v u Q I rx ry ⟨c, ⟨z.toArray⟩, r1.str_inv.1, r2.str_inv.1, ?_⟩
    exact w ro H _ (.refl _) (.refl _) hS .bl_mk
  · exact w.elim

/-! ### raise C('..') -/
structure Xc (g : G) (x : Str) (c : Nat) : Prop where
  mgx : g.mg x = some (.ref (g.ecls c))
  ex : PySem.W.excIn g.K (g.ecls c) [.type "ValueError", .type "Exception", .type "BaseException", .type "object"] "ValueError.__new__" = true
  kp : PySem.W.keepIn g.K (.ref (g.ecls c)) = true
  sub : PySem.W.subIn g.K (.ref (g.ecls c)) (.type "BaseException") = some true
  ty : PySem.W.typeIn g.K (.ref (g.ecls c)) = some (.type "type")
theorem ss_raise {x m : Str} {c j : Nat} {p2 pos2 : Pos} (cx : Ctx g E X) (h : Xc g x c) (hc : X.calm = true) (hg : Gl X x) (hdb : (x == ("__debug__" : Str)) = false := by decide) : SS X g E (.Raise (some (.Call (.Name x p) [.Constant (.str m) j p2] [] pos)) none pos2) (sRaise c aNil) :=
  ⟨ps_imp (L2N.ps_raise hc cx.takes (L2N.pmk_own PySem.F.excBase_ValueError (by rw [cx.K]; exact h.ex) (by rw [cx.mg]; exact h.mgx) (by rw [cx.K]; exact h.kp) (raises_own (by rw [cx.K]; exact h.sub) (by rw [cx.K]; exact h.ty)) hg hdb)) fun D s H ⟨ro, L, S, hL, hS, h⟩ =>
    h ro H _ _ (.refl _) (.refl _) hS ⟨rfl, rfl⟩⟩

/-! ### calls by defaults -/
def DfD (g : G) (k : Nat) (x : Str) (F : Fn) (dd : List D) : Prop := ∃ (f : Addr) (fd : FuncData) (ps : List Str) (ds : List Value) (dvs : List V), FOk g k f fd ps F ∧ g.mg x = some (.ref f) ∧ PySem.W.keepIn g.K (.ref f) = true ∧ Binds g.K fd ps ds ∧ Vals dvs ds ∧ ∀ ro H, RelDs ro H dd dvs
theorem se_callD {k : Nat} {x : Str} {F : Fn} {dd : List D} (c : Ctx g E X) (d : DfD g k x F dd) (hr : Room k X.A) (hg : Gl X x) (ha : SA X g E (e :: es) ms) (hdb : (x == ("__debug__" : Str)) = false := by decide) (he : starEach (e :: es) X.env = (false, eval e X.env) :: starEach es X.env := by rfl)
    (hpl : (backTo pos (starEach es X.env)).any (·.1) = false := by rfl) : SE X g E (.Call (.Name x p) (e :: es) [] pos) (eCall (withD F dd) ms) := by
  obtain ⟨f, fd, ps, dvl, dvs, h, hm, hk, hb, hv, hd⟩ := d
  refine ⟨pe_imp (pe_call (h.at c) hr hg (by rw [c.mg]; exact hm) (by rw [c.K]; exact hk) (by rw [c.K]; exact hb) hv (passM c) ha.run hdb he hpl) fun s H Q ⟨ro, L, S, hL, hS, h⟩ => ?_⟩
  refine ⟨ro, L, S, hL, hS, Post.bind h fun ds S1 ro1 H1 vs gr ex hS1 rv h => ⟨ro1, S1, ds ++ dd, hS1, rv.append (hd _ _), h⟩⟩
/-- as df_body, for a def with defaults -/
theorem df_bodyD {k : Nat} {y qual : Str} {params : Arguments} {bd : List Stmt} {sc : Scope} {dvs : List V} {kws : List (Str × V)} {f : Addr} {fd : FuncData} {N ps : List Str} {body : SM} (fn : FunD g.K y qual params bd sc dvs kws f fd) (S : FnScope N ps sc)
    (hb : ∀ (X : Cx) (E : XK), (∃ (cdv : Value) (A : Around) (outer : List Env) (s : Shared) (H : Hp), Room k (A.deeper (PyProof.Rows.envOfC qual sc s.heap.objs.size f cdv)) ∧ X = cxOf (L2N.CX g.P g.w) g.P g.w g.K g.mg g.base N qual sc f cdv A outer s H E) → SSs X g E bd body) :
    FOk g (k + 1) f fd ps (MP.fn ps.length N.length body) := by
  obtain ⟨oc, od, dV, kV, doc, pm, an, cdv, ct, osl, rfl, lk, hcd, _, _⟩ := fn.ex
  refine fn_of lk hcd S (fun vs H Q E ⟨ro, S, ds, hS, rv, h⟩ => ?_) fun A outer s H vs Q E hr ⟨ro, S', ds, hS, rv, h⟩ => ⟨_, (hb _ E ⟨cdv, A, outer, s, H, hr, rfl⟩).run, ?_⟩
  · unfold MP.fn at h
    split at h
    · rename_i e
      rw [← rv.length, e]
    · exact h.elim
  · unfold MP.fn at h
    split at h
    · rename_i e
      rw [← e] at h
      refine ⟨ro, _, S', RelL.start N rv, hS, ?_⟩
      cases z : body (ds.map some ++ List.replicate (N.length - ds.length) none) S' with
      | nx L1 S1 => rw [z] at h; exact fun ro' H' s' gr ex R r => h ro' H' _ gr ex R .non_mk
      | rt d S1 => rw [z] at h; exact h
      | exc x L1 S1 => rw [z] at h; exact h
      | bk L1 S1 => rw [z] at h; exact h.elim
      | ct L1 S1 => rw [z] at h; exact h.elim
      | err => rw [z] at h; exact h.elim
    · exact h.elim
end
end MP

namespace MP
open PySem L2
section
variable {X : Cx} {g : G} {E : XK} {a b c e o i : Expr} {es : List Expr} {m ma mb mc mo mi : EM} {ms : AM} {pos p apos : Pos}
theorem se_chain {op op' : CmpOp} {f f' : Op2} (ho : O2 X g E (compareOp op) f) (ho' : O2 X g E (compareOp op') f') (ha : SE X g E a ma) (hb : SE X g E b mb) (hc : SE X g E c mc) (hm : lastMarks [op, op'] [b, c] = false := by with_unfolding_all rfl) :
    SE X g E (.Compare a [op, op'] [b, c] pos) (eChain f f' ma mb mc) := ⟨pe_imp (pe_chain ho ho' ha.run hb.run hc.run hm) fun s H Q ⟨ro, L, S, hL, hS, h⟩ => by
  refine ⟨ro, L, S, hL, hS, Post.bind h fun d S1 ro1 H1 v gr ex hS1 rv w => ⟨ro1, L, S1, hL.mono gr ex, hS1, Post.bind w fun d2 S2 ro2 H2 v2 gr2 ex2 hS2 rv2 w => ?_⟩⟩
  refine ⟨ro2, S2, d, d2, hS2, rv.mono gr2 ex2, rv2, Post.bind w fun d3 S3 ro3 H3 v3 gr3 ex3 hS3 rv3 w => ?_⟩
  cases d3 with
  | bl k =>
    refine ⟨k, rv3.bl_inv, ?_⟩
    cases k with
    | true =>
      rw [if_pos rfl]
      refine ⟨ro3, L, S3, RelL.mono gr3 ex3.tup (RelL.mono gr2 ex2.tup (hL.mono gr ex)), hS3, Post.bind w fun d4 S4 ro4 H4 v4 gr4 ex4 hS4 rv4 w => ?_⟩
      exact ⟨ro4, S4, d2, d4, hS4, RelD.mono gr4 ex4.tup _ _ (RelD.mono gr3 ex3.tup _ _ rv2), rv4, w⟩
    | false =>
      rw [if_neg Bool.false_ne_true]
      exact w ro3 H3 _ (.refl _) (.refl _) hS3 .bl_mk
  | _ => exact w.elim⟩
theorem se_rev {k : Nat} {p1 p2 p3 : Pos} (hK : X.K = g.K) (ha : SE X g E a ma) : SE X g E (.Subscript a (.Slice none none (some (.UnaryOp .USub (.Constant (.int 1) k p1) p2)) p3) pos) (eUn opRev ma) := ⟨pe_imp (pe_revL ha.run) fun s H Q ⟨ro, L, S, hL, hS, h⟩ => by
  refine ⟨ro, L, S, hL, hS, Post.bind h fun d S1 ro1 H1 v gr ex hS1 rv w => ?_⟩
  cases d with
  | ref n =>
    obtain ⟨p1, h1, e1⟩ := rv.ref_inv
    simp only [opRev] at w
    split at w
    · rename_i xs z
      obtain ⟨vs, q, t⟩ := hS1.at h1 z
      have rr : ∀ {ds : List D} {us : List V}, RelDs ro1 H1 ds us → RelDs ro1 H1 ds.reverse us.reverse := by
        intro ds
        induction ds with
        | nil => intro us h; rw [h.inv0]; exact .nil
        | cons d ds ih =>
          intro us h
          obtain ⟨v, r, rfl, h2, h3⟩ := h.inv
          rw [List.reverse_cons, List.reverse_cons]
          exact (ih h3).append (.cons h2 .nil)
      exact ⟨p1, vs, e1, SqL.of t, fun p hp => w.push hS1 hp ⟨_, RelDs.mono (.snoc _ _) (.new hp) _ _ (rr q), upd_same⟩⟩
    · exact w.elim
  | _ => exact w.elim⟩
/-- y = [..], y a local name -/
theorem ss_setLc (j : Nat) {y : Str} {py spos : Pos} {tg iter elt : Expr} {ifs : List Expr} {scope : Scope} {own : List (Str × Nat)} {w : WM} {t : TM} {tt : BM} {em : EM} [pt : PureT t] (hc : X.calm = true) (hN : X.N.Nodup) (hi : SI X g E tg iter w) (ok : BlkOk X.N X.env.scope scope own)
    (hg : ∀ (s : Shared) (H : Hp) (C : Addr) (cl : List (Str × Addr)) (fp : List Addr), SGw (X.blk s H scope (compEnvC scope cl C X.env) fp) g (own.map (·.2)) tg t) (ht : ∀ (s : Shared) (H : Hp) (C : Addr) (cl : List (Str × Addr)) (fp : List Addr), STs (X.blk s H scope (compEnvC scope cl C X.env) fp) g E0 ifs tt)
    (he : ∀ (s : Shared) (H : Hp) (C : Addr) (cl : List (Str × Addr)) (fp : List Addr), SE (X.blk s H scope (compEnvC scope cl C X.env) fp) g E0 elt em) (hy : X.N[j]? = some y := by rfl) (hyl : X.env.scope.names.lookup y = some .local := by rfl)
    (hsw : swapsWith (.ListComp elt [⟨tg, iter, ifs, 0⟩] scope pos) (some (.Name y py)) spos.line X.env = pure true := by exact sw_true rfl rfl rfl (by decide +kernel)) (hs : ∀ x, foldedSetIterable iter X.env x = pure x := by intro _; rfl) :
    SS X g E (.Assign [.Name y py] (.ListComp elt [⟨tg, iter, ifs, 0⟩] scope pos) spos) (sAsg (eLc w t tt em (own.map (·.2))) (gV j)) :=
  ⟨ps_imp (ps_setLc hc hN hy hyl hsw hi.run ok (fun s H C cl fp => (hg s H C cl fp).run) (fun s H C cl fp => (ht s H C cl fp).run) (fun s H C cl fp => (he s H C cl fp).run) hs) fun D s H ⟨ro, L, S, hL, hS, h⟩ =>
    lc_rd (iter := iter) ⟨ro, L, S, hL, hS, PostS.st h fun d S1 ro1 H1 v gr ex hS1 rv w => w ro1 H1 _ (.refl _) (.refl _) hS1 ((hL.mono gr ex).set j rv)⟩⟩
/-- a, b, c = x, y, z: three names -/
theorem ss_par3 {i j l : Nat} {x y z : Str} {p q r : Expr} {mp mq mr : EM} {px py pz pt : Pos} {kt k2 : Nat} {pt2 : Pos} (hc : X.calm = true) (hN : X.N.Nodup) (hp : SE X g E p mp) (hq : SE X g E q mq) (hr : SE X g E r mr) (hij : i ≠ j) (hil : i ≠ l) (hjl : j ≠ l)
    (hi : X.N[i]? = some x := by rfl) (hj : X.N[j]? = some y := by rfl) (hl : X.N[l]? = some z := by rfl)
    (hx : X.env.scope.names.lookup x = some .local := by rfl) (hy : X.env.scope.names.lookup y = some .local := by rfl) (hz : X.env.scope.names.lookup z = some .local := by rfl)
    (hw : swappedStores [.Tuple [.Name x px, .Name y py, .Name z pz] kt pt] (.Tuple [p, q, r] k2 pt2) X.env = pure (some [x, y, z]) := by rfl) (hs : swapsWithSole [.Tuple [.Name x px, .Name y py, .Name z pz] kt pt] (.Tuple [p, q, r] k2 pt2) pos.line X.env = pure false := by rfl)
    (h1 : starEach [p, q, r] X.env = (false, eval p X.env) :: starEach [q, r] X.env := by rfl) (h2 : starEach [q, r] X.env = (false, eval q X.env) :: starEach [r] X.env := by rfl) (h3 : starEach [r] X.env = (false, eval r X.env) :: starEach [] X.env := by rfl) :
    SS X g E (.Assign [.Tuple [.Name x px, .Name y py, .Name z pz] kt pt] (.Tuple [p, q, r] k2 pt2) pos) (sAsg (eTup (aCons mp (aCons mq (aCons mr aNil)))) (gTup 3 (gCons (gV i) (gCons (gV j) (gCons (gV l) gNil))))) :=
  ⟨ps_imp (ps_par3 hc hN hi hj hl hij hil hjl hx hy hz (sa_cons hp (sa_cons hq (sa_cons hr sa_nil h3) h2) h1).run hw hs) fun D s H ⟨ro, L, S, hL, hS, h⟩ => by
    refine ⟨ro, L, S, hL, hS, ?_⟩
    unfold sAsg MP.eTup at h
    cases z : aCons mp (aCons mq (aCons mr aNil)) L S with
    | ok ds S1 =>
      rw [z] at h
      simp only [R.bind_ok] at h
      intro ro1 H1 vs gr ex hS1 rv
      split at h
      · match ds with
        | [d1, d2, d3] =>
          obtain ⟨v1, _, rfl, r1, rr⟩ := rv.inv
          obtain ⟨v2, _, rfl, r2, rr2⟩ := rr.inv
          obtain ⟨v3, _, rfl, r3, rr3⟩ := rr2.inv
          cases rr3.inv0
          simp only [R.st_ok, MP.gTup, MP.gCons, MP.gV, MP.gNil, R.bind_ok, List.length_cons, List.length_nil, if_true] at h
          exact ⟨v1, v2, v3, rfl, h ro1 H1 _ gr ex hS1 ((((hL.mono gr ex).set i r1).set j r2).set l r3)⟩
        | [] => exact absurd h (by simp [R.st_ok, MP.gTup, PostS])
        | [_] => exact absurd h (by simp [R.st_ok, MP.gTup, PostS])
        | [_, _] => exact absurd h (by simp [R.st_ok, MP.gTup, PostS])
        | _ :: _ :: _ :: _ :: _ => exact absurd h (by simp [R.st_ok, MP.gTup, PostS])
      · exact h.elim
    | exc x S1 => rw [z] at h; exact h
    | err => rw [z] at h; exact h⟩
/-- constants of the module -/
theorem se_globI {x : Str} {k : Int} (hg : Gl X x) (h : ∃ t, X.mg x = some (.int k t)) (hd : (x == ("__debug__" : Str)) = false := by decide) : SE X g E (.Name x pos) (eC (.int k)) := by
  obtain ⟨t, h⟩ := h
  exact se_glob (v := .int k) hg h ⟨t, rfl⟩ (fun _ _ => .int_mk) hd
theorem se_globS {x y : Str} {z : List Nat} (hg : Gl X x) (h : ∃ t, X.mg x = some (.str y t)) (hy : y = ⟨z.toArray⟩ := by decide +kernel) (hz : okS z = true := by decide +kernel) (hd : (x == ("__debug__" : Str)) = false := by decide) : SE X g E (.Name x pos) (eC (.str z)) := by
  obtain ⟨t, h⟩ := h
  subst hy
  exact se_glob (v := .str ⟨z.toArray⟩) hg h ⟨t, rfl⟩ (fun _ _ => .str_mk fun c hc => by simpa using List.all_eq_true.mp hz c hc) hd

/-! ### keys of dicts -/
theorem dkey_kV {ro : List Addr} {H : Hp} {d : D} {v : V} (r : RelD ro H d v) (h : isKey d = true) : ∃ k, dkey d = some k ∧ v = kV k := by
  cases d with
  | int n => exact ⟨.inl n, rfl, r.int_inv⟩
  | str x => exact ⟨.inr ⟨x.toArray⟩, if_pos h, r.str_inv.1⟩
  | _ => exact absurd h Bool.false_ne_true
theorem tkey_kV {ro : List Addr} {H : Hp} {d : D} {v : V} (r : RelD ro H d v) (h : keyOk true d = true) : ∃ k b, tkey d = some k ∧ v = .ref b ∧ H b = some (.tup (k.map kV)) := by
  cases d with
  | tup ds =>
    obtain ⟨p1, vs, e1, h1, q1⟩ := r.tup_inv
    have go : ∀ {ds : List D} {vs : List V}, RelDs ro H ds vs → ds.all isKey = true → ∃ k, ds.mapM dkey = some k ∧ vs = k.map kV := by
      intro ds
      induction ds with
      | nil => intro vs r _; exact ⟨[], rfl, by rw [r.inv0] <;> rfl⟩
      | cons d ds ih =>
        intro vs r h
        obtain ⟨v, us, rfl, r1, r2⟩ := r.inv
        rw [List.all_cons, Bool.and_eq_true] at h
        obtain ⟨k, h1, h2⟩ := dkey_kV r1 h.1
        obtain ⟨ks, h3, h4⟩ := ih r2 h.2
        refine ⟨k :: ks, ?_, by rw [h2, h4] <;> rfl⟩
        rw [List.mapM_cons, h1, h3] <;> rfl
    obtain ⟨k, h2, h3⟩ := go q1 (show ds.all isKey = true from h)
    exact ⟨k, p1, h2, e1, by rw [← h3]; exact h1⟩
  | _ => exact absurd h Bool.false_ne_true
theorem dkey_inj {x y : D} {k : L2.Key} (hx : dkey x = some k) (hy : dkey y = some k) : x = y := by
  have str : ∀ {z : List Nat} {k}, (if okS z = true then some (.inr ⟨z.toArray⟩ : L2.Key) else none) = some k → k = .inr ⟨z.toArray⟩ := fun {z k} h => by
    split at h
    · cases h; rfl
    · cases h
  cases x with
  | int n =>
    cases hx
    cases y with
    | int m => cases hy; rfl
    | str z => cases str hy
    | _ => cases hy
  | str z =>
    have e := str hx
    subst e
    cases y with
    | int m => cases hy
    | str z' =>
      have e := str hy
      have e2 : z = z' := by
        have := Sum.inr.inj e
        exact SX.S_inj this
      rw [e2]
    | _ => cases hy
  | _ => cases hx
theorem mapM_inj : ∀ {xs ys : List D} {k : List L2.Key}, xs.mapM dkey = some k → ys.mapM dkey = some k → xs = ys := by
  have cons : ∀ {x : D} {xs : List D} {k : List L2.Key}, (x :: xs).mapM dkey = some k → ∃ a r, k = a :: r ∧ dkey x = some a ∧ xs.mapM dkey = some r := fun {x xs k} h => by
    rw [List.mapM_cons] at h
    cases h1 : dkey x with
    | none => rw [h1] at h; cases h
    | some a =>
      cases h2 : xs.mapM dkey with
      | none => rw [h1, h2] at h; cases h
      | some r => rw [h1, h2] at h; cases h; exact ⟨a, r, rfl, rfl, rfl⟩
  intro xs
  induction xs with
  | nil =>
    intro ys k h1 h2
    cases ys with
    | nil => rfl
    | cons y ys =>
      obtain ⟨a, r, e, _⟩ := cons h2
      rw [e] at h1
      cases h1
  | cons x xs ih =>
    intro ys k h1 h2
    obtain ⟨a, r, e, q1, q2⟩ := cons h1
    cases ys with
    | nil =>
      rw [e] at h2
      cases h2
    | cons y ys =>
      obtain ⟨a', r', e', q1', q2'⟩ := cons h2
      rw [e] at e'
      cases e'
      rw [dkey_inj q1 q1', ih q2 q2']
theorem tkey_inj {x y : D} {k : List L2.Key} (hx : tkey x = some k) (hy : tkey y = some k) : x = y := by
  cases x with
  | tup xs =>
    cases y with
    | tup ys => rw [mapM_inj hx hy]
    | _ => cases hy
  | _ => cases hx
/-- one theory for both kinds -/
theorem kget_rel {κ : Type} [DecidableEq κ] {kf : D → Option κ} (inj : ∀ {x y : D} {k : κ}, kf x = some k → kf y = some k → x = y) {ro : List Addr} {H : Hp} {x : D} {k : κ} (hx : kf x = some k) :
    ∀ {kvs : List (D × D)} {ws : List (κ × V)}, Paired (fun p q => kf p.1 = some q.1 ∧ RelD ro H p.2 q.2) kvs ws → (∀ d, kget x kvs = some d → ∃ v, valV ws k = some v ∧ RelD ro H d v) ∧ (kget x kvs = none → valV ws k = none)
  | _, _, .nil => ⟨fun d h => by simp [kget] at h, fun _ => rfl⟩
  | (y, d) :: kvs, (k', v) :: ws, .cons ⟨h1, h2⟩ t => by
    have h1 : kf y = some k' := h1
    obtain ⟨i1, i2⟩ := kget_rel inj hx t
    unfold kget
    by_cases q : y = x
    · subst q
      rw [hx] at h1
      cases h1
      rw [if_pos rfl]
      refine ⟨fun d' e => ?_, fun e => by cases e⟩
      cases e
      exact ⟨v, by simp [valV], h2⟩
    · rw [if_neg q]
      have ne : ¬ k' = k := fun z => q (inj (z ▸ h1) hx)
      have l : valV ((k', v) :: ws) k = valV ws k := by
        unfold valV
        rw [List.find?_cons]
        simp [ne]
      rw [l]
      exact ⟨i1, i2⟩
theorem kput_rel {κ : Type} [DecidableEq κ] {kf : D → Option κ} (inj : ∀ {x y : D} {k : κ}, kf x = some k → kf y = some k → x = y) {ro : List Addr} {H : Hp} {x d : D} {k : κ} {v : V} (hx : kf x = some k) (r : RelD ro H d v)
    {kvs : List (D × D)} {ws : List (κ × V)} (h : Paired (fun p q => kf p.1 = some q.1 ∧ RelD ro H p.2 q.2) kvs ws) : Paired (fun p q => kf p.1 = some q.1 ∧ RelD ro H p.2 q.2) (kput x d kvs) (putK ws k v) := by
  have any : ∀ {kvs : List (D × D)} {ws : List (κ × V)}, Paired (fun p q => kf p.1 = some q.1 ∧ RelD ro H p.2 q.2) kvs ws → (kvs.any fun q => decide (q.1 = x)) = ws.any fun q => decide (q.1 = k) := by
    intro kvs ws h
    induction h with
    | nil => rfl
    | @cons p q l1 l2 hp _ ih =>
      rw [List.any_cons, List.any_cons, ih]
      congr 1
      rw [Bool.eq_iff_iff]
      simp only [decide_eq_true_eq]
      exact ⟨fun e => by rw [e, hx] at hp; exact (Option.some.inj hp.1).symm, fun e => inj (by rw [← e]; exact hp.1) hx⟩
  have map : ∀ {kvs : List (D × D)} {ws : List (κ × V)}, Paired (fun p q => kf p.1 = some q.1 ∧ RelD ro H p.2 q.2) kvs ws → Paired (fun p q => kf p.1 = some q.1 ∧ RelD ro H p.2 q.2) (kvs.map fun q => if q.1 = x then (q.1, d) else q) (ws.map fun kv => if kv.1 = k then (kv.1, v) else kv) := by
    intro kvs ws h
    induction h with
    | nil => exact .nil
    | @cons p q l1 l2 hp _ ih =>
      refine .cons ?_ ih
      by_cases e : p.1 = x
      · have e2 : q.1 = k := by
          have := hp.1
          rw [e, hx] at this
          exact (Option.some.inj this).symm
        dsimp only
        rw [if_pos e, if_pos e2]
        exact ⟨hp.1, r⟩
      · have e2 : ¬ q.1 = k := fun z => e (inj (by rw [← z]; exact hp.1) hx)
        dsimp only
        rw [if_neg e, if_neg e2]
        exact hp
  unfold kput putK
  rw [any h]
  split
  · exact map h
  · exact Paired.app h (.cons ⟨hx, r⟩ .nil)
theorem kdrop_rel {κ : Type} [DecidableEq κ] {kf : D → Option κ} (inj : ∀ {x y : D} {k : κ}, kf x = some k → kf y = some k → x = y) {ro : List Addr} {H : Hp} {x : D} {k : κ} (hx : kf x = some k)
    {kvs : List (D × D)} {ws : List (κ × V)} (h : Paired (fun p q => kf p.1 = some q.1 ∧ RelD ro H p.2 q.2) kvs ws) : Paired (fun p q => kf p.1 = some q.1 ∧ RelD ro H p.2 q.2) (kdrop x kvs) (dropK ws k) := by
  unfold kdrop dropK
  induction h with
  | nil => exact .nil
  | @cons p q l1 l2 hp _ ih =>
    rw [List.filter_cons, List.filter_cons]
    by_cases e : p.1 = x
    · have e2 : q.1 = k := by
        have := hp.1
        rw [e, hx] at this
        exact (Option.some.inj this).symm
      rw [if_neg (by simp [e]), if_neg (by simp [e2])]
      exact ih
    · have e2 : ¬ q.1 = k := fun z => e (inj (by rw [← z]; exact hp.1) hx)
      rw [if_pos (by simp [e]), if_pos (by simp [e2])]
      exact .cons hp ih
/-- a dict read -/
theorem dget_rel {ro : List Addr} {S : Sto} {H : Hp} (hS : RelS g ro S H) {n : Nat} {a : Addr} {t lk : Bool} {kvs : List (D × D)} {x : D} {y : V} (hn : ro[n]? = some a) (e : S[n]? = some (.dic t lk kvs)) (r : RelD ro H x y) (hk : keyOk t x = true) :
    (∀ d, kget x kvs = some d → ∃ v, DGet H a y (some v) ∧ RelD ro H d v) ∧ (kget x kvs = none → DGet H a y none) := by
  have q := hS.at hn e
  cases t with
  | true =>
    obtain ⟨ws, r2, q⟩ := (show ∃ ws, RelTV ro H kvs ws ∧ AtL H a lk (.dT ws) from q)
    obtain ⟨k, b, h1, h2, h3⟩ := tkey_kV r hk
    have rdd : Rd H a (.dT ws) := by
      cases lk with
      | true => exact .inr q
      | false => exact .inl q
    obtain ⟨i1, i2⟩ := kget_rel tkey_inj h1 r2
    exact ⟨fun d e => let ⟨v, e1, e2⟩ := i1 d e; ⟨v, .inr ⟨ws, k, b, rdd, h2, h3, e1.symm⟩, e2⟩, fun e => .inr ⟨ws, k, b, rdd, h2, h3, (i2 e).symm⟩⟩
  | false =>
    obtain ⟨ws, r2, q⟩ := (show ∃ ws, RelKV ro H kvs ws ∧ AtL H a lk (.dK ws) from q)
    obtain ⟨k, h1, h2⟩ := dkey_kV r hk
    have rdd : Rd H a (.dK ws) := by
      cases lk with
      | true => exact .inr q
      | false => exact .inl q
    obtain ⟨i1, i2⟩ := kget_rel dkey_inj h1 r2
    exact ⟨fun d e => let ⟨v, e1, e2⟩ := i1 d e; ⟨v, .inl ⟨ws, k, rdd, h2, e1.symm⟩, e2⟩, fun e => .inl ⟨ws, k, rdd, h2, (i2 e).symm⟩⟩
theorem dput_rel {ro : List Addr} {S : Sto} {H : Hp} (hS : RelS g ro S H) {n : Nat} {a : Addr} {t : Bool} {kvs : List (D × D)} {x d : D} {y v : V} (hn : ro[n]? = some a) (e : S[n]? = some (.dic t false kvs)) (r : RelD ro H x y) (hk : keyOk t x = true) (rv : RelD ro H d v) (hz : kvs.length < sz) :
    ∃ H', DPut H a y v H' ∧ Ext H H' ∧ RelS g ro (S.set n (.dic t false (kput x d kvs))) H' := by
  have q := hS.at hn e
  have len : ∀ {α β : Type} {F : α → β → Prop} {l : List α} {m : List β}, Paired F l m → l.length = m.length := by
    intro α β F l m h
    induction h with
    | nil => rfl
    | cons _ _ ih => simp only [List.length_cons, ih]
  cases t with
  | true =>
    obtain ⟨ws, r2, q⟩ := (show ∃ ws, RelTV ro H kvs ws ∧ AtL H a false (.dT ws) from q)
    obtain ⟨k, b, h1, h2, h3⟩ := tkey_kV r hk
    have q : H a = some (.dT ws) := q
    have ex : Ext H (upd H a (.dT (putK ws k v))) := .put q dT_tup dT_frz
    refine ⟨_, .inr ⟨ws, k, b, q, h2, h3, by rw [← len r2, ← sz_eq]; exact hz, rfl⟩, ex, ?_⟩
    refine hS.put hn e (fun z => z.elim) (fun z => z.elim) q (show ∃ ws', RelTV ro (upd H a (.dT (putK ws k v))) (kput x d kvs) ws' ∧ AtL (upd H a (.dT (putK ws k v))) a false (.dT ws') from ⟨_, RelTV.mono (.refl _) ex.tup (kput_rel tkey_inj h1 rv r2), upd_same⟩) nu_dT
  | false =>
    obtain ⟨ws, r2, q⟩ := (show ∃ ws, RelKV ro H kvs ws ∧ AtL H a false (.dK ws) from q)
    obtain ⟨k, h1, h2⟩ := dkey_kV r hk
    have q : H a = some (.dK ws) := q
    have ex : Ext H (upd H a (.dK (putK ws k v))) := .put q dK_tup dK_frz
    refine ⟨_, .inl ⟨ws, k, q, h2, by rw [← len r2, ← sz_eq]; exact hz, rfl⟩, ex, ?_⟩
    refine hS.put hn e (fun z => z.elim) (fun z => z.elim) q (show ∃ ws', RelKV ro (upd H a (.dK (putK ws k v))) (kput x d kvs) ws' ∧ AtL (upd H a (.dK (putK ws k v))) a false (.dK ws') from ⟨_, RelKV.mono (.refl _) ex.tup (kput_rel dkey_inj h1 rv r2), upd_same⟩) nu_dK
/-- d[k] -/
theorem se_dget (cx : Ctx g E X) (ho : SE X g E o mo) (hi : SE X g E i mi) (hs : NoSl i := by intro _ _; rfl) : SE X g E (.Subscript o i pos) (eBin opGet mo mi) := ⟨pe_imp (pe_dget (by have := cx.units; omega) ho.run hi.run hs) fun s H Q ⟨ro, L, S, hL, hS, h⟩ => by
  refine ⟨ro, L, S, hL, hS, Post.bind h fun d S1 ro1 H1 v gr ex hS1 rv w => ⟨ro1, L, S1, hL.mono gr ex, hS1, Post.bind w fun d2 S2 ro2 H2 v2 gr2 ex2 hS2 rv2 w => ?_⟩⟩
  unfold opGet at w
  split at w
  · rename_i n
    obtain ⟨p1, h1, rfl⟩ := rv.ref_inv
    split at w
    · rename_i t lk kvs e
      split at w
      · rename_i hk
        split at w
        · rename_i d3 e3
          obtain ⟨v3, g3, r3⟩ := (dget_rel hS2 (gr2 _ _ h1) e rv2 hk).1 _ e3
          exact ⟨p1, v3, rfl, g3, w ro2 H2 _ (.refl _) (.refl _) hS2 r3⟩
        · exact w.elim
      · exact w.elim
    · exact w.elim
  · exact w.elim⟩
end
end MP

namespace MP
open PySem L2
section
variable {X : Cx} {g : G} {E : XK} {a b e c o i : Expr} {m ma mb mc mo mi : EM} {pos p apos : Pos} {es : List Expr} {ms : AM} {k : Nat} {F : Fn}
theorem se_err : SE X g E e eErr := ⟨⟨fun pins s σ H Q I ⟨ro, L, S, hL, hS, h⟩ => h.elim⟩⟩
theorem ss_err {st : Stmt} : SS X g E st sErr := ⟨⟨fun pins s σ H D I ⟨ro, L, S, hL, hS, h⟩ => h.elim⟩⟩
theorem Ctx.free {x : Str} (cx : Ctx g E X) (h : g.mg x = none) : X.mg x = none := by rw [cx.mg]; exact h
theorem Ctx.gi {x : Str} {i : Int} (cx : Ctx g E X) (h : ∃ t, g.mg x = some (.int i t)) : ∃ t, X.mg x = some (.int i t) := by rw [cx.mg]; exact h
theorem Ctx.gs {x z : Str} (cx : Ctx g E X) (h : ∃ t, g.mg x = some (.str z t)) : ∃ t, X.mg x = some (.str z t) := by rw [cx.mg]; exact h
theorem is_non {ro : List Addr} {H : Hp} {d : D} {v : V} (rv : RelD ro H d v) : decide (d = .non) = decide (v = .non) := by
  cases d with
  | non => rw [rv.non_inv] <;> rfl
  | bl b => rw [rv.bl_inv] <;> rfl
  | int b => rw [rv.int_inv] <;> rfl
  | str b => rw [rv.str_inv.1] <;> rfl
  | tup b => obtain ⟨_, _, e, _⟩ := rv.tup_inv; rw [e] <;> rfl
  | ref b => obtain ⟨_, _, e⟩ := rv.ref_inv; rw [e] <;> rfl
  | exn _ _ => rw [rv.exn_inv] <;> rfl
theorem st_isN {j : Nat} {pos2 : Pos} (ha : SE X g E a ma) : ST X g E (.Compare a [.Is] [.Constant .none j pos2] pos) (tV (eUn opIsN ma)) := ⟨pt_imp (pt_cmp (pc_isN ha.run) rfl) fun s H Q h => by
  obtain ⟨ro, L, S, hL, hS, h⟩ := rd_tv h
  exact ⟨ro, L, S, hL, hS, Post.bind h fun d S1 ro1 H1 v gr ex hS1 rv w => by
    have q := w ro1 H1 _ (.refl _) (.refl _) hS1 .bl_mk
    rw [is_non rv] at q
    exact q⟩⟩
theorem st_notN {j : Nat} {pos2 : Pos} (ha : SE X g E a ma) : ST X g E (.Compare a [.IsNot] [.Constant .none j pos2] pos) (tV (eUn opNotN ma)) := ⟨pt_imp (pt_cmp (pc_notN ha.run) rfl) fun s H Q h => by
  obtain ⟨ro, L, S, hL, hS, h⟩ := rd_tv h
  exact ⟨ro, L, S, hL, hS, Post.bind h fun d S1 ro1 H1 v gr ex hS1 rv w => by
    have q := w ro1 H1 _ (.refl _) (.refl _) hS1 .bl_mk
    rw [is_non rv] at q
    exact q⟩⟩
theorem st_isB {k : Bool} {j : Nat} {pos2 : Pos} (ha : SE X g E a ma) : ST X g E (.Compare a [.Is] [.Constant (.bool k) j pos2] pos) (tV (eUn (opIsB k) ma)) :=
  ⟨pt_imp (pt_cmpR op_is_bl ha.run (se_bl (g := g) (E := E)).run rfl) fun s H Q h => by
    obtain ⟨ro, L, S, hL, hS, h⟩ := rd_tv h
    exact ⟨ro, L, S, hL, hS, Post.bind h fun d S1 ro1 H1 v gr ex hS1 rv w => ⟨ro1, L, S1, hL.mono gr ex, hS1, fun ro2 H2 v2 gr2 ex2 hS2 rv2 => by
      cases d with
      | bl b => exact ⟨b, k, rv.bl_inv, rv2.bl_inv, w ro2 H2 _ gr2 ex2 hS2 .bl_mk⟩
      | _ => exact w.elim⟩⟩⟩
theorem st_notB {k : Bool} {j : Nat} {pos2 : Pos} (ha : SE X g E a ma) : ST X g E (.Compare a [.IsNot] [.Constant (.bool k) j pos2] pos) (tV (eUn (opNotB k) ma)) :=
  ⟨pt_imp (pt_cmpR op_isnot_bl ha.run (se_bl (g := g) (E := E)).run rfl) fun s H Q h => by
    obtain ⟨ro, L, S, hL, hS, h⟩ := rd_tv h
    exact ⟨ro, L, S, hL, hS, Post.bind h fun d S1 ro1 H1 v gr ex hS1 rv w => ⟨ro1, L, S1, hL.mono gr ex, hS1, fun ro2 H2 v2 gr2 ex2 hS2 rv2 => by
      cases d with
      | bl b => exact ⟨b, k, rv.bl_inv, rv2.bl_inv, w ro2 H2 _ gr2 ex2 hS2 .bl_mk⟩
      | _ => exact w.elim⟩⟩⟩
theorem si_str {tg : Expr} (cx : Ctx g E X) (ha : SE X g E a ma) : SI X g E tg a (wStr ma) := ⟨pi_imp (pi_str ha.run) fun s H Q ⟨ro, L, S, hL, hS, h⟩ => by
  refine ⟨ro, L, S, hL, hS, Post.bind h fun d S1 ro1 H1 v gr ex hS1 rv h => ?_⟩
  cases d with
  | str z =>
    obtain ⟨e, k⟩ := rv.str_inv
    refine ⟨_, e, h ro1 H1 _ (.refl _) (.refl _) hS1 fun i ro' S' H' gr' ex' R hk => ?_⟩
    refine ⟨fun d hd => ?_, fun hi => ?_⟩
    · rw [List.getElem?_map] at hd
      cases q : z[i]? with
      | none => rw [q] at hd; cases hd
      | some c =>
        rw [q] at hd
        cases hd
        have q2 : z.toArray[i]? = some c := by simpa using q
        refine ⟨(Array.getElem?_eq_some_iff.mp q2).1, fun x H'' ⟨e1, c', e2, e3⟩ => ?_⟩
        subst e1 e3
        rw [q2] at e2
        cases e2
        exact ⟨.refl _, R, .str_mk fun b hb => by
          cases hb with
          | head => exact k _ (List.mem_of_getElem? q)
          | tail _ hb => cases hb⟩
    · show z.toArray.size ≤ i
      rw [hi]
      simp
  | _ => exact h.elim⟩
/-- all values are written, of a def with defaults -/
theorem binds_full {K : PySem.W.Frag} {x qual : Str} {params : Arguments} {body : List Stmt} {scope : Scope} {dvs : List V} {f : Addr} {fd : FuncData} {ps : List Str} (F : FunD K x qual params body scope dvs [] f fd) (n : Nat) (hd : dvs ≠ []) (hn : n = ps.length)
    (h : ∀ (T : Addr) (kV doc pm : Value) (an : Option Addr) (cdv ct : Value) (us its : List Value), us.length = n → its.length = dvs.length →
      ∃ k, bindArgs (PySem.W.fnOf x qual params body scope (.ref T) kV doc pm an cdv ct) ⟨us, []⟩ = seqItems? (.ref T) >>= k ∧ k (some its.toArray) = pure (ps.zip us)) : Binds K fd ps [] := by
  obtain ⟨ds, v, b⟩ := F.binds1 (ps := ps) n dvs.length hd (by omega) fun T kV doc pm an cdv ct us its h1 h2 => by
    obtain ⟨k, e1, e2⟩ := h T kV doc pm an cdv ct us its h1 h2
    refine ⟨k, e1, ?_⟩
    rw [e2, ← h2, List.drop_length, List.append_nil]
  rw [List.drop_length] at v
  cases v
  exact b
theorem c_lenOwn {c : Nat} (cx : Ctx g E X) (d : Me g k c "__len__" F) (hr : Room (k + 1) X.A) : CallR X (.builtin "len") (rN g E (fLenOwn c F)) := by
  obtain ⟨f, fd, ps, hF, hc, hm, hb⟩ := d
  have hF := hF.at cx
  rw [← cx.K] at hc hm hb
  intro pins s σ H xs us Q I rv ⟨ro, S, ds, hS, rd, w⟩
  unfold fLenOwn at w
  split at w
  · rename_i n
    obtain ⟨v, _, rfl, r1, r2⟩ := rd.inv
    cases r2.inv0
    obtain ⟨x, hx, rfl⟩ := r1.ref_inv
    obtain ⟨u, _, ru, rn, rfl⟩ := (show ∃ u us', RelV (.ref x) u ∧ Vals [] us' ∧ us = u :: us' from by cases rv; exact ⟨_, _, by assumption, by assumption, rfl⟩)
    cases rn
    cases ru
    split at w
    · rename_i c' fs e1
      split at w
      · rename_i hc'
        subst hc'
        obtain ⟨dx, ws, r, q⟩ := hS.at hx e1
        obtain ⟨mA, J, _⟩ := ins_get I.hok q
        obtain ⟨od, J, _⟩ := J.look
        refine Calls.call_function_entry kind_len plain_len entry_len (args_len1 _) ?_
        unfold Builtin.«len»
        refine wpAny_bind (m := oneArg "len" _) (wpAny_pure ?_)
        have env0 : Env0 X.prog X.w X.K X.mg X.base X.A.in1 X.stack s H := by
          have e := I.env0
          exact ⟨e.frames, e.mod, e.bs, e.bsz, e.funs, e.frf, e.hok, e.bare⟩
        have hsp : spM g F [.ref x] H (fun v H' => ∃ (i : Int), v = .int i ∧ 0 ≤ i ∧ i < 2 ^ 63 ∧ Q (.int i) H') E := by
          refine ⟨ro, S, [.ref n], hS, .cons (.ref_mk hx) .nil, Post.bind w fun d1 S1 ro1 H1 v1 gr ex hS1 rv1 w => ?_⟩
          split at w
          · rename_i i
            split at w
            · rename_i hi
              exact ⟨i, rv1.int_inv, hi.1, hi.2, w ro1 H1 _ (.refl _) (.refl _) hS1 .int_mk⟩
            · exact w.elim
          · exact w.elim
        have hl := hF.len _ _ _ _ hsp
        have r2 : Vals [V.ref x] [Value.ref x] := .cons rfl .nil
        refine wpAny_bind (m := callSpecial? (.ref x) (Str.ofString "__len__")) ?_
        simp only [callSpecial?]
        refine wpAny_bind (wpAny_bind (J.type.here ((PySem.W.looks_findIn I.kIn hm.at_).here ?_)))
        refine wpAny_holding (wpAny_bind ((PySem.W.bind_fn I.kIn _ (beq_iff_eq.mp hm.fn)).here ?_))
        refine wpAny_bind (wpAny_call (codeAny_mono (hF.run X.A.in1 X.stack s H ⟨[.ref x], []⟩ [.ref x] [.ref x] _ E (Room.in1 hr) env0 (by
          have := hb s [.ref x] I.kIn (by simpa using hl)
          simpa using this) r2 hsp) fun r s' hq => ?_))
        cases r with
        | error e => exact passM cx pins σ H s e s' I hq
        | ok fl =>
          cases fl with
          | ret w =>
            obtain ⟨z, H', I', rz, i, ez, h0, h1, hQ⟩ := I.after hq
            subst ez
            obtain ⟨t, rfl⟩ := rz
            refine wpAny_pure (wpAny_bind (wpAny_holding (wpAny_pure ?_)))
            refine wpAny_bind (wpAny_letGo ?_)
            show wpAny _ _ (if i < 0 then _ else _) _ _ _
            rw [if_neg (by omega)]
            show wpAny _ _ (if i ≥ 2 ^ 63 then _ else _) _ _ _
            rw [if_neg (by omega)]
            exact wpAny_bind (wpAny_mkInt (wpAny_pure ⟨_, rfl, .int i, H', I'.tok _, ⟨_, rfl⟩, hQ⟩))
          | next => exact False.elim hq
          | brk => exact False.elim hq
          | cont => exact False.elim hq
      · exact w.elim
    · exact w.elim
  · exact w.elim
end
end MP

namespace MP
open PySem L2
abbrev tS (x : List Nat) : Str := ⟨x.toArray⟩
theorem tS_join (a : List Nat) : ∀ ys : List (List Nat), Str.join (tS a) (ys.map tS) = tS (joinS a ys)
  | [] => rfl
  | [x] => rfl
  | x :: y :: r => by
    show tS x ++ tS a ++ Str.join (tS a) ((y :: r).map tS) = tS (x ++ a ++ joinS a (y :: r))
    rw [tS_join a (y :: r), SX.S_cat, SX.S_cat]
theorem strsOfD_rel {ro : List Addr} {H : Hp} : ∀ {ds : List D} {vs : List V} {zs : List (List Nat)}, RelDs ro H ds vs → strsOfD ds = some zs → vs = (zs.map tS).map V.str ∧ ∀ z ∈ zs, ∀ c ∈ z, c < 0x110000
  | [], vs, b, h, e => by cases e; exact ⟨by rw [h.inv0] <;> rfl, fun z hz => by cases hz⟩
  | d :: ds, vs, b, h, e => by
    obtain ⟨v, r, rfl, h2, h3⟩ := h.inv
    cases d with
    | str i =>
      simp only [strsOfD] at e
      cases q : strsOfD ds with
      | none => rw [q] at e; cases e
      | some c =>
        rw [q] at e
        cases e
        obtain ⟨e1, e2⟩ := strsOfD_rel h3 q
        obtain ⟨e3, e4⟩ := h2.str_inv
        refine ⟨by rw [e1, e3] <;> rfl, fun z hz => ?_⟩
        rcases List.mem_cons.mp hz with rfl | hz
        · exact e4
        · exact e2 z hz
    | _ => simp [strsOfD] at e
theorem joinS_ok {a : List Nat} (ha : ∀ c ∈ a, c < 0x110000) : ∀ {zs : List (List Nat)}, (∀ z ∈ zs, ∀ c ∈ z, c < 0x110000) → ∀ c ∈ joinS a zs, c < 0x110000
  | [], _, c, hc => by cases hc
  | [x], h, c, hc => h x (List.mem_cons_self ..) c hc
  | x :: y :: r, h, c, hc => by
    rcases List.mem_append.mp (show c ∈ (x ++ a) ++ joinS a (y :: r) from hc) with hc | hc
    · rcases List.mem_append.mp hc with hc | hc
      · exact h x (List.mem_cons_self ..) c hc
      · exact ha c hc
    · exact joinS_ok ha (fun z hz => h z (List.mem_cons_of_mem _ hz)) c hc
theorem txt_split (x : List Nat) (c : Nat) : Txt.split (tS x) ⟨#[c]⟩ = (splitC c x).map tS := by
  have un : ∀ l : List Str, ∃ ys : List (List Nat), l = ys.map tS := fun l => ⟨l.map fun z => z.cps.toList, by rw [List.map_map]; exact (List.map_id' l).symm.trans (List.map_congr_left fun z _ => by simp [tS])⟩
  obtain ⟨ys, e⟩ := un (Txt.split (tS x) ⟨#[c]⟩)
  have j : Str.join (tS [c]) (Txt.split (tS x) (tS [c])) = tS x := StrLaws.join_split _ _
  have e' : Txt.split (tS x) (tS [c]) = ys.map tS := e
  rw [e', tS_join] at j
  have j := SX.S_inj j
  have fr : ∀ p ∈ ys, c ∉ p := fun p hp => by
    have := StrLaws.split_free (tS x) c (tS p) (by rw [e]; exact List.mem_map_of_mem hp)
    simpa [tS] using this
  have ne : ys ≠ [] := fun z => by
    have := PyProof.Rows.split_pos (tS x) ⟨#[c]⟩
    rw [e, z] at this
    simp at this
  rw [e, join_inj ne (splitC_ne c x) fr (splitC_free c x) (j.trans (splitC_join c x).symm)]
theorem rel_strs {ro : List Addr} {H : Hp} : ∀ ys : List (List Nat), (∀ y ∈ ys, ∀ k ∈ y, k < 0x110000) → RelDs ro H (ys.map D.str) ((ys.map tS).map V.str)
  | [], _ => .nil
  | y :: ys, h => .cons (.str_mk (h y (List.mem_cons_self ..))) (rel_strs ys fun y hy => h y (List.mem_cons_of_mem _ hy))
section
variable {X : Cx} {g : G} {E : XK}
theorem m_join (cx : Ctx g E X) : MtR X "str.join" (rM g E fJoin) := mtr_imp mt_join fun x xs H Q ⟨ro, S, ds, hS, rv, w⟩ => by
  unfold fJoin at w
  split at w
  · rename_i a ys
    obtain ⟨v, _, e1, r1, r2⟩ := rv.inv
    obtain ⟨u, _, e2, r3, r4⟩ := r2.inv
    cases r4.inv0
    subst e2
    cases e1
    obtain ⟨p, vs, rfl, hp, rr⟩ := r3.tup_inv
    obtain ⟨ea, ka⟩ := r1.str_inv
    split at w
    · rename_i zs hz
      split at w
      · rename_i hle
        obtain ⟨e3, k3⟩ := strsOfD_rel rr hz
        refine ⟨tS a, p, zs.map tS, ea, rfl, .inr (by rw [← e3]; exact SqT.of hp), ?_, ?_⟩
        · have l1 : (zs.map tS).map (·.length) = zs.map (·.length) := by
            rw [List.map_map]
            exact List.map_congr_left fun z _ => SX.S_len z
          rw [l1, List.length_map, SX.S_len]
          exact hle
        · have e4 : Txt.join (tS a) (zs.map tS) = tS (joinS a zs) := by
            unfold Txt.join
            rw [StrLaws.glued_eq_join, tS_join]
          rw [e4]
          exact w ro H _ (.refl _) (.refl _) hS (.str_mk (joinS_ok ka k3))
      · exact w.elim
    · exact w.elim
  · exact w.elim
theorem m_split (cx : Ctx g E X) : MtR X "str.split" (rM g E fSplit) := mtr_imp mt_split fun x xs H Q ⟨ro, S, ds, hS, rv, w⟩ => by
  unfold fSplit at w
  split at w
  · rename_i z c
    obtain ⟨v, _, e1, r1, r2⟩ := rv.inv
    obtain ⟨u, _, e2, r3, r4⟩ := r2.inv
    cases r4.inv0
    subst e2
    cases e1
    obtain ⟨ea, ka⟩ := r1.str_inv
    obtain ⟨eb, kb⟩ := r3.str_inv
    subst eb
    split at w
    · rename_i hle
      refine ⟨tS z, ⟨#[c]⟩, ea, rfl, rfl, by rw [SX.S_len, ← sz_eq]; exact hle, fun p hp => ?_⟩
      rw [txt_split]
      refine w.push hS hp ⟨_, ?_, upd_same⟩
      have ok : ∀ y ∈ splitC c z, ∀ k ∈ y, k < 0x110000 := by
        have : ∀ x : List Nat, (∀ k ∈ x, k < 0x110000) → ∀ y ∈ splitC c x, ∀ k ∈ y, k < 0x110000 := by
          intro x
          induction x with
          | nil => intro _ y hy k hk; simp [splitC] at hy; subst hy; cases hk
          | cons a r ih =>
            intro h y hy k hk
            have ih := ih fun k hk => h k (List.mem_cons_of_mem _ hk)
            unfold splitC at hy
            split at hy
            · rcases List.mem_cons.mp hy with rfl | hy
              · cases hk
              · exact ih y hy k hk
            · split at hy
              · rename_i hd tl e
                rcases List.mem_cons.mp hy with rfl | hy
                · rcases List.mem_cons.mp hk with rfl | hk
                  · exact h _ (List.mem_cons_self ..)
                  · exact ih hd (by rw [e]; exact List.mem_cons_self ..) k hk
                · exact ih y (by rw [e]; exact List.mem_cons_of_mem _ hy) k hk
              · rename_i e
                exact absurd e (splitC_ne c r)
        exact this z ka
      exact rel_strs _ ok
    · exact w.elim
  · exact w.elim
end
end MP

namespace MP
open PySem PySem.W PySem.Calls PyProof.Rows PySem.SeqAt
section
variable {prog : Program} {w : World} {A : Around} {E : Value → Shared → Prop} {s : Shared}
theorem call_tuple_lt {Q : Value → Shared → Prop} {l b : Addr} {items items2 : Array Value} {e r : Nat → Bool} (hl : s.heap.IsTuple l items) (hb : s.heap.IsTuple b items2)
    (he : ∀ j (h1 : j < items.size) (h2 : j < items2.size), EqAt A.in1 s items[j] items2[j] (e j)) (hr : ∀ j (h1 : j < items.size) (h2 : j < items2.size), e j = false → RcLt A.in1 s items[j] items2[j] (r j))
    (h : Q (.bool (firstLt e r (decide (items.size < items2.size)) (List.range (min items.size items2.size)))) s) : wpAny (model prog w) A (call (.builtin "tuple.__lt__") [.ref l, .ref b]) Q E s := by
  obtain ⟨⟨cls, dd, data, sl⟩, ho, hc, n, hd⟩ := id hl
  obtain ⟨⟨cls2, dd2, data2, sl2⟩, ho2, hc2, n2, hd2⟩ := id hb
  simp only at hc hd hc2 hd2
  subst hc hd hc2 hd2
  exact call_meets F.slot_tuple_lt ⟨_, ho, rfl⟩ F.entry_tuple_lt (F.args_tuple_lt_2 _ _) (tuple_ltAt l b items items2 n n2 dd dd2 sl sl2 e r) ⟨ho, ho2, he, hr, h⟩
theorem oneLt_tup {xs ys : List PyData} {a b : Value} {as bs : List Addr} {Q : Bool → Shared → Prop} (ra : Reads s.heap a (.tuple xs) as) (rb : Reads s.heap b (.tuple ys) bs) (hal : alikeAll xs ys = true)
    (hu : A.units + min (PyData.tuple xs).depth (PyData.tuple ys).depth < cLine) (hq : Q (dataLt (.tuple xs) (.tuple ys)) s) : wpAny (model prog w) A (oneLt' true a b) Q E s := by
  cases ra with
  | @tuple l o vs n _ as₁ h1 h2 h3 h4 =>
    cases rb with
    | @tuple l' o' vs' n' _ bs₁ k1 k2 k3 k4 =>
      have n1 : vs.size = xs.length := by simpa using SeqAt.ReadsAll.length _ _ _ h4
      have n2 : vs'.size = ys.length := by simpa using SeqAt.ReadsAll.length _ _ _ k4
      rw [dataLt_tuple, ← firstLt_toks xs ys hal, ← n1, ← n2] at hq
      rw [oneLt'_eq]
      simp only [if_true]
      refine wpAny_bind (wpAny_cRoomFor (room_here hu) ?_)
      refine wpAny_bind (wpAny_callSpecialIfBound?_slot (T := "tuple") ⟨_, h1, h2⟩ F.slot_tuple_lt (call_tuple_lt (e := pairEq xs ys) (r := fun j => dataLt (xs.getD j .none) (ys.getD j .none)) ⟨_, h1, h2, _, h3⟩ ⟨_, k1, k2, _, k3⟩ (fun j j1 j2 => ?_) (fun j j1 j2 hj => ?_) ?_))
      · have := eqAt_alikeAll xs ys A.in1 s vs.toList vs'.toList _ _ h4 k4 hal (room_in hu) j (by simpa using j1) (by simpa using j2)
        simpa using this
      · have := rcLt_alikeAll xs ys A.in1 s vs.toList vs'.toList _ _ h4 k4 hal (room_in hu) j (by simpa using j1) (by simpa using j2) hj
        simpa using this
      · exact wpAny_truthy_bool hq
/-- an item at least -/
def neT : PyData → Bool
  | .tuple (_ :: _) => true
  | _ => false
theorem firsts_any : ∀ {vs : List Value} {ds : List PyData}, EachIs (fun v d => ∃ as, Reads s.heap v d as) vs ds → (∀ d ∈ ds, ∃ xs, d = .tuple xs) →
    ∃ fs : List (Option Value), fs.map (·.isSome) = ds.map neT ∧ ∀ {Q : List (Option Value) → Shared → Prop}, Q fs s → wpAny (model prog w) A (vs.mapM firstOfTuple') Q E s
  | _, _, .nil, _ => ⟨[], rfl, fun h => by rw [List.mapM_nil]; exact wpAny_pure h⟩
  | _, _, .cons (a := v) (b := d) ⟨as, r⟩ t, ht => by
    obtain ⟨fs, h1, h2⟩ := firsts_any t fun d hd => ht d (List.mem_cons_of_mem _ hd)
    obtain ⟨xs, rfl⟩ := ht d (List.mem_cons_self ..)
    cases r with
    | @tuple a o vs n _ _ ho hc hd hr =>
      refine ⟨vs[0]? :: fs, ?_, fun {Q} h => ?_⟩
      · rw [List.map_cons, List.map_cons, h1]
        congr 1
        have hl : vs.size = xs.length := by simpa using SeqAt.ReadsAll.length _ _ _ hr
        cases xs with
        | nil =>
          have : vs[0]? = none := Array.getElem?_eq_none (by rw [hl]; exact Nat.le_refl _)
          rw [this]
          rfl
        | cons x r =>
          have : 0 < vs.size := by rw [hl, List.length_cons]; omega
          rw [Array.getElem?_eq_getElem this]
          rfl
      · rw [List.mapM_cons]
        refine wpAny_bind ?_
        rw [kas_first_eq]
        refine wpAny_bind (Looks.here (show Looks _ s.heap (typeOf (.ref a)) o.cls from (Looks.ld ho).andThen .now) ?_)
        rw [hc, if_neg (by first | decide | simp)]
        refine wpAny_bind (listItems_at ho hd (wpAny_pure ?_))
        exact wpAny_bind (h2 (Q := fun bs s' => wpAny _ A (pure (vs[0]? :: bs)) Q E s') (wpAny_pure h))
/-- tuples, some of them empty: their kind -/
theorem kind_tups0 {vs : List Value} {ds : List PyData} {Q : SortKind → Shared → Prop} (e : EachIs (fun v d => ∃ as, Reads s.heap v d as) vs ds) (ht : ∀ d ∈ ds, ∃ xs, d = .tuple xs) (hn : ds.all neT = false)
    (h : Q (if (ds.head?.map neT) = some true then general' else oneType') s) : wpAny (model prog w) A (keyKind' vs.toArray) Q E s := by
  obtain ⟨fs, h1, h2⟩ := firsts_any (prog := prog) (w := w) (A := A) (E := E) e ht
  rw [kat_kind_eq, List.mapM_toArray, map_eq_pure_bind]
  refine wpAny_bind (wpAny_bind (h2 (wpAny_pure ?_)))
  have hall : (fs.toArray.all fun x => x.isSome) = false := by
    have e1 : fs.all (·.isSome) = (fs.map (·.isSome)).all id := by rw [List.all_map]; rfl
    have e2 : ds.all neT = (ds.map neT).all id := by rw [List.all_map]; rfl
    simp only [List.all_toArray]
    rw [e1, h1, ← e2, hn]
  rw [if_neg (by rw [hall]; decide)]
  have hne : (fs.toArray[0]?.bind id).isSome = decide ((ds.head?.map neT) = some true) := by
    cases fs with
    | nil =>
      cases ds with
      | nil => rfl
      | cons d ds => cases h1
    | cons f fs =>
      cases ds with
      | nil => cases h1
      | cons d ds =>
        simp only [List.map_cons, List.cons.injEq] at h1
        simp [h1.1]
  rw [hne]
  by_cases q : (ds.head?.map neT) = some true
  · rw [if_pos (by simp [q])]
    rw [if_pos q] at h
    exact wpAny_pure h
  · rw [if_neg (by simp [q])]
    rw [if_neg q] at h
    have hT : ∀ v ∈ vs, Looks (model prog w) s.heap (typeOf v) (.type "tuple") := fun v hv => by
      obtain ⟨d, hd, as, r⟩ := e.left v hv
      obtain ⟨xs, rfl⟩ := ht d hd
      exact looks_reads r
    rw [oneTypeOnly'_eq, List.mapM_toArray, map_eq_pure_bind]
    refine wpAny_bind (wpAny_bind (wpAny_bind (kas_mapM (r := .type "tuple") _ (fun v hv Q' hq => (hT v hv).here hq) (wpAny_pure ?_))))
    cases vs with
    | nil => cases e; simp at hn
    | cons v vs =>
      have hall : ((List.map (fun _ => Value.type "tuple") (v :: vs)).toArray.all fun x => x == Value.type "tuple") = true := by
        simp only [List.all_toArray, List.all_map, List.all_eq_true]
        intro _ _
        exact beq_self_eq_true _
      have h0 : (List.map (fun _ => Value.type "tuple") (v :: vs)).toArray[0]? = some (Value.type "tuple") := by simp
      rw [h0]
      simp only [hall, if_true]
      exact wpAny_pure (wpAny_pure h)
/-- alike tuples, some of them empty, can be sorted -/
theorem sortsAt_tups {vs : List Value} {ds : List PyData} (e : EachIs (fun v d => ∃ as, Reads s.heap v d as) vs ds) (hal : AllAlike ds) (ht : ∀ d ∈ ds, ∃ xs, d = .tuple xs) (hu : ∀ d, d ∈ ds → A.units + d.depth < cLine) :
    SortsAt prog w A s (dataKind s.heap ds) vs := by
  cases hn : ds.all neT with
  | true =>
    refine SortsAt.data e hal (.inl fun d hd => ?_) hu
    have q := List.all_eq_true.mp hn d hd
    obtain ⟨xs, rfl⟩ := ht d hd
    cases xs with
    | nil => cases q
    | cons x r => exact ⟨x, r, rfl⟩
  | false =>
    have room : ∀ {d d' : PyData}, d ∈ ds → A.units + min d.depth d'.depth < cLine := fun {d d'} hd => Nat.lt_of_le_of_lt (Nat.add_le_add_left (Nat.min_le_left _ _) _) (hu d hd)
    refine ⟨fun v hv => ?_, if (ds.head?.map neT) = some true then general' else oneType', ?_, fun _ E Q hq => kind_tups0 e ht hn hq⟩
    · obtain ⟨d, hd, as, r⟩ := e.left v hv
      exact ⟨_, dataKind_some hal hd r⟩
    · intro E x y a b Q ha hb hq
      obtain ⟨d, as, hd, ra, rfl⟩ := dataKind_inv ha
      obtain ⟨d', as', hd', rb, rfl⟩ := dataKind_inv hb
      obtain ⟨xs, rfl⟩ := ht d hd
      obtain ⟨ys, rfl⟩ := ht d' hd'
      have h := hal _ hd _ hd'
      have hq' : Q (dataLt (.tuple xs) (.tuple ys)) s := hq
      split
      · show wpAny _ _ (oneLt' false x y) _ _ _
        exact oneLt_alike (fun z => by cases z) ra rb h (by intro z; cases z) (room hd) hq'
      · rw [keyLt'_oneType]
        exact oneLt_tup ra rb (by simpa [alike] using h) (room hd) hq'
/-- what a walk yields, as a list -/
theorem collectK {T : String} {r d : Addr} {n : Nat} {P : Nat → Value → Prop} {OK : Heap → Prop} {R : List Value → Shared → Prop} (K : KdlSrc prog w T r d n P OK) (hh : A.handled = none) (hok : OK s.heap) (hn : n ≤ sizeLine)
    (h : ∀ (h' : Heap) (tk : Nat) (acc : Array Value), (∀ b o, s.heap.get? b = some o → h'.get? b = some o) → s.heap.objs.size ≤ h'.objs.size → ItemsOf P acc n → R acc.toList { s with heap := h', toks := tk }) :
    wpAny (model prog w) A (collect (.ref r)) R E s := by
  have hlt := K.there _ hok
  unfold collect
  refine wpAny_bind (wpAny_runValue (codeAny_builtin entry_proto_collect' ?_))
  rw [Around.under_plainId PySem.F.plain_proto_collect _]
  show wpAny _ A.in1 (newList [] >>= fun l => again (.builtin "list.__iadd__" ⟨[l, .ref r], []⟩)) _ _ s
  refine wpAny_bind (wpAny_newObj_type ?_)
  refine wpAny_pure ⟨plainId_quiet PySem.F.plain_list_iadd _, codeAny_builtin entry_list_iadd' ?_⟩
  rw [Around.under_plainId PySem.F.plain_list_iadd _]
  have hS₁ : (s.heap.push { cls := .type "list", data := .seq ([] : List Value).toArray }).get? s.heap.objs.size = some { cls := .type "list", data := .seq #[] } := Heap.get?_push_size _ rfl
  show wpAny _ A.in1 (Builtin.List.listExtendWith (.ref s.heap.objs.size) (.ref r) (.ref s.heap.objs.size)) _ _ _
  have key := kdl_extend (prog := prog) (w := w) (A := A) (s := { s with heap := s.heap.push { cls := .type "list", data := .seq ([] : List Value).toArray } }) K
    (R := fun (q : Result) (s' : Shared) => ∃ (h' : Heap) (tk : Nat) (acc' : Array Value) (c' : Nat), q = .ok (.ret (.ref s.heap.objs.size)) ∧ s' = { s with heap := h', toks := tk } ∧
      (∀ b o, s.heap.get? b = some o → h'.get? b = some o) ∧ h'.get? s.heap.objs.size = some { cls := .type "list", dict := none, data := .seq acc' c', slots := #[] } ∧ ItemsOf P acc' n)
    hh (K.keep _ _ hok fun b _ o e => Heap.get?_push_of_some _ e) s.heap.objs.size (Nat.ne_of_gt hlt.1) (Nat.ne_of_gt hlt.2) (.ref s.heap.objs.size) 0 hS₁
    (fun h' tk acc' c' hk hS' hacc => ⟨h', tk, acc', c', rfl, rfl, fun b o e => hk b o (Nat.ne_of_lt (Heap.lt_size e)) (Heap.get?_push_of_some _ e), hS', hacc⟩) hn
  refine wpAny_mono key (fun fin s' x => ?_) fun e s' x => ?_
  · cases fin with
    | done f =>
      obtain ⟨h', tk, acc', c', e, rfl, hk, hS', hacc⟩ := x
      cases e
      show wpAny _ A (load s.heap.objs.size >>= _) _ _ _
      refine wpAny_bind (wpAny_load hS' ?_)
      refine wpAny_pure ?_
      show R acc'.toList _
      exact h h' tk acc' hk (Nat.le_of_lt (Heap.lt_size hS')) hacc
    | again c₁ =>
      refine ⟨x.1, codeAny_mono x.2 fun q s₂ y => ?_⟩
      obtain ⟨h', tk, acc', c', rfl, rfl, hk, hS', hacc⟩ := y
      show wpAny _ A (load s.heap.objs.size >>= _) _ _ _
      refine wpAny_bind (wpAny_load hS' ?_)
      refine wpAny_pure ?_
      show R acc'.toList _
      exact h h' tk acc' hk (Nat.le_of_lt (Heap.lt_size hS')) hacc
  · obtain ⟨_, _, _, _, e', _⟩ := x
    cases e'
/-- sorted(x), by what is collected of x -/
theorem sorted_by {x : Value} {Q : Value → Shared → Prop} (G : List Value → Prop)
    (hc : ∀ (R : List Value → Shared → Prop), (∀ (h' : Heap) (tk : Nat) (vs : List Value), (∀ b o, s.heap.get? b = some o → h'.get? b = some o) → s.heap.objs.size ≤ h'.objs.size → G vs → R vs { s with heap := h', toks := tk }) → wpAny (model prog w) A.in1 (collect x) R E s)
    (hS : ∀ (tk : Nat) (vs : List Value) (h' : Heap), (∀ b o, s.heap.get? b = some o → h'.get? b = some o) → G vs → vs.length ≤ sizeLine ∧ ∃ κ, SortsAt prog w A.in1.in1 { s with heap := h', toks := tk } κ vs ∧
      ∀ (h3 : Heap) (d : Addr), (∀ b o, s.heap.get? b = some o → h3.get? b = some o) → s.heap.objs.size ≤ d → (∃ n, h3.get? d = some (seqObj "list" (sortVals κ false vs vs).toArray n)) → Q (.ref d) { s with heap := h3, toks := tk }) :
    wpAny (model prog w) A (call (.builtin "sorted") [x]) Q E s := by
  refine Calls.call_function_entry kind_sorted plain_sorted entry_sorted (args_sorted1 _) ?_
  unfold Builtin.«sorted»
  refine wpAny_bind (m := checkCount "sorted" 1 1 _) (wpAny_pure ?_)
  refine wpAny_bind (hc _ fun h' tk vs hk hle hG => ?_)
  refine wpAny_bind (wpAny_newList ?_ (hS tk vs h' hk hG).1)
  have ho : (h'.push (seqObj "list" vs.toArray 0)).get? h'.objs.size = some (seqObj "list" vs.toArray 0) := Heap.get?_push_size _ rfl
  have ne : ∀ {b : Addr} {o : Obj}, s.heap.get? b = some o → b ≠ h'.objs.size := fun e => Nat.ne_of_lt (Nat.lt_of_lt_of_le (Heap.lt_size e) hle)
  have kp : ∀ b o, s.heap.get? b = some o → (h'.push (seqObj "list" vs.toArray 0)).get? b = some o := fun b o e => Heap.get?_push_of_some _ (hk b o e)
  obtain ⟨hz, κ, S, q⟩ := hS tk vs (sortingHeap (h'.push (seqObj "list" vs.toArray 0)) h'.objs.size vs) (fun b o e => sortingHeap_old (ne e) (kp b o e)) hG
  show wpAny _ _ _ _ _ { s with heap := h'.push (seqObj "list" vs.toArray 0), toks := tk }
  refine wpAny_bind (wpAny_holding (wpAny_call_entry slot_list_sort ⟨_, ho, rfl⟩ entry_list_sort (list_sort_vals (s := { s with heap := h'.push (seqObj "list" vs.toArray 0), toks := tk }) ho S hz ⟨_, rfl, ?_⟩) (args_list_sort _)))
  exact wpAny_pure ⟨_, rfl, q _ _ (fun b o e => (sortedHeap_old (ne e) (Heap.lt_size (kp b o e))).trans (kp b o e)) hle (sortedHeap_at ho)⟩
end
end MP

namespace MP
open PySem L2
section
variable {X : Cx} {g : G} {E : XK} {a b e c o i tg : Expr} {es : List Expr} {m ma mb mo mi : EM} {ms : AM} {pos p apos : Pos}
/-! ### in, len, d[k] = v -/
theorem o_inD (cx : Ctx g E X) : O2 X g E (compareOp .In) (inD false) := by
  intro pins s σ H x y v u Q I rx ry ⟨ro, S, dx, dy, hS, r1, r2, w⟩
  unfold inD at w
  split at w
  · rename_i n
    obtain ⟨p1, h1, rfl⟩ := r2.ref_inv
    cases ry
    split at w
    · rename_i t lk kvs z
      split at w
      · rename_i hk
        obtain ⟨i1, i2⟩ := dget_rel hS h1 z r1 hk
        rw [if_neg (by decide)] at w
        cases q : kget dx kvs with
        | some d =>
          obtain ⟨v1, g1, _⟩ := i1 d q
          rw [q] at w
          exact d_in (by have := cx.units; omega) I g1 rx fun s' I' => ⟨.bl true, H, I', rfl, w ro H _ (.refl _) (.refl _) hS .bl_mk⟩
        | none =>
          rw [q] at w
          exact d_in (by have := cx.units; omega) I (i2 q) rx fun s' I' => ⟨.bl false, H, I', rfl, w ro H _ (.refl _) (.refl _) hS .bl_mk⟩
      · exact w.elim
    · exact w.elim
  · exact w.elim
theorem o_notInD (cx : Ctx g E X) : O2 X g E (compareOp .NotIn) (inD true) := by
  intro pins s σ H x y v u Q I rx ry ⟨ro, S, dx, dy, hS, r1, r2, w⟩
  unfold inD at w
  split at w
  · rename_i n
    obtain ⟨p1, h1, rfl⟩ := r2.ref_inv
    cases ry
    split at w
    · rename_i t lk kvs z
      split at w
      · rename_i hk
        obtain ⟨i1, i2⟩ := dget_rel hS h1 z r1 hk
        rw [if_pos rfl] at w
        cases q : kget dx kvs with
        | some d =>
          obtain ⟨v1, g1, _⟩ := i1 d q
          rw [q] at w
          exact d_notIn (by have := cx.units; omega) I g1 rx fun s' I' => ⟨.bl false, H, I', rfl, w ro H _ (.refl _) (.refl _) hS .bl_mk⟩
        | none =>
          rw [q] at w
          exact d_notIn (by have := cx.units; omega) I (i2 q) rx fun s' I' => ⟨.bl true, H, I', rfl, w ro H _ (.refl _) (.refl _) hS .bl_mk⟩
      · exact w.elim
    · exact w.elim
  · exact w.elim
theorem c_lenD (cx : Ctx g E X) : CallR X (.builtin "len") (rN g E fLenDT) := callR_imp call_len_dT fun xs H Q ⟨ro, S, ds, hS, rv, w⟩ => by
  unfold fLenDT at w
  split at w
  · rename_i n
    obtain ⟨v, r, rfl, r1, r2⟩ := rv.inv
    cases r2.inv0
    obtain ⟨p1, h1, rfl⟩ := r1.ref_inv
    split at w
    · rename_i kvs z
      obtain ⟨ws, rl, q⟩ := (show ∃ ws, RelTV ro H kvs ws ∧ AtL H p1 false (.dT ws) from hS.at h1 z)
      refine ⟨p1, ws, rfl, q, ?_⟩
      rw [← Paired.length rl]
      exact w ro H _ (.refl _) (.refl _) hS .int_mk
    · exact w.elim
  · exact w.elim
theorem sg_setD {i : Expr} {mi : EM} (cx : Ctx g E X) (ho : SE X g E o mo) (hi : SE X g E i mi)
    (ha : ∀ v, assign (.Subscript o i pos) X.env v = (do
      let ov ← holding [v] (eval o X.env)
      let iv ← holding [v, ov] (eval i X.env)
      standAt pos
      holding [v, ov, iv] (setItem ov iv v)
      release [v, ov, iv] []) := by intro _; rfl) : SG X g (.Subscript o i pos) (gSub setD mo mi) :=
  ⟨pg_imp (pg_sub ho.run hi.run (set_dict (by have := cx.units; omega)) ha) fun v s H Q ⟨ro, L, S, d, hL, hS, rv, w⟩ => by
    refine ⟨ro, L, S, hL, hS, ?_⟩
    unfold MP.gSub at w
    cases z : mo L S with
    | ok d1 S1 =>
      rw [z] at w
      simp only [R.bind_ok] at w
      intro ro1 H1 v1 gr1 ex1 hS1 rv1
      refine ⟨ro1, L, S1, hL.mono gr1 ex1, hS1, ?_⟩
      cases z2 : mi L S1 with
      | ok d2 S2 =>
        rw [z2] at w
        simp only [R.bind_ok] at w
        intro ro2 H2 v2 gr2 ex2 hS2 rv2
        unfold setD at w
        split at w
        · rename_i n
          obtain ⟨p1, h1, rfl⟩ := rv1.ref_inv
          have h2 := gr2 _ _ h1
          split at w
          · rename_i t kvs z3
            split at w
            · rename_i hk
              simp only [R.bind_ok] at w
              have r3 := RelD.mono gr2 ex2.tup _ _ (RelD.mono gr1 ex1.tup _ _ rv)
              obtain ⟨H', g1, ex3, hS3⟩ := dput_rel hS2 h2 z3 rv2 hk.1 r3 hk.2
              refine ⟨p1, H', rfl, g1, ?_⟩
              exact w ro2 _ s (gr1.trans gr2) (ex1.trans (ex2.trans ex3)) hS3 (RelL.mono (gr1.trans gr2) (ex1.trans (ex2.trans ex3)).tup hL)
            · exact w.elim
          · exact w.elim
        · exact w.elim
      | exc x S2 => rw [z2] at w; exact w.elim
      | err => rw [z2] at w; exact w.elim
    | exc x S1 => rw [z] at w; exact w.elim
    | err => rw [z] at w; exact w.elim⟩
/-! ### d.pop(k) -/
theorem rd_bmD {F : Fn} {s : St} {H : Hp} {Q : VK} (hK : X.K = g.K) (h : rdE g E (eBM "dict" F mo ms) s H Q) : tBM X.K "dict" (rM g E F) (rdE g E mo) (rdA g E ms) s H Q := by
  obtain ⟨ro, L, S, hL, hS, h⟩ := h
  refine ⟨ro, L, S, hL, hS, Post.bind h fun d S1 ro1 H1 v gr ex hS1 rv w => ?_⟩
  split at w
  · rename_i ht
    refine ⟨?_, ro1, L, S1, hL.mono gr ex, hS1, Post.bind w fun ds S2 ro2 H2 vs gr2 ex2 hS2 rv2 w => ⟨ro2, S2, d :: ds, hS2, .cons (rv.mono gr2 ex2) rv2, w⟩⟩
    cases d with
    | ref n =>
      obtain ⟨p1, h1, rfl⟩ := rv.ref_inv
      simp only [tyNm] at ht
      split at ht
      · exact absurd (Option.some.inj ht) (by decide)
      · rename_i t kvs z
        have q := hS1.at h1 z
        cases t with
        | true =>
          obtain ⟨ws, _, q⟩ := (show ∃ ws, RelTV ro1 H1 kvs ws ∧ AtL H1 p1 false (.dT ws) from q)
          exact .inr (.inr (.inl ⟨rfl, .inr ⟨ws, q⟩⟩))
        | false =>
          obtain ⟨ws, _, q⟩ := (show ∃ ws, RelKV ro1 H1 kvs ws ∧ AtL H1 p1 false (.dK ws) from q)
          exact .inr (.inr (.inl ⟨rfl, .inl ⟨ws, q⟩⟩))
      · cases ht
    | _ => first | (exact absurd (Option.some.inj ht) (by decide)) | (cases ht)
  · exact w.elim
theorem se_bmD {id : String} {name : Str} {F : Fn} (cx : Ctx g E X) (slot : Slot "dict" name id) (hty : typeOf (.builtin id) = pure (.type "method_descriptor")) (hm : MtR X id (rM g E F)) (ho : SE X g E o mo) (ha : SA X g E (e :: es) ms)
    (hbase : attributeBase o name X.env (eval o X.env) = eval o X.env := by rfl)
    (hfew : ((backTo pos (starEach (e :: es) X.env)).all (fun x => !x.1) && (backToKw pos (keywordEach [] X.env)).all (fun x => x.1.isSome)
      && decide ((e :: es).length + ([] : List Keyword).length + (if ([] : List Keyword).isEmpty then 0 else 1) < 30)) = true := by rfl)
    (hline : (apos.endLine == pos.line) = true := by rfl) (hs : starEach (e :: es) X.env = (false, eval e X.env) :: starEach es X.env := by rfl) (hplain : (backTo pos (starEach es X.env)).any (·.1) = false := by rfl) :
    SE X g E (.Call (.Attribute o name apos) (e :: es) [] pos) (eBM "dict" F mo ms) := ⟨pe_imp (pe_bm PySem.F.plainAttrs_dict slot hty hm ho.run ha.run hbase hfew hline hs hplain) fun s H Q h => rd_bmD cx.K h⟩
/-- pop of a key that is there -/
theorem mt_pop1 (hu : X.A.units + 1 < cLine) : MtR X "dict.pop" (fun x xs H Q => ∃ (a : Addr) (kvs : List (List L2.Key × V)) (k : List L2.Key) (b : Addr) (v : V), x = .ref a ∧ xs = [.ref b] ∧ H a = some (.dT kvs) ∧ H b = some (.tup (k.map kV)) ∧
    valV kvs k = some v ∧ Q v (upd H a (.dT (dropK kvs k)))) := by
  intro pins s σ H x xs v us Q I rx rxs h
  obtain ⟨a, kvs, k, b, v0, rfl, rfl, ha, hb, ev, q1⟩ := h
  cases rx
  obtain ⟨u1, rfl, r1⟩ := vals1 rxs
  cases r1
  obtain ⟨z, hd, xs', rel, dd⟩ := dt_of I.hok ha
  have hz : xs'.length ≤ sizeLine := by rw [← Paired.length rel]; exact z
  have r := rel.val k
  rw [ev] at r
  obtain ⟨w', hw, rw'⟩ := RelO.some_of (v := v0) (o := (atKey xs' k).map (·.2)) r
  obtain ⟨p, hp, hp2⟩ := Option.map_eq_some_iff.mp hw
  refine call_pop_heap (.inl rfl) (PySem.F.args_dict_pop_2 _ _) (tupleKind_room_in1 hu) (key_of I.hok hb) hd dd hp (fun h' dd' hs => ?_) hz
  obtain ⟨o, es, ep, hq, h2, h3, h4, _, h5⟩ := dd'
  have I2 : Inv X pins σ (upd H a (.dT (dropK kvs k))) { s with heap := h', toks := s.toks + (tupleKind (mixKind X.prog X.w)).draws k } :=
    d_write I (by rw [ha]; exact True.intro) hs ⟨o, hq⟩ ⟨Nat.le_trans (dropK_le kvs k) z, hd, _, (DX.KT_drop k rel).keeps (fun c ys ec => (by rw [upd_ne (ne_of ec ha (fun z => nomatch z))]; exact ec)), o, es, ep, hq, h2, h3, h4, h5⟩
  rw [hp2]
  exact ⟨v0, _, I2, rw', q1⟩
theorem m_pop1 (cx : Ctx g E X) : MtR X "dict.pop" (rM g E fPop1) := mtr_imp (mt_pop1 (by have := cx.units; omega)) fun x xs H Q ⟨ro, S, ds, hS, rv, w⟩ => by
  unfold fPop1 at w
  split at w
  · rename_i n k
    obtain ⟨v, r, e1, r1, rr⟩ := rv.inv
    obtain ⟨v2, r', rfl, r2, rr2⟩ := rr.inv
    cases rr2.inv0
    cases e1
    obtain ⟨p1, h1, rfl⟩ := r1.ref_inv
    split at w
    · rename_i kvs z
      split at w
      · rename_i hk
        split at w
        · rename_i d e3
          obtain ⟨ws, rl, q⟩ := (show ∃ ws, RelTV ro H kvs ws ∧ AtL H p1 false (.dT ws) from hS.at h1 z)
          have q : H p1 = some (.dT ws) := q
          obtain ⟨k', b, t1, rfl, t3⟩ := tkey_kV r2 hk
          obtain ⟨v3, g3, r3⟩ := (kget_rel tkey_inj t1 rl).1 _ e3
          have ex : Ext H (upd H p1 (.dT (dropK ws k'))) := .put q dT_tup dT_frz
          refine ⟨p1, ws, k', b, v3, rfl, rfl, q, t3, g3, w ro _ _ (.refl _) ex ?_ (r3.mono (.refl _) ex.tup)⟩
          exact hS.put h1 z (fun z => z.elim) (fun z => z.elim) q (show ∃ ws', RelTV ro (upd H p1 (.dT (dropK ws k'))) (kdrop k kvs) ws' ∧ AtL (upd H p1 (.dT (dropK ws k'))) p1 false (.dT ws') from ⟨_, RelTV.mono (.refl _) ex.tup (kdrop_rel tkey_inj t1 rl), upd_same⟩) nu_dT
        · exact w.elim
      · exact w.elim
    · exact w.elim
  · exact w.elim
/-! ### range(i, j, -1) -/
theorem rngDn_ok {ro : List Addr} {H : Hp} {lo : Int} {n : Nat} {chk : Sto → Bool} : WkOk g ro H ⟨rngDn lo n, chk⟩ (Itc lo (-1) n) := fun i ro' S' H' gr' ex' R hk => by
  refine ⟨fun d hd => ?_, fun hi => ?_⟩
  · unfold rngDn at hd
    rw [List.getElem?_map] at hd
    cases q : (List.range n)[i]? with
    | none => rw [q] at hd; cases hd
    | some j =>
      rw [q] at hd
      obtain ⟨h1, h2⟩ := List.getElem?_eq_some_iff.mp q
      rw [List.length_range] at h1
      rw [List.getElem_range] at h2
      subst h2
      cases hd
      refine ⟨h1, fun x H'' ⟨e1, e2⟩ => ?_⟩
      subst e1 e2
      have e : lo + ((i : Nat) : Int) * (-1) = lo - (i : Nat) := by omega
      rw [e]
      exact ⟨.refl _, R, .int_mk⟩
  · show n ≤ i
    rw [hi]
    simp [rngDn]
theorem si_rngDn (hg : Gl X "range") (hm : X.mg "range" = none) (ha : SE X g E a ma) (hb : SE X g E b mb) (hc : SE X g E c (eUn opNeg (eC (.int 1))))
    (h1 : starEach [a, b, c] X.env = (false, eval a X.env) :: starEach [b, c] X.env := by rfl) (h2 : starEach [b, c] X.env = (false, eval b X.env) :: starEach [c] X.env := by rfl) (h3 : starEach [c] X.env = (false, eval c X.env) :: starEach [] X.env := by rfl)
    (hpl : (backTo pos (starEach [b, c] X.env)).any (·.1) = false := by rfl) :
    SI X g E tg (.Call (.Name "range" p) [a, b, c] [] pos) (wRngDn ma mb) := ⟨pi_imp (pi_range3 hg hm (sa_cons ha (sa_cons hb (sa_cons hc sa_nil h3) h2) h1).run h1 hpl) fun s H Q ⟨ro, L, S, hL, hS, h⟩ => by
  refine ⟨ro, L, S, hL, hS, ?_⟩
  unfold wRngDn at h
  unfold aCons
  cases z : ma L S with
  | ok d S1 =>
    rw [z] at h
    simp only [R.bind_ok] at h ⊢
    cases z2 : mb L S1 with
    | ok d2 S2 =>
      rw [z2] at h
      simp only [R.bind_ok] at h ⊢
      simp only [eUn, eC, opNeg, R.bind_ok, aNil]
      intro ro1 H1 vs gr ex hS1 rv
      obtain ⟨v, r, rfl, r1, rr⟩ := rv.inv
      obtain ⟨v2, r', rfl, r2, rr2⟩ := rr.inv
      obtain ⟨v3, r'', rfl, r3, rr3⟩ := rr2.inv
      cases rr3.inv0
      cases d with
      | int i =>
        cases d2 with
        | int j =>
          simp only at h
          split at h
          · rename_i hj
            exact ⟨i, j, -1, (i - j).toNat, by rw [r1.int_inv, r2.int_inv, r3.int_inv], RgC.neg hj.1 hj.2.1 hj.2.2.1 hj.2.2.2, h ro1 H1 _ gr ex hS1 rngDn_ok⟩
          · exact h.elim
        | _ => exact h.elim
      | _ => cases d2 <;> exact h.elim
    | exc x S2 => rw [z2] at h; exact h
    | err => rw [z2] at h; exact h
  | exc x S1 => rw [z] at h; exact h
  | err => rw [z] at h; exact h⟩
/-! ### len(set(x)) -/
theorem nub_met (ns : List Int) : PyProof.Rows.firstMet (fun i => ns.getD i 0) ns.length = nubI ns := by
  unfold PyProof.Rows.firstMet nubI
  have e : (List.range ns.length).map (fun i => ns.getD i 0) = ns := by
    apply List.ext_getElem
    · simp
    · intro i h1 h2
      simp [List.getD_eq_getElem?_getD, h2]
  rw [e]
  congr 1
  funext acc k
  unfold PyProof.Rows.step_dedup
  have q : (acc.any (· == k)) = decide (k ∈ acc) := by
    rw [Bool.eq_iff_iff]
    simp
  rw [q]
  by_cases h : k ∈ acc <;> simp [h]
def tLenSetN (K : PySem.W.Frag) (ta : TE) : TE := fun σ H Q => ta σ H fun x H1 => ∃ (l : Addr) (ns : List Int), x = V.ref l ∧ SqL K H1 l (ns.map V.int) ∧ ns.length ≤ 1000 ∧ Q (.int (nubI ns).length) H1
theorem pe_lenSetN {a : Expr} {ta : TE} {p p2 q pos : Pos} (hc : X.calm = true) (hg : Gl X "len") (hm : X.mg "len" = none) (hg2 : Gl X "set") (hm2 : X.mg "set" = none) (ha : PE X a ta)
    (na : starEach [a] X.env = (false, eval a X.env) :: starEach [] X.env := by rfl) : PE X (.Call (.Name "len" p) [.Call (.Name "set" p2) [a] [] q] [] pos) (tLenSetN X.K ta) := by
  refine ⟨fun pins s σ H Q I h => ?_⟩
  refine PyProof.Rows.Call_ (ld_blt I hg hm PySem.boot_len ?_)
  refine PyProof.Rows.callWith_builtin1 (PyProof.Rows.args_cons ?_ rfl) rfl rfl
  refine PyProof.Rows.Call_ (ld_blt I hg2 hm2 PyProof.Rows.boot_set ?_)
  refine PyProof.Rows.callWith_type1 (PyProof.Rows.args_cons (thn (ha.run pins s σ H _ I h) fun v s1 ⟨x, H1, I1, r1, q1⟩ => PyProof.Rows.args_nil ?_) na) na rfl
  obtain ⟨l, ns, rfl, hq, h1, q1⟩ := q1
  cases r1
  obtain ⟨its, r, pl, hz⟩ := I1.list hq
  have hl : its.toArray.size = ns.length := by rw [List.size_toArray, ← r.length, List.length_map]
  refine call_set_list (I1.ok.hd hc) pl.isList (ns := ns) (by simpa using r.ints) (by unfold scanBound; omega) fun h' tk hS hk => ?_
  rw [hl, nub_met] at hS
  refine PyProof.Rows.args_nil ?_
  obtain ⟨o, es, ep, t, ho, hex, hd, _, _, _, hf, hn⟩ := hS
  have I2 : Inv X pins σ H1 { s1 with heap := h', toks := tk } := I1.kept fun b o e => hk b o (Heap.lt_size e) e
  have hle : (nubI ns).length ≤ ns.length := by rw [← nub_met]; exact PyProof.Rows.firstMet_length_le _ _
  refine call_len_set ho hex hd hf (by rw [hn] <;> omega) ⟨.int (nubI ns).length, H1, I2.tok _, ⟨_, by rw [hn]⟩, q1⟩
theorem intsOf_len : ∀ {ds : List D} {ns : List Int}, intsOf ds = some ns → ds.length = ns.length
  | [], ns, h => by cases h; rfl
  | d :: ds, ns, h => by
    cases d with
    | int i =>
      simp only [intsOf] at h
      cases q : intsOf ds with
      | none => rw [q] at h; cases h
      | some ms =>
        rw [q] at h
        cases h
        simp [intsOf_len q]
    | _ => cases h
theorem se_lenSet {p p2 q pos : Pos} (hc : X.calm = true) (hK : X.K = g.K) (hg : Gl X "len") (hm : X.mg "len" = none) (hg2 : Gl X "set") (hm2 : X.mg "set" = none) (ha : SE X g E a ma)
    (na : starEach [a] X.env = (false, eval a X.env) :: starEach [] X.env := by rfl) : SE X g E (.Call (.Name "len" p) [.Call (.Name "set" p2) [a] [] q] [] pos) (eUn opLenSet ma) :=
  ⟨pe_imp (pe_lenSetN hc hg hm hg2 hm2 ha.run na) fun s H Q ⟨ro, L, S, hL, hS, h⟩ => ⟨ro, L, S, hL, hS, Post.bind h fun d S1 ro1 H1 v gr ex hS1 rv w => by
    unfold opLenSet at w
    split at w
    · rename_i n
      obtain ⟨p1, h1, rfl⟩ := rv.ref_inv
      split at w
      · rename_i xs z
        obtain ⟨vs, r, t⟩ := hS1.at h1 z
        split at w
        · rename_i ns e
          split at w
          · rename_i hz
            have ev := intsOf_rel r e
            subst ev
            exact ⟨p1, ns, rfl, SqL.of t, hz, w ro1 H1 _ (.refl _) (.refl _) hS1 .int_mk⟩
          · exact w.elim
        · exact w.elim
      · exact w.elim
    · exact w.elim⟩⟩
end
end MP

namespace MP
open PySem L2
section
variable {X : Cx} {g : G} {E : XK}
theorem alike_flI {d d' : D} (h : flI d = true) (h' : flI d' = true) : PySem.W.alike (encF d) (encF d') = true := by
  cases d <;> first | (cases h; done) | skip
  cases d' <;> first | (cases h'; done) | rfl
theorem alike_flS {d d' : D} (h : flS d = true) (h' : flS d' = true) : PySem.W.alike (encF d) (encF d') = true := by
  cases d <;> first | (cases h; done) | skip
  cases d' <;> first | (cases h'; done) | rfl
theorem alikeAll_of {f : D → Bool} (hf : ∀ d d', f d = true → f d' = true → PySem.W.alike (encF d) (encF d') = true) : ∀ {ds es : List D}, ds.all f = true → es.all f = true → PySem.W.alikeAll (ds.map encF) (es.map encF) = true
  | [], _, _, _ => rfl
  | _ :: _, [], _, _ => rfl
  | d :: ds, e :: es, h, h' => by
    simp only [List.all_cons, Bool.and_eq_true] at h h'
    simp only [List.map_cons, PySem.W.alikeAll, Bool.and_eq_true]
    exact ⟨hf _ _ h.1 h'.1, alikeAll_of hf h.2 h'.2⟩
theorem depth_fl : ∀ d : D, (encF d).depth = 0
  | .int _ => rfl
  | .str _ => rfl
  | .non => rfl
  | .bl _ => rfl
  | .tup _ => rfl
  | .ref _ => rfl
  | .exn _ _ => rfl
theorem depthAll_fl : ∀ ds : List D, PyData.depthAll (ds.map encF) = 0
  | [] => rfl
  | d :: ds => by simp only [List.map_cons, PyData.depthAll, depth_fl, depthAll_fl ds]; rfl
theorem depth_enc (d : D) : (encD d).depth ≤ 1 := by
  cases d with
  | tup ds =>
    show PyData.depth (.tuple (ds.map encF)) ≤ 1
    simp only [PyData.depth, depthAll_fl]
    omega
  | _ => simp [encD, depth_fl]
theorem reads_fl {P : Program} {w : World} {ro : List Addr} {H : Hp} {h : Heap} {d : D} {x : V} {u : Value} (r : RelD ro H d x) (ru : RelV x u) (f : flI d = true ∨ flS d = true) : Reads h u (encF d) [] := by
  cases d with
  | int i =>
    rw [r.int_inv] at ru
    obtain ⟨t, rfl⟩ := ru
    exact .int i t
  | str z =>
    rw [r.str_inv.1] at ru
    obtain ⟨t, rfl⟩ := ru
    exact .str _ t
  | _ => rcases f with f | f <;> cases f
theorem readsAll_fl {P : Program} {w : World} {ro : List Addr} {H : Hp} {h : Heap} : ∀ {ds : List D} {xs : List V} {us : List Value}, RelDs ro H ds xs → Vals xs us → (∀ d ∈ ds, flI d = true ∨ flS d = true) → ReadsAll h us (ds.map encF) []
  | [], xs, us, r, ru, f => by
    rw [r.inv0] at ru
    cases ru
    exact .nil
  | d :: ds, xs, us, r, ru, f => by
    obtain ⟨v, r', rfl, r1, r2⟩ := r.inv
    cases ru with
    | cons q t =>
      have e : ([] : List Addr) = [] ++ [] := rfl
      rw [e]
      exact .cons (reads_fl (P := P) (w := w) r1 q (f d (List.mem_cons_self ..))) (readsAll_fl (P := P) (w := w) r2 t fun x hx => f x (List.mem_cons_of_mem _ hx))
theorem reads_tup {P : Program} {w : World} {ro : List Addr} {H : Hp} {h : Heap} (ok : HOk P w H h) {ds : List D} {x : V} {u : Value} (r : RelD ro H (.tup ds) x) (ru : RelV x u) (f : ∀ d ∈ ds, flI d = true ∨ flS d = true) : Reads h u (encD (.tup ds)) [] := by
  obtain ⟨a, vs, rfl, ha, rs⟩ := r.tup_inv
  cases ru
  obtain ⟨_, its, r2, o, ho, hc, n, hd⟩ := (show ObjOk P w H h a (.tup vs) from ok a _ ha)
  exact .tuple ho hc hd (by simpa using readsAll_fl (P := P) (w := w) rs r2 f)
/-- the three kinds -/
theorem srt_cases {ds : List D} (h : srtOk ds = true) : (∀ d ∈ ds, flI d = true) ∨ ((∀ d ∈ ds, ∃ r, d = .tup r ∧ ∀ e ∈ r, flI e = true ∨ flS e = true) ∧ ∀ d ∈ ds, ∀ d' ∈ ds, PySem.W.alike (encD d) (encD d') = true) := by
  unfold srtOk at h
  rw [Bool.or_eq_true, Bool.or_eq_true] at h
  rcases h with (h | h) | h
  · exact .inl fun d hd => List.all_eq_true.mp h d hd
  · have q : ∀ d ∈ ds, ∃ r, d = .tup r ∧ r.all flI = true := fun d hd => by
      have z := List.all_eq_true.mp h d hd
      cases d <;> first | (cases z; done) | exact ⟨_, rfl, z⟩
    refine .inr ⟨fun d hd => ?_, fun d hd d' hd' => ?_⟩
    · obtain ⟨r, rfl, z⟩ := q d hd
      exact ⟨r, rfl, fun e he => .inl (List.all_eq_true.mp z e he)⟩
    · obtain ⟨r, rfl, z⟩ := q d hd
      obtain ⟨r', rfl, z'⟩ := q d' hd'
      simp only [encD, PySem.W.alike]
      exact alikeAll_of (fun _ _ => alike_flI) z z'
  · have q : ∀ d ∈ ds, ∃ r, d = .tup r ∧ r.all flS = true := fun d hd => by
      have z := List.all_eq_true.mp h d hd
      cases d <;> first | (cases z; done) | exact ⟨_, rfl, z⟩
    refine .inr ⟨fun d hd => ?_, fun d hd d' hd' => ?_⟩
    · obtain ⟨r, rfl, z⟩ := q d hd
      exact ⟨r, rfl, fun e he => .inr (List.all_eq_true.mp z e he)⟩
    · obtain ⟨r, rfl, z⟩ := q d hd
      obtain ⟨r', rfl, z'⟩ := q d' hd'
      simp only [encD, PySem.W.alike]
      exact alikeAll_of (fun _ _ => alike_flS) z z'
def RVD (ro : List Addr) (H : Hp) (u : Value) (d : D) : Prop := ∃ x, RelV x u ∧ RelD ro H d x
theorem each_of {ro : List Addr} {H : Hp} : ∀ {ds : List D} {xs : List V} {us : List Value}, RelDs ro H ds xs → Vals xs us → PySem.W.EachIs (RVD ro H) us ds
  | [], xs, us, r, ru => by
    rw [r.inv0] at ru
    cases ru
    exact .nil
  | d :: ds, xs, us, r, ru => by
    obtain ⟨v, r', rfl, r1, r2⟩ := r.inv
    cases ru with
    | cons q t => exact .cons ⟨v, q, r1⟩ (each_of r2 t)
theorem each_to {ro : List Addr} {H : Hp} : ∀ {us : List Value} {ds : List D}, PySem.W.EachIs (RVD ro H) us ds → ∃ xs, Vals xs us ∧ RelDs ro H ds xs
  | _, _, .nil => ⟨[], .nil, .nil⟩
  | _, _, .cons ⟨x, h1, h2⟩ t => let ⟨xs, h3, h4⟩ := each_to t; ⟨x :: xs, .cons h1 h3, .cons h2 h4⟩
theorem each_reads {P : Program} {w : World} {ro : List Addr} {H : Hp} {h : Heap} (ok : HOk P w H h) {ds : List D} (hs : srtOk ds = true) : ∀ {us : List Value} {es : List D}, (∀ d ∈ es, d ∈ ds) → PySem.W.EachIs (RVD ro H) us es → PySem.W.EachIs (fun v d => ∃ as, Reads h v (encD d) as) us es
  | _, _, _, .nil => .nil
  | _, d :: _, hm, .cons ⟨x, h1, h2⟩ t => by
    refine .cons ?_ (each_reads ok hs (fun e he => hm e (List.mem_cons_of_mem _ he)) t)
    have hd := hm d (List.mem_cons_self ..)
    rcases srt_cases hs with q | ⟨q, _⟩
    · have z := q d hd
      cases d <;> first | (cases z; done) | skip
      exact ⟨[], reads_fl (P := P) (w := w) h2 h1 (.inl rfl)⟩
    · obtain ⟨r, rfl, z⟩ := q d hd
      exact ⟨[], reads_tup ok h2 h1 z⟩
theorem sorts_at {P : Program} {w : World} {A : Around} {s : Shared} {ds : List D} {us : List Value} (hs : srtOk ds = true) (hu : A.units + 2 < cLine) (e : PySem.W.EachIs (fun v d => ∃ as, Reads s.heap v (encD d) as) us ds) :
    PySem.W.AllAlike (ds.map encD) ∧ PySem.W.SortsAt P w A s (PySem.W.dataKind s.heap (ds.map encD)) us := by
  have e' := PySem.W.each_map (R := fun v d => ∃ as, Reads s.heap v d as) encD e
  have hb : ∀ d, d ∈ ds.map encD → A.units + d.depth < cLine := fun d hd => by
    obtain ⟨b, _, rfl⟩ := List.mem_map.mp hd
    have := depth_enc b
    omega
  rcases srt_cases hs with q | ⟨q, qa⟩
  · have q1 : ∀ d ∈ ds, ∃ i, d = .int i := fun d hd => by
      have z := q d hd
      cases d <;> first | (cases z; done) | exact ⟨_, rfl⟩
    have al : PySem.W.AllAlike (ds.map encD) := fun d hd d' hd' => by
      obtain ⟨b, hb, rfl⟩ := List.mem_map.mp hd
      obtain ⟨b', hb', rfl⟩ := List.mem_map.mp hd'
      obtain ⟨i, rfl⟩ := q1 b hb
      obtain ⟨j, rfl⟩ := q1 b' hb'
      rfl
    refine ⟨al, PySem.W.SortsAt.data e' al (.inr fun d hd => ?_) hb⟩
    obtain ⟨b, hb, rfl⟩ := List.mem_map.mp hd
    obtain ⟨i, rfl⟩ := q1 b hb
    exact ⟨(fun z => by cases z), (fun xs z => by cases z)⟩
  · have al : PySem.W.AllAlike (ds.map encD) := fun d hd d' hd' => by
      obtain ⟨b, hb, rfl⟩ := List.mem_map.mp hd
      obtain ⟨b', hb', rfl⟩ := List.mem_map.mp hd'
      exact qa b hb b' hb'
    refine ⟨al, sortsAt_tups e' al (fun d hd => ?_) hb⟩
    obtain ⟨b, hb, rfl⟩ := List.mem_map.mp hd
    obtain ⟨r, rfl, _⟩ := q b hb
    exact ⟨_, rfl⟩
/-- what sorted lays -/
theorem sorted_rel {pins : List (Addr × Obj)} {σ : St} {H : Hp} {s : Shared} {Q : VK} {x : Value} {ro : List Addr} {S : Sto} {ds : List D} (cx : Ctx g E X) (I : Inv X pins σ H s) (hS : RelS g ro S H) (hs : srtOk ds = true) (hz : ds.length ≤ sz)
    (hc : ∀ (R : List Value → Shared → Prop), (∀ (h' : Heap) (tk : Nat) (vs : List Value), (∀ b o, s.heap.get? b = some o → h'.get? b = some o) → s.heap.objs.size ≤ h'.objs.size → PySem.W.EachIs (RVD ro H) vs ds → R vs { s with heap := h', toks := tk }) →
      wpAny (model X.prog X.w) X.A.in1 (collect x) R X.xe s)
    (w : Post RelD g E ro H Q (.ok (.ref S.length) (S ++ [.lst (srtD ds)]))) : wpAny (model X.prog X.w) X.A (call (.builtin "sorted") [x]) (EP X pins σ Q) X.xe s := by
  refine sorted_by (fun vs => PySem.W.EachIs (RVD ro H) vs ds) hc fun tk vs h' hk e => ?_
  have ok' : HOk X.prog X.w H h' := (I.kept (t' := s.toks) hk).hok
  have er := each_reads ok' hs (fun _ z => z) e
  have hu : X.A.in1.in1.units + 2 < cLine := by
    have := cx.units
    show X.A.units + 1 + 1 + 2 < cLine
    omega
  obtain ⟨al, sa⟩ := sorts_at (P := X.prog) (w := X.w) (s := { s with heap := h', toks := tk }) hs hu er
  refine ⟨by rw [e.length, ← sz_eq]; exact hz, _, sa, fun h3 d k3 hd hn => ?_⟩
  have out := PySem.W.sortVals_data false e er al
  obtain ⟨ys, r1, r2⟩ := each_to out
  obtain ⟨n, hn⟩ := hn
  have hl : ys.length ≤ sizeLine := by
    rw [r1.length, PySem.W.sortVals_length false rfl, e.length, ← sz_eq]
    exact hz
  have fr : H d = none := I.hok.fresh hd
  exact ⟨.ref d, upd H d (.lst ys), I.laid k3 hd ⟨hl, _, n, r1, hn⟩, rfl, w.push hS fr ⟨ys, RelDs.mono (.snoc _ _) (.new fr) _ _ r2, upd_same⟩⟩
theorem dkey_rel {ro : List Addr} {H : Hp} {d : D} {k : L2.Key} (h : dkey d = some k) : RelD ro H d (kV k) := by
  cases d with
  | int i => cases h; exact .int_mk
  | str x =>
    simp only [dkey] at h
    split at h
    · rename_i q
      cases h
      exact .str_mk fun c hc => by
        have z := List.all_eq_true.mp q c hc
        exact of_decide_eq_true z
    · cases h
  | _ => cases h
theorem dkeys_rel {ro : List Addr} {H : Hp} : ∀ {ds : List D} {ks : List L2.Key}, ds.mapM dkey = some ks → RelDs ro H ds (ks.map kV)
  | [], ks, h => by
    simp at h
    subst h
    exact .nil
  | d :: ds, ks, h => by
    rw [List.mapM_cons] at h
    simp only [Option.bind_eq_bind, Option.pure_def, Option.bind_eq_some_iff, Option.some.injEq] at h
    obtain ⟨k, h1, r, h2, rfl⟩ := h
    exact .cons (dkey_rel h1) (dkeys_rel h2)
theorem tkey_rel {ro : List Addr} {H : Hp} {d : D} {ks : List L2.Key} {b : Addr} (h : tkey d = some ks) (hb : H b = some (.tup (ks.map kV))) : RelD ro H d (.ref b) := by
  cases d with
  | tup ds => exact .tup_mk hb (dkeys_rel h)
  | _ => cases h
theorem keys_each {ro : List Addr} {H : Hp} : ∀ {kvs : List (D × D)} {ws : List (List L2.Key × V)} {bs : List Addr}, RelTV ro H kvs ws → IsKeys H ws bs → PySem.W.EachIs (RVD ro H) (bs.map Value.ref) (kvs.map (·.1))
  | _, _, _, .nil, .nil => .nil
  | _, _, _, .cons a r, .cons b t => .cons ⟨.ref _, rfl, tkey_rel a.1 b⟩ (keys_each r t)
theorem c_sorted (cx : Ctx g E X) (hc : X.calm = true) : CallR X (.builtin "sorted") (rN g E fSorted) := by
  intro pins s σ H xs us Q I r ⟨ro, S, ds, hS, rv, w⟩
  unfold fSorted at w
  split at w
  · rename_i n
    obtain ⟨v, r', rfl, r1, r2⟩ := rv.inv
    cases r2.inv0
    obtain ⟨p1, h1, rfl⟩ := r1.ref_inv
    obtain ⟨u, rfl, ru⟩ := vals1 r
    cases ru
    split at w
    · rename_i ys z
      split at w
      · rename_i hk
        obtain ⟨vs, q, t⟩ := hS.at h1 z
        obtain ⟨its, rv2, pl, hz2⟩ := I.list (SqL.of t)
        refine sorted_rel cx I hS hk.1 hk.2 (fun R hR => PyProof.Rows.collect_list pl.isList ?_ (by rw [← rv2.length]; exact hz2)) w
        exact hR _ s.toks its (fun b o e => by
          have hlt := Heap.lt_size e
          rw [Heap.get?_update_ne _ _ _ _ (Nat.ne_of_lt hlt)]
          exact Heap.get?_push_of_some _ e) (by rw [Heap.size_update, PyProof.Rows.size_push']; exact Nat.le_succ _) (each_of q rv2)
      · exact w.elim
    · rename_i lk kvs z
      split at w
      · rename_i hk
        obtain ⟨ws, rl, q⟩ := (show ∃ ws, RelTV ro H kvs ws ∧ AtL H p1 lk (.dT ws) from hS.at h1 z)
        have rdd : Rd H p1 (.dT ws) := by
          cases lk with
          | true => exact .inr q
          | false => exact .inl q
        obtain ⟨z1, hs1, ks, pr, o, es, ep, ho, hx, hdt, he, hn⟩ := (show ObjOk X.prog X.w H s.heap p1 (.dT ws) from rdd.ok I.hok)
        have l1 : es.size = ks.length := size_of_entries he
        have l2 : ws.length = ks.length := Paired.length pr
        refine sorted_rel cx I hS hk.1 (by rw [List.length_map]; exact hk.2) (fun R hR => collectK (kdl_raw hs1 hx hdt) (I.ok.hd hc) ho (by omega) fun h' tk acc kp sz it => hR h' tk acc.toList kp sz ?_) w
        have ea : acc.toList = (ks.map fun x => x.2.1).map Value.ref := by
          rw [List.map_map]
          have hl : acc.toList.length = ks.length := by rw [Array.length_toList, it.1]; exact l1
          apply List.ext_getElem?
          intro j
          rw [List.getElem?_map]
          cases hj : acc.toList[j]? with
          | none =>
            have h1 := List.getElem?_eq_none_iff.mp hj
            rw [List.getElem?_eq_none (by omega)]
            all_goals rfl
          | some v =>
            obtain ⟨en, hen, hv⟩ := it.2 j v (by rw [← Array.getElem?_toList]; exact hj)
            have qe := entry_at he j
            rw [hen] at qe
            cases hb : ks[j]? with
            | none =>
              rw [hb] at qe
              exact nomatch (show some en = none from qe)
            | some b =>
              rw [hb] at qe
              have e2 : en = entryOfKey (tupleKind (mixKind X.prog X.w)) b := Option.some.inj qe
              rw [hv, e2]
              all_goals rfl
        rw [ea]
        exact keys_each rl (isKeys_of pr)
      · exact w.elim
    · exact w.elim
  · exact w.elim
end
end MP

namespace MP
open PySem L2
section
variable {X : Cx} {g : G} {E : XK} {tg e : Expr} {st : Stmt} {ma me : EM} {ms : SM} {pos p : Pos}
theorem si_dic (ha : SE X g E e ma) : SI X g E tg e (wDic ma) := ⟨pi_imp (pi_keys ha.run) fun s H Q ⟨ro, L, S, hL, hS, h⟩ => by
  refine ⟨ro, L, S, hL, hS, Post.bind h fun d S1 ro1 H1 v gr ex hS1 rv h => ?_⟩
  cases d with
  | ref n =>
    obtain ⟨p, hp, rfl⟩ := rv.ref_inv
    simp only at h
    split at h
    · rename_i kvs e
      obtain ⟨ws, rl, o, q⟩ := (show ∃ ws, RelTV ro1 H1 kvs ws ∧ AtL H1 p true (.dT ws) from hS1.at hp e)
      refine ⟨p, o, rfl, .inr ⟨ws, q, h ro1 H1 _ (.refl _) (.refl _) hS1 fun i ro' S' H' gr' ex' R hk => ?_⟩⟩
      have q' := ex'.frz _ _ _ q
      have lk : kvs.length = ws.length := Paired.length rl
      refine ⟨fun d hd => ?_, fun hi => ⟨q', by rw [hi, List.length_map, lk]; exact Nat.le_refl _⟩⟩
      rw [List.getElem?_map] at hd
      cases hk2 : kvs[i]? with
      | none => rw [hk2] at hd; cases hd
      | some kv =>
        rw [hk2] at hd
        cases hd
        obtain ⟨w, hw, h1, h2⟩ := Paired.get rl hk2
        refine ⟨⟨q', (List.getElem?_eq_some_iff.mp hw).1⟩, fun x H'' ⟨e1, k, v, b, e2, e3, e4⟩ => ?_⟩
        subst e1 e3
        rw [hw] at e2
        cases e2
        exact ⟨.refl _, R, tkey_rel h1 e4⟩
    · exact h.elim
  | _ => exact h.elim⟩
/-- what the lock does to the heap, and back -/
theorem lock_in {ro : List Addr} {S : Sto} {H : Hp} {n : Nat} {kvs : List (D × D)} (hS : RelS g ro S H) (e : S[n]? = some (.dic true false kvs)) :
    ∃ (d : Addr) (ws : List (List L2.Key × V)), ro[n]? = some d ∧ H d = some (.dT ws) ∧ ∀ od, RelS g ro (S.set n (.dic true true kvs)) (upd H d (.frz od (.dT ws))) ∧ TExt H (upd H d (.frz od (.dT ws))) ∧
      ∀ (ro' : List Addr) (S1 S2 : Sto) (H' : Hp), Gr ro ro' → Ext (upd H d (.frz od (.dT ws))) H' → RelS g ro' S1 H' → (Ext H H' ∧ H' d = some (.frz od (.dT ws)) ∧
        (unlD n kvs S1 = some S2 → Ext H (upd H' d (.dT ws)) ∧ RelS g ro' S2 (upd H' d (.dT ws)) ∧ TExt H' (upd H' d (.dT ws)))) := by
  obtain ⟨d, hn, q⟩ := hS.ob n _ e
  obtain ⟨ws, rl, q⟩ := (show ∃ ws, RelTV ro H kvs ws ∧ AtL H d false (.dT ws) from q)
  have q : H d = some (.dT ws) := q
  refine ⟨d, ws, hn, q, fun od => ?_⟩
  have te : TExt H (upd H d (.frz od (.dT ws))) := .put q dT_tup
  refine ⟨?_, te, fun ro' S1 S2 H' gr ex hS1 => ?_⟩
  · exact hS.put hn e (fun z => z.elim) (fun z => z.elim) q (show ∃ ws', RelTV ro (upd H d (.frz od (.dT ws))) kvs ws' ∧ AtL (upd H d (.frz od (.dT ws))) d true (.dT ws') from ⟨ws, rl.mono (.refl _) te, od, upd_same⟩) nu_dT
  · have hd' : H' d = some (.frz od (.dT ws)) := ex.frz _ _ _ upd_same
    have ne : ∀ {a : Addr} {o : HO}, H a = some o → o ≠ .dT ws → a ≠ d := fun h h' z => by rw [z, q] at h; exact h' (Option.some.inj h).symm
    have e1 : Ext H H' := ⟨te.trans ex.tup, fun a o u h => ex.frz _ _ _ (by rw [upd_ne (ne h (fun z => nomatch z))]; exact h)⟩
    refine ⟨e1, hd', fun hu => ?_⟩
    have t2 : TExt H' (upd H' d (.dT ws)) := .put hd' (fun _ z => nomatch z)
    refine ⟨⟨e1.tup.trans t2, fun a o u h => ?_⟩, ?_, t2⟩
    · rw [upd_ne (ne h (fun z => nomatch z))]
      exact e1.frz _ _ _ h
    · unfold unlD at hu
      split at hu
      · rename_i kv1 z
        cases hu
        exact hS1.put (gr _ _ hn) z (fun z => z.elim) (fun z => z.elim) hd' (show ∃ ws', RelTV ro' (upd H' d (.dT ws)) kvs ws' ∧ AtL (upd H' d (.dT ws)) d false (.dT ws') from ⟨ws, rl.mono gr (e1.tup.trans t2), upd_same⟩) nu_frz
      · cases hu
theorem ss_lock (h : SS X g E st ms) : SS X g E st (sLock ma ms) := ⟨ps_imp (ps_lock h.run) fun D s H ⟨ro, L, S, hL, hS, w⟩ => by
  unfold sLock at w
  split at w
  · rename_i n S0 z0
    split at w
    · rename_i kvs e
      obtain ⟨d, ws, hn, q, k⟩ := lock_in hS e
      refine ⟨d, _, q, trivial, fun od => ?_⟩
      obtain ⟨r1, te, k⟩ := k od
      refine ⟨ro, L, _, hL.mono (.refl _) te, r1, ?_⟩
      cases z : ms L (S.set n (.dic true true kvs)) with
      | err => rw [z] at w; exact w
      | exc x L1 S1 =>
        rw [z] at w
        exact fun ro' H' c dd gr ex hS1 rx => w ro' H' c dd gr (k ro' S1 S1 H' gr ex hS1).1 hS1 rx
      | nx L1 S1 =>
        rw [z] at w
        intro ro' H' s' gr ex hS1 rl
        simp only at w
        cases hu : unlD n kvs S1 with
        | none => rw [hu] at w; exact w.elim
        | some S2 =>
          rw [hu] at w
          obtain ⟨_, hd, k2⟩ := k ro' S1 S2 H' gr ex hS1
          obtain ⟨e2, r2, t2⟩ := k2 hu
          exact ⟨hd, w ro' _ _ gr e2 r2 (rl.mono (.refl _) t2)⟩
      | bk L1 S1 =>
        rw [z] at w
        intro ro' H' s' gr ex hS1 rl
        simp only at w
        cases hu : unlD n kvs S1 with
        | none => rw [hu] at w; exact w.elim
        | some S2 =>
          rw [hu] at w
          obtain ⟨_, hd, k2⟩ := k ro' S1 S2 H' gr ex hS1
          obtain ⟨e2, r2, t2⟩ := k2 hu
          exact ⟨hd, w ro' _ _ gr e2 r2 (rl.mono (.refl _) t2)⟩
      | ct L1 S1 =>
        rw [z] at w
        intro ro' H' s' gr ex hS1 rl
        simp only at w
        cases hu : unlD n kvs S1 with
        | none => rw [hu] at w; exact w.elim
        | some S2 =>
          rw [hu] at w
          obtain ⟨_, hd, k2⟩ := k ro' S1 S2 H' gr ex hS1
          obtain ⟨e2, r2, t2⟩ := k2 hu
          exact ⟨hd, w ro' _ _ gr e2 r2 (rl.mono (.refl _) t2)⟩
      | rt d1 S1 =>
        rw [z] at w
        intro ro' H' v gr ex hS1 rl
        simp only at w
        cases hu : unlD n kvs S1 with
        | none => rw [hu] at w; exact w.elim
        | some S2 =>
          rw [hu] at w
          obtain ⟨_, hd, k2⟩ := k ro' S1 S2 H' gr ex hS1
          obtain ⟨e2, r2, t2⟩ := k2 hu
          exact ⟨hd, w ro' _ _ gr e2 r2 (RelD.mono (.refl _) t2 _ _ rl)⟩
    · exact w.elim
  · exact w.elim⟩
theorem se_lock (h : SE X g E e me) : SE X g E e (eLock ma me) := ⟨pe_imp (pe_lock h.run) fun s H Q ⟨ro, L, S, hL, hS, w⟩ => by
  unfold eLock at w
  split at w
  · rename_i n S0 z0
    split at w
    · rename_i kvs e
      obtain ⟨d, ws, hn, q, k⟩ := lock_in hS e
      refine ⟨d, _, q, trivial, fun od => ?_⟩
      obtain ⟨r1, te, k⟩ := k od
      refine ⟨ro, L, _, hL.mono (.refl _) te, r1, ?_⟩
      cases z : me L (S.set n (.dic true true kvs)) with
      | err => rw [z] at w; exact w
      | exc x S1 =>
        rw [z] at w
        exact fun ro' H' c dd gr ex hS1 rx => w ro' H' c dd gr (k ro' S1 S1 H' gr ex hS1).1 hS1 rx
      | ok d1 S1 =>
        rw [z] at w
        intro ro' H' v gr ex hS1 rl
        simp only at w
        cases hu : unlD n kvs S1 with
        | none => rw [hu] at w; exact w.elim
        | some S2 =>
          rw [hu] at w
          obtain ⟨_, hd, k2⟩ := k ro' S1 S2 H' gr ex hS1
          obtain ⟨e2, r2, t2⟩ := k2 hu
          exact ⟨hd, w ro' _ _ gr e2 r2 (RelD.mono (.refl _) t2 _ _ rl)⟩
    · exact w.elim
  · exact w.elim⟩
end
end MP

namespace MP
open PySem L2
structure SK (X : Cx) (g : G) (E : XK) (kws : List Keyword) (m : AM) : Prop where
  run : PK X kws (rdA g E m)
/-- the name x is the class c; called with n values and the keywords ks its __init__ computes F -/
def MiK (g : G) (k : Nat) (x : Str) (c n : Nat) (ks : List Str) (F : Fn) (gD : List D → List D → List D) : Prop := ∃ (f : Addr) (fd : FuncData) (ps : List Str) (gv : List Value → List Value → List Value) (gV : List V → List V → List V),
  FOk g k f fd ps F ∧ g.mg x = some (.ref (g.cls c)) ∧ Mk g.K (g.cls c) f ∧ KBn g.K fd ps (n + 1) ks gv gV ∧
  ∀ (ro : List Addr) (H : Hp) (ds es : List D) (vs zs : List V) (v : V), RelDs ro H ds vs → RelDs ro H es zs → ∃ us, gV (v :: vs) zs = v :: us ∧ RelDs ro H (gD ds es) us
section
variable {X : Cx} {g : G} {E : XK} {e : Expr} {es : List Expr} {kws : List Keyword} {me : EM} {ms mk : AM} {pos p kpos : Pos} {nm : Option Str} {k n : Nat} {x : Str} {F : Fn} {ks : List Str} {gD : List D → List D → List D}
theorem pk_imp {t t' : TA} (h : PK X kws t) (i : ∀ s H Q, t' s H Q → t s H Q) : PK X kws t' := ⟨fun pos pins s σ H Q I q => h.run pos pins s σ H Q I (i _ _ _ q)⟩
theorem sk_nil : SK X g E [] aNil := ⟨pk_imp pk_nil fun s H Q ⟨ro, L, S, hL, hS, h⟩ => h ro H _ (.refl _) (.refl _) hS .nil⟩
theorem sk_cons (ha : SE X g E e me) (hr : SK X g E kws mk) : SK X g E (⟨nm, e, kpos⟩ :: kws) (aCons me mk) := ⟨pk_imp (pk_cons ha.run hr.run) fun s H Q h => by
  obtain ⟨ro, L, S, hL, hS, h⟩ := h
  refine ⟨ro, L, S, hL, hS, Post.bind h fun d S1 ro1 H1 v gr ex hS1 rv h => ?_⟩
  refine ⟨ro1, L, S1, hL.mono gr ex, hS1, Post.bind h fun ds S2 ro2 H2 vs gr2 ex2 hS2 rv2 h => ?_⟩
  exact h ro2 H2 _ (.refl _) (.refl _) hS2 (.cons (rv.mono gr2 ex2) rv2)⟩
theorem se_makeK {c : Nat} (cx : Ctx g E X) (d : MiK g k x c n ks F gD) (hr : Room (k + 1) X.A) (hg : Gl X x) (ha : SA X g E (e :: es) ms) (hkw : SK X g E kws mk)
    (hall : (backToKw pos (keywordEach kws X.env)).all (·.1.isSome) = true := by rfl) (hks : (backToKw pos (keywordEach kws X.env)).filterMap (·.1) = ks := by rfl) (hdb : (x == ("__debug__" : Str)) = false := by decide)
    (he : starEach (e :: es) X.env = (false, eval e X.env) :: starEach es X.env := by rfl) (hpl : ((backTo pos (starEach (e :: es) X.env)).any (·.1) || (backToKw pos (keywordEach kws X.env)).any (·.1.isNone)) = false := by rfl) :
    SE X g E (.Call (.Name x p) (e :: es) kws pos) (eMakeK c n ks.length F gD ms mk) := by
  obtain ⟨f, fd, ps, gv, gV, h, hm, hk, hb, hrel⟩ := d
  refine ⟨pe_imp (pe_makeK (by rw [cx.K]; exact hk) (h.at cx) hr hg (by rw [cx.mg]; exact hm) (by rw [cx.K]; exact hb) (passM cx) ha.run hkw.run hall hks hdb he hpl) fun s H Q ⟨ro, L, S, hL, hS, h⟩ => ?_⟩
  refine ⟨ro, L, S, hL, hS, Post.bind h fun ds S1 ro1 H1 vs gr ex hS1 rv h => ⟨ro1, L, S1, hL.mono gr ex, hS1, Post.bind h fun zs S2 ro2 H2 ws gr2 ex2 hS2 rv2 w => ?_⟩⟩
  split at w
  · rename_i hl
    have rv' := RelDs.mono gr2 ex2.tup _ _ rv
    refine ⟨by rw [← rv.length]; exact hl.1, by rw [← rv2.length]; exact hl.2, fun y dx hy hdx ne => ?_⟩
    obtain ⟨us, e1, r⟩ := hrel ro2 H2 ds zs vs ws (.ref y) rv' rv2
    rw [e1]
    exact make_rd hS2 r w y dx hy hdx ne
  · exact w.elim
/-! ### a text in a tuple of texts -/
theorem strsOf_rel {ro : List Addr} {H : Hp} : ∀ {ds : List D} {vs : List V} {zs : List (List Nat)}, RelDs ro H ds vs → strsOf ds = some zs → vs = zs.map fun z => V.str ⟨z.toArray⟩
  | [], vs, zs, r, e => by
    cases e
    rw [r.inv0]
    rfl
  | d :: ds, vs, zs, r, e => by
    obtain ⟨v, us, rfl, r1, r2⟩ := r.inv
    cases d with
    | str z =>
      simp only [strsOf] at e
      cases q : strsOf ds with
      | none => rw [q] at e; cases e
      | some ys =>
        rw [q] at e
        cases e
        rw [r1.str_inv.1, strsOf_rel r2 q]
        rfl
    | _ => cases e
theorem inV_strs (c : List Nat) : ∀ zs : List (List Nat), inV (.str ⟨c.toArray⟩) (zs.map fun z => V.str ⟨z.toArray⟩) = decide (c ∈ zs)
  | [] => by simp [inV]
  | z :: zs => by
    have ih := inV_strs c zs
    unfold inV at ih ⊢
    rw [List.map_cons, List.any_cons, ih]
    rw [Bool.eq_iff_iff]
    simp only [Bool.or_eq_true, decide_eq_true_eq, List.mem_cons]
    have e : eqV (.str ⟨z.toArray⟩) (.str ⟨c.toArray⟩) = true ↔ c = z := by
      simp [eqV]
      exact eq_comm
    rw [e]
theorem flat_strs (zs : List (List Nat)) : (zs.map fun z => V.str ⟨z.toArray⟩).all flatV = true := by
  simp [List.all_eq_true, flatV]
theorem o_inT (cx : Ctx g E X) : O2 X g E (compareOp .In) (inT false) := by
  intro pins s σ H x y v u Q I rx ry ⟨ro, S, dx, dy, hS, r1, r2, w⟩
  unfold inT at w
  split at w
  · rename_i c ys
    obtain ⟨p, vs, rfl, hp, r⟩ := r2.tup_inv
    split at w
    · rename_i zs e
      cases r1.str_inv.1
      have ev := strsOf_rel r e
      subst ev
      refine op_in_seq pins s σ H _ _ v u Q I rx ry ⟨p, _, rfl, .inr (SqT.of hp), rfl, flat_strs zs, ?_⟩
      rw [if_neg (by decide), inV_strs]
      rw [if_neg (by decide)] at w
      exact w ro H _ (.refl _) (.refl _) hS .bl_mk
    · exact w.elim
  · exact w.elim
theorem o_notInT (cx : Ctx g E X) : O2 X g E (compareOp .NotIn) (inT true) := by
  intro pins s σ H x y v u Q I rx ry ⟨ro, S, dx, dy, hS, r1, r2, w⟩
  unfold inT at w
  split at w
  · rename_i c ys
    obtain ⟨p, vs, rfl, hp, r⟩ := r2.tup_inv
    split at w
    · rename_i zs e
      cases r1.str_inv.1
      have ev := strsOf_rel r e
      subst ev
      refine op_notIn_seq pins s σ H _ _ v u Q I rx ry ⟨p, _, rfl, .inr (SqT.of hp), rfl, flat_strs zs, ?_⟩
      rw [if_pos rfl, inV_strs]
      rw [if_pos rfl] at w
      exact w ro H _ (.refl _) (.refl _) hS .bl_mk
    · exact w.elim
  · exact w.elim
end
end MP

namespace MP
open PySem L2
section
variable {X : Cx} {g : G} {E : XK}
theorem first_at {k : Int} : ∀ {is : List Int}, k ∈ is → ∃ j : Nat, is[j]? = some k ∧ (∀ m : Nat, m < j → is[m]? ≠ some k) ∧ is.eraseIdx j = is.erase k
  | i :: is, h => by
    by_cases e : i = k
    · subst e
      exact ⟨0, rfl, fun m hm => absurd hm (Nat.not_lt_zero _), by simp⟩
    · obtain ⟨j, h1, h2, h3⟩ := first_at (is := is) (k := k) (by
        rcases List.mem_cons.mp h with z | z
        · exact absurd z.symm e
        · exact z)
      refine ⟨j + 1, by simpa using h1, fun m hm => ?_, by rw [List.eraseIdx_cons_succ, h3, List.erase_cons_tail (by simpa using e)]⟩
      cases m with
      | zero => simp [e]
      | succ m => simpa using h2 m (by omega)
theorem rel_ints' {ro : List Addr} {H : Hp} : ∀ ns : List Int, RelDs ro H (ns.map D.int) (ns.map V.int)
  | [] => .nil
  | n :: ns => .cons .int_mk (rel_ints' ns)
theorem m_remove : MtR X "list.remove" (rM g E fRemove) := fun pins s σ H x xs v us Q I rx rv ⟨ro, S, ds, hS, rv2, w⟩ => by
  unfold fRemove at w
  split at w
  · rename_i n k
    obtain ⟨v1, r, e1, r1, rr⟩ := rv2.inv
    obtain ⟨v2, r', rfl, r2, rr2⟩ := rr.inv
    cases rr2.inv0
    cases e1
    obtain ⟨p1, h1, rfl⟩ := r1.ref_inv
    split at w
    · rename_i ys z
      obtain ⟨vs, q, t⟩ := hS.at h1 z
      split at w
      · rename_i is e
        split at w
        · rename_i hk
          have ev := intsOf_rel q e
          subst ev
          obtain ⟨j, a1, a2, a3⟩ := first_at hk
          refine mt_remove pins s σ H _ _ v us Q I rx rv ⟨p1, is, k, j, rfl, by rw [r2.int_inv], t, a1, a2, ?_⟩
          rw [a3]
          exact w ro _ _ (.refl _) (.put t lst_tup lst_frz) (hS.putL h1 z t (rel_ints' _)) .non_mk
        · exact w.elim
      · exact w.elim
    · exact w.elim
  · exact w.elim
theorem m_count (cx : Ctx g E X) : MtR X "list.count" (rM g E fCount) := mtr_imp mt_lcount fun x xs H Q ⟨ro, S, ds, hS, rv2, w⟩ => by
  unfold fCount at w
  split at w
  · rename_i n k
    obtain ⟨v1, r, e1, r1, rr⟩ := rv2.inv
    obtain ⟨v2, r', rfl, r2, rr2⟩ := rr.inv
    cases rr2.inv0
    cases e1
    obtain ⟨p1, h1, rfl⟩ := r1.ref_inv
    split at w
    · rename_i ys z
      obtain ⟨vs, q, t⟩ := hS.at h1 z
      split at w
      · rename_i is e
        have ev := intsOf_rel q e
        subst ev
        exact ⟨p1, is, k, rfl, by rw [r2.int_inv], SqL.of t, w ro H _ (.refl _) (.refl _) hS .int_mk⟩
      · exact w.elim
    · exact w.elim
  · exact w.elim
end
end MP

namespace MP
open PySem L2
def fnames : List Str := ([Str.ofString "__eq__", Str.ofString "__init__", Str.ofString "__len__", Str.ofString "aged", Str.ofString "alive", Str.ofString "all_houses", Str.ofString "all_ways", Str.ofString "append", Str.ofString "ask", Str.ofString "asked", Str.ofString "asked_by", Str.ofString "at_house", Str.ofString "clock", Str.ofString "come", Str.ofString "count", Str.ofString "cut", Str.ofString "cuts", Str.ofString "disown", Str.ofString "drop", Str.ofString "end", Str.ofString "ends", Str.ofString "find", Str.ofString "forget", Str.ofString "found", Str.ofString "fresh", Str.ofString "get", Str.ofString "got", Str.ofString "house", Str.ofString "index", Str.ofString "insert", Str.ofString "is_cut", Str.ofString "join", Str.ofString "joined", Str.ofString "keep", Str.ofString "keeps", Str.ofString "leads", Str.ofString "lean", Str.ofString "leave", Str.ofString "lines", Str.ofString "longest", Str.ofString "lose", Str.ofString "me", Str.ofString "mend", Str.ofString "most", Str.ofString "near", Str.ofString "need_house", Str.ofString "need_in", Str.ofString "need_way", Str.ofString "next_houses", Str.ofString "no_from", Str.ofString "noes", Str.ofString "now", Str.ofString "oldest", Str.ofString "on_way", Str.ofString "out", Str.ofString "own", Str.ofString "owns", Str.ofString "parted", Str.ofString "pending", Str.ofString "pop", Str.ofString "posts", Str.ofString "put", Str.ofString "remove", Str.ofString "roads", Str.ofString "room", Str.ofString "rows", Str.ofString "send", Str.ofString "settle", Str.ofString "shelf", Str.ofString "sides", Str.ofString "since", Str.ofString "size", Str.ofString "split", Str.ofString "table", Str.ofString "table_sides", Str.ofString "take_out", Str.ofString "teach", Str.ofString "tell", Str.ofString "tell_all", Str.ofString "thing_from", Str.ofString "things", Str.ofString "tick", Str.ofString "waits", Str.ofString "way", Str.ofString "ways", Str.ofString "who"] : List Str)
def FN (i : Nat) : Str := fnames.getD i ⟨(List.replicate (100 + i) 97).toArray⟩
theorem FN_inj : ∀ i j, FN i = FN j → i = j := by
  have nd : fnames.Nodup := by decide +kernel
  have sh : ∀ x ∈ fnames, x.cps.size < 100 := by decide +kernel
  have lg : ∀ i, fnames.length ≤ i → (FN i).cps.size = 100 + i := fun i h => by
    unfold FN
    rw [List.getD_eq_getElem?_getD, List.getElem?_eq_none h]
    simp
  have st : ∀ i, (h : i < fnames.length) → FN i = fnames[i] := fun i h => by
    unfold FN
    rw [List.getD_eq_getElem?_getD, List.getElem?_eq_getElem h]
    rfl
  intro i j e
  rcases Nat.lt_or_ge i fnames.length with hi | hi <;> rcases Nat.lt_or_ge j fnames.length with hj | hj
  · rw [st i hi, st j hj] at e
    exact (List.getElem_inj nd).mp e
  · have h1 := sh _ (List.getElem_mem hi)
    rw [← st i hi, e, lg j hj] at h1
    omega
  · have h1 := sh _ (List.getElem_mem hj)
    rw [← st j hj, ← e, lg i hi] at h1
    omega
  · have h1 := lg i hi
    rw [e, lg j hj] at h1
    omega
def lamQ (x : Str) : Str := (x ++ ".<locals>.") ++ "<lambda>"
def clsN : List Str := ([Str.ofString "House", Str.ofString "Keeps", Str.ofString "Net", Str.ofString "Table", Str.ofString "Wait"] : List Str)
def excN : List Str := ([Str.ofString "BadLetter", Str.ofString "BadName", Str.ofString "BadNumber", Str.ofString "BadSides", Str.ofString "BadStory", Str.ofString "Gone", Str.ofString "NoHouse", Str.ofString "NoLetter", Str.ofString "NoWay", Str.ofString "WantError"] : List Str)
end MP

namespace MP
open PySem L2
theorem cx_no {P : Program} {w : World} (H : Hp) (s : Shared) (e : Value) (s' : Shared) (h : L2N.CX P w [] H s (fun _ _ _ => False) e s') : False := by
  obtain ⟨_, _, _, _, _, _, _, _, _, _, _, _, z⟩ := h
  exact z
/-- what is promised of a law: it answers True -/
def spL (K : PySem.W.Frag) (T : List (Addr × Str)) : Sp := fun vs H Q _ => ∃ (a : Addr) (ns : List Int), vs = [.ref a] ∧ ns.length ≤ 63 ∧ SqL K H a (ns.map V.int) ∧ LamX.Tabs T H ∧ ∀ H', Q (.bl true) H'
theorem rel_ints {ro : List Addr} {H : Hp} : ∀ ns : List Int, RelDs ro H (ns.map D.int) (ns.map V.int)
  | [] => .nil
  | n :: ns => .cons .int_mk (rel_ints ns)
theorem law_sp {g : G} {F : Fn} (h : ∀ {S : Sto} {n : Nat} {ns : List Int}, isL S n (ns.map .int) → ns.length ≤ 63 → wR (F [.ref n] S) (fun d _ => d = .bl true) Fl) (vs : List V) (H : Hp) (Q : VK) (E : XK) (q : spL g.K g.T vs H Q E) : spM g F vs H Q E := by
  obtain ⟨a, ns, rfl, hz, hS, hT, q⟩ := q
  have key : ∀ ob : Ob, RelOb g [a] H a ob → isL [ob] 0 (ns.map .int) → spM g F [.ref a] H Q E := fun ob ho hl => by
    refine ⟨[a], [ob], [.ref 0], ⟨rfl, fun n o e => ?_, fun n m b ne e1 e2 => ?_, hT⟩, .cons (.ref_mk rfl) .nil, ?_⟩
    · cases n with
      | zero => cases e; exact ⟨a, rfl, ho⟩
      | succ n => cases e
    · cases n with
      | zero =>
        cases m with
        | zero => exact absurd rfl ne
        | succ m => cases e2
      | succ n => cases e1
    · have w := h hl hz
      cases z : F [.ref 0] [ob] with
      | ok d S' =>
        rw [z] at w
        have w : d = .bl true := w
        subst w
        intro ro' H' v _ _ _ rv
        rw [rv.bl_inv]
        exact q H'
      | exc x S' => rw [z] at w; exact w.elim
      | err => rw [z] at w; exact w.elim
  rcases hS with (hS | hS) | hS
  · exact key (.lst (ns.map .int)) ⟨_, rel_ints ns, hS⟩ (.inl rfl)
  · exact key (.frz (ns.map .int)) ⟨_, rel_ints ns, .inl hS⟩ (.inr rfl)
  · exact key (.frz (ns.map .int)) ⟨_, rel_ints ns, .inr hS⟩ (.inr rfl)
theorem FOk.law {g : G} {k : Nat} {f : Addr} {fd : FuncData} {ps : List Str} {F : Fn} (o : FOk g k f fd ps F) (h : ∀ {S : Sto} {n : Nat} {ns : List Int}, isL S n (ns.map .int) → ns.length ≤ 63 → wR (F [.ref n] S) (fun d _ => d = .bl true) Fl) :
    FnOk g.P g.w g.K g.mg g.base (L2N.CX g.P g.w) k f fd ps (spL g.K g.T) :=
  FnOk.imp o fun vs H Q E q => law_sp h vs H Q E q
end MP

namespace MP
open PySem L2
def top (i : Nat) : Stmt := PySem.Challenge.pw_namewants_k41_whole_joined_asks.main.body.getD i (.Pass ⟨0, 0, 0, 0⟩)
def inCls : Stmt → List Stmt
  | .ClassDef _ _ _ b _ _ _ _ _ _ _ => b
  | _ => []
def mth (i j : Nat) : Stmt := (inCls (top i)).getD j (.Pass ⟨0, 0, 0, 0⟩)
abbrev st_is_number : Stmt := top 12
abbrev st_need_number : Stmt := top 13
abbrev st_Table___len__ : Stmt := mth 25 1
abbrev st_Keeps___len__ : Stmt := mth 23 1
abbrev st_is_part : Stmt := top 14
abbrev st_is_beginning : Stmt := top 15
abbrev st_is_name : Stmt := top 16
abbrev st_need_beginning : Stmt := top 17
abbrev st_need_name : Stmt := top 18
abbrev st_is_side : Stmt := top 19
abbrev st_need_sides : Stmt := top 20
abbrev st_Keeps___init__ : Stmt := mth 23 0
abbrev st_Keeps_take_out : Stmt := mth 23 2
abbrev st_Keeps_keep : Stmt := mth 23 3
abbrev st_Keeps_put : Stmt := mth 23 4
abbrev st_Keeps_find : Stmt := mth 23 5
abbrev st_Keeps_rows : Stmt := mth 23 8
abbrev st_Table___init__ : Stmt := mth 25 0
abbrev st_Table_put : Stmt := mth 25 3
abbrev st_Table_longest : Stmt := mth 25 5
abbrev st_Table_found : Stmt := mth 25 6
abbrev st_Table_rows : Stmt := mth 25 9
abbrev st_is_letter : Stmt := top 28
abbrev st_Wait___init__ : Stmt := mth 29 0
abbrev st_House___init__ : Stmt := mth 30 0
abbrev st_House_tell : Stmt := mth 30 1
abbrev st_House_tell_all : Stmt := mth 30 2
abbrev st_House_table_sides : Stmt := mth 30 3
abbrev st_House_joined : Stmt := mth 30 5
abbrev st_House_asked_by : Stmt := mth 30 4
abbrev st_House_thing_from : Stmt := mth 30 6
abbrev st_House_no_from : Stmt := mth 30 7
abbrev st_House_ask : Stmt := mth 30 8
abbrev st_House_come : Stmt := mth 30 9
abbrev st_House_teach : Stmt := mth 30 13
abbrev st_House_end : Stmt := mth 30 15
abbrev st_House_waits : Stmt := mth 30 16
abbrev st_House_keeps : Stmt := mth 30 17
abbrev st__law_cell : Stmt := top 32
abbrev st__law_drawn : Stmt := top 33
abbrev st__law_roll : Stmt := top 34
abbrev st__law_rounds : Stmt := top 35
abbrev st__law_head : Stmt := top 36
abbrev st__law_any_name : Stmt := top 37
abbrev st__law_some_sides : Stmt := top 38
abbrev st__law_thing_comes : Stmt := top 39
abbrev st__law_noes_come : Stmt := top 40
abbrev st_law : Stmt := top 41
structure Tx (g : G) : Prop where
  fn : g.fname = FN
  b_isinstance : g.mg "isinstance" = none
  b_int : g.mg "int" = none
  b_bool : g.mg "bool" = none
  x_BadNumber : Xc g "BadNumber" 2
  b_len : g.mg "len" = none
  k_Table : Cls g.K (g.cls 3)
  n_Table_lines : NoAttr g.K (g.cls 3) "lines"
  k_Keeps : Cls g.K (g.cls 1)
  n_Keeps_lines : NoAttr g.K (g.cls 1) "lines"
  b_str : g.mg "str" = none
  b_all : g.mg "all" = none
  c_SIGNS : ∃ t, g.mg "SIGNS" = some (.str "abcdefghijklmnopqrstuvwxyz0123456789" t)
  b_tuple : g.mg "tuple" = none
  c_MOST_PARTS : ∃ t, g.mg "MOST_PARTS" = some (.int 5 t)
  x_BadName : Xc g "BadName" 1
  c_HOUSES : ∃ t, g.mg "HOUSES" = some (.int 8 t)
  b_list : g.mg "list" = none
  b_set : g.mg "set" = none
  x_BadSides : Xc g "BadSides" 3
  n_Keeps_room : NoAttr g.K (g.cls 1) "room"
  c_MOST_VALUE : ∃ t, g.mg "MOST_VALUE" = some (.int 999 t)
  b_range : g.mg "range" = none
  b_sorted : g.mg "sorted" = none
  k_Wait : Cls g.K (g.cls 4)
  n_Wait_since : NoAttr g.K (g.cls 4) "since"
  n_Wait_who : NoAttr g.K (g.cls 4) "who"
  n_Wait_asked : NoAttr g.K (g.cls 4) "asked"
  n_Wait_noes : NoAttr g.K (g.cls 4) "noes"
  k_House : Cls g.K (g.cls 0)
  n_House_me : NoAttr g.K (g.cls 0) "me"
  n_House_near : NoAttr g.K (g.cls 0) "near"
  n_House_shelf : NoAttr g.K (g.cls 0) "shelf"
  n_House_most : NoAttr g.K (g.cls 0) "most"
  n_House_roads : NoAttr g.K (g.cls 0) "roads"
  n_House_things : NoAttr g.K (g.cls 0) "things"
  n_House_pending : NoAttr g.K (g.cls 0) "pending"
  n_House_fresh : NoAttr g.K (g.cls 0) "fresh"
  n_House_ends : NoAttr g.K (g.cls 0) "ends"
  x_NoWay : Xc g "NoWay" 8
  x_BadLetter : Xc g "BadLetter" 0
  b_max : g.mg "max" = none
  b_min : g.mg "min" = none
  d_is_number : ∃ f fd, FunD g.K "is_number" "is_number" (defArgs st_is_number) (defBody st_is_number) (defScope st_is_number) [.non] [] f fd ∧ g.mg "is_number" = some (.ref f)
  d_need_number : ∃ f fd, FunD g.K "need_number" "need_number" (defArgs st_need_number) (defBody st_need_number) (defScope st_need_number) [.non] [] f fd ∧ g.mg "need_number" = some (.ref f)
  d_Table___len__ : ∃ f fd, FunD g.K "__len__" "Table.__len__" (defArgs st_Table___len__) (defBody st_Table___len__) (defScope st_Table___len__) [] [] f fd ∧ Cls g.K (g.cls 3) ∧ Meth g.K (g.cls 3) "__len__" f
  d_Keeps___len__ : ∃ f fd, FunD g.K "__len__" "Keeps.__len__" (defArgs st_Keeps___len__) (defBody st_Keeps___len__) (defScope st_Keeps___len__) [] [] f fd ∧ Cls g.K (g.cls 1) ∧ Meth g.K (g.cls 1) "__len__" f
  d_is_part : ∃ f fd, FunD g.K "is_part" "is_part" (defArgs st_is_part) (defBody st_is_part) (defScope st_is_part) [] [] f fd ∧ g.mg "is_part" = some (.ref f)
  d_is_beginning : ∃ f fd, FunD g.K "is_beginning" "is_beginning" (defArgs st_is_beginning) (defBody st_is_beginning) (defScope st_is_beginning) [] [] f fd ∧ g.mg "is_beginning" = some (.ref f)
  d_is_name : ∃ f fd, FunD g.K "is_name" "is_name" (defArgs st_is_name) (defBody st_is_name) (defScope st_is_name) [] [] f fd ∧ g.mg "is_name" = some (.ref f)
  d_need_beginning : ∃ f fd, FunD g.K "need_beginning" "need_beginning" (defArgs st_need_beginning) (defBody st_need_beginning) (defScope st_need_beginning) [] [] f fd ∧ g.mg "need_beginning" = some (.ref f)
  d_need_name : ∃ f fd, FunD g.K "need_name" "need_name" (defArgs st_need_name) (defBody st_need_name) (defScope st_need_name) [] [] f fd ∧ g.mg "need_name" = some (.ref f)
  d_is_side : ∃ f fd, FunD g.K "is_side" "is_side" (defArgs st_is_side) (defBody st_is_side) (defScope st_is_side) [] [] f fd ∧ g.mg "is_side" = some (.ref f)
  d_need_sides : ∃ f fd, FunD g.K "need_sides" "need_sides" (defArgs st_need_sides) (defBody st_need_sides) (defScope st_need_sides) [] [] f fd ∧ g.mg "need_sides" = some (.ref f)
  d_Keeps___init__ : ∃ f fd, FunD g.K "__init__" "Keeps.__init__" (defArgs st_Keeps___init__) (defBody st_Keeps___init__) (defScope st_Keeps___init__) [] [] f fd ∧ g.mg "Keeps" = some (.ref (g.cls 1)) ∧ Mk g.K (g.cls 1) f
  d_Keeps_take_out : ∃ f fd, FunD g.K "take_out" "Keeps.take_out" (defArgs st_Keeps_take_out) (defBody st_Keeps_take_out) (defScope st_Keeps_take_out) [] [] f fd ∧ Cls g.K (g.cls 1) ∧ Meth g.K (g.cls 1) "take_out" f
  d_Keeps_keep : ∃ f fd, FunD g.K "keep" "Keeps.keep" (defArgs st_Keeps_keep) (defBody st_Keeps_keep) (defScope st_Keeps_keep) [] [] f fd ∧ Cls g.K (g.cls 1) ∧ Meth g.K (g.cls 1) "keep" f
  d_Keeps_put : ∃ f fd, FunD g.K "put" "Keeps.put" (defArgs st_Keeps_put) (defBody st_Keeps_put) (defScope st_Keeps_put) [] [] f fd ∧ Cls g.K (g.cls 1) ∧ Meth g.K (g.cls 1) "put" f
  d_Keeps_find : ∃ f fd, FunD g.K "find" "Keeps.find" (defArgs st_Keeps_find) (defBody st_Keeps_find) (defScope st_Keeps_find) [] [] f fd ∧ Cls g.K (g.cls 1) ∧ Meth g.K (g.cls 1) "find" f
  d_Keeps_rows : ∃ f fd, FunD g.K "rows" "Keeps.rows" (defArgs st_Keeps_rows) (defBody st_Keeps_rows) (defScope st_Keeps_rows) [] [] f fd ∧ Cls g.K (g.cls 1) ∧ Meth g.K (g.cls 1) "rows" f
  d_Table___init__ : ∃ f fd, FunD g.K "__init__" "Table.__init__" (defArgs st_Table___init__) (defBody st_Table___init__) (defScope st_Table___init__) [] [] f fd ∧ g.mg "Table" = some (.ref (g.cls 3)) ∧ Mk g.K (g.cls 3) f
  d_Table_put : ∃ f fd, FunD g.K "put" "Table.put" (defArgs st_Table_put) (defBody st_Table_put) (defScope st_Table_put) [] [] f fd ∧ Cls g.K (g.cls 3) ∧ Meth g.K (g.cls 3) "put" f
  d_Table_longest : ∃ f fd, FunD g.K "longest" "Table.longest" (defArgs st_Table_longest) (defBody st_Table_longest) (defScope st_Table_longest) [] [] f fd ∧ Cls g.K (g.cls 3) ∧ Meth g.K (g.cls 3) "longest" f
  d_Table_found : ∃ f fd, FunD g.K "found" "Table.found" (defArgs st_Table_found) (defBody st_Table_found) (defScope st_Table_found) [] [] f fd ∧ Cls g.K (g.cls 3) ∧ Meth g.K (g.cls 3) "found" f
  d_Table_rows : ∃ f fd, FunD g.K "rows" "Table.rows" (defArgs st_Table_rows) (defBody st_Table_rows) (defScope st_Table_rows) [] [] f fd ∧ Cls g.K (g.cls 3) ∧ Meth g.K (g.cls 3) "rows" f
  d_is_letter : ∃ f fd, FunD g.K "is_letter" "is_letter" (defArgs st_is_letter) (defBody st_is_letter) (defScope st_is_letter) [] [] f fd ∧ g.mg "is_letter" = some (.ref f)
  d_Wait___init__ : ∃ f fd, FunD g.K "__init__" "Wait.__init__" (defArgs st_Wait___init__) (defBody st_Wait___init__) (defScope st_Wait___init__) [] [] f fd ∧ g.mg "Wait" = some (.ref (g.cls 4)) ∧ Mk g.K (g.cls 4) f
  d_House___init__ : ∃ f fd, FunD g.K "__init__" "House.__init__" (defArgs st_House___init__) (defBody st_House___init__) (defScope st_House___init__) [] [("room", .int 4), ("wait", .int 6)] f fd ∧ g.mg "House" = some (.ref (g.cls 0)) ∧ Mk g.K (g.cls 0) f
  d_House_tell : ∃ f fd, FunD g.K "tell" "House.tell" (defArgs st_House_tell) (defBody st_House_tell) (defScope st_House_tell) [] [] f fd ∧ Cls g.K (g.cls 0) ∧ Meth g.K (g.cls 0) "tell" f
  d_House_tell_all : ∃ f fd, FunD g.K "tell_all" "House.tell_all" (defArgs st_House_tell_all) (defBody st_House_tell_all) (defScope st_House_tell_all) [] [] f fd ∧ Cls g.K (g.cls 0) ∧ Meth g.K (g.cls 0) "tell_all" f
  d_House_table_sides : ∃ f fd, FunD g.K "table_sides" "House.table_sides" (defArgs st_House_table_sides) (defBody st_House_table_sides) (defScope st_House_table_sides) [] [] f fd ∧ Cls g.K (g.cls 0) ∧ Meth g.K (g.cls 0) "table_sides" f
  d_House_joined : ∃ f fd, FunD g.K "joined" "House.joined" (defArgs st_House_joined) (defBody st_House_joined) (defScope st_House_joined) [] [] f fd ∧ Cls g.K (g.cls 0) ∧ Meth g.K (g.cls 0) "joined" f
  d_House_asked_by : ∃ f fd, FunD g.K "asked_by" "House.asked_by" (defArgs st_House_asked_by) (defBody st_House_asked_by) (defScope st_House_asked_by) [] [] f fd ∧ Cls g.K (g.cls 0) ∧ Meth g.K (g.cls 0) "asked_by" f
  d_House_thing_from : ∃ f fd, FunD g.K "thing_from" "House.thing_from" (defArgs st_House_thing_from) (defBody st_House_thing_from) (defScope st_House_thing_from) [] [] f fd ∧ Cls g.K (g.cls 0) ∧ Meth g.K (g.cls 0) "thing_from" f
  d_House_no_from : ∃ f fd, FunD g.K "no_from" "House.no_from" (defArgs st_House_no_from) (defBody st_House_no_from) (defScope st_House_no_from) [] [] f fd ∧ Cls g.K (g.cls 0) ∧ Meth g.K (g.cls 0) "no_from" f
  d_House_ask : ∃ f fd, FunD g.K "ask" "House.ask" (defArgs st_House_ask) (defBody st_House_ask) (defScope st_House_ask) [] [] f fd ∧ Cls g.K (g.cls 0) ∧ Meth g.K (g.cls 0) "ask" f
  d_House_come : ∃ f fd, FunD g.K "come" "House.come" (defArgs st_House_come) (defBody st_House_come) (defScope st_House_come) [] [] f fd ∧ Cls g.K (g.cls 0) ∧ Meth g.K (g.cls 0) "come" f
  d_House_teach : ∃ f fd, FunD g.K "teach" "House.teach" (defArgs st_House_teach) (defBody st_House_teach) (defScope st_House_teach) [] [] f fd ∧ Cls g.K (g.cls 0) ∧ Meth g.K (g.cls 0) "teach" f
  d_House_end : ∃ f fd, FunD g.K "end" "House.end" (defArgs st_House_end) (defBody st_House_end) (defScope st_House_end) [] [] f fd ∧ Cls g.K (g.cls 0) ∧ Meth g.K (g.cls 0) "end" f
  d_House_waits : ∃ f fd, FunD g.K "waits" "House.waits" (defArgs st_House_waits) (defBody st_House_waits) (defScope st_House_waits) [] [] f fd ∧ Cls g.K (g.cls 0) ∧ Meth g.K (g.cls 0) "waits" f
  d_House_keeps : ∃ f fd, FunD g.K "keeps" "House.keeps" (defArgs st_House_keeps) (defBody st_House_keeps) (defScope st_House_keeps) [] [] f fd ∧ Cls g.K (g.cls 0) ∧ Meth g.K (g.cls 0) "keeps" f
  d__law_cell : ∃ f fd, FunD g.K "_law_cell" "_law_cell" (defArgs st__law_cell) (defBody st__law_cell) (defScope st__law_cell) [] [] f fd ∧ g.mg "_law_cell" = some (.ref f)
  d__law_drawn : ∃ f fd, FunD g.K "_law_drawn" "_law_drawn" (defArgs st__law_drawn) (defBody st__law_drawn) (defScope st__law_drawn) [] [] f fd ∧ g.mg "_law_drawn" = some (.ref f)
  d__law_roll : ∃ f fd, FunD g.K "_law_roll" "_law_roll" (defArgs st__law_roll) (defBody st__law_roll) (defScope st__law_roll) [] [] f fd ∧ g.mg "_law_roll" = some (.ref f)
  d__law_rounds : ∃ f fd, FunD g.K "_law_rounds" "_law_rounds" (defArgs st__law_rounds) (defBody st__law_rounds) (defScope st__law_rounds) [] [] f fd ∧ g.mg "_law_rounds" = some (.ref f)
  d__law_head : ∃ f fd, FunD g.K "_law_head" "_law_head" (defArgs st__law_head) (defBody st__law_head) (defScope st__law_head) [] [] f fd ∧ g.mg "_law_head" = some (.ref f)
  d__law_any_name : ∃ f fd, FunD g.K "_law_any_name" "_law_any_name" (defArgs st__law_any_name) (defBody st__law_any_name) (defScope st__law_any_name) [] [] f fd ∧ g.mg "_law_any_name" = some (.ref f)
  d__law_some_sides : ∃ f fd, FunD g.K "_law_some_sides" "_law_some_sides" (defArgs st__law_some_sides) (defBody st__law_some_sides) (defScope st__law_some_sides) [] [] f fd ∧ g.mg "_law_some_sides" = some (.ref f)
  d__law_thing_comes : ∃ f fd, FunD g.K "_law_thing_comes" "_law_thing_comes" (defArgs st__law_thing_comes) (defBody st__law_thing_comes) (defScope st__law_thing_comes) [] [] f fd ∧ g.mg "_law_thing_comes" = some (.ref f)
  d__law_noes_come : ∃ f fd, FunD g.K "_law_noes_come" "_law_noes_come" (defArgs st__law_noes_come) (defBody st__law_noes_come) (defScope st__law_noes_come) [] [] f fd ∧ g.mg "_law_noes_come" = some (.ref f)
  d_law : ∃ f fd, FunD g.K "law" "law" (defArgs st_law) (defBody st_law) (defScope st_law) [] [] f fd ∧ g.mg "law" = some (.ref f)
theorem Tx.nm {g : G} (t : Tx g) (i : Nat) {x : Str} (h : x = FN i := by rfl) : x = g.fname i := by rw [t.fn]; exact h
section
variable {g : G}
def N_is_number : List Str := ["thing", "low", "high"]
theorem sc_is_number : FnScope N_is_number ["thing", "low", "high"] (defScope st_is_number) := ⟨rfl, rfl, rfl, by decide +kernel, rfl, by decide +kernel, by decide +kernel⟩
theorem fk_is_number (t : Tx g) {f : Addr} {fd : FuncData} (F : FunD g.K "is_number" "is_number" (defArgs st_is_number) (defBody st_is_number) (defScope st_is_number) [.non] [] f fd) : FOk g 1 f fd ["thing", "low", "high"] f_is_number := by
  refine df_bodyD F sc_is_number fun X E ⟨cdv, A, outer, s, H, hr, hX⟩ => ?_
  have cx : Ctx g E X := by rw [hX]; exact ctx_of hr
  subst hX
  exact (ss_cons (ss_if (st_bool (sw_or (st_not (st_val (se_isi cx (by decide) (se_var 0) (Ctx.free cx t.b_isinstance) (Ctx.free cx t.b_int) (by first | rfl | decide +kernel)))) (sw_or (st_val (se_isi cx (by decide) (se_var 0) (Ctx.free cx t.b_isinstance) (Ctx.free cx t.b_bool) (by first | rfl | decide +kernel))) (sw_one (st_cmp o_lt (se_var 0) (se_var 1) rfl))))) (ss_one (ss_ret se_bl)) ss_nil)
    (ss_one (ss_ret (se_or (se_isN (se_var 2)) (se_one (se_cmp o_le (se_var 0) (se_var 2) rfl))))))
theorem ok_is_number (t : Tx g) : Df g 1 "is_number" f_is_number := by
  obtain ⟨f, fd, F, hm⟩ := t.d_is_number
  exact ⟨f, fd, _, fk_is_number t F, hm, F.kp, binds_full F 3 (by decide) rfl fun _ _ _ _ _ _ _ us its h1 h2 => match us, its, h1, h2 with | [_, _, _], [_], _, _ => ⟨_, rfl, rfl⟩⟩
theorem ok_is_number_d2 (t : Tx g) : DfD g 1 "is_number" f_is_number [.non] := by
  obtain ⟨f, fd, F, hm⟩ := t.d_is_number
  obtain ⟨ds, h1, h2⟩ := F.binds1 2 0 (ps := ["thing", "low", "high"]) (by decide) rfl fun _ _ _ _ _ _ _ us its h1 h2 => match us, its, h1, h2 with | [_, _], [_], _, _ => ⟨_, rfl, rfl⟩
  exact ⟨f, fd, _, ds, _, fk_is_number t F, hm, F.kp, h2, h1, fun ro H => by simp [RelDs, RelD]⟩
def N_need_number : List Str := ["thing", "low", "high"]
theorem sc_need_number : FnScope N_need_number ["thing", "low", "high"] (defScope st_need_number) := ⟨rfl, rfl, rfl, by decide +kernel, rfl, by decide +kernel, by decide +kernel⟩
theorem fk_need_number (t : Tx g) {f : Addr} {fd : FuncData} (F : FunD g.K "need_number" "need_number" (defArgs st_need_number) (defBody st_need_number) (defScope st_need_number) [.non] [] f fd) : FOk g 2 f fd ["thing", "low", "high"] f_need_number := by
  refine df_bodyD F sc_need_number fun X E ⟨cdv, A, outer, s, H, hr, hX⟩ => ?_
  have cx : Ctx g E X := by rw [hX]; exact ctx_of hr
  subst hX
  exact (ss_one (ss_if (st_not (st_val (se_call cx (ok_is_number t) (hr.mono (by decide)) rfl (sa_cons (se_var 0) (sa_cons (se_var 1) (sa_cons (se_var 2) sa_nil)))))) (ss_one (ss_raise cx t.x_BadNumber rfl rfl)) ss_nil))
theorem ok_need_number (t : Tx g) : Df g 2 "need_number" f_need_number := by
  obtain ⟨f, fd, F, hm⟩ := t.d_need_number
  exact ⟨f, fd, _, fk_need_number t F, hm, F.kp, binds_full F 3 (by decide) rfl fun _ _ _ _ _ _ _ us its h1 h2 => match us, its, h1, h2 with | [_, _, _], [_], _, _ => ⟨_, rfl, rfl⟩⟩
theorem ok_need_number_d2 (t : Tx g) : DfD g 2 "need_number" f_need_number [.non] := by
  obtain ⟨f, fd, F, hm⟩ := t.d_need_number
  obtain ⟨ds, h1, h2⟩ := F.binds1 2 0 (ps := ["thing", "low", "high"]) (by decide) rfl fun _ _ _ _ _ _ _ us its h1 h2 => match us, its, h1, h2 with | [_, _], [_], _, _ => ⟨_, rfl, rfl⟩
  exact ⟨f, fd, _, ds, _, fk_need_number t F, hm, F.kp, h2, h1, fun ro H => by simp [RelDs, RelD]⟩
def N_Table___len__ : List Str := ["self"]
theorem sc_Table___len__ : FnScope N_Table___len__ ["self"] (defScope st_Table___len__) := ⟨rfl, rfl, rfl, by decide +kernel, rfl, by decide +kernel, by decide +kernel⟩
theorem fk_Table___len__ (t : Tx g) {f : Addr} {fd : FuncData} (F : FunD g.K "__len__" "Table.__len__" (defArgs st_Table___len__) (defBody st_Table___len__) (defScope st_Table___len__) [] [] f fd) : FOk g 1 f fd ["self"] f_Table___len__ := by
  refine df_bodyD F sc_Table___len__ fun X E ⟨cdv, A, outer, s, H, hr, hX⟩ => ?_
  have cx : Ctx g E X := by rw [hX]; exact ctx_of hr
  subst hX
  exact (ss_one (ss_ret (se_callB (c_lenD cx) rfl (Ctx.free cx t.b_len) boot_len (sa_cons (se_fld cx (t.nm 38) t.k_Table t.n_Table_lines (se_var 0)) sa_nil))))
theorem ok_Table___len__ (t : Tx g) : Me g 1 3 "__len__" f_Table___len__ := by
  obtain ⟨f, fd, F, hk, hm⟩ := t.d_Table___len__
  exact ⟨f, fd, _, fk_Table___len__ t F, hk, hm, F.bindsN fun _ _ _ _ _ _ us hl => match us, hl with | [_], _ => rfl⟩
def N_Keeps___len__ : List Str := ["self"]
theorem sc_Keeps___len__ : FnScope N_Keeps___len__ ["self"] (defScope st_Keeps___len__) := ⟨rfl, rfl, rfl, by decide +kernel, rfl, by decide +kernel, by decide +kernel⟩
theorem fk_Keeps___len__ (t : Tx g) {f : Addr} {fd : FuncData} (F : FunD g.K "__len__" "Keeps.__len__" (defArgs st_Keeps___len__) (defBody st_Keeps___len__) (defScope st_Keeps___len__) [] [] f fd) : FOk g 1 f fd ["self"] f_Keeps___len__ := by
  refine df_bodyD F sc_Keeps___len__ fun X E ⟨cdv, A, outer, s, H, hr, hX⟩ => ?_
  have cx : Ctx g E X := by rw [hX]; exact ctx_of hr
  subst hX
  exact (ss_one (ss_ret (se_callB (c_len cx) rfl (Ctx.free cx t.b_len) (by first | rfl | decide +kernel) (sa_cons (se_fld cx (t.nm 38) t.k_Keeps t.n_Keeps_lines (se_var 0)) sa_nil))))
theorem ok_Keeps___len__ (t : Tx g) : Me g 1 1 "__len__" f_Keeps___len__ := by
  obtain ⟨f, fd, F, hk, hm⟩ := t.d_Keeps___len__
  exact ⟨f, fd, _, fk_Keeps___len__ t F, hk, hm, F.bindsN fun _ _ _ _ _ _ us hl => match us, hl with | [_], _ => rfl⟩
def N_is_part : List Str := ["thing", "sign"]
theorem sc_is_part : FnScope N_is_part ["thing"] (defScope st_is_part) := ⟨rfl, rfl, rfl, by decide +kernel, rfl, by decide +kernel, by decide +kernel⟩
theorem fk_is_part (t : Tx g) {f : Addr} {fd : FuncData} (F : FunD g.K "is_part" "is_part" (defArgs st_is_part) (defBody st_is_part) (defScope st_is_part) [] [] f fd) : FOk g 1 f fd ["thing"] f_is_part := by
  refine df_bodyD F sc_is_part fun X E ⟨cdv, A, outer, s, H, hr, hX⟩ => ?_
  have cx : Ctx g E X := by rw [hX]; exact ctx_of hr
  subst hX
  exact (ss_one (ss_ret (se_and (se_isi cx (by decide) (se_var 0) (Ctx.free cx t.b_isinstance) (Ctx.free cx t.b_str) (by first | rfl | decide +kernel)) (se_and (se_chain o_le o_le se_int (se_callB (c_len cx) rfl (Ctx.free cx t.b_len) (by first | rfl | decide +kernel) (sa_cons (se_var 0) sa_nil)) se_int) (se_one (se_callB (c_all rfl) rfl (Ctx.free cx t.b_all) (by first | rfl | decide +kernel) (sa_cons (se_lc rfl sc_is_part.nd (si_str cx (se_var 0)) (own := [("sign", 1)]) (blkOk_by (N := N_is_part) (sc := defScope st_is_part) (by decide +kernel)) (fun s H C cl fp => (sgw_name 1 (by decide) sc_is_part.nd)) (fun s H C cl fp => sts_nil) (fun s H C cl fp => (se_cmp o_inS (se_var 1) (se_globS rfl (Ctx.gs (ctx_blk cx) t.c_SIGNS)) rfl))) sa_nil)))))))
theorem ok_is_part (t : Tx g) : Df g 1 "is_part" f_is_part := by
  obtain ⟨f, fd, F, hm⟩ := t.d_is_part
  exact ⟨f, fd, _, fk_is_part t F, hm, F.kp, F.bindsN fun _ _ _ _ _ _ us hl => match us, hl with | [_], _ => rfl⟩
def N_is_beginning : List Str := ["thing", "one"]
theorem sc_is_beginning : FnScope N_is_beginning ["thing"] (defScope st_is_beginning) := ⟨rfl, rfl, rfl, by decide +kernel, rfl, by decide +kernel, by decide +kernel⟩
theorem fk_is_beginning (t : Tx g) {f : Addr} {fd : FuncData} (F : FunD g.K "is_beginning" "is_beginning" (defArgs st_is_beginning) (defBody st_is_beginning) (defScope st_is_beginning) [] [] f fd) : FOk g 2 f fd ["thing"] f_is_beginning := by
  refine df_bodyD F sc_is_beginning fun X E ⟨cdv, A, outer, s, H, hr, hX⟩ => ?_
  have cx : Ctx g E X := by rw [hX]; exact ctx_of hr
  subst hX
  exact (ss_one (ss_ret (se_and (se_isi cx (by decide) (se_var 0) (Ctx.free cx t.b_isinstance) (Ctx.free cx t.b_tuple) (by first | rfl | decide +kernel)) (se_and (se_cmp o_le (se_callB (c_len cx) rfl (Ctx.free cx t.b_len) (by first | rfl | decide +kernel) (sa_cons (se_var 0) sa_nil)) (se_globI rfl (Ctx.gi cx t.c_MOST_PARTS)) rfl) (se_one (se_callB (c_all rfl) rfl (Ctx.free cx t.b_all) (by first | rfl | decide +kernel) (sa_cons (se_lc rfl sc_is_beginning.nd (si_tup cx.K (se_var 0)) (own := [("one", 1)]) (blkOk_by (N := N_is_beginning) (sc := defScope st_is_beginning) (by decide +kernel)) (fun s H C cl fp => (sgw_name 1 (by decide) sc_is_beginning.nd)) (fun s H C cl fp => sts_nil) (fun s H C cl fp => (se_call (ctx_blk cx) (ok_is_part t) (hr.mono (by decide)) rfl (sa_cons (se_var 1) sa_nil)))) sa_nil)))))))
theorem ok_is_beginning (t : Tx g) : Df g 2 "is_beginning" f_is_beginning := by
  obtain ⟨f, fd, F, hm⟩ := t.d_is_beginning
  exact ⟨f, fd, _, fk_is_beginning t F, hm, F.kp, F.bindsN fun _ _ _ _ _ _ us hl => match us, hl with | [_], _ => rfl⟩
def N_is_name : List Str := ["thing"]
theorem sc_is_name : FnScope N_is_name ["thing"] (defScope st_is_name) := ⟨rfl, rfl, rfl, by decide +kernel, rfl, by decide +kernel, by decide +kernel⟩
theorem fk_is_name (t : Tx g) {f : Addr} {fd : FuncData} (F : FunD g.K "is_name" "is_name" (defArgs st_is_name) (defBody st_is_name) (defScope st_is_name) [] [] f fd) : FOk g 3 f fd ["thing"] f_is_name := by
  refine df_bodyD F sc_is_name fun X E ⟨cdv, A, outer, s, H, hr, hX⟩ => ?_
  have cx : Ctx g E X := by rw [hX]; exact ctx_of hr
  subst hX
  exact (ss_one (ss_ret (se_and (se_call cx (ok_is_beginning t) (hr.mono (by decide)) rfl (sa_cons (se_var 0) sa_nil)) (se_one (se_cmp (o_ne cx) (se_var 0) (se_tup sa_nil) rfl)))))
theorem ok_is_name (t : Tx g) : Df g 3 "is_name" f_is_name := by
  obtain ⟨f, fd, F, hm⟩ := t.d_is_name
  exact ⟨f, fd, _, fk_is_name t F, hm, F.kp, F.bindsN fun _ _ _ _ _ _ us hl => match us, hl with | [_], _ => rfl⟩
def N_need_beginning : List Str := ["thing"]
theorem sc_need_beginning : FnScope N_need_beginning ["thing"] (defScope st_need_beginning) := ⟨rfl, rfl, rfl, by decide +kernel, rfl, by decide +kernel, by decide +kernel⟩
theorem fk_need_beginning (t : Tx g) {f : Addr} {fd : FuncData} (F : FunD g.K "need_beginning" "need_beginning" (defArgs st_need_beginning) (defBody st_need_beginning) (defScope st_need_beginning) [] [] f fd) : FOk g 3 f fd ["thing"] f_need_beginning := by
  refine df_bodyD F sc_need_beginning fun X E ⟨cdv, A, outer, s, H, hr, hX⟩ => ?_
  have cx : Ctx g E X := by rw [hX]; exact ctx_of hr
  subst hX
  exact (ss_one (ss_if (st_not (st_val (se_call cx (ok_is_beginning t) (hr.mono (by decide)) rfl (sa_cons (se_var 0) sa_nil)))) (ss_one (ss_raise cx t.x_BadName rfl rfl)) ss_nil))
theorem ok_need_beginning (t : Tx g) : Df g 3 "need_beginning" f_need_beginning := by
  obtain ⟨f, fd, F, hm⟩ := t.d_need_beginning
  exact ⟨f, fd, _, fk_need_beginning t F, hm, F.kp, F.bindsN fun _ _ _ _ _ _ us hl => match us, hl with | [_], _ => rfl⟩
def N_need_name : List Str := ["thing"]
theorem sc_need_name : FnScope N_need_name ["thing"] (defScope st_need_name) := ⟨rfl, rfl, rfl, by decide +kernel, rfl, by decide +kernel, by decide +kernel⟩
theorem fk_need_name (t : Tx g) {f : Addr} {fd : FuncData} (F : FunD g.K "need_name" "need_name" (defArgs st_need_name) (defBody st_need_name) (defScope st_need_name) [] [] f fd) : FOk g 4 f fd ["thing"] f_need_name := by
  refine df_bodyD F sc_need_name fun X E ⟨cdv, A, outer, s, H, hr, hX⟩ => ?_
  have cx : Ctx g E X := by rw [hX]; exact ctx_of hr
  subst hX
  exact (ss_one (ss_if (st_not (st_val (se_call cx (ok_is_name t) (hr.mono (by decide)) rfl (sa_cons (se_var 0) sa_nil)))) (ss_one (ss_raise cx t.x_BadName rfl rfl)) ss_nil))
theorem ok_need_name (t : Tx g) : Df g 4 "need_name" f_need_name := by
  obtain ⟨f, fd, F, hm⟩ := t.d_need_name
  exact ⟨f, fd, _, fk_need_name t F, hm, F.kp, F.bindsN fun _ _ _ _ _ _ us hl => match us, hl with | [_], _ => rfl⟩
def N_is_side : List Str := ["thing"]
theorem sc_is_side : FnScope N_is_side ["thing"] (defScope st_is_side) := ⟨rfl, rfl, rfl, by decide +kernel, rfl, by decide +kernel, by decide +kernel⟩
theorem fk_is_side (t : Tx g) {f : Addr} {fd : FuncData} (F : FunD g.K "is_side" "is_side" (defArgs st_is_side) (defBody st_is_side) (defScope st_is_side) [] [] f fd) : FOk g 2 f fd ["thing"] f_is_side := by
  refine df_bodyD F sc_is_side fun X E ⟨cdv, A, outer, s, H, hr, hX⟩ => ?_
  have cx : Ctx g E X := by rw [hX]; exact ctx_of hr
  subst hX
  exact (ss_one (ss_ret (se_call cx (ok_is_number t) (hr.mono (by decide)) rfl (sa_cons (se_var 0) (sa_cons se_int (sa_cons (se_bin o_sub (se_globI rfl (Ctx.gi cx t.c_HOUSES)) se_int) sa_nil))))))
theorem ok_is_side (t : Tx g) : Df g 2 "is_side" f_is_side := by
  obtain ⟨f, fd, F, hm⟩ := t.d_is_side
  exact ⟨f, fd, _, fk_is_side t F, hm, F.kp, F.bindsN fun _ _ _ _ _ _ us hl => match us, hl with | [_], _ => rfl⟩
def N_need_sides : List Str := ["thing", "one"]
theorem sc_need_sides : FnScope N_need_sides ["thing"] (defScope st_need_sides) := ⟨rfl, rfl, rfl, by decide +kernel, rfl, by decide +kernel, by decide +kernel⟩
theorem fk_need_sides (t : Tx g) {f : Addr} {fd : FuncData} (F : FunD g.K "need_sides" "need_sides" (defArgs st_need_sides) (defBody st_need_sides) (defScope st_need_sides) [] [] f fd) : FOk g 3 f fd ["thing"] f_need_sides := by
  refine df_bodyD F sc_need_sides fun X E ⟨cdv, A, outer, s, H, hr, hX⟩ => ?_
  have cx : Ctx g E X := by rw [hX]; exact ctx_of hr
  subst hX
  exact (ss_one (ss_if (st_bool (sw_or (st_not (st_val (se_isi cx (by decide) (se_var 0) (Ctx.free cx t.b_isinstance) (Ctx.free cx t.b_list) (by first | rfl | decide +kernel)))) (sw_or (st_not (st_val (se_callB (c_all rfl) rfl (Ctx.free cx t.b_all) (by first | rfl | decide +kernel) (sa_cons (se_lc rfl sc_need_sides.nd (si_lst cx.K (se_var 0)) (own := [("one", 1)]) (blkOk_by (N := N_need_sides) (sc := defScope st_need_sides) (by decide +kernel)) (fun s H C cl fp => (sgw_name 1 (by decide) sc_need_sides.nd)) (fun s H C cl fp => sts_nil) (fun s H C cl fp => (se_call (ctx_blk cx) (ok_is_side t) (hr.mono (by decide)) rfl (sa_cons (se_var 1) sa_nil)))) sa_nil)))) (sw_one (st_cmp o_lt (se_lenSet rfl cx.K rfl (Ctx.free cx t.b_len) rfl (Ctx.free cx t.b_set) (se_var 0)) (se_callB (c_len cx) rfl (Ctx.free cx t.b_len) (by first | rfl | decide +kernel) (sa_cons (se_var 0) sa_nil)) rfl))))) (ss_one (ss_raise cx t.x_BadSides rfl rfl)) ss_nil))
theorem ok_need_sides (t : Tx g) : Df g 3 "need_sides" f_need_sides := by
  obtain ⟨f, fd, F, hm⟩ := t.d_need_sides
  exact ⟨f, fd, _, fk_need_sides t F, hm, F.kp, F.bindsN fun _ _ _ _ _ _ us hl => match us, hl with | [_], _ => rfl⟩
def N_Keeps___init__ : List Str := ["self", "room"]
theorem sc_Keeps___init__ : FnScope N_Keeps___init__ ["self", "room"] (defScope st_Keeps___init__) := ⟨rfl, rfl, rfl, by decide +kernel, rfl, by decide +kernel, by decide +kernel⟩
theorem fk_Keeps___init__ (t : Tx g) {f : Addr} {fd : FuncData} (F : FunD g.K "__init__" "Keeps.__init__" (defArgs st_Keeps___init__) (defBody st_Keeps___init__) (defScope st_Keeps___init__) [] [] f fd) : FOk g 3 f fd ["self", "room"] f_Keeps___init__ := by
  refine df_bodyD F sc_Keeps___init__ fun X E ⟨cdv, A, outer, s, H, hr, hX⟩ => ?_
  have cx : Ctx g E X := by rw [hX]; exact ctx_of hr
  subst hX
  exact (ss_cons (ss_expr (se_call cx (ok_need_number t) (hr.mono (by decide)) rfl (sa_cons (se_var 1) (sa_cons se_int (sa_cons se_int sa_nil)))))
    (ss_cons (ss_fld cx (t.nm 64) t.k_Keeps t.n_Keeps_room (se_var 0) (se_var 1))
    (ss_one (ss_fld cx (t.nm 38) t.k_Keeps t.n_Keeps_lines (se_var 0) (se_lst sa_nil)))))
theorem ok_Keeps___init__ (t : Tx g) : Mi g 3 "Keeps" 1 f_Keeps___init__ := by
  obtain ⟨f, fd, F, hm, hk⟩ := t.d_Keeps___init__
  exact ⟨f, fd, _, fk_Keeps___init__ t F, hm, hk, F.bindsN fun _ _ _ _ _ _ us hl => match us, hl with | [_, _], _ => rfl⟩
def N_Keeps_take_out : List Str := ["self", "name", "some", "row"]
theorem sc_Keeps_take_out : FnScope N_Keeps_take_out ["self", "name"] (defScope st_Keeps_take_out) := ⟨rfl, rfl, rfl, by decide +kernel, rfl, by decide +kernel, by decide +kernel⟩
theorem fk_Keeps_take_out (t : Tx g) {f : Addr} {fd : FuncData} (F : FunD g.K "take_out" "Keeps.take_out" (defArgs st_Keeps_take_out) (defBody st_Keeps_take_out) (defScope st_Keeps_take_out) [] [] f fd) : FOk g 1 f fd ["self", "name"] f_Keeps_take_out := by
  refine df_bodyD F sc_Keeps_take_out fun X E ⟨cdv, A, outer, s, H, hr, hX⟩ => ?_
  have cx : Ctx g E X := by rw [hX]; exact ctx_of hr
  subst hX
  exact (ss_cons (ss_setLc 2 rfl sc_Keeps_take_out.nd (si_lst cx.K (se_fld cx (t.nm 38) t.k_Keeps t.n_Keeps_lines (se_var 0))) (own := [("row", 3)]) (blkOk_by (N := N_Keeps_take_out) (sc := defScope st_Keeps_take_out) (by decide +kernel)) (fun s H C cl fp => (sgw_name 3 (by decide) sc_Keeps_take_out.nd)) (fun s H C cl fp => (sts_one (st_cmp (o_eq (ctx_blk cx)) (se_ix (ctx_blk cx) (se_var 3) se_int) (se_var 1) rfl))) (fun s H C cl fp => (se_var 3)))
    (ss_cons (ss_fld cx (t.nm 38) t.k_Keeps t.n_Keeps_lines (se_var 0) (se_lc rfl sc_Keeps_take_out.nd (si_lst cx.K (se_fld cx (t.nm 38) t.k_Keeps t.n_Keeps_lines (se_var 0))) (own := [("row", 3)]) (blkOk_by (N := N_Keeps_take_out) (sc := defScope st_Keeps_take_out) (by decide +kernel)) (fun s H C cl fp => (sgw_name 3 (by decide) sc_Keeps_take_out.nd)) (fun s H C cl fp => (sts_one (st_cmp (o_ne (ctx_blk cx)) (se_ix (ctx_blk cx) (se_var 3) se_int) (se_var 1) rfl))) (fun s H C cl fp => (se_var 3))))
    (ss_one (ss_ret (se_if (st_cmp (o_ne cx) (se_var 2) (se_lst sa_nil) rfl) (se_ix cx (se_var 2) se_int) se_non)))))
theorem ok_Keeps_take_out (t : Tx g) : Me g 1 1 "take_out" f_Keeps_take_out := by
  obtain ⟨f, fd, F, hk, hm⟩ := t.d_Keeps_take_out
  exact ⟨f, fd, _, fk_Keeps_take_out t F, hk, hm, F.bindsN fun _ _ _ _ _ _ us hl => match us, hl with | [_, _], _ => rfl⟩
def N_Keeps_keep : List Str := ["self", "name", "value", "until", "now"]
theorem sc_Keeps_keep : FnScope N_Keeps_keep ["self", "name", "value", "until", "now"] (defScope st_Keeps_keep) := ⟨rfl, rfl, rfl, by decide +kernel, rfl, by decide +kernel, by decide +kernel⟩
theorem fk_Keeps_keep (t : Tx g) {f : Addr} {fd : FuncData} (F : FunD g.K "keep" "Keeps.keep" (defArgs st_Keeps_keep) (defBody st_Keeps_keep) (defScope st_Keeps_keep) [] [] f fd) : FOk g 2 f fd ["self", "name", "value", "until", "now"] f_Keeps_keep := by
  refine df_bodyD F sc_Keeps_keep fun X E ⟨cdv, A, outer, s, H, hr, hX⟩ => ?_
  have cx : Ctx g E X := by rw [hX]; exact ctx_of hr
  subst hX
  exact (ss_cons (ss_expr (se_meth cx (ok_Keeps_take_out t) (hr.mono (by decide)) (t.nm 75) (se_var 0) (sa_cons (se_var 1) sa_nil)))
    (ss_one (ss_if (st_bool (sw_and (st_cmp o_gt (se_var 3) (se_var 4) rfl) (sw_one (st_cmp o_gt (se_fld cx (t.nm 64) t.k_Keeps t.n_Keeps_room (se_var 0)) se_int rfl)))) (ss_one (ss_fld cx (t.nm 38) t.k_Keeps t.n_Keeps_lines (se_var 0) (se_sl cx (se_bin (o_add cx) (se_fld cx (t.nm 38) t.k_Keeps t.n_Keeps_lines (se_var 0)) (se_lst (sa_cons (se_tup (sa_cons (se_var 1) (sa_cons (se_var 2) (sa_cons (se_var 3) sa_nil)))) sa_nil))) (sp_some (se_neg (se_fld cx (t.nm 64) t.k_Keeps t.n_Keeps_room (se_var 0)))) sp_no))) ss_nil)))
theorem ok_Keeps_keep (t : Tx g) : Me g 2 1 "keep" f_Keeps_keep := by
  obtain ⟨f, fd, F, hk, hm⟩ := t.d_Keeps_keep
  exact ⟨f, fd, _, fk_Keeps_keep t F, hk, hm, F.bindsN fun _ _ _ _ _ _ us hl => match us, hl with | [_, _, _, _, _], _ => rfl⟩
def N_Keeps_put : List Str := ["self", "name", "value", "until", "now"]
theorem sc_Keeps_put : FnScope N_Keeps_put ["self", "name", "value", "until", "now"] (defScope st_Keeps_put) := ⟨rfl, rfl, rfl, by decide +kernel, rfl, by decide +kernel, by decide +kernel⟩
theorem fk_Keeps_put (t : Tx g) {f : Addr} {fd : FuncData} (F : FunD g.K "put" "Keeps.put" (defArgs st_Keeps_put) (defBody st_Keeps_put) (defScope st_Keeps_put) [] [] f fd) : FOk g 5 f fd ["self", "name", "value", "until", "now"] f_Keeps_put := by
  refine df_bodyD F sc_Keeps_put fun X E ⟨cdv, A, outer, s, H, hr, hX⟩ => ?_
  have cx : Ctx g E X := by rw [hX]; exact ctx_of hr
  subst hX
  exact (ss_cons (ss_expr (se_call cx (ok_need_name t) (hr.mono (by decide)) rfl (sa_cons (se_var 1) sa_nil)))
    (ss_cons (ss_expr (se_call cx (ok_need_number t) (hr.mono (by decide)) rfl (sa_cons (se_var 2) (sa_cons se_int (sa_cons (se_globI rfl (Ctx.gi cx t.c_MOST_VALUE)) sa_nil)))))
    (ss_cons (ss_expr (se_callD cx (ok_need_number_d2 t) (hr.mono (by decide)) rfl (sa_cons (se_var 3) (sa_cons se_int sa_nil))))
    (ss_cons (ss_expr (se_callD cx (ok_need_number_d2 t) (hr.mono (by decide)) rfl (sa_cons (se_var 4) (sa_cons se_int sa_nil))))
    (ss_one (ss_expr (se_meth cx (ok_Keeps_keep t) (hr.mono (by decide)) (t.nm 33) (se_var 0) (sa_cons (se_var 1) (sa_cons (se_var 2) (sa_cons (se_var 3) (sa_cons (se_var 4) sa_nil)))))))))))
theorem ok_Keeps_put (t : Tx g) : Me g 5 1 "put" f_Keeps_put := by
  obtain ⟨f, fd, F, hk, hm⟩ := t.d_Keeps_put
  exact ⟨f, fd, _, fk_Keeps_put t F, hk, hm, F.bindsN fun _ _ _ _ _ _ us hl => match us, hl with | [_, _, _, _, _], _ => rfl⟩
def N_Keeps_find : List Str := ["self", "name", "now", "some", "row"]
theorem sc_Keeps_find : FnScope N_Keeps_find ["self", "name", "now"] (defScope st_Keeps_find) := ⟨rfl, rfl, rfl, by decide +kernel, rfl, by decide +kernel, by decide +kernel⟩
theorem fk_Keeps_find (t : Tx g) {f : Addr} {fd : FuncData} (F : FunD g.K "find" "Keeps.find" (defArgs st_Keeps_find) (defBody st_Keeps_find) (defScope st_Keeps_find) [] [] f fd) : FOk g 2 f fd ["self", "name", "now"] f_Keeps_find := by
  refine df_bodyD F sc_Keeps_find fun X E ⟨cdv, A, outer, s, H, hr, hX⟩ => ?_
  have cx : Ctx g E X := by rw [hX]; exact ctx_of hr
  subst hX
  exact (ss_cons (ss_setLc 3 rfl sc_Keeps_find.nd (si_lst cx.K (se_fld cx (t.nm 38) t.k_Keeps t.n_Keeps_lines (se_var 0))) (own := [("row", 4)]) (blkOk_by (N := N_Keeps_find) (sc := defScope st_Keeps_find) (by decide +kernel)) (fun s H C cl fp => (sgw_name 4 (by decide) sc_Keeps_find.nd)) (fun s H C cl fp => (sts_one (st_bool (sw_and (st_cmp (o_eq (ctx_blk cx)) (se_ix (ctx_blk cx) (se_var 4) se_int) (se_var 1) rfl) (sw_one (st_cmp o_gt (se_ix (ctx_blk cx) (se_var 4) se_int) (se_var 2) rfl)))))) (fun s H C cl fp => (se_var 4)))
    (ss_cons (ss_if (st_cmp (o_eq cx) (se_var 3) (se_lst sa_nil) rfl) (ss_one (ss_ret se_non)) ss_nil)
    (ss_cons (ss_expr (se_meth cx (ok_Keeps_take_out t) (hr.mono (by decide)) (t.nm 75) (se_var 0) (sa_cons (se_var 1) sa_nil)))
    (ss_cons (ss_fld cx (t.nm 38) t.k_Keeps t.n_Keeps_lines (se_var 0) (se_bin (o_add cx) (se_fld cx (t.nm 38) t.k_Keeps t.n_Keeps_lines (se_var 0)) (se_var 3)))
    (ss_one (ss_ret (se_sl cx (se_ix cx (se_var 3) se_int) (sp_some se_int) sp_no)))))))
theorem ok_Keeps_find (t : Tx g) : Me g 2 1 "find" f_Keeps_find := by
  obtain ⟨f, fd, F, hk, hm⟩ := t.d_Keeps_find
  exact ⟨f, fd, _, fk_Keeps_find t F, hk, hm, F.bindsN fun _ _ _ _ _ _ us hl => match us, hl with | [_, _, _], _ => rfl⟩
def N_Keeps_rows : List Str := ["self"]
theorem sc_Keeps_rows : FnScope N_Keeps_rows ["self"] (defScope st_Keeps_rows) := ⟨rfl, rfl, rfl, by decide +kernel, rfl, by decide +kernel, by decide +kernel⟩
theorem fk_Keeps_rows (t : Tx g) {f : Addr} {fd : FuncData} (F : FunD g.K "rows" "Keeps.rows" (defArgs st_Keeps_rows) (defBody st_Keeps_rows) (defScope st_Keeps_rows) [] [] f fd) : FOk g 1 f fd ["self"] f_Keeps_rows := by
  refine df_bodyD F sc_Keeps_rows fun X E ⟨cdv, A, outer, s, H, hr, hX⟩ => ?_
  have cx : Ctx g E X := by rw [hX]; exact ctx_of hr
  subst hX
  exact (ss_one (ss_ret (se_callT (c_list) rfl (Ctx.free cx t.b_list) (by first | rfl | decide +kernel) (sa_cons (se_fld cx (t.nm 38) t.k_Keeps t.n_Keeps_lines (se_var 0)) sa_nil))))
theorem ok_Keeps_rows (t : Tx g) : Me g 1 1 "rows" f_Keeps_rows := by
  obtain ⟨f, fd, F, hk, hm⟩ := t.d_Keeps_rows
  exact ⟨f, fd, _, fk_Keeps_rows t F, hk, hm, F.bindsN fun _ _ _ _ _ _ us hl => match us, hl with | [_], _ => rfl⟩
def N_Table___init__ : List Str := ["self"]
theorem sc_Table___init__ : FnScope N_Table___init__ ["self"] (defScope st_Table___init__) := ⟨rfl, rfl, rfl, by decide +kernel, rfl, by decide +kernel, by decide +kernel⟩
theorem fk_Table___init__ (t : Tx g) {f : Addr} {fd : FuncData} (F : FunD g.K "__init__" "Table.__init__" (defArgs st_Table___init__) (defBody st_Table___init__) (defScope st_Table___init__) [] [] f fd) : FOk g 1 f fd ["self"] f_Table___init__ := by
  refine df_bodyD F sc_Table___init__ fun X E ⟨cdv, A, outer, s, H, hr, hX⟩ => ?_
  have cx : Ctx g E X := by rw [hX]; exact ctx_of hr
  subst hX
  exact (ss_one (ss_fld cx (t.nm 38) t.k_Table t.n_Table_lines (se_var 0) se_dicT))
theorem ok_Table___init__ (t : Tx g) : Mi g 1 "Table" 3 f_Table___init__ := by
  obtain ⟨f, fd, F, hm, hk⟩ := t.d_Table___init__
  exact ⟨f, fd, _, fk_Table___init__ t F, hm, hk, F.bindsN fun _ _ _ _ _ _ us hl => match us, hl with | [_], _ => rfl⟩
def N_Table_put : List Str := ["self", "beginning", "sides"]
theorem sc_Table_put : FnScope N_Table_put ["self", "beginning", "sides"] (defScope st_Table_put) := ⟨rfl, rfl, rfl, by decide +kernel, rfl, by decide +kernel, by decide +kernel⟩
theorem fk_Table_put (t : Tx g) {f : Addr} {fd : FuncData} (F : FunD g.K "put" "Table.put" (defArgs st_Table_put) (defBody st_Table_put) (defScope st_Table_put) [] [] f fd) : FOk g 4 f fd ["self", "beginning", "sides"] f_Table_put := by
  refine df_bodyD F sc_Table_put fun X E ⟨cdv, A, outer, s, H, hr, hX⟩ => ?_
  have cx : Ctx g E X := by rw [hX]; exact ctx_of hr
  subst hX
  exact (ss_cons (ss_expr (se_call cx (ok_need_beginning t) (hr.mono (by decide)) rfl (sa_cons (se_var 1) sa_nil)))
    (ss_cons (ss_expr (se_call cx (ok_need_sides t) (hr.mono (by decide)) rfl (sa_cons (se_var 2) sa_nil)))
    (ss_one (ss_asg (se_callT (c_list) rfl (Ctx.free cx t.b_list) (by first | rfl | decide +kernel) (sa_cons (se_var 2) sa_nil)) (sg_setD cx (se_fld cx (t.nm 38) t.k_Table t.n_Table_lines (se_var 0)) (se_var 1))))))
theorem ok_Table_put (t : Tx g) : Me g 4 3 "put" f_Table_put := by
  obtain ⟨f, fd, F, hk, hm⟩ := t.d_Table_put
  exact ⟨f, fd, _, fk_Table_put t F, hk, hm, F.bindsN fun _ _ _ _ _ _ us hl => match us, hl with | [_, _, _], _ => rfl⟩
def N_Table_longest : List Str := ["self", "name", "many"]
theorem sc_Table_longest : FnScope N_Table_longest ["self", "name"] (defScope st_Table_longest) := ⟨rfl, rfl, rfl, by decide +kernel, rfl, by decide +kernel, by decide +kernel⟩
theorem fk_Table_longest (t : Tx g) {f : Addr} {fd : FuncData} (F : FunD g.K "longest" "Table.longest" (defArgs st_Table_longest) (defBody st_Table_longest) (defScope st_Table_longest) [] [] f fd) : FOk g 1 f fd ["self", "name"] f_Table_longest := by
  refine df_bodyD F sc_Table_longest fun X E ⟨cdv, A, outer, s, H, hr, hX⟩ => ?_
  have cx : Ctx g E X := by rw [hX]; exact ctx_of hr
  subst hX
  exact (ss_cons (ss_for own_of rfl (si_rngDn rfl (Ctx.free cx t.b_range) (se_callB (c_len cx) rfl (Ctx.free cx t.b_len) (by first | rfl | decide +kernel) (sa_cons (se_var 1) sa_nil)) (se_neg se_int) (se_neg se_int)) (sg_name 2 sc_Table_longest.nd) (ss_one (ss_if (st_cmp (o_inD cx) (se_sl cx (se_var 1) sp_no (sp_some (se_var 2))) (se_fld cx (t.nm 38) t.k_Table t.n_Table_lines (se_var 0)) rfl) (ss_one (ss_ret (se_sl cx (se_var 1) sp_no (sp_some (se_var 2))))) ss_nil)))
    (ss_one (ss_ret se_non)))
theorem ok_Table_longest (t : Tx g) : Me g 1 3 "longest" f_Table_longest := by
  obtain ⟨f, fd, F, hk, hm⟩ := t.d_Table_longest
  exact ⟨f, fd, _, fk_Table_longest t F, hk, hm, F.bindsN fun _ _ _ _ _ _ us hl => match us, hl with | [_, _], _ => rfl⟩
def N_Table_found : List Str := ["self", "name", "beginning"]
theorem sc_Table_found : FnScope N_Table_found ["self", "name"] (defScope st_Table_found) := ⟨rfl, rfl, rfl, by decide +kernel, rfl, by decide +kernel, by decide +kernel⟩
theorem fk_Table_found (t : Tx g) {f : Addr} {fd : FuncData} (F : FunD g.K "found" "Table.found" (defArgs st_Table_found) (defBody st_Table_found) (defScope st_Table_found) [] [] f fd) : FOk g 2 f fd ["self", "name"] f_Table_found := by
  refine df_bodyD F sc_Table_found fun X E ⟨cdv, A, outer, s, H, hr, hX⟩ => ?_
  have cx : Ctx g E X := by rw [hX]; exact ctx_of hr
  subst hX
  exact (ss_cons (ss_set 2 sc_Table_found.nd (se_meth cx (ok_Table_longest t) (hr.mono (by decide)) (t.nm 39) (se_var 0) (sa_cons (se_var 1) sa_nil)))
    (ss_one (ss_ret (se_if (st_isN (se_var 2)) (se_lst sa_nil) (se_callT (c_list) rfl (Ctx.free cx t.b_list) (by first | rfl | decide +kernel) (sa_cons (se_dget cx (se_fld cx (t.nm 38) t.k_Table t.n_Table_lines (se_var 0)) (se_var 2)) sa_nil))))))
theorem ok_Table_found (t : Tx g) : Me g 2 3 "found" f_Table_found := by
  obtain ⟨f, fd, F, hk, hm⟩ := t.d_Table_found
  exact ⟨f, fd, _, fk_Table_found t F, hk, hm, F.bindsN fun _ _ _ _ _ _ us hl => match us, hl with | [_, _], _ => rfl⟩
def N_Table_rows : List Str := ["self", "beginning"]
theorem sc_Table_rows : FnScope N_Table_rows ["self"] (defScope st_Table_rows) := ⟨rfl, rfl, rfl, by decide +kernel, rfl, by decide +kernel, by decide +kernel⟩
theorem fk_Table_rows (t : Tx g) {f : Addr} {fd : FuncData} (F : FunD g.K "rows" "Table.rows" (defArgs st_Table_rows) (defBody st_Table_rows) (defScope st_Table_rows) [] [] f fd) : FOk g 1 f fd ["self"] f_Table_rows := by
  refine df_bodyD F sc_Table_rows fun X E ⟨cdv, A, outer, s, H, hr, hX⟩ => ?_
  have cx : Ctx g E X := by rw [hX]; exact ctx_of hr
  subst hX
  exact (ss_one (ss_ret (se_lc rfl sc_Table_rows.nd (si_lst cx.K (se_callB (c_sorted cx rfl) rfl (Ctx.free cx t.b_sorted) (by first | rfl | decide +kernel) (sa_cons (se_fld cx (t.nm 38) t.k_Table t.n_Table_lines (se_var 0)) sa_nil))) (own := [("beginning", 1)]) (blkOk_by (N := N_Table_rows) (sc := defScope st_Table_rows) (by decide +kernel)) (fun s H C cl fp => (sgw_name 1 (by decide) sc_Table_rows.nd)) (fun s H C cl fp => sts_nil) (fun s H C cl fp => (se_tup (sa_cons (se_var 1) (sa_cons (se_callT (c_list) rfl (Ctx.free (ctx_blk cx) t.b_list) (by first | rfl | decide +kernel) (sa_cons (se_dget (ctx_blk cx) (se_fld (ctx_blk cx) (t.nm 38) t.k_Table t.n_Table_lines (se_var 0)) (se_var 1)) sa_nil)) sa_nil)))))))
theorem ok_Table_rows (t : Tx g) : Me g 1 3 "rows" f_Table_rows := by
  obtain ⟨f, fd, F, hk, hm⟩ := t.d_Table_rows
  exact ⟨f, fd, _, fk_Table_rows t F, hk, hm, F.bindsN fun _ _ _ _ _ _ us hl => match us, hl with | [_], _ => rfl⟩
def N_is_letter : List Str := ["thing"]
theorem sc_is_letter : FnScope N_is_letter ["thing"] (defScope st_is_letter) := ⟨rfl, rfl, rfl, by decide +kernel, rfl, by decide +kernel, by decide +kernel⟩
theorem fk_is_letter (t : Tx g) {f : Addr} {fd : FuncData} (F : FunD g.K "is_letter" "is_letter" (defArgs st_is_letter) (defBody st_is_letter) (defScope st_is_letter) [] [] f fd) : FOk g 4 f fd ["thing"] f_is_letter := by
  refine df_bodyD F sc_is_letter fun X E ⟨cdv, A, outer, s, H, hr, hX⟩ => ?_
  have cx : Ctx g E X := by rw [hX]; exact ctx_of hr
  subst hX
  exact (ss_cons (ss_if (st_bool (sw_or (st_not (st_val (se_isi cx (by decide) (se_var 0) (Ctx.free cx t.b_isinstance) (Ctx.free cx t.b_tuple) (by first | rfl | decide +kernel)))) (sw_or (st_cmp o_lt (se_callB (c_len cx) rfl (Ctx.free cx t.b_len) (by first | rfl | decide +kernel) (sa_cons (se_var 0) sa_nil)) se_int rfl) (sw_or (st_not (st_val (se_isi cx (by decide) (se_ix cx (se_var 0) se_int) (Ctx.free cx t.b_isinstance) (Ctx.free cx t.b_str) (by first | rfl | decide +kernel)))) (sw_one (st_not (st_val (se_call cx (ok_is_name t) (hr.mono (by decide)) rfl (sa_cons (se_ix cx (se_var 0) se_int) sa_nil))))))))) (ss_one (ss_ret se_bl)) ss_nil)
    (ss_cons (ss_if (st_cmp (o_eq cx) (se_ix cx (se_var 0) se_int) (se_str (x := [116, 104, 105, 110, 103])) rfl) (ss_one (ss_ret (se_and (se_cmp (o_eq cx) (se_callB (c_len cx) rfl (Ctx.free cx t.b_len) (by first | rfl | decide +kernel) (sa_cons (se_var 0) sa_nil)) se_int rfl) (se_and (se_call cx (ok_is_number t) (hr.mono (by decide)) rfl (sa_cons (se_ix cx (se_var 0) se_int) (sa_cons se_int (sa_cons (se_globI rfl (Ctx.gi cx t.c_MOST_VALUE)) sa_nil)))) (se_one (se_callD cx (ok_is_number_d2 t) (hr.mono (by decide)) rfl (sa_cons (se_ix cx (se_var 0) se_int) (sa_cons se_int sa_nil)))))))) ss_nil)
    (ss_one (ss_ret (se_and (se_cmp (o_inT cx) (se_ix cx (se_var 0) se_int) (se_tup (sa_cons (se_str (x := [97, 115, 107])) (sa_cons (se_str (x := [110, 111])) sa_nil))) rfl) (se_one (se_cmp (o_eq cx) (se_callB (c_len cx) rfl (Ctx.free cx t.b_len) (by first | rfl | decide +kernel) (sa_cons (se_var 0) sa_nil)) se_int rfl)))))))
theorem ok_is_letter (t : Tx g) : Df g 4 "is_letter" f_is_letter := by
  obtain ⟨f, fd, F, hm⟩ := t.d_is_letter
  exact ⟨f, fd, _, fk_is_letter t F, hm, F.kp, F.bindsN fun _ _ _ _ _ _ us hl => match us, hl with | [_], _ => rfl⟩
def N_Wait___init__ : List Str := ["self", "since", "who", "asked"]
theorem sc_Wait___init__ : FnScope N_Wait___init__ ["self", "since", "who", "asked"] (defScope st_Wait___init__) := ⟨rfl, rfl, rfl, by decide +kernel, rfl, by decide +kernel, by decide +kernel⟩
theorem fk_Wait___init__ (t : Tx g) {f : Addr} {fd : FuncData} (F : FunD g.K "__init__" "Wait.__init__" (defArgs st_Wait___init__) (defBody st_Wait___init__) (defScope st_Wait___init__) [] [] f fd) : FOk g 1 f fd ["self", "since", "who", "asked"] f_Wait___init__ := by
  refine df_bodyD F sc_Wait___init__ fun X E ⟨cdv, A, outer, s, H, hr, hX⟩ => ?_
  have cx : Ctx g E X := by rw [hX]; exact ctx_of hr
  subst hX
  exact (ss_cons (ss_fld cx (t.nm 70) t.k_Wait t.n_Wait_since (se_var 0) (se_var 1))
    (ss_cons (ss_fld cx (t.nm 85) t.k_Wait t.n_Wait_who (se_var 0) (se_var 2))
    (ss_cons (ss_fld cx (t.nm 9) t.k_Wait t.n_Wait_asked (se_var 0) (se_var 3))
    (ss_one (ss_fld cx (t.nm 50) t.k_Wait t.n_Wait_noes (se_var 0) (se_lst sa_nil))))))
theorem ok_Wait___init__ (t : Tx g) : Mi g 1 "Wait" 4 f_Wait___init__ := by
  obtain ⟨f, fd, F, hm, hk⟩ := t.d_Wait___init__
  exact ⟨f, fd, _, fk_Wait___init__ t F, hm, hk, F.bindsN fun _ _ _ _ _ _ us hl => match us, hl with | [_, _, _, _], _ => rfl⟩
def N_House___init__ : List Str := ["self", "number", "sides", "room", "wait", "kept"]
theorem sc_House___init__ : FnScope N_House___init__ ["self", "number", "sides", "room", "wait"] (defScope st_House___init__) := ⟨rfl, rfl, rfl, by decide +kernel, rfl, by decide +kernel, by decide +kernel⟩
theorem fk_House___init__ (t : Tx g) {f : Addr} {fd : FuncData} (F : FunD g.K "__init__" "House.__init__" (defArgs st_House___init__) (defBody st_House___init__) (defScope st_House___init__) [] [("room", .int 4), ("wait", .int 6)] f fd) : FOk g 5 f fd ["self", "number", "sides", "room", "wait"] f_House___init__ := by
  refine df_bodyD F sc_House___init__ fun X E ⟨cdv, A, outer, s, H, hr, hX⟩ => ?_
  have cx : Ctx g E X := by rw [hX]; exact ctx_of hr
  subst hX
  exact (ss_cons (ss_expr (se_call cx (ok_need_number t) (hr.mono (by decide)) rfl (sa_cons (se_var 1) (sa_cons se_int (sa_cons se_int sa_nil)))))
    (ss_cons (ss_expr (se_call cx (ok_need_sides t) (hr.mono (by decide)) rfl (sa_cons (se_var 2) sa_nil)))
    (ss_cons (ss_if (st_cmp (o_inL cx) (se_var 1) (se_var 2) rfl) (ss_one (ss_raise cx t.x_BadSides rfl rfl)) ss_nil)
    (ss_cons (ss_set 5 sc_House___init__.nd (se_make cx (ok_Keeps___init__ t) (hr.mono (by decide)) rfl (sa_cons (se_var 3) sa_nil)))
    (ss_cons (ss_expr (se_call cx (ok_need_number t) (hr.mono (by decide)) rfl (sa_cons (se_var 4) (sa_cons se_int (sa_cons se_int sa_nil)))))
    (ss_cons (ss_fld cx (t.nm 41) t.k_House t.n_House_me (se_var 0) (se_var 1))
    (ss_cons (ss_fld cx (t.nm 44) t.k_House t.n_House_near (se_var 0) (se_callT (c_list) rfl (Ctx.free cx t.b_list) (by first | rfl | decide +kernel) (sa_cons (se_var 2) sa_nil)))
    (ss_cons (ss_fld cx (t.nm 68) t.k_House t.n_House_shelf (se_var 0) (se_var 5))
    (ss_cons (ss_fld cx (t.nm 43) t.k_House t.n_House_most (se_var 0) (se_var 4))
    (ss_cons (ss_fld cx (t.nm 63) t.k_House t.n_House_roads (se_var 0) (se_make0 cx (ok_Table___init__ t) (hr.mono (by decide)) rfl))
    (ss_cons (ss_fld cx (t.nm 80) t.k_House t.n_House_things (se_var 0) se_dicT)
    (ss_cons (ss_fld cx (t.nm 58) t.k_House t.n_House_pending (se_var 0) se_dicT)
    (ss_cons (ss_fld cx (t.nm 24) t.k_House t.n_House_fresh (se_var 0) se_dicT)
    (ss_one (ss_fld cx (t.nm 20) t.k_House t.n_House_ends (se_var 0) (se_lst sa_nil))))))))))))))))
theorem ok_House___init___k_room_wait (t : Tx g) : MiK g 5 "House" 0 2 ["room", "wait"] f_House___init__ (fun ds es => ds ++ es) := by
  obtain ⟨f, fd, F, hm, hk⟩ := t.d_House___init__
  obtain ⟨mv, hb⟩ := F.kbinds0 (ps := ["self", "number", "sides", "room", "wait"]) 3 ["room", "wait"] [] (fun {_} => fun us mv ws => us ++ ws) (by decide) (by decide) (fun r1 r2 r3 => r1.append r3) (fun _ _ _ _ _ _ us mv ws h1 h2 h3 => match us, mv, ws, h1, h2, h3 with | [_, _, _], [], [_, _], _, _, _ => rfl)
  exact ⟨f, fd, _, _, _, fk_House___init__ t F, hm, hk, hb, fun ro H ds es vs zs v r1 r2 => ⟨_, rfl, r1.append r2⟩⟩
def N_House_tell : List Str := ["self", "who", "letter"]
theorem sc_House_tell : FnScope N_House_tell ["self", "who", "letter"] (defScope st_House_tell) := ⟨rfl, rfl, rfl, by decide +kernel, rfl, by decide +kernel, by decide +kernel⟩
theorem fk_House_tell (t : Tx g) {f : Addr} {fd : FuncData} (F : FunD g.K "tell" "House.tell" (defArgs st_House_tell) (defBody st_House_tell) (defScope st_House_tell) [] [] f fd) : FOk g 1 f fd ["self", "who", "letter"] f_House_tell := by
  refine df_bodyD F sc_House_tell fun X E ⟨cdv, A, outer, s, H, hr, hX⟩ => ?_
  have cx : Ctx g E X := by rw [hX]; exact ctx_of hr
  subst hX
  exact (ss_cons (ss_if (st_val (se_isi cx (by decide) (se_var 1) (Ctx.free cx t.b_isinstance) (Ctx.free cx t.b_tuple) (by first | rfl | decide +kernel))) (ss_cons (ss_asg (se_tup (sa_cons (se_if (st_cmp (o_eq cx) (se_ix cx (se_var 2) se_int) (se_str (x := [116, 104, 105, 110, 103])) rfl) (se_ix cx (se_var 2) se_int) se_non) sa_nil)) (sg_setL cx (se_fld cx (t.nm 20) t.k_House t.n_House_ends (se_var 0)) (se_ix cx (se_var 1) se_int)))
    (ss_one (ss_ret (se_lst sa_nil)))) ss_nil)
    (ss_one (ss_ret (se_lst (sa_cons (se_tup (sa_cons (se_var 1) (sa_cons (se_var 2) sa_nil))) sa_nil)))))
theorem ok_House_tell (t : Tx g) : Me g 1 0 "tell" f_House_tell := by
  obtain ⟨f, fd, F, hk, hm⟩ := t.d_House_tell
  exact ⟨f, fd, _, fk_House_tell t F, hk, hm, F.bindsN fun _ _ _ _ _ _ us hl => match us, hl with | [_, _, _], _ => rfl⟩
def N_House_tell_all : List Str := ["self", "some", "letter", "found", "who"]
theorem sc_House_tell_all : FnScope N_House_tell_all ["self", "some", "letter"] (defScope st_House_tell_all) := ⟨rfl, rfl, rfl, by decide +kernel, rfl, by decide +kernel, by decide +kernel⟩
theorem fk_House_tell_all (t : Tx g) {f : Addr} {fd : FuncData} (F : FunD g.K "tell_all" "House.tell_all" (defArgs st_House_tell_all) (defBody st_House_tell_all) (defScope st_House_tell_all) [] [] f fd) : FOk g 2 f fd ["self", "some", "letter"] f_House_tell_all := by
  refine df_bodyD F sc_House_tell_all fun X E ⟨cdv, A, outer, s, H, hr, hX⟩ => ?_
  have cx : Ctx g E X := by rw [hX]; exact ctx_of hr
  subst hX
  exact (ss_cons (ss_set 3 sc_House_tell_all.nd (se_lst sa_nil))
    (ss_cons (ss_for own_of rfl (si_lst cx.K (se_var 1)) (sg_name 4 sc_House_tell_all.nd) (ss_one (ss_set 3 sc_House_tell_all.nd (se_bin (o_add cx) (se_var 3) (se_meth cx (ok_House_tell t) (hr.mono (by decide)) (t.nm 77) (se_var 0) (sa_cons (se_var 4) (sa_cons (se_var 2) sa_nil)))))))
    (ss_one (ss_ret (se_var 3)))))
theorem ok_House_tell_all (t : Tx g) : Me g 2 0 "tell_all" f_House_tell_all := by
  obtain ⟨f, fd, F, hk, hm⟩ := t.d_House_tell_all
  exact ⟨f, fd, _, fk_House_tell_all t F, hk, hm, F.bindsN fun _ _ _ _ _ _ us hl => match us, hl with | [_, _, _], _ => rfl⟩
def N_House_table_sides : List Str := ["self", "name", "side"]
theorem sc_House_table_sides : FnScope N_House_table_sides ["self", "name"] (defScope st_House_table_sides) := ⟨rfl, rfl, rfl, by decide +kernel, rfl, by decide +kernel, by decide +kernel⟩
theorem fk_House_table_sides (t : Tx g) {f : Addr} {fd : FuncData} (F : FunD g.K "table_sides" "House.table_sides" (defArgs st_House_table_sides) (defBody st_House_table_sides) (defScope st_House_table_sides) [] [] f fd) : FOk g 3 f fd ["self", "name"] f_House_table_sides := by
  refine df_bodyD F sc_House_table_sides fun X E ⟨cdv, A, outer, s, H, hr, hX⟩ => ?_
  have cx : Ctx g E X := by rw [hX]; exact ctx_of hr
  subst hX
  exact (ss_one (ss_ret (se_lc rfl sc_House_table_sides.nd (si_lst cx.K (se_meth cx (ok_Table_found t) (hr.mono (by decide)) (t.nm 23) (se_fld cx (t.nm 63) t.k_House t.n_House_roads (se_var 0)) (sa_cons (se_var 1) sa_nil))) (own := [("side", 2)]) (blkOk_by (N := N_House_table_sides) (sc := defScope st_House_table_sides) (by decide +kernel)) (fun s H C cl fp => (sgw_name 2 (by decide) sc_House_table_sides.nd)) (fun s H C cl fp => (sts_one (st_cmp (o_inL (ctx_blk cx)) (se_var 2) (se_fld (ctx_blk cx) (t.nm 44) t.k_House t.n_House_near (se_var 0)) rfl))) (fun s H C cl fp => (se_var 2)))))
theorem ok_House_table_sides (t : Tx g) : Me g 3 0 "table_sides" f_House_table_sides := by
  obtain ⟨f, fd, F, hk, hm⟩ := t.d_House_table_sides
  exact ⟨f, fd, _, fk_House_table_sides t F, hk, hm, F.bindsN fun _ _ _ _ _ _ us hl => match us, hl with | [_, _], _ => rfl⟩
def N_House_joined : List Str := ["self", "who", "name", "side", "wait", "found"]
theorem sc_House_joined : FnScope N_House_joined ["self", "who", "name"] (defScope st_House_joined) := ⟨rfl, rfl, rfl, by decide +kernel, rfl, by decide +kernel, by decide +kernel⟩
theorem fk_House_joined (t : Tx g) {f : Addr} {fd : FuncData} (F : FunD g.K "joined" "House.joined" (defArgs st_House_joined) (defBody st_House_joined) (defScope st_House_joined) [] [] f fd) : FOk g 4 f fd ["self", "who", "name"] f_House_joined := by
  refine df_bodyD F sc_House_joined fun X E ⟨cdv, A, outer, s, H, hr, hX⟩ => ?_
  have cx : Ctx g E X := by rw [hX]; exact ctx_of hr
  subst hX
  exact (ss_cons (ss_par2 (i := 4) (j := 5) rfl sc_House_joined.nd (se_dget cx (se_fld cx (t.nm 58) t.k_House t.n_House_pending (se_var 0)) (se_var 2)) (se_lst sa_nil) (by decide))
    (ss_cons (ss_if (st_cmp (o_notInL cx) (se_var 1) (se_fld cx (t.nm 85) t.k_Wait t.n_Wait_who (se_var 4)) rfl) (ss_one (ss_expr (se_bm cx PySem.F.plainAttrs_list PySem.F.slot_list_append PySem.F.type_list_append m_append (.inl rfl) (se_fld cx (t.nm 85) t.k_Wait t.n_Wait_who (se_var 4)) (sa_cons (se_var 1) sa_nil)))) ss_nil)
    (ss_cons (ss_for own_of rfl (si_lst cx.K (se_meth cx (ok_House_table_sides t) (hr.mono (by decide)) (t.nm 74) (se_var 0) (sa_cons (se_var 2) sa_nil))) (sg_name 3 sc_House_joined.nd) (ss_one (ss_if (st_bool (sw_and (st_cmp (o_notInL cx) (se_var 3) (se_fld cx (t.nm 9) t.k_Wait t.n_Wait_asked (se_var 4)) rfl) (sw_and (st_cmp (o_notInL cx) (se_var 3) (se_fld cx (t.nm 50) t.k_Wait t.n_Wait_noes (se_var 4)) rfl) (sw_one (st_cmp (o_ne cx) (se_fld cx (t.nm 85) t.k_Wait t.n_Wait_who (se_var 4)) (se_lst (sa_cons (se_var 3) sa_nil)) rfl))))) (ss_cons (ss_expr (se_bm cx PySem.F.plainAttrs_list PySem.F.slot_list_append PySem.F.type_list_append m_append (.inl rfl) (se_fld cx (t.nm 9) t.k_Wait t.n_Wait_asked (se_var 4)) (sa_cons (se_var 3) sa_nil)))
    (ss_one (ss_expr (se_bm cx PySem.F.plainAttrs_list PySem.F.slot_list_append PySem.F.type_list_append m_append (.inl rfl) (se_var 5) (sa_cons (se_tup (sa_cons (se_var 3) (sa_cons (se_tup (sa_cons (se_str (x := [97, 115, 107])) (sa_cons (se_var 2) sa_nil))) sa_nil))) sa_nil))))) ss_nil)))
    (ss_one (ss_ret (se_var 5))))))
theorem ok_House_joined (t : Tx g) : Me g 4 0 "joined" f_House_joined := by
  obtain ⟨f, fd, F, hk, hm⟩ := t.d_House_joined
  exact ⟨f, fd, _, fk_House_joined t F, hk, hm, F.bindsN fun _ _ _ _ _ _ us hl => match us, hl with | [_, _, _], _ => rfl⟩
def N_House_asked_by : List Str := ["self", "who", "name", "now", "kept", "sides", "value", "life", "side"]
theorem sc_House_asked_by : FnScope N_House_asked_by ["self", "who", "name", "now"] (defScope st_House_asked_by) := ⟨rfl, rfl, rfl, by decide +kernel, rfl, by decide +kernel, by decide +kernel⟩
theorem fk_House_asked_by (t : Tx g) {f : Addr} {fd : FuncData} (F : FunD g.K "asked_by" "House.asked_by" (defArgs st_House_asked_by) (defBody st_House_asked_by) (defScope st_House_asked_by) [] [] f fd) : FOk g 5 f fd ["self", "who", "name", "now"] f_House_asked_by := by
  refine df_bodyD F sc_House_asked_by fun X E ⟨cdv, A, outer, s, H, hr, hX⟩ => ?_
  have cx : Ctx g E X := by rw [hX]; exact ctx_of hr
  subst hX
  exact (ss_cons (ss_if (st_cmp (o_inD cx) (se_var 2) (se_fld cx (t.nm 80) t.k_House t.n_House_things (se_var 0)) rfl) (ss_cons (ss_asg (se_dget cx (se_fld cx (t.nm 80) t.k_House t.n_House_things (se_var 0)) (se_var 2)) (sg_tup rfl (sgs_cons (sg_name 6 sc_House_asked_by.nd) (sgs_cons (sg_name 7 sc_House_asked_by.nd) sgs_nil))))
    (ss_one (ss_ret (se_meth cx (ok_House_tell t) (hr.mono (by decide)) (t.nm 77) (se_var 0) (sa_cons (se_var 1) (sa_cons (se_tup (sa_cons (se_str (x := [116, 104, 105, 110, 103])) (sa_cons (se_var 2) (sa_cons (se_var 6) (sa_cons (se_bin (o_add cx) (se_var 3) (se_var 7)) sa_nil))))) sa_nil)))))) ss_nil)
    (ss_cons (ss_set 4 sc_House_asked_by.nd (se_meth cx (ok_Keeps_find t) (hr.mono (by decide)) (t.nm 21) (se_fld cx (t.nm 68) t.k_House t.n_House_shelf (se_var 0)) (sa_cons (se_var 2) (sa_cons (se_var 3) sa_nil))))
    (ss_cons (ss_if (st_bool (sw_and (st_isN (se_var 4)) (sw_and (st_cmp (o_inD cx) (se_var 2) (se_fld cx (t.nm 24) t.k_House t.n_House_fresh (se_var 0)) rfl) (sw_one (st_cmp (o_eq cx) (se_ix cx (se_dget cx (se_fld cx (t.nm 24) t.k_House t.n_House_fresh (se_var 0)) (se_var 2)) se_int) (se_var 3) rfl))))) (ss_one (ss_set 4 sc_House_asked_by.nd (se_dget cx (se_fld cx (t.nm 24) t.k_House t.n_House_fresh (se_var 0)) (se_var 2)))) ss_nil)
    (ss_cons (ss_if (st_notN (se_var 4)) (ss_one (ss_ret (se_meth cx (ok_House_tell t) (hr.mono (by decide)) (t.nm 77) (se_var 0) (sa_cons (se_var 1) (sa_cons (se_tup (sa_cons (se_str (x := [116, 104, 105, 110, 103])) (sa_cons (se_var 2) (sa_cons (se_ix cx (se_var 4) se_int) (sa_cons (se_ix cx (se_var 4) se_int) sa_nil))))) sa_nil))))) ss_nil)
    (ss_cons (ss_if (st_cmp (o_inD cx) (se_var 2) (se_fld cx (t.nm 58) t.k_House t.n_House_pending (se_var 0)) rfl) (ss_one (ss_ret (se_meth cx (ok_House_joined t) (hr.mono (by decide)) (t.nm 32) (se_var 0) (sa_cons (se_var 1) (sa_cons (se_var 2) sa_nil))))) ss_nil)
    (ss_cons (ss_setLc 5 rfl sc_House_asked_by.nd (si_lst cx.K (se_meth cx (ok_House_table_sides t) (hr.mono (by decide)) (t.nm 74) (se_var 0) (sa_cons (se_var 2) sa_nil))) (own := [("side", 8)]) (blkOk_by (N := N_House_asked_by) (sc := defScope st_House_asked_by) (by decide +kernel)) (fun s H C cl fp => (sgw_name 8 (by decide) sc_House_asked_by.nd)) (fun s H C cl fp => (sts_one (st_cmp (o_ne (ctx_blk cx)) (se_var 8) (se_var 1) rfl))) (fun s H C cl fp => (se_var 8)))
    (ss_cons (ss_if (st_cmp (o_eq cx) (se_var 5) (se_lst sa_nil) rfl) (ss_one (ss_ret (se_meth cx (ok_House_tell t) (hr.mono (by decide)) (t.nm 77) (se_var 0) (sa_cons (se_var 1) (sa_cons (se_tup (sa_cons (se_str (x := [110, 111])) (sa_cons (se_var 2) sa_nil))) sa_nil))))) ss_nil)
    (ss_cons (ss_asg (se_make cx (ok_Wait___init__ t) (hr.mono (by decide)) rfl (sa_cons (se_var 3) (sa_cons (se_lst (sa_cons (se_var 1) sa_nil)) (sa_cons (se_callT (c_list) rfl (Ctx.free cx t.b_list) (by first | rfl | decide +kernel) (sa_cons (se_var 5) sa_nil)) sa_nil)))) (sg_setD cx (se_fld cx (t.nm 58) t.k_House t.n_House_pending (se_var 0)) (se_var 2)))
    (ss_one (ss_ret (se_lc rfl sc_House_asked_by.nd (si_lst cx.K (se_var 5)) (own := [("side", 8)]) (blkOk_by (N := N_House_asked_by) (sc := defScope st_House_asked_by) (by decide +kernel)) (fun s H C cl fp => (sgw_name 8 (by decide) sc_House_asked_by.nd)) (fun s H C cl fp => sts_nil) (fun s H C cl fp => (se_tup (sa_cons (se_var 8) (sa_cons (se_tup (sa_cons (se_str (x := [97, 115, 107])) (sa_cons (se_var 2) sa_nil))) sa_nil)))))))))))))))
theorem ok_House_asked_by (t : Tx g) : Me g 5 0 "asked_by" f_House_asked_by := by
  obtain ⟨f, fd, F, hk, hm⟩ := t.d_House_asked_by
  exact ⟨f, fd, _, fk_House_asked_by t F, hk, hm, F.bindsN fun _ _ _ _ _ _ us hl => match us, hl with | [_, _, _, _], _ => rfl⟩
def N_House_thing_from : List Str := ["self", "side", "letter", "now", "wait", "word", "name", "value", "until", "who"]
theorem sc_House_thing_from : FnScope N_House_thing_from ["self", "side", "letter", "now"] (defScope st_House_thing_from) := ⟨rfl, rfl, rfl, by decide +kernel, rfl, by decide +kernel, by decide +kernel⟩
theorem fk_House_thing_from (t : Tx g) {f : Addr} {fd : FuncData} (F : FunD g.K "thing_from" "House.thing_from" (defArgs st_House_thing_from) (defBody st_House_thing_from) (defScope st_House_thing_from) [] [] f fd) : FOk g 3 f fd ["self", "side", "letter", "now"] f_House_thing_from := by
  refine df_bodyD F sc_House_thing_from fun X E ⟨cdv, A, outer, s, H, hr, hX⟩ => ?_
  have cx : Ctx g E X := by rw [hX]; exact ctx_of hr
  subst hX
  exact (ss_cons (ss_asg (se_var 2) (sg_tup rfl (sgs_cons (sg_name 5 sc_House_thing_from.nd) (sgs_cons (sg_name 6 sc_House_thing_from.nd) (sgs_cons (sg_name 7 sc_House_thing_from.nd) (sgs_cons (sg_name 8 sc_House_thing_from.nd) sgs_nil))))))
    (ss_cons (ss_if (st_bool (sw_or (st_cmp (o_notInD cx) (se_var 6) (se_fld cx (t.nm 58) t.k_House t.n_House_pending (se_var 0)) rfl) (sw_one (st_cmp (o_notInL cx) (se_var 1) (se_fld cx (t.nm 9) t.k_Wait t.n_Wait_asked (se_dget cx (se_fld cx (t.nm 58) t.k_House t.n_House_pending (se_var 0)) (se_var 6))) rfl)))) (ss_one (ss_ret (se_lst sa_nil))) ss_nil)
    (ss_cons (ss_expr (se_meth cx (ok_Keeps_keep t) (hr.mono (by decide)) (t.nm 33) (se_fld cx (t.nm 68) t.k_House t.n_House_shelf (se_var 0)) (sa_cons (se_var 6) (sa_cons (se_var 7) (sa_cons (se_var 8) (sa_cons (se_var 3) sa_nil))))))
    (ss_cons (ss_asg (se_tup (sa_cons (se_var 7) (sa_cons (se_var 8) (sa_cons (se_var 3) sa_nil)))) (sg_setD cx (se_fld cx (t.nm 24) t.k_House t.n_House_fresh (se_var 0)) (se_var 6)))
    (ss_cons (ss_set 4 sc_House_thing_from.nd (se_bmD cx PySem.F.slot_dict_pop PySem.F.type_dict_pop (m_pop1 cx) (se_fld cx (t.nm 58) t.k_House t.n_House_pending (se_var 0)) (sa_cons (se_var 6) sa_nil)))
    (ss_one (ss_ret (se_meth cx (ok_House_tell_all t) (hr.mono (by decide)) (t.nm 78) (se_var 0) (sa_cons (se_lc rfl sc_House_thing_from.nd (si_lst cx.K (se_fld cx (t.nm 85) t.k_Wait t.n_Wait_who (se_var 4))) (own := [("who", 9)]) (blkOk_by (N := N_House_thing_from) (sc := defScope st_House_thing_from) (by decide +kernel)) (fun s H C cl fp => (sgw_name 9 (by decide) sc_House_thing_from.nd)) (fun s H C cl fp => (sts_one (st_cmp (o_ne (ctx_blk cx)) (se_var 9) (se_var 1) rfl))) (fun s H C cl fp => (se_var 9))) (sa_cons (se_var 2) sa_nil))))))))))
theorem ok_House_thing_from (t : Tx g) : Me g 3 0 "thing_from" f_House_thing_from := by
  obtain ⟨f, fd, F, hk, hm⟩ := t.d_House_thing_from
  exact ⟨f, fd, _, fk_House_thing_from t F, hk, hm, F.bindsN fun _ _ _ _ _ _ us hl => match us, hl with | [_, _, _, _], _ => rfl⟩
def N_House_no_from : List Str := ["self", "side", "letter", "name", "wait"]
theorem sc_House_no_from : FnScope N_House_no_from ["self", "side", "letter"] (defScope st_House_no_from) := ⟨rfl, rfl, rfl, by decide +kernel, rfl, by decide +kernel, by decide +kernel⟩
theorem fk_House_no_from (t : Tx g) {f : Addr} {fd : FuncData} (F : FunD g.K "no_from" "House.no_from" (defArgs st_House_no_from) (defBody st_House_no_from) (defScope st_House_no_from) [] [] f fd) : FOk g 3 f fd ["self", "side", "letter"] f_House_no_from := by
  refine df_bodyD F sc_House_no_from fun X E ⟨cdv, A, outer, s, H, hr, hX⟩ => ?_
  have cx : Ctx g E X := by rw [hX]; exact ctx_of hr
  subst hX
  exact (ss_cons (ss_set 3 sc_House_no_from.nd (se_ix cx (se_var 2) se_int))
    (ss_cons (ss_if (st_bool (sw_or (st_cmp (o_notInD cx) (se_var 3) (se_fld cx (t.nm 58) t.k_House t.n_House_pending (se_var 0)) rfl) (sw_one (st_cmp (o_notInL cx) (se_var 1) (se_fld cx (t.nm 9) t.k_Wait t.n_Wait_asked (se_dget cx (se_fld cx (t.nm 58) t.k_House t.n_House_pending (se_var 0)) (se_var 3))) rfl)))) (ss_one (ss_ret (se_lst sa_nil))) ss_nil)
    (ss_cons (ss_set 4 sc_House_no_from.nd (se_dget cx (se_fld cx (t.nm 58) t.k_House t.n_House_pending (se_var 0)) (se_var 3)))
    (ss_cons (ss_expr (se_bm cx PySem.F.plainAttrs_list PySem.F.slot_list_remove PySem.F.type_list_remove m_remove (.inl rfl) (se_fld cx (t.nm 9) t.k_Wait t.n_Wait_asked (se_var 4)) (sa_cons (se_var 1) sa_nil)))
    (ss_cons (ss_expr (se_bm cx PySem.F.plainAttrs_list PySem.F.slot_list_append PySem.F.type_list_append m_append (.inl rfl) (se_fld cx (t.nm 50) t.k_Wait t.n_Wait_noes (se_var 4)) (sa_cons (se_var 1) sa_nil)))
    (ss_cons (ss_if (st_cmp (o_ne cx) (se_fld cx (t.nm 9) t.k_Wait t.n_Wait_asked (se_var 4)) (se_lst sa_nil) rfl) (ss_one (ss_ret (se_lst sa_nil))) ss_nil)
    (ss_cons (ss_expr (se_bmD cx PySem.F.slot_dict_pop PySem.F.type_dict_pop (m_pop1 cx) (se_fld cx (t.nm 58) t.k_House t.n_House_pending (se_var 0)) (sa_cons (se_var 3) sa_nil)))
    (ss_one (ss_ret (se_meth cx (ok_House_tell_all t) (hr.mono (by decide)) (t.nm 78) (se_var 0) (sa_cons (se_fld cx (t.nm 85) t.k_Wait t.n_Wait_who (se_var 4)) (sa_cons (se_var 2) sa_nil))))))))))))
theorem ok_House_no_from (t : Tx g) : Me g 3 0 "no_from" f_House_no_from := by
  obtain ⟨f, fd, F, hk, hm⟩ := t.d_House_no_from
  exact ⟨f, fd, _, fk_House_no_from t F, hk, hm, F.bindsN fun _ _ _ _ _ _ us hl => match us, hl with | [_, _, _], _ => rfl⟩
def N_House_ask : List Str := ["self", "name", "now", "asker"]
theorem sc_House_ask : FnScope N_House_ask ["self", "name", "now"] (defScope st_House_ask) := ⟨rfl, rfl, rfl, by decide +kernel, rfl, by decide +kernel, by decide +kernel⟩
theorem fk_House_ask (t : Tx g) {f : Addr} {fd : FuncData} (F : FunD g.K "ask" "House.ask" (defArgs st_House_ask) (defBody st_House_ask) (defScope st_House_ask) [] [] f fd) : FOk g 6 f fd ["self", "name", "now"] f_House_ask := by
  refine df_bodyD F sc_House_ask fun X E ⟨cdv, A, outer, s, H, hr, hX⟩ => ?_
  have cx : Ctx g E X := by rw [hX]; exact ctx_of hr
  subst hX
  exact (ss_cons (ss_expr (se_call cx (ok_need_name t) (hr.mono (by decide)) rfl (sa_cons (se_var 1) sa_nil)))
    (ss_cons (ss_expr (se_callD cx (ok_need_number_d2 t) (hr.mono (by decide)) rfl (sa_cons (se_var 2) (sa_cons se_int sa_nil))))
    (ss_cons (ss_expr (se_bm cx PySem.F.plainAttrs_list PySem.F.slot_list_append PySem.F.type_list_append m_append (.inl rfl) (se_fld cx (t.nm 20) t.k_House t.n_House_ends (se_var 0)) (sa_cons (se_tup sa_nil) sa_nil)))
    (ss_cons (ss_set 3 sc_House_ask.nd (se_bin o_sub (se_callB (c_len cx) rfl (Ctx.free cx t.b_len) (by first | rfl | decide +kernel) (sa_cons (se_fld cx (t.nm 20) t.k_House t.n_House_ends (se_var 0)) sa_nil)) se_int))
    (ss_one (ss_ret (se_tup (sa_cons (se_var 3) (sa_cons (se_meth cx (ok_House_asked_by t) (hr.mono (by decide)) (t.nm 10) (se_var 0) (sa_cons (se_tup (sa_cons (se_str (x := [111, 119, 110])) (sa_cons (se_var 3) sa_nil))) (sa_cons (se_var 1) (sa_cons (se_var 2) sa_nil)))) sa_nil)))))))))
theorem ok_House_ask (t : Tx g) : Me g 6 0 "ask" f_House_ask := by
  obtain ⟨f, fd, F, hk, hm⟩ := t.d_House_ask
  exact ⟨f, fd, _, fk_House_ask t F, hk, hm, F.bindsN fun _ _ _ _ _ _ us hl => match us, hl with | [_, _, _], _ => rfl⟩
def N_House_come : List Str := ["self", "side", "letter", "now"]
theorem sc_House_come : FnScope N_House_come ["self", "side", "letter", "now"] (defScope st_House_come) := ⟨rfl, rfl, rfl, by decide +kernel, rfl, by decide +kernel, by decide +kernel⟩
theorem fk_House_come (t : Tx g) {f : Addr} {fd : FuncData} (F : FunD g.K "come" "House.come" (defArgs st_House_come) (defBody st_House_come) (defScope st_House_come) [] [] f fd) : FOk g 6 f fd ["self", "side", "letter", "now"] f_House_come := by
  refine df_bodyD F sc_House_come fun X E ⟨cdv, A, outer, s, H, hr, hX⟩ => ?_
  have cx : Ctx g E X := by rw [hX]; exact ctx_of hr
  subst hX
  exact (ss_cons (ss_if (st_bool (sw_or (st_not (st_val (se_call cx (ok_is_number t) (hr.mono (by decide)) rfl (sa_cons (se_var 1) (sa_cons se_int (sa_cons se_int sa_nil)))))) (sw_one (st_cmp (o_notInL cx) (se_var 1) (se_fld cx (t.nm 44) t.k_House t.n_House_near (se_var 0)) rfl)))) (ss_one (ss_raise cx t.x_NoWay rfl rfl)) ss_nil)
    (ss_cons (ss_if (st_not (st_val (se_call cx (ok_is_letter t) (hr.mono (by decide)) rfl (sa_cons (se_var 2) sa_nil)))) (ss_one (ss_raise cx t.x_BadLetter rfl rfl)) ss_nil)
    (ss_cons (ss_expr (se_callD cx (ok_need_number_d2 t) (hr.mono (by decide)) rfl (sa_cons (se_var 3) (sa_cons se_int sa_nil))))
    (ss_cons (ss_if (st_cmp (o_eq cx) (se_ix cx (se_var 2) se_int) (se_str (x := [97, 115, 107])) rfl) (ss_one (ss_ret (se_meth cx (ok_House_asked_by t) (hr.mono (by decide)) (t.nm 10) (se_var 0) (sa_cons (se_var 1) (sa_cons (se_ix cx (se_var 2) se_int) (sa_cons (se_var 3) sa_nil)))))) ss_nil)
    (ss_cons (ss_if (st_bool (sw_and (st_cmp (o_eq cx) (se_ix cx (se_var 2) se_int) (se_str (x := [116, 104, 105, 110, 103])) rfl) (sw_one (st_cmp o_ge (se_ix cx (se_var 2) se_int) (se_var 3) rfl)))) (ss_one (ss_ret (se_meth cx (ok_House_thing_from t) (hr.mono (by decide)) (t.nm 79) (se_var 0) (sa_cons (se_var 1) (sa_cons (se_var 2) (sa_cons (se_var 3) sa_nil)))))) ss_nil)
    (ss_one (ss_ret (se_meth cx (ok_House_no_from t) (hr.mono (by decide)) (t.nm 49) (se_var 0) (sa_cons (se_var 1) (sa_cons (se_tup (sa_cons (se_str (x := [110, 111])) (sa_cons (se_ix cx (se_var 2) se_int) sa_nil))) sa_nil))))))))))
theorem ok_House_come (t : Tx g) : Me g 6 0 "come" f_House_come := by
  obtain ⟨f, fd, F, hk, hm⟩ := t.d_House_come
  exact ⟨f, fd, _, fk_House_come t F, hk, hm, F.bindsN fun _ _ _ _ _ _ us hl => match us, hl with | [_, _, _, _], _ => rfl⟩
def N_House_teach : List Str := ["self", "beginning", "sides"]
theorem sc_House_teach : FnScope N_House_teach ["self", "beginning", "sides"] (defScope st_House_teach) := ⟨rfl, rfl, rfl, by decide +kernel, rfl, by decide +kernel, by decide +kernel⟩
theorem fk_House_teach (t : Tx g) {f : Addr} {fd : FuncData} (F : FunD g.K "teach" "House.teach" (defArgs st_House_teach) (defBody st_House_teach) (defScope st_House_teach) [] [] f fd) : FOk g 5 f fd ["self", "beginning", "sides"] f_House_teach := by
  refine df_bodyD F sc_House_teach fun X E ⟨cdv, A, outer, s, H, hr, hX⟩ => ?_
  have cx : Ctx g E X := by rw [hX]; exact ctx_of hr
  subst hX
  exact (ss_one (ss_expr (se_meth cx (ok_Table_put t) (hr.mono (by decide)) (t.nm 61) (se_fld cx (t.nm 63) t.k_House t.n_House_roads (se_var 0)) (sa_cons (se_var 1) (sa_cons (se_var 2) sa_nil)))))
theorem ok_House_teach (t : Tx g) : Me g 5 0 "teach" f_House_teach := by
  obtain ⟨f, fd, F, hk, hm⟩ := t.d_House_teach
  exact ⟨f, fd, _, fk_House_teach t F, hk, hm, F.bindsN fun _ _ _ _ _ _ us hl => match us, hl with | [_, _, _], _ => rfl⟩
def N_House_end : List Str := ["self", "asker"]
theorem sc_House_end : FnScope N_House_end ["self", "asker"] (defScope st_House_end) := ⟨rfl, rfl, rfl, by decide +kernel, rfl, by decide +kernel, by decide +kernel⟩
theorem fk_House_end (t : Tx g) {f : Addr} {fd : FuncData} (F : FunD g.K "end" "House.end" (defArgs st_House_end) (defBody st_House_end) (defScope st_House_end) [] [] f fd) : FOk g 3 f fd ["self", "asker"] f_House_end := by
  refine df_bodyD F sc_House_end fun X E ⟨cdv, A, outer, s, H, hr, hX⟩ => ?_
  have cx : Ctx g E X := by rw [hX]; exact ctx_of hr
  subst hX
  exact (ss_cons (ss_expr (se_call cx (ok_need_number t) (hr.mono (by decide)) rfl (sa_cons (se_var 1) (sa_cons se_int (sa_cons (se_bin o_sub (se_callB (c_len cx) rfl (Ctx.free cx t.b_len) (by first | rfl | decide +kernel) (sa_cons (se_fld cx (t.nm 20) t.k_House t.n_House_ends (se_var 0)) sa_nil)) se_int) sa_nil)))))
    (ss_one (ss_ret (se_ix cx (se_fld cx (t.nm 20) t.k_House t.n_House_ends (se_var 0)) (se_var 1)))))
theorem ok_House_end (t : Tx g) : Me g 3 0 "end" f_House_end := by
  obtain ⟨f, fd, F, hk, hm⟩ := t.d_House_end
  exact ⟨f, fd, _, fk_House_end t F, hk, hm, F.bindsN fun _ _ _ _ _ _ us hl => match us, hl with | [_, _], _ => rfl⟩
def N_House_waits : List Str := ["self", "found", "name", "wait"]
theorem sc_House_waits : FnScope N_House_waits ["self"] (defScope st_House_waits) := ⟨rfl, rfl, rfl, by decide +kernel, rfl, by decide +kernel, by decide +kernel⟩
theorem fk_House_waits (t : Tx g) {f : Addr} {fd : FuncData} (F : FunD g.K "waits" "House.waits" (defArgs st_House_waits) (defBody st_House_waits) (defScope st_House_waits) [] [] f fd) : FOk g 1 f fd ["self"] f_House_waits := by
  refine df_bodyD F sc_House_waits fun X E ⟨cdv, A, outer, s, H, hr, hX⟩ => ?_
  have cx : Ctx g E X := by rw [hX]; exact ctx_of hr
  subst hX
  exact (ss_cons (ss_set 1 sc_House_waits.nd (se_lst sa_nil))
    (ss_cons (ss_lock (ma := (eUn (opFld 0 58) (eV 0))) (ss_for own_of rfl (si_dic (se_fld cx (t.nm 58) t.k_House t.n_House_pending (se_var 0))) (sg_name 2 sc_House_waits.nd) (ss_cons (ss_set 3 sc_House_waits.nd (se_dget cx (se_fld cx (t.nm 58) t.k_House t.n_House_pending (se_var 0)) (se_var 2)))
    (ss_one (ss_expr (se_bm cx PySem.F.plainAttrs_list PySem.F.slot_list_append PySem.F.type_list_append m_append (.inl rfl) (se_var 1) (sa_cons (se_tup (sa_cons (se_var 2) (sa_cons (se_fld cx (t.nm 70) t.k_Wait t.n_Wait_since (se_var 3)) (sa_cons (se_callT (c_list) rfl (Ctx.free cx t.b_list) (by first | rfl | decide +kernel) (sa_cons (se_fld cx (t.nm 85) t.k_Wait t.n_Wait_who (se_var 3)) sa_nil)) (sa_cons (se_callT (c_list) rfl (Ctx.free cx t.b_list) (by first | rfl | decide +kernel) (sa_cons (se_fld cx (t.nm 9) t.k_Wait t.n_Wait_asked (se_var 3)) sa_nil)) (sa_cons (se_callT (c_list) rfl (Ctx.free cx t.b_list) (by first | rfl | decide +kernel) (sa_cons (se_fld cx (t.nm 50) t.k_Wait t.n_Wait_noes (se_var 3)) sa_nil)) sa_nil)))))) sa_nil)))))))
    (ss_one (ss_ret (se_var 1)))))
theorem ok_House_waits (t : Tx g) : Me g 1 0 "waits" f_House_waits := by
  obtain ⟨f, fd, F, hk, hm⟩ := t.d_House_waits
  exact ⟨f, fd, _, fk_House_waits t F, hk, hm, F.bindsN fun _ _ _ _ _ _ us hl => match us, hl with | [_], _ => rfl⟩
def N_House_keeps : List Str := ["self"]
theorem sc_House_keeps : FnScope N_House_keeps ["self"] (defScope st_House_keeps) := ⟨rfl, rfl, rfl, by decide +kernel, rfl, by decide +kernel, by decide +kernel⟩
theorem fk_House_keeps (t : Tx g) {f : Addr} {fd : FuncData} (F : FunD g.K "keeps" "House.keeps" (defArgs st_House_keeps) (defBody st_House_keeps) (defScope st_House_keeps) [] [] f fd) : FOk g 2 f fd ["self"] f_House_keeps := by
  refine df_bodyD F sc_House_keeps fun X E ⟨cdv, A, outer, s, H, hr, hX⟩ => ?_
  have cx : Ctx g E X := by rw [hX]; exact ctx_of hr
  subst hX
  exact (ss_one (ss_ret (se_meth0 cx (ok_Keeps_rows t) (hr.mono (by decide)) (t.nm 65) (se_fld cx (t.nm 68) t.k_House t.n_House_shelf (se_var 0)))))
theorem ok_House_keeps (t : Tx g) : Me g 2 0 "keeps" f_House_keeps := by
  obtain ⟨f, fd, F, hk, hm⟩ := t.d_House_keeps
  exact ⟨f, fd, _, fk_House_keeps t F, hk, hm, F.bindsN fun _ _ _ _ _ _ us hl => match us, hl with | [_], _ => rfl⟩
def N__law_cell : List Str := ["_law_script", "_law_k"]
theorem sc__law_cell : FnScope N__law_cell ["_law_script", "_law_k"] (defScope st__law_cell) := ⟨rfl, rfl, rfl, by decide +kernel, rfl, by decide +kernel, by decide +kernel⟩
theorem fk__law_cell (t : Tx g) {f : Addr} {fd : FuncData} (F : FunD g.K "_law_cell" "_law_cell" (defArgs st__law_cell) (defBody st__law_cell) (defScope st__law_cell) [] [] f fd) : FOk g 1 f fd ["_law_script", "_law_k"] f__law_cell := by
  refine df_bodyD F sc__law_cell fun X E ⟨cdv, A, outer, s, H, hr, hX⟩ => ?_
  have cx : Ctx g E X := by rw [hX]; exact ctx_of hr
  subst hX
  exact (ss_cons (ss_if (st_cmp (o_eq cx) (se_var 0) (se_lst sa_nil) rfl) (ss_one (ss_ret (se_bin (o_mul cx) (se_var 1) se_int))) ss_nil)
    (ss_one (ss_ret (se_bin (o_add cx) (se_ix cx (se_var 0) (se_bin o_mod (se_var 1) (se_callB (c_len cx) rfl (Ctx.free cx t.b_len) (by first | rfl | decide +kernel) (sa_cons (se_var 0) sa_nil)))) (se_bin (o_mul cx) (se_bin o_div (se_var 1) (se_callB (c_len cx) rfl (Ctx.free cx t.b_len) (by first | rfl | decide +kernel) (sa_cons (se_var 0) sa_nil))) se_int)))))
theorem ok__law_cell (t : Tx g) : Df g 1 "_law_cell" f__law_cell := by
  obtain ⟨f, fd, F, hm⟩ := t.d__law_cell
  exact ⟨f, fd, _, fk__law_cell t F, hm, F.kp, F.bindsN fun _ _ _ _ _ _ us hl => match us, hl with | [_, _], _ => rfl⟩
def N__law_drawn : List Str := ["_law_cell_here", "_law_k", "_law_more"]
theorem sc__law_drawn : FnScope N__law_drawn ["_law_cell_here", "_law_k"] (defScope st__law_drawn) := ⟨rfl, rfl, rfl, by decide +kernel, rfl, by decide +kernel, by decide +kernel⟩
theorem fk__law_drawn (t : Tx g) {f : Addr} {fd : FuncData} (F : FunD g.K "_law_drawn" "_law_drawn" (defArgs st__law_drawn) (defBody st__law_drawn) (defScope st__law_drawn) [] [] f fd) : FOk g 1 f fd ["_law_cell_here", "_law_k"] f__law_drawn := by
  refine df_bodyD F sc__law_drawn fun X E ⟨cdv, A, outer, s, H, hr, hX⟩ => ?_
  have cx : Ctx g E X := by rw [hX]; exact ctx_of hr
  subst hX
  exact (ss_cons (ss_set 2 sc__law_drawn.nd (se_bin o_mod (se_bin (o_add cx) (se_bin (o_mul cx) (se_var 0) se_int) (se_bin (o_mul cx) (se_bin (o_add cx) (se_var 1) se_int) se_int)) se_int))
    (ss_cons (ss_set 2 sc__law_drawn.nd (se_bin o_mod (se_bin (o_mul cx) (se_var 2) (se_var 2)) se_int))
    (ss_cons (ss_set 2 sc__law_drawn.nd (se_bin (o_mul cx) (se_bin (o_mul cx) (se_bin (o_add cx) (se_bin o_mod (se_var 2) se_int) se_int) (se_bin (o_add cx) (se_bin o_div (se_var 2) se_int) se_int)) (se_var 2)))
    (ss_one (ss_ret (se_bin o_mod (se_var 2) se_int))))))
theorem ok__law_drawn (t : Tx g) : Df g 1 "_law_drawn" f__law_drawn := by
  obtain ⟨f, fd, F, hm⟩ := t.d__law_drawn
  exact ⟨f, fd, _, fk__law_drawn t F, hm, F.kp, F.bindsN fun _ _ _ _ _ _ us hl => match us, hl with | [_, _], _ => rfl⟩
def N__law_roll : List Str := ["_law_dice", "_law_many", "_law_told"]
theorem sc__law_roll : FnScope N__law_roll ["_law_dice", "_law_many"] (defScope st__law_roll) := ⟨rfl, rfl, rfl, by decide +kernel, rfl, by decide +kernel, by decide +kernel⟩
theorem fk__law_roll (t : Tx g) {f : Addr} {fd : FuncData} (F : FunD g.K "_law_roll" "_law_roll" (defArgs st__law_roll) (defBody st__law_roll) (defScope st__law_roll) [] [] f fd) : FOk g 2 f fd ["_law_dice", "_law_many"] f__law_roll := by
  refine df_bodyD F sc__law_roll fun X E ⟨cdv, A, outer, s, H, hr, hX⟩ => ?_
  have cx : Ctx g E X := by rw [hX]; exact ctx_of hr
  subst hX
  exact (ss_cons (ss_if (st_cmp o_ge (se_ix cx (se_var 0) se_int) (se_bin o_pow se_int se_int) rfl) (ss_cons (ss_set 2 sc__law_roll.nd (se_bin o_mod (se_ix cx (se_var 0) se_int) (se_var 1)))
    (ss_cons (ss_asg (se_bin o_div (se_ix cx (se_var 0) se_int) (se_var 1)) (sg_setL cx (se_var 0) se_int))
    (ss_one (ss_ret (se_var 2))))) ss_nil)
    (ss_cons (ss_asg (se_bin (o_add cx) (se_ix cx (se_var 0) se_int) se_int) (sg_setL cx (se_var 0) se_int))
    (ss_one (ss_ret (se_bin o_mod (se_bin o_div (se_call cx (ok__law_drawn t) (hr.mono (by decide)) rfl (sa_cons (se_ix cx (se_var 0) se_int) (sa_cons (se_ix cx (se_var 0) se_int) sa_nil))) se_int) (se_var 1))))))
theorem ok__law_roll (t : Tx g) : Df g 2 "_law_roll" f__law_roll := by
  obtain ⟨f, fd, F, hm⟩ := t.d__law_roll
  exact ⟨f, fd, _, fk__law_roll t F, hm, F.kp, F.bindsN fun _ _ _ _ _ _ us hl => match us, hl with | [_, _], _ => rfl⟩
def N__law_rounds : List Str := ["_law_script", "_law_most", "_law_k"]
theorem sc__law_rounds : FnScope N__law_rounds ["_law_script", "_law_most"] (defScope st__law_rounds) := ⟨rfl, rfl, rfl, by decide +kernel, rfl, by decide +kernel, by decide +kernel⟩
theorem fk__law_rounds (t : Tx g) {f : Addr} {fd : FuncData} (F : FunD g.K "_law_rounds" "_law_rounds" (defArgs st__law_rounds) (defBody st__law_rounds) (defScope st__law_rounds) [] [] f fd) : FOk g 2 f fd ["_law_script", "_law_most"] f__law_rounds := by
  refine df_bodyD F sc__law_rounds fun X E ⟨cdv, A, outer, s, H, hr, hX⟩ => ?_
  have cx : Ctx g E X := by rw [hX]; exact ctx_of hr
  subst hX
  exact (ss_one (ss_ret (se_lc rfl sc__law_rounds.nd (si_rng1 rfl (Ctx.free cx t.b_range) (se_callB (c_max2 rfl) rfl (Ctx.free cx t.b_max) (by first | rfl | decide +kernel) (sa_cons se_int (sa_cons (se_callB (c_min2 rfl) rfl (Ctx.free cx t.b_min) (by first | rfl | decide +kernel) (sa_cons (se_var 1) (sa_cons (se_callB (c_len cx) rfl (Ctx.free cx t.b_len) (by first | rfl | decide +kernel) (sa_cons (se_var 0) sa_nil)) sa_nil))) sa_nil)))) (own := [("_law_k", 2)]) (blkOk_by (N := N__law_rounds) (sc := defScope st__law_rounds) (by decide +kernel)) (fun s H C cl fp => (sgw_name 2 (by decide) sc__law_rounds.nd)) (fun s H C cl fp => sts_nil) (fun s H C cl fp => (se_lst (sa_cons (se_call (ctx_blk cx) (ok__law_cell t) (hr.mono (by decide)) rfl (sa_cons (se_var 0) (sa_cons (se_var 2) sa_nil))) (sa_cons se_int sa_nil)))))))
theorem ok__law_rounds (t : Tx g) : Df g 2 "_law_rounds" f__law_rounds := by
  obtain ⟨f, fd, F, hm⟩ := t.d__law_rounds
  exact ⟨f, fd, _, fk__law_rounds t F, hm, F.kp, F.bindsN fun _ _ _ _ _ _ us hl => match us, hl with | [_, _], _ => rfl⟩
def N__law_head : List Str := ["_law_dice", "_law_parts", "_law_turn"]
theorem sc__law_head : FnScope N__law_head ["_law_dice"] (defScope st__law_head) := ⟨rfl, rfl, rfl, by decide +kernel, rfl, by decide +kernel, by decide +kernel⟩
theorem fk__law_head (t : Tx g) {f : Addr} {fd : FuncData} (F : FunD g.K "_law_head" "_law_head" (defArgs st__law_head) (defBody st__law_head) (defScope st__law_head) [] [] f fd) : FOk g 3 f fd ["_law_dice"] f__law_head := by
  refine df_bodyD F sc__law_head fun X E ⟨cdv, A, outer, s, H, hr, hX⟩ => ?_
  have cx : Ctx g E X := by rw [hX]; exact ctx_of hr
  subst hX
  exact (ss_cons (ss_set 1 sc__law_head.nd (se_lst (sa_cons (se_str (x := [97])) (sa_cons (se_str (x := [98])) (sa_cons (se_str (x := [99])) (sa_cons (se_str (x := [120, 57])) (sa_cons (se_str (x := [108, 111, 110, 103])) sa_nil)))))))
    (ss_one (ss_ret (se_callT (c_tuple) rfl (Ctx.free cx t.b_tuple) (by first | rfl | decide +kernel) (sa_cons (se_lc rfl sc__law_head.nd (si_rng1 rfl (Ctx.free cx t.b_range) (se_call cx (ok__law_roll t) (hr.mono (by decide)) rfl (sa_cons (se_var 0) (sa_cons se_int sa_nil)))) (own := [("_law_turn", 2)]) (blkOk_by (N := N__law_head) (sc := defScope st__law_head) (by decide +kernel)) (fun s H C cl fp => (sgw_name 2 (by decide) sc__law_head.nd)) (fun s H C cl fp => sts_nil) (fun s H C cl fp => (se_ix (ctx_blk cx) (se_var 1) (se_bin (o_mul (ctx_blk cx)) (se_call (ctx_blk cx) (ok__law_roll t) (hr.mono (by decide)) rfl (sa_cons (se_var 0) (sa_cons se_int sa_nil))) (se_call (ctx_blk cx) (ok__law_roll t) (hr.mono (by decide)) rfl (sa_cons (se_var 0) (sa_cons se_int sa_nil))))))) sa_nil)))))
theorem ok__law_head (t : Tx g) : Df g 3 "_law_head" f__law_head := by
  obtain ⟨f, fd, F, hm⟩ := t.d__law_head
  exact ⟨f, fd, _, fk__law_head t F, hm, F.kp, F.bindsN fun _ _ _ _ _ _ us hl => match us, hl with | [_], _ => rfl⟩
def N__law_any_name : List Str := ["_law_dice"]
theorem sc__law_any_name : FnScope N__law_any_name ["_law_dice"] (defScope st__law_any_name) := ⟨rfl, rfl, rfl, by decide +kernel, rfl, by decide +kernel, by decide +kernel⟩
theorem fk__law_any_name (t : Tx g) {f : Addr} {fd : FuncData} (F : FunD g.K "_law_any_name" "_law_any_name" (defArgs st__law_any_name) (defBody st__law_any_name) (defScope st__law_any_name) [] [] f fd) : FOk g 4 f fd ["_law_dice"] f__law_any_name := by
  refine df_bodyD F sc__law_any_name fun X E ⟨cdv, A, outer, s, H, hr, hX⟩ => ?_
  have cx : Ctx g E X := by rw [hX]; exact ctx_of hr
  subst hX
  exact (ss_one (ss_ret (se_if (st_cmp (o_eq cx) (se_call cx (ok__law_roll t) (hr.mono (by decide)) rfl (sa_cons (se_var 0) (sa_cons se_int sa_nil))) se_int rfl) (se_tup (sa_cons (se_str (x := [97])) sa_nil)) (se_bin (o_add cx) (se_call cx (ok__law_head t) (hr.mono (by decide)) rfl (sa_cons (se_var 0) sa_nil)) (se_tup (sa_cons (se_ix cx (se_lst (sa_cons (se_str (x := [97])) (sa_cons (se_str (x := [98])) sa_nil))) (se_call cx (ok__law_roll t) (hr.mono (by decide)) rfl (sa_cons (se_var 0) (sa_cons se_int sa_nil)))) sa_nil))))))
theorem ok__law_any_name (t : Tx g) : Df g 4 "_law_any_name" f__law_any_name := by
  obtain ⟨f, fd, F, hm⟩ := t.d__law_any_name
  exact ⟨f, fd, _, fk__law_any_name t F, hm, F.kp, F.bindsN fun _ _ _ _ _ _ us hl => match us, hl with | [_], _ => rfl⟩
def N__law_some_sides : List Str := ["_law_dice", "_law_near", "_law_found", "_law_side"]
theorem sc__law_some_sides : FnScope N__law_some_sides ["_law_dice", "_law_near"] (defScope st__law_some_sides) := ⟨rfl, rfl, rfl, by decide +kernel, rfl, by decide +kernel, by decide +kernel⟩
theorem fk__law_some_sides (t : Tx g) {f : Addr} {fd : FuncData} (F : FunD g.K "_law_some_sides" "_law_some_sides" (defArgs st__law_some_sides) (defBody st__law_some_sides) (defScope st__law_some_sides) [] [] f fd) : FOk g 3 f fd ["_law_dice", "_law_near"] f__law_some_sides := by
  refine df_bodyD F sc__law_some_sides fun X E ⟨cdv, A, outer, s, H, hr, hX⟩ => ?_
  have cx : Ctx g E X := by rw [hX]; exact ctx_of hr
  subst hX
  exact (ss_cons (ss_set 2 sc__law_some_sides.nd (se_lst sa_nil))
    (ss_cons (ss_for own_of rfl (si_lst cx.K (se_var 1)) (sg_name 3 sc__law_some_sides.nd) (ss_one (ss_if (st_cmp (o_eq cx) (se_call cx (ok__law_roll t) (hr.mono (by decide)) rfl (sa_cons (se_var 0) (sa_cons se_int sa_nil))) se_int rfl) (ss_one (ss_expr (se_bm cx PySem.F.plainAttrs_list PySem.F.slot_list_insert PySem.F.type_list_insert m_insert (.inl rfl) (se_var 2) (sa_cons (se_call cx (ok__law_roll t) (hr.mono (by decide)) rfl (sa_cons (se_var 0) (sa_cons (se_bin (o_add cx) (se_callB (c_len cx) rfl (Ctx.free cx t.b_len) (by first | rfl | decide +kernel) (sa_cons (se_var 2) sa_nil)) se_int) sa_nil))) (sa_cons (se_var 3) sa_nil))))) ss_nil)))
    (ss_one (ss_ret (se_var 2)))))
theorem ok__law_some_sides (t : Tx g) : Df g 3 "_law_some_sides" f__law_some_sides := by
  obtain ⟨f, fd, F, hm⟩ := t.d__law_some_sides
  exact ⟨f, fd, _, fk__law_some_sides t F, hm, F.kp, F.bindsN fun _ _ _ _ _ _ us hl => match us, hl with | [_, _], _ => rfl⟩
def N__law_thing_comes : List Str := ["_law_dice", "_law_house", "_law_name", "_law_size", "_law_who", "_law_owns", "_law_side", "_law_thing", "_law_told", "_law_one"]
theorem sc__law_thing_comes : FnScope N__law_thing_comes ["_law_dice", "_law_house", "_law_name", "_law_size", "_law_who", "_law_owns", "_law_side"] (defScope st__law_thing_comes) := ⟨rfl, rfl, rfl, by decide +kernel, rfl, by decide +kernel, by decide +kernel⟩
theorem fk__law_thing_comes (t : Tx g) {f : Addr} {fd : FuncData} (F : FunD g.K "_law_thing_comes" "_law_thing_comes" (defArgs st__law_thing_comes) (defBody st__law_thing_comes) (defScope st__law_thing_comes) [] [] f fd) : FOk g 7 f fd ["_law_dice", "_law_house", "_law_name", "_law_size", "_law_who", "_law_owns", "_law_side"] f__law_thing_comes := by
  refine df_bodyD F sc__law_thing_comes fun X E ⟨cdv, A, outer, s, H, hr, hX⟩ => ?_
  have cx : Ctx g E X := by rw [hX]; exact ctx_of hr
  subst hX
  exact (ss_cons (ss_asg (se_tup (sa_cons (se_tup (sa_cons (se_str (x := [116, 104, 105, 110, 103])) (sa_cons (se_var 2) (sa_cons se_int (sa_cons se_int sa_nil))))) (sa_cons (se_lc rfl sc__law_thing_comes.nd (si_lst cx.K (se_var 4)) (own := [("_law_one", 9)]) (blkOk_by (N := N__law_thing_comes) (sc := defScope st__law_thing_comes) (by decide +kernel)) (fun s H C cl fp => (sgw_name 9 (by decide) sc__law_thing_comes.nd)) (fun s H C cl fp => (sts_one (st_bool (sw_and (st_not (st_val (se_isi (ctx_blk cx) (by decide) (se_var 9) (Ctx.free (ctx_blk cx) t.b_isinstance) (Ctx.free (ctx_blk cx) t.b_tuple) (by first | rfl | decide +kernel)))) (sw_one (st_cmp (o_ne (ctx_blk cx)) (se_var 9) (se_var 6) rfl)))))) (fun s H C cl fp => (se_var 9))) sa_nil))) (sg_tup rfl (sgs_cons (sg_name 7 sc__law_thing_comes.nd) (sgs_cons (sg_name 8 sc__law_thing_comes.nd) sgs_nil))))
    (ss_cons (ss_if (st_cmp (o_ne cx) (se_meth cx (ok_House_come t) (hr.mono (by decide)) (t.nm 13) (se_var 1) (sa_cons (se_var 6) (sa_cons (se_var 7) (sa_cons se_int sa_nil)))) (se_lc rfl sc__law_thing_comes.nd (si_lst cx.K (se_var 8)) (own := [("_law_one", 9)]) (blkOk_by (N := N__law_thing_comes) (sc := defScope st__law_thing_comes) (by decide +kernel)) (fun s H C cl fp => (sgw_name 9 (by decide) sc__law_thing_comes.nd)) (fun s H C cl fp => sts_nil) (fun s H C cl fp => (se_tup (sa_cons (se_var 9) (sa_cons (se_var 7) sa_nil))))) rfl) (ss_one (ss_ret se_bl)) ss_nil)
    (ss_cons (ss_if (st_cmp (o_ne cx) (se_lc rfl sc__law_thing_comes.nd (si_lst cx.K (se_var 5)) (own := [("_law_one", 9)]) (blkOk_by (N := N__law_thing_comes) (sc := defScope st__law_thing_comes) (by decide +kernel)) (fun s H C cl fp => (sgw_name 9 (by decide) sc__law_thing_comes.nd)) (fun s H C cl fp => sts_nil) (fun s H C cl fp => (se_meth (ctx_blk cx) (ok_House_end t) (hr.mono (by decide)) (t.nm 19) (se_var 1) (sa_cons (se_var 9) sa_nil)))) (se_bin (o_mul cx) (se_lst (sa_cons (se_tup (sa_cons se_int sa_nil)) sa_nil)) (se_callB (c_len cx) rfl (Ctx.free cx t.b_len) (by first | rfl | decide +kernel) (sa_cons (se_var 5) sa_nil))) rfl) (ss_one (ss_ret se_bl)) ss_nil)
    (ss_cons (ss_if (st_bool (sw_or (st_cmp (o_ne cx) (se_meth0 cx (ok_House_keeps t) (hr.mono (by decide)) (t.nm 34) (se_var 1)) (se_if (st_cmp o_gt (se_var 3) se_int rfl) (se_lst (sa_cons (se_tup (sa_cons (se_var 2) (sa_cons se_int (sa_cons se_int sa_nil)))) sa_nil)) (se_lst sa_nil)) rfl) (sw_one (st_cmp (o_ne cx) (se_meth cx (ok_House_come t) (hr.mono (by decide)) (t.nm 13) (se_var 1) (sa_cons (se_var 6) (sa_cons (se_var 7) (sa_cons se_int sa_nil)))) (se_lst sa_nil) rfl)))) (ss_one (ss_ret se_bl)) ss_nil)
    (ss_one (ss_ret (se_and (se_cmp (o_eq cx) (se_ix cx (se_meth cx (ok_House_ask t) (hr.mono (by decide)) (t.nm 8) (se_var 1) (sa_cons (se_var 2) (sa_cons se_int sa_nil))) se_int) (se_lst sa_nil) rfl) (se_one (se_cmp (o_eq cx) (se_meth cx (ok_House_end t) (hr.mono (by decide)) (t.nm 19) (se_var 1) (sa_cons (se_callB (c_len cx) rfl (Ctx.free cx t.b_len) (by first | rfl | decide +kernel) (sa_cons (se_var 5) sa_nil)) sa_nil)) (se_tup (sa_cons se_int sa_nil)) rfl)))))))))
theorem ok__law_thing_comes (t : Tx g) : Df g 7 "_law_thing_comes" f__law_thing_comes := by
  obtain ⟨f, fd, F, hm⟩ := t.d__law_thing_comes
  exact ⟨f, fd, _, fk__law_thing_comes t F, hm, F.kp, F.bindsN fun _ _ _ _ _ _ us hl => match us, hl with | [_, _, _, _, _, _, _], _ => rfl⟩
def N__law_noes_come : List Str := ["_law_house", "_law_name", "_law_who", "_law_owns", "_law_asked", "_law_one", "_law_told"]
theorem sc__law_noes_come : FnScope N__law_noes_come ["_law_house", "_law_name", "_law_who", "_law_owns", "_law_asked"] (defScope st__law_noes_come) := ⟨rfl, rfl, rfl, by decide +kernel, rfl, by decide +kernel, by decide +kernel⟩
theorem fk__law_noes_come (t : Tx g) {f : Addr} {fd : FuncData} (F : FunD g.K "_law_noes_come" "_law_noes_come" (defArgs st__law_noes_come) (defBody st__law_noes_come) (defScope st__law_noes_come) [] [] f fd) : FOk g 7 f fd ["_law_house", "_law_name", "_law_who", "_law_owns", "_law_asked"] f__law_noes_come := by
  refine df_bodyD F sc__law_noes_come fun X E ⟨cdv, A, outer, s, H, hr, hX⟩ => ?_
  have cx : Ctx g E X := by rw [hX]; exact ctx_of hr
  subst hX
  exact (ss_cons (ss_for own_of rfl (si_lst cx.K (se_sl cx (se_var 4) sp_no (sp_some (se_neg se_int)))) (sg_name 5 sc__law_noes_come.nd) (ss_one (ss_if (st_bool (sw_or (st_cmp (o_ne cx) (se_meth cx (ok_House_come t) (hr.mono (by decide)) (t.nm 13) (se_var 0) (sa_cons (se_var 5) (sa_cons (se_tup (sa_cons (se_str (x := [110, 111])) (sa_cons (se_var 1) sa_nil))) (sa_cons se_int sa_nil)))) (se_lst sa_nil) rfl) (sw_one (st_cmp (o_eq cx) (se_meth0 cx (ok_House_waits t) (hr.mono (by decide)) (t.nm 82) (se_var 0)) (se_lst sa_nil) rfl)))) (ss_one (ss_ret se_bl)) ss_nil)))
    (ss_cons (ss_setLc 6 rfl sc__law_noes_come.nd (si_lst cx.K (se_var 2)) (own := [("_law_one", 5)]) (blkOk_by (N := N__law_noes_come) (sc := defScope st__law_noes_come) (by decide +kernel)) (fun s H C cl fp => (sgw_name 5 (by decide) sc__law_noes_come.nd)) (fun s H C cl fp => (sts_one (st_not (st_val (se_isi (ctx_blk cx) (by decide) (se_var 5) (Ctx.free (ctx_blk cx) t.b_isinstance) (Ctx.free (ctx_blk cx) t.b_tuple) (by first | rfl | decide +kernel)))))) (fun s H C cl fp => (se_var 5)))
    (ss_cons (ss_if (st_cmp (o_ne cx) (se_meth cx (ok_House_come t) (hr.mono (by decide)) (t.nm 13) (se_var 0) (sa_cons (se_ix cx (se_var 4) (se_neg se_int)) (sa_cons (se_tup (sa_cons (se_str (x := [110, 111])) (sa_cons (se_var 1) sa_nil))) (sa_cons se_int sa_nil)))) (se_lc rfl sc__law_noes_come.nd (si_lst cx.K (se_var 6)) (own := [("_law_one", 5)]) (blkOk_by (N := N__law_noes_come) (sc := defScope st__law_noes_come) (by decide +kernel)) (fun s H C cl fp => (sgw_name 5 (by decide) sc__law_noes_come.nd)) (fun s H C cl fp => sts_nil) (fun s H C cl fp => (se_tup (sa_cons (se_var 5) (sa_cons (se_tup (sa_cons (se_str (x := [110, 111])) (sa_cons (se_var 1) sa_nil))) sa_nil))))) rfl) (ss_one (ss_ret se_bl)) ss_nil)
    (ss_one (ss_ret (se_and (se_cmp (o_eq cx) (se_lc rfl sc__law_noes_come.nd (si_lst cx.K (se_var 3)) (own := [("_law_one", 5)]) (blkOk_by (N := N__law_noes_come) (sc := defScope st__law_noes_come) (by decide +kernel)) (fun s H C cl fp => (sgw_name 5 (by decide) sc__law_noes_come.nd)) (fun s H C cl fp => sts_nil) (fun s H C cl fp => (se_meth (ctx_blk cx) (ok_House_end t) (hr.mono (by decide)) (t.nm 19) (se_var 0) (sa_cons (se_var 5) sa_nil)))) (se_bin (o_mul cx) (se_lst (sa_cons (se_tup (sa_cons se_non sa_nil)) sa_nil)) (se_callB (c_len cx) rfl (Ctx.free cx t.b_len) (by first | rfl | decide +kernel) (sa_cons (se_var 3) sa_nil))) rfl) (se_one (se_cmp (o_eq cx) (se_meth0 cx (ok_House_keeps t) (hr.mono (by decide)) (t.nm 34) (se_var 0)) (se_lst sa_nil) rfl))))))))
theorem ok__law_noes_come (t : Tx g) : Df g 7 "_law_noes_come" f__law_noes_come := by
  obtain ⟨f, fd, F, hm⟩ := t.d__law_noes_come
  exact ⟨f, fd, _, fk__law_noes_come t F, hm, F.kp, F.bindsN fun _ _ _ _ _ _ us hl => match us, hl with | [_, _, _, _, _], _ => rfl⟩
def N_law : List Str := ["_law_script", "_law_dice", "_law_house", "_law_sides", "_law_turn", "_law_name", "_law_near", "_law_size", "_law_who", "_law_asked", "_law_owns", "_law_side", "_law_letters", "_law_number", "_law_goal", "_law_letter"]
theorem sc_law : FnScope N_law ["_law_script"] (defScope st_law) := ⟨rfl, rfl, rfl, by decide +kernel, rfl, by decide +kernel, by decide +kernel⟩
theorem fk_law (t : Tx g) {f : Addr} {fd : FuncData} (F : FunD g.K "law" "law" (defArgs st_law) (defBody st_law) (defScope st_law) [] [] f fd) : FOk g 8 f fd ["_law_script"] f_law := by
  refine df_bodyD F sc_law fun X E ⟨cdv, A, outer, s, H, hr, hX⟩ => ?_
  have cx : Ctx g E X := by rw [hX]; exact ctx_of hr
  subst hX
  exact (ss_cons (ss_for own_of rfl (si_lst cx.K (se_call cx (ok__law_rounds t) (hr.mono (by decide)) rfl (sa_cons (se_var 0) (sa_cons se_int sa_nil)))) (sg_name 1 sc_law.nd) (ss_cons (ss_asg (se_tup (sa_cons (se_call cx (ok__law_any_name t) (hr.mono (by decide)) rfl (sa_cons (se_var 1) sa_nil)) (sa_cons (se_lst (sa_cons se_int (sa_cons se_int (sa_cons se_int (sa_cons se_int sa_nil))))) (sa_cons (se_call cx (ok__law_roll t) (hr.mono (by decide)) rfl (sa_cons (se_var 1) (sa_cons se_int sa_nil))) sa_nil)))) (sg_tup rfl (sgs_cons (sg_name 5 sc_law.nd) (sgs_cons (sg_name 6 sc_law.nd) (sgs_cons (sg_name 7 sc_law.nd) sgs_nil)))))
    (ss_cons (ss_set 2 sc_law.nd (se_makeK cx (ok_House___init___k_room_wait t) (hr.mono (by decide)) rfl (sa_cons se_int (sa_cons (se_var 6) sa_nil)) (sk_cons (se_var 7) (sk_cons se_int sk_nil))))
    (ss_cons (ss_set 3 sc_law.nd (se_bin (o_add cx) (se_call cx (ok__law_some_sides t) (hr.mono (by decide)) rfl (sa_cons (se_var 1) (sa_cons (se_var 6) sa_nil))) (se_lst (sa_cons se_int sa_nil))))
    (ss_cons (ss_expr (se_meth cx (ok_House_teach t) (hr.mono (by decide)) (t.nm 76) (se_var 2) (sa_cons (se_tup sa_nil) (sa_cons (se_var 3) sa_nil))))
    (ss_cons (ss_asg (se_tup (sa_cons (se_lst sa_nil) (sa_cons (se_lst sa_nil) (sa_cons (se_lst sa_nil) sa_nil)))) (sg_tup rfl (sgs_cons (sg_name 8 sc_law.nd) (sgs_cons (sg_name 9 sc_law.nd) (sgs_cons (sg_name 10 sc_law.nd) sgs_nil)))))
    (ss_cons (ss_for own_of rfl (si_rng1 rfl (Ctx.free cx t.b_range) (se_bin (o_add cx) se_int (se_call cx (ok__law_roll t) (hr.mono (by decide)) rfl (sa_cons (se_var 1) (sa_cons se_int sa_nil))))) (sg_name 4 sc_law.nd) (ss_cons (ss_if (st_cmp (o_eq cx) (se_call cx (ok__law_roll t) (hr.mono (by decide)) rfl (sa_cons (se_var 1) (sa_cons se_int sa_nil))) se_int rfl) (ss_cons (ss_asg (se_meth cx (ok_House_ask t) (hr.mono (by decide)) (t.nm 8) (se_var 2) (sa_cons (se_var 5) (sa_cons se_int sa_nil))) (sg_tup rfl (sgs_cons (sg_name 13 sc_law.nd) (sgs_cons (sg_name 12 sc_law.nd) sgs_nil))))
    (ss_cons (ss_expr (se_bm cx PySem.F.plainAttrs_list PySem.F.slot_list_append PySem.F.type_list_append m_append (.inl rfl) (se_var 8) (sa_cons (se_tup (sa_cons (se_str (x := [111, 119, 110])) (sa_cons (se_var 13) sa_nil))) sa_nil)))
    (ss_one (ss_expr (se_bm cx PySem.F.plainAttrs_list PySem.F.slot_list_append PySem.F.type_list_append m_append (.inl rfl) (se_var 10) (sa_cons (se_var 13) sa_nil)))))) (ss_cons (ss_set 11 sc_law.nd (se_ix cx (se_var 6) (se_call cx (ok__law_roll t) (hr.mono (by decide)) rfl (sa_cons (se_var 1) (sa_cons se_int sa_nil)))))
    (ss_cons (ss_set 12 sc_law.nd (se_meth cx (ok_House_come t) (hr.mono (by decide)) (t.nm 13) (se_var 2) (sa_cons (se_var 11) (sa_cons (se_tup (sa_cons (se_str (x := [97, 115, 107])) (sa_cons (se_var 5) sa_nil))) (sa_cons se_int sa_nil)))))
    (ss_one (ss_set 8 sc_law.nd (se_bin (o_add cx) (se_var 8) (se_if (st_cmp (o_notInL cx) (se_var 11) (se_var 8) rfl) (se_lst (sa_cons (se_var 11) sa_nil)) (se_lst sa_nil))))))))
    (ss_cons (ss_if (st_cmp (o_ne cx) (se_lc rfl sc_law.nd (si_lst cx.K (se_var 12)) (own := [("_law_goal", 14), ("_law_letter", 15)]) (blkOk_by (N := N_law) (sc := defScope st_law) (by decide +kernel)) (fun s H C cl fp => (sgw_tup rfl (sgws_cons (sgw_name 14 (by decide) sc_law.nd) (sgws_cons (sgw_name 15 (by decide) sc_law.nd) sgws_nil)))) (fun s H C cl fp => (sts_one (st_cmp (o_ne (ctx_blk cx)) (se_var 15) (se_tup (sa_cons (se_str (x := [97, 115, 107])) (sa_cons (se_var 5) sa_nil))) rfl))) (fun s H C cl fp => (se_var 15))) (se_lst sa_nil) rfl) (ss_cons (ss_set 8 sc_law.nd (se_lst sa_nil))
    (ss_one ss_brk)) ss_nil)
    (ss_one (ss_set 9 sc_law.nd (se_bin (o_add cx) (se_var 9) (se_lc rfl sc_law.nd (si_lst cx.K (se_var 12)) (own := [("_law_goal", 14), ("_law_letter", 15)]) (blkOk_by (N := N_law) (sc := defScope st_law) (by decide +kernel)) (fun s H C cl fp => (sgw_tup rfl (sgws_cons (sgw_name 14 (by decide) sc_law.nd) (sgws_cons (sgw_name 15 (by decide) sc_law.nd) sgws_nil)))) (fun s H C cl fp => sts_nil) (fun s H C cl fp => (se_var 14)))))))))
    (ss_cons (ss_if (st_cmp (o_ne cx) (se_lc rfl sc_law.nd (si_lst cx.K (se_var 9)) (own := [("_law_side", 11)]) (blkOk_by (N := N_law) (sc := defScope st_law) (by decide +kernel)) (fun s H C cl fp => (sgw_name 11 (by decide) sc_law.nd)) (fun s H C cl fp => (sts_one (st_bool (sw_or (st_cmp o_gt (se_bm (ctx_blk cx) PySem.F.plainAttrs_list PySem.F.slot_list_count PySem.F.type_list_count (m_count (ctx_blk cx)) (.inl rfl) (se_var 9) (sa_cons (se_var 11) sa_nil)) se_int rfl) (sw_one (st_cmp (o_notInL (ctx_blk cx)) (se_var 11) (se_var 3) rfl)))))) (fun s H C cl fp => (se_var 11))) (se_lst sa_nil) rfl) (ss_one (ss_ret se_bl)) ss_nil)
    (ss_one (ss_if (st_bool (sw_and (st_cmp (o_ne cx) (se_var 8) (se_lst sa_nil) rfl) (sw_one (st_cmp (o_ne cx) (se_var 9) (se_lst sa_nil) rfl)))) (ss_cons (ss_if (st_cmp (o_eq cx) (se_call cx (ok__law_roll t) (hr.mono (by decide)) rfl (sa_cons (se_var 1) (sa_cons se_int sa_nil))) se_int rfl) (ss_cons (ss_set 11 sc_law.nd (se_ix cx (se_var 9) (se_call cx (ok__law_roll t) (hr.mono (by decide)) rfl (sa_cons (se_var 1) (sa_cons (se_callB (c_len cx) rfl (Ctx.free cx t.b_len) (by first | rfl | decide +kernel) (sa_cons (se_var 9) sa_nil)) sa_nil)))))
    (ss_one (ss_if (st_not (st_val (se_call cx (ok__law_thing_comes t) (hr.mono (by decide)) rfl (sa_cons (se_var 1) (sa_cons (se_var 2) (sa_cons (se_var 5) (sa_cons (se_var 7) (sa_cons (se_var 8) (sa_cons (se_var 10) (sa_cons (se_var 11) sa_nil)))))))))) (ss_one (ss_ret se_bl)) ss_nil))) (ss_one (ss_if (st_not (st_val (se_call cx (ok__law_noes_come t) (hr.mono (by decide)) rfl (sa_cons (se_var 2) (sa_cons (se_var 5) (sa_cons (se_var 8) (sa_cons (se_var 10) (sa_cons (se_var 9) sa_nil)))))))) (ss_one (ss_ret se_bl)) ss_nil)))
    (ss_one (ss_if (st_cmp (o_ne cx) (se_meth0 cx (ok_House_waits t) (hr.mono (by decide)) (t.nm 82) (se_var 2)) (se_lst sa_nil) rfl) (ss_one (ss_ret se_bl)) ss_nil))) ss_nil))))))))))
    (ss_one (ss_ret se_bl)))
theorem ok_law (t : Tx g) : Df g 8 "law" f_law := by
  obtain ⟨f, fd, F, hm⟩ := t.d_law
  exact ⟨f, fd, _, fk_law t F, hm, F.kp, F.bindsN fun _ _ _ _ _ _ us hl => match us, hl with | [_], _ => rfl⟩
end
end MP

namespace MP
open PySem (PyData)
abbrev Hp := Nat → Option Ob
def Asn := Hp → Prop
def Hsub (a b : Hp) : Prop := ∀ n o, a n = some o → b n = some o
def Hdis (a b : Hp) : Prop := ∀ n, a n = none ∨ b n = none
def Hun (a b : Hp) : Hp := fun n => match a n with
  | some o => some o
  | none => b n
theorem Hsub.refl (a : Hp) : Hsub a a := fun _ _ h => h
theorem Hsub.trans {a b c : Hp} (h : Hsub a b) (k : Hsub b c) : Hsub a c := fun n o e => k n o (h n o e)
theorem Hdis.symm {a b : Hp} (h : Hdis a b) : Hdis b a := fun n => (h n).symm
theorem Hdis.subl {a b c : Hp} (h : Hdis b c) (s : Hsub a b) : Hdis a c := fun n => by
  rcases h n with z | z
  · left
    cases e : a n with
    | none => rfl
    | some o => rw [s n o e] at z; cases z
  · exact .inr z
theorem Hun_l (a b : Hp) : Hsub a (Hun a b) := fun n o e => by simp [Hun, e]
theorem Hun_r {a b : Hp} (h : Hdis a b) : Hsub b (Hun a b) := fun n o e => by
  rcases h n with z | z
  · simp [Hun, z, e]
  · rw [z] at e; cases e
theorem Hun_sub {a b c : Hp} (h : Hsub a c) (k : Hsub b c) : Hsub (Hun a b) c := fun n o e => by
  unfold Hun at e
  cases q : a n with
  | some u => rw [q] at e; cases e; exact h n _ q
  | none => rw [q] at e; exact k n o e
theorem Hun_dis {a b c : Hp} (h : Hdis a c) (k : Hdis b c) : Hdis (Hun a b) c := fun n => by
  rcases h n with z | z
  · rcases k n with y | y
    · left; simp [Hun, z, y]
    · exact .inr y
  · exact .inr z
/-- these pieces, apart, within h -/
def sats : List Asn → Hp → Prop
  | [], _ => True
  | A :: l, h => ∃ a b, Hdis a b ∧ Hsub a h ∧ Hsub b h ∧ A a ∧ sats l b
theorem sats.mono : ∀ {l : List Asn} {a b : Hp}, sats l a → Hsub a b → sats l b
  | [], _, _, _, _ => trivial
  | A :: l, a, b, ⟨x, y, h1, h2, h3, h4, h5⟩, s => ⟨x, y, h1, h2.trans s, h3.trans s, h4, h5⟩
theorem sats.swap {A B : Asn} {l : List Asn} {h : Hp} : sats (A :: B :: l) h → sats (B :: A :: l) h
  | ⟨a, b, d, sa, sb, ha, c, e, d2, sc, se, hc, he⟩ => by
    refine ⟨c, Hun a e, ?_, sc.trans sb, Hun_sub sa (se.trans sb), hc, a, e, d.symm.subl se |>.symm, Hun_l _ _, Hun_r (d.symm.subl se).symm, ha, he⟩
    exact (Hun_dis (d.symm.subl sc).symm d2.symm).symm
theorem sats.tl {A : Asn} {l : List Asn} {h : Hp} : sats (A :: l) h → sats l h
  | ⟨_, _, _, _, sb, _, hb⟩ => hb.mono sb
theorem sats.cons {A : Asn} {l l' : List Asn} {h : Hp} (i : ∀ b, sats l b → sats l' b) : sats (A :: l) h → sats (A :: l') h
  | ⟨a, b, d, sa, sb, ha, hb⟩ => ⟨a, b, d, sa, sb, ha, i b hb⟩
theorem sats.app : ∀ {l l' : List Asn} {h : Hp}, sats (l ++ l') h ↔ ∃ a b, Hdis a b ∧ Hsub a h ∧ Hsub b h ∧ sats l a ∧ sats l' b
  | [], l', h => ⟨fun q => ⟨fun _ => none, h, (fun _ => .inl rfl), (fun _ _ z => by cases z), Hsub.refl h, trivial, q⟩, fun ⟨_, _, _, _, s, _, q⟩ => q.mono s⟩
  | A :: l, l', h => by
    constructor
    · rintro ⟨a, b, d, sa, sb, ha, hb⟩
      obtain ⟨x, y, d2, sx, sy, hx, hy⟩ := sats.app.mp hb
      refine ⟨Hun a x, y, Hun_dis (d.symm.subl sy).symm d2, Hun_sub sa (sx.trans sb), sy.trans sb, ⟨a, x, (d.symm.subl sx).symm, Hun_l _ _, Hun_r (d.symm.subl sx).symm, ha, hx⟩, hy⟩
    · rintro ⟨u, y, d, su, sy, ⟨a, x, d2, sa, sx, ha, hx⟩, hy⟩
      refine ⟨a, Hun x y, ?_, sa.trans su, Hun_sub (sx.trans su) sy, ha, sats.app.mpr ⟨x, y, d.subl sx, Hun_l _ _, Hun_r (d.subl sx), hx, hy⟩⟩
      exact (Hun_dis d2.symm (d.symm.subl (Hsub.refl y) |>.symm.subl sa |>.symm)).symm
/-- a place and what stands there -/
def pt (n : Nat) (o : Ob) : Asn := fun h => h n = some o
def bun (l : List Asn) : Asn := fun h => sats l h
def ex {α : Type} (A : α → Asn) : Asn := fun h => ∃ x, A x h
def pu (p : Prop) : Asn := fun _ => p
theorem sats.bun {l l' : List Asn} {h : Hp} : sats (bun l :: l') h ↔ sats (l ++ l') h := by
  rw [sats.app]
  rfl
theorem sats.ex {α : Type} {B : α → Asn} {l : List Asn} {h : Hp} : sats (MP.ex B :: l) h ↔ ∃ x, sats (B x :: l) h := by
  constructor
  · rintro ⟨a, b, d, sa, sb, ⟨x, ha⟩, hb⟩
    exact ⟨x, a, b, d, sa, sb, ha, hb⟩
  · rintro ⟨x, a, b, d, sa, sb, ha, hb⟩
    exact ⟨a, b, d, sa, sb, ⟨x, ha⟩, hb⟩
theorem sats.pu {p : Prop} {l : List Asn} {h : Hp} : sats (MP.pu p :: l) h ↔ p ∧ sats l h := by
  constructor
  · rintro ⟨a, b, d, sa, sb, ha, hb⟩
    exact ⟨ha, hb.mono sb⟩
  · rintro ⟨hp, q⟩
    exact ⟨fun _ => none, h, (fun _ => .inl rfl), (fun _ _ z => by cases z), Hsub.refl _, hp, q⟩
theorem sats.appb {xs ys l : List Asn} {h : Hp} : sats (xs ++ MP.bun ys :: l) h ↔ sats (xs ++ (ys ++ l)) h := by
  constructor
  · intro q
    obtain ⟨a, b, d, sa, sb, ha, hb⟩ := sats.app.mp q
    exact sats.app.mpr ⟨a, b, d, sa, sb, ha, sats.bun.mp hb⟩
  · intro q
    obtain ⟨a, b, d, sa, sb, ha, hb⟩ := sats.app.mp q
    exact sats.app.mpr ⟨a, b, d, sa, sb, ha, sats.bun.mpr hb⟩
/-- the store has these pieces -/
def St (l : List Asn) (S : Sto) : Prop := sats l fun n => S[n]?
/-- x is one of them, the others are r -/
inductive Pick : Asn → List Asn → List Asn → Prop
  | here {x : Asn} {r : List Asn} : Pick x (x :: r) r
  | there {x y : Asn} {l r : List Asn} : Pick x l r → Pick x (y :: l) (y :: r)
theorem Pick.sats {x : Asn} {l r : List Asn} (p : Pick x l r) : ∀ {h : Hp}, MP.sats l h → MP.sats (x :: r) h := by
  induction p with
  | here => exact fun q => q
  | there _ ih => exact fun q => sats.swap (sats.cons (fun b k => ih k) q)
inductive Picks : List Asn → List Asn → List Asn → Prop
  | nil {l : List Asn} : Picks [] l l
  | cons {x : Asn} {xs l m r : List Asn} : Pick x l m → Picks xs m r → Picks (x :: xs) l r
theorem Picks.sats {xs l r : List Asn} (p : Picks xs l r) : ∀ {h : Hp}, MP.sats l h → MP.sats (xs ++ r) h := by
  induction p with
  | nil => exact fun q => q
  | cons p _ ih => exact fun q => sats.cons (fun b k => ih k) (p.sats q)
section
variable {l r : List Asn} {S : Sto} {A : Asn} {n : Nat} {o o' : Ob}
theorem St.pk {x : Asn} (H : St l S) (p : Pick x l r) : St (x :: r) S := p.sats H
theorem St.pks {xs : List Asn} (H : St l S) (p : Picks xs l r) : St (xs ++ r) S := p.sats H
theorem St.at (H : St (pt n o :: r) S) : S[n]? = some o := by
  obtain ⟨a, b, _, sa, _, ha, _⟩ := H
  exact sa n o ha
theorem St.rd (H : St l S) (p : Pick (pt n o) l r) : S[n]? = some o := (H.pk p).at
theorem St.tl (H : St (A :: l) S) : St l S := sats.tl H
theorem St.nil (S : Sto) : St [] S := trivial
theorem St.bun {xs : List Asn} : St (bun xs :: l) S ↔ St (xs ++ l) S := sats.bun
theorem St.app {xs ys : List Asn} : St (xs ++ MP.bun ys :: l) S ↔ St (xs ++ (ys ++ l)) S := by
  constructor
  · intro h
    obtain ⟨a, b, d, sa, sb, ha, hb⟩ := sats.app.mp h
    exact sats.app.mpr ⟨a, b, d, sa, sb, ha, sats.bun.mp hb⟩
  · intro h
    obtain ⟨a, b, d, sa, sb, ha, hb⟩ := sats.app.mp h
    exact sats.app.mpr ⟨a, b, d, sa, sb, ha, sats.bun.mpr hb⟩
theorem St.ex {α : Type} {B : α → Asn} : St (ex B :: l) S ↔ ∃ x, St (B x :: l) S := by
  constructor
  · rintro ⟨a, b, d, sa, sb, ⟨x, ha⟩, hb⟩
    exact ⟨x, a, b, d, sa, sb, ha, hb⟩
  · rintro ⟨x, a, b, d, sa, sb, ha, hb⟩
    exact ⟨a, b, d, sa, sb, ⟨x, ha⟩, hb⟩
theorem St.pu {p : Prop} : St (pu p :: l) S ↔ p ∧ St l S := by
  constructor
  · rintro ⟨a, b, d, sa, sb, ha, hb⟩
    exact ⟨ha, hb.mono sb⟩
  · rintro ⟨hp, q⟩
    exact ⟨fun _ => none, fun n => S[n]?, (fun _ => .inl rfl), (fun _ _ z => by cases z), Hsub.refl _, hp, q⟩
theorem St.imp {B : Asn} (H : St (A :: l) S) (i : ∀ h, A h → B h) : St (B :: l) S := by
  obtain ⟨a, b, d, sa, sb, ha, hb⟩ := H
  exact ⟨a, b, d, sa, sb, i _ ha, hb⟩
/-- all that is owned stays as it was -/
theorem sats.St_of {l : List Asn} {h : Hp} {S : Sto} (q : sats l h) (s : Hsub h fun n => S[n]?) : St l S := q.mono s
theorem St.push (H : St l S) (o : Ob) : St l (S ++ [o]) := H.mono fun n u e => at_push e
theorem St.alloc (H : St l S) (o : Ob) : St (pt S.length o :: l) (S ++ [o]) := by
  refine ⟨fun m => if m = S.length then some o else none, fun n => S[n]?, fun m => ?_, fun m u e => ?_, fun m u e => at_push e, by simp [pt], H⟩
  · by_cases e : m = S.length
    · right; simp [e]
    · left; simp [e]
  · by_cases q : m = S.length
    · subst q; simp at e; subst e; simp
    · simp [q] at e
theorem St.set (H : St (pt n o :: l) S) (o' : Ob) : St (pt n o' :: l) (S.set n o') := by
  have hn := lt_of_at H.at
  obtain ⟨a, b, d, sa, sb, ha, hb⟩ := H
  have bn : b n = none := by
    rcases d n with z | z
    · rw [ha] at z; cases z
    · exact z
  refine ⟨fun m => if m = n then some o' else none, b, fun m => ?_, fun m u e => ?_, fun m u e => ?_, by simp [pt], hb⟩
  · by_cases e : m = n
    · right; rw [e]; exact bn
    · left; simp [e]
  · by_cases q : m = n
    · subst q; simp at e; subst e; simp [hn]
    · simp [q] at e
  · have : m ≠ n := fun z => by rw [z, bn] at e; cases e
    simp only
    rw [List.getElem?_set_ne this.symm]
    exact sb m u e
theorem St.fm0 {S' : Sto} (H : St l S) (f : Fm [] S S') : St l S' := H.mono fun n u e => f.at e (by simp)
theorem St.fm1 {S' : Sto} (H : St (pt n o :: l) S) (f : Fm [n] S S') (h : S'[n]? = some o') : St (pt n o' :: l) S' := by
  obtain ⟨a, b, d, sa, sb, ha, hb⟩ := H
  have bn : b n = none := by
    rcases d n with z | z
    · rw [ha] at z; cases z
    · exact z
  refine ⟨fun m => if m = n then some o' else none, b, fun m => ?_, fun m u e => ?_, fun m u e => ?_, by simp [pt], hb⟩
  · by_cases e : m = n
    · right; rw [e]; exact bn
    · left; simp [e]
  · by_cases q : m = n
    · subst q; simp at e; subst e; exact h
    · simp [q] at e
  · have ne : m ≠ n := fun z => by rw [z, bn] at e; cases e
    exact f.at (sb m u e) (by simp [ne])
/-- two pieces that are places are not the same place -/
theorem St.ne {m : Nat} {u : Ob} (H : St (pt n o :: pt m u :: l) S) : n ≠ m := by
  obtain ⟨a, b, d, sa, sb, ha, c, e, d2, sc, se, hc, he⟩ := H
  intro z
  subst z
  rcases d n with q | q
  · rw [ha] at q; cases q
  · rw [sc n u hc] at q; cases q
end
end MP

namespace MP
open PySem (PyData)
abbrev Fl2 : Exc → Sto → Prop := fun _ _ => False
section
variable {L L' : Loc} {S : Sto} {Q : D → Sto → Prop} {QB : Bool → Sto → Prop} {QA : List D → Sto → Prop} {QL : Loc → Sto → Prop} {QP : Option Int → Sto → Prop} {QU : Unit → Sto → Prop} {E : Exc → Sto → Prop} {K : En}
/-! statements -/
variable {nx bk ct : Loc → Sto → Prop} {rt : D → Sto → Prop} {ex : Exc → Loc → Sto → Prop}
theorem x_seq {a b : SM} (h : wS (a L S) ⟨fun L1 S1 => wS (b L1 S1) ⟨nx, rt, bk, ct, ex⟩, rt, bk, ct, ex⟩) : wS (sSeq a b L S) ⟨nx, rt, bk, ct, ex⟩ := by rw [wS_sSeq]; exact h
theorem x_nx (h : nx L S) : wS (sNx L S) ⟨nx, rt, bk, ct, ex⟩ := h
theorem x_expr {a : EM} (h : wR (a L S) (fun _ S1 => nx L S1) (fun x S => ex x L S)) : wS (sExpr a L S) ⟨nx, rt, bk, ct, ex⟩ := by rw [wS_sExpr]; exact h
theorem x_ret {a : EM} (h : wR (a L S) rt (fun x S => ex x L S)) : wS (sRet a L S) ⟨nx, rt, bk, ct, ex⟩ := by rw [wS_sRet]; exact h
theorem x_retN (h : rt .non S) : wS (sRetN L S) ⟨nx, rt, bk, ct, ex⟩ := h
theorem x_brk (h : bk L S) : wS (sBrk L S) ⟨nx, rt, bk, ct, ex⟩ := h
theorem x_cnt (h : ct L S) : wS (sCnt L S) ⟨nx, rt, bk, ct, ex⟩ := h
theorem x_if {t : BM} {a b : SM} (h : wR (t L S) (fun c S1 => if c = true then wS (a L S1) ⟨nx, rt, bk, ct, ex⟩ else wS (b L S1) ⟨nx, rt, bk, ct, ex⟩) (fun x S => ex x L S)) : wS (sIf t a b L S) ⟨nx, rt, bk, ct, ex⟩ := by rw [wS_sIf]; exact h
theorem x_asg {a : EM} {t : TM} (h : wR (a L S) (fun d S1 => wR (t d L S1) nx (fun _ _ => False)) (fun x S => ex x L S)) : wS (sAsg a t L S) ⟨nx, rt, bk, ct, ex⟩ := by rw [wS_sAsg]; exact h
theorem x_raise {c : Nat} {as : AM} (h : wR (as L S) (fun xs S1 => ex ⟨c, xs⟩ L S1) (fun x S => ex x L S)) : wS (sRaise c as L S) ⟨nx, rt, bk, ct, ex⟩ := by rw [wS_sRaise]; exact h
theorem x_for {w : WM} {tg : TM} {body : SM} (h : wR (w L S) (fun k S1 => wS (forL k.chk tg body k.items L S1) ⟨nx, rt, bk, ct, ex⟩) (fun x S => ex x L S)) : wS (sFor w tg body L S) ⟨nx, rt, bk, ct, ex⟩ := by rw [wS_sFor]; exact h
theorem x_fn {np nl : Nat} {body : SM} {ds : List D} (hl : ds.length = np) (e : ds.map some ++ List.replicate (nl - np) none = L) (h : wS (body L S) ⟨fun _ S1 => Q .non S1, Q, fun _ _ => False, fun _ _ => False, fun x _ S => E x S⟩) : wR (fn np nl body ds S) Q E := by
  subst e
  exact wR_call hl h
theorem x_exb {k : Bool} {P : Bool → Prop} (h : P k) : ∃ j, D.bl k = .bl j ∧ P j := ⟨k, rfl, h⟩
theorem x_exi {k : Int} {P : Int → Prop} (h : P k) : ∃ j, D.int k = .int j ∧ P j := ⟨k, rfl, h⟩
theorem x_ext {k : List D} {P : List D → Prop} (h : P k) : ∃ j, D.tup k = .tup j ∧ P j := ⟨k, rfl, h⟩
theorem x_exs {k : List Nat} {P : List Nat → Prop} (h : P k) : ∃ j, D.str k = .str j ∧ P j := ⟨k, rfl, h⟩
theorem x_exr {n : Nat} {A P : Nat → Prop} (a : A n) (h : P n) : ∃ j, D.ref n = .ref j ∧ A j ∧ P j := ⟨n, rfl, a, h⟩
theorem x_ble {n m : Nat} {P : Prop} (a : Nat.ble n m = true) (h : P) : Nat.ble n m = true ∧ P := ⟨a, h⟩
theorem x_lens {n m i j : Nat} {P : Prop} (a : n = m) (b : i = j) (h : P) : n = m ∧ i = j ∧ P := ⟨a, b, h⟩
theorem x_ty {S : Sto} {d : D} {t : String} {P : Prop} (a : tyNm S d = some t) (h : P) : tyNm S d = some t ∧ P := ⟨a, h⟩
theorem x_sm {P : Prop} (h : P) : S = S ∧ P := ⟨rfl, h⟩
theorem x_peq {b c : Bool} {P : Prop} (e : b = c) (h : P) : b = c ∧ P := ⟨e, h⟩
def Whn (p : Bool) (q : Prop) : Prop := p = true → q
theorem x_whn {p : Bool} {q : Prop} (h : p = true → q) : Whn p q := h
theorem x_fin {α : Type} {a : α} : S = S ∧ a = a := ⟨rfl, rfl⟩
/-! plain data -/
mutual
theorem pl_mono : ∀ {n m : Nat} {d : D}, pl n d = true → n ≤ m → pl m d = true
  | n, m, .non, _, _ => by cases m <;> rfl
  | n, m, .int _, _, _ => by cases m <;> rfl
  | n, m, .str _, _, _ => by cases m <;> rfl
  | n + 1, m, .tup xs, h, hm => by
    obtain ⟨m, rfl⟩ : ∃ k, m = k + 1 := ⟨m - 1, by omega⟩
    have := pls_mono (n := n) (m := m) (ds := xs) (by simpa [pl] using h) (by omega)
    simpa [pl] using this
  | 0, m, .tup xs, h, _ => by simp [pl] at h
  | n, m, .bl _, h, _ => by cases n <;> simp [pl] at h
  | n, m, .ref _, h, _ => by cases n <;> simp [pl] at h
  | n, m, .exn _ _, h, _ => by cases n <;> simp [pl] at h
theorem pls_mono : ∀ {n m : Nat} {ds : List D}, pls n ds = true → n ≤ m → pls m ds = true
  | n, m, [], _, _ => rfl
  | n, m, x :: xs, h, hm => by
    simp only [pls, Bool.and_eq_true] at h ⊢
    exact ⟨pl_mono h.1 hm, pls_mono h.2 hm⟩
end
theorem pls_map {α : Type} {n : Nat} {f : α → D} {xs : List α} (h : ∀ x, pl n (f x) = true) : pls n (xs.map f) = true := pls_all.mpr fun d hd => by
  obtain ⟨x, _, rfl⟩ := List.mem_map.mp hd
  exact h x
theorem pls_cons {n : Nat} {x : D} {xs : List D} (h : pl n x = true) (h' : pls n xs = true) : pls n (x :: xs) = true := by simp [pls, h, h']
theorem pls_nil {n : Nat} : pls n [] = true := rfl
theorem pls_app {n : Nat} {xs ys : List D} (h : pls n xs = true) (h' : pls n ys = true) : pls n (xs ++ ys) = true := pls_all.mpr fun d hd => by
  rcases List.mem_append.mp hd with z | z
  · exact pls_all.mp h d z
  · exact pls_all.mp h' d z
theorem pl_tup {n : Nat} {xs : List D} (h : pls n xs = true) : pl (n + 1) (.tup xs) = true := by simpa [pl] using h
theorem pl_int {n : Nat} {i : Int} : pl n (.int i) = true := by cases n <;> rfl
theorem pl_str {n : Nat} {i : List Nat} : pl n (.str i) = true := by cases n <;> rfl
theorem pl_non {n : Nat} : pl n .non = true := by cases n <;> rfl
/-! targets -/
theorem x_gV {i : Nat} {d : D} (e : L.set i (some d) = L') (h : QL L' S) : wR (gV i d L S) QL E := by subst e; exact h
theorem x_gTup {n : Nat} {u : List D → Loc → Sto → R Loc} {ds : List D} (e : ds.length = n) (h : wR (u ds L S) QL E) : wR (gTup n u (.tup ds) L S) QL E := by
  rw [gTup_a, if_pos e]; exact h
theorem x_gCons {t : TM} {u : List D → Loc → Sto → R Loc} {d : D} {ds : List D} (h : wR (t d L S) (fun L1 S1 => wR (u ds L1 S1) QL E) E) : wR (gCons t u (d :: ds) L S) QL E := by
  rw [gCons_a, wR_bind]; exact h
theorem x_gNil (h : QL L S) : wR (gNil [] L S) QL E := h
def setFl (c f : Nat) (d x : D) (L : Loc) (S : Sto) : R Loc := match x with
  | .ref n => (match S[n]? with
    | some (.ins c' fs) => if c' = c ∧ fs.length < 1000 then .ok L (S.set n (.ins c' (fput f d fs))) else .err
    | _ => .err)
  | _ => .err
theorem x_gFld {c f : Nat} {o : EM} {d : D} (h : wR (o L S) (fun x S1 => wR (setFl c f d x L S1) QL E) E) : wR (gFld c f o d L S) QL E := by
  unfold gFld
  rw [wR_bind]
  exact h
theorem x_gSub {f : Set2} {o i : EM} {d : D} (h : wR (o L S) (fun x S1 => wR (i L S1) (fun y S2 => wR (f x y d S2) (fun _ S3 => QL L S3) E) E) E) : wR (gSub f o i d L S) QL E := by
  rw [gSub_a]
  simp only [wR_bind, wR_ok]
  exact h
/-! expressions -/
theorem x_C {d : D} (h : Q d S) : wR (eC d L S) Q E := h
theorem x_V {i : Nat} {d : D} (e : L[i]? = some (some d)) (h : Q d S) : wR (eV i L S) Q E := by rw [eV_a, e]; exact h
theorem x_Un {f : Op1} {a : EM} (h : wR (a L S) (fun x S1 => wR (f x S1) Q E) E) : wR (eUn f a L S) Q E := by rw [eUn_a, wR_bind]; exact h
theorem x_Bin {f : Op2} {a b : EM} (h : wR (a L S) (fun x S1 => wR (b L S1) (fun y S2 => wR (f x y S2) Q E) E) E) : wR (eBin f a b L S) Q E := by rw [eBin_a]; simp only [wR_bind]; exact h
theorem x_If {t : BM} {a b : EM} (h : wR (t L S) (fun c S1 => if c = true then wR (a L S1) Q E else wR (b L S1) Q E) E) : wR (eIf t a b L S) Q E := by rw [wR_eIf]; exact h
theorem x_aNil (h : QA [] S) : wR (aNil L S) QA E := h
theorem x_aCons {a : EM} {as : AM} (h : wR (a L S) (fun x S1 => wR (as L S1) (fun xs S2 => QA (x :: xs) S2) E) E) : wR (aCons a as L S) QA E := by
  rw [aCons_a]; simp only [wR_bind, wR_ok]; exact h
theorem x_Tup {as : AM} (h : wR (as L S) (fun xs S1 => Nat.ble xs.length 1000 = true ∧ Q (.tup xs) S1) E) : wR (eTup as L S) Q E := by
  rw [eTup_a]; simp only [wR_bind]
  refine wR_mono h (fun xs S1 ⟨a, b⟩ => ?_) fun _ _ z => z
  rw [if_pos (Nat.le_trans (Nat.le_of_ble_eq_true a) (by decide))]
  exact b
def mkO (o : Ob) (S : Sto) : R D := .ok (.ref S.length) (S ++ [o])
theorem x_Lst {as : AM} (h : wR (as L S) (fun xs S1 => Nat.ble xs.length 1000 = true ∧ wR (mkO (.lst xs) S1) Q E) E) : wR (eLst as L S) Q E := by
  rw [eLst_a]; simp only [wR_bind]
  refine wR_mono h (fun xs S1 ⟨a, b⟩ => ?_) fun _ _ z => z
  rw [if_pos (Nat.le_trans (Nat.le_of_ble_eq_true a) (by decide))]
  exact b
theorem x_Dic {t : Bool} (h : wR (mkO (.dic t false []) S) Q E) : wR (eDic t L S) Q E := h
theorem x_Call {F : Fn} {as : AM} (h : wR (as L S) (fun xs S1 => wR (F xs S1) Q E) E) : wR (eCall F as L S) Q E := by rw [eCall_a, wR_bind]; exact h
/-- an instance of the class c at n, that has no own m -/
def insOk (S : Sto) (n c m : Nat) : Prop := ∃ fs, S[n]? = some (.ins c fs) ∧ fget m fs = none
theorem x_Meth {c mi : Nat} {F : Fn} {o : EM} {as : AM} (h : wR (o L S) (fun x S1 => ∃ n, x = .ref n ∧ insOk S1 n c mi ∧ wR (as L S1) (fun xs S2 => wR (F (.ref n :: xs) S2) Q E) E) E) : wR (eMeth c mi F o as L S) Q E := by
  refine wR_eMeth (wR_mono h (fun x S1 ⟨n, e, ⟨fs, h1, h2⟩, q⟩ => ⟨n, fs, e, h1, h2, q⟩) fun _ _ z => z)
def mkI (c : Nat) (F : Fn) (xs : List D) (S : Sto) : R D := (F (.ref S.length :: xs) (S ++ [.ins c []])).bind fun v S2 => if v = .non then .ok (.ref S.length) S2 else .err
theorem x_Make {c : Nat} {F : Fn} {as : AM} (h : wR (as L S) (fun xs S1 => wR (mkI c F xs S1) Q E) E) : wR (eMake c F as L S) Q E := by
  rw [eMake_a, wR_bind]; exact h
theorem x_MakeK {c n m : Nat} {F : Fn} {gD : List D → List D → List D} {as ks : AM} (h : wR (as L S) (fun xs S1 => wR (ks L S1) (fun zs S2 => xs.length = n ∧ zs.length = m ∧ wR (mkI c F (gD xs zs) S2) Q E) E) E) : wR (eMakeK c n m F gD as ks L S) Q E := by
  unfold eMakeK
  simp only [wR_bind]
  refine wR_mono h (fun xs S1 h => wR_mono h (fun zs S2 ⟨a, b, q⟩ => ?_) fun _ _ z => z) fun _ _ z => z
  rw [if_pos ⟨a, b⟩]
  exact q
theorem x_Sl {a : EM} {lo hi : PM} (h : wR (a L S) (fun x S1 => wR (lo L S1) (fun l S2 => wR (hi L S2) (fun h S3 => wR (opSl x l h S3) Q E) E) E) E) : wR (eSl a lo hi L S) Q E := by
  rw [eSl_a]; simp only [wR_bind]; exact h
theorem x_pNo (h : QP none S) : wR (pNo L S) QP E := h
theorem x_pSome {a : EM} (h : wR (a L S) (fun x S1 => ∃ i, x = .int i ∧ QP (some i) S1) E) : wR (pSome a L S) QP E := by
  rw [wR_pSome]
  exact wR_mono h (fun x S1 ⟨i, e, q⟩ => by subst e; exact q) fun _ _ z => z
theorem x_BM {t : String} {F : Fn} {o : EM} {as : AM} (h : wR (o L S) (fun x S1 => tyNm S1 x = some t ∧ wR (as L S1) (fun xs S2 => wR (F (x :: xs) S2) Q E) E) E) : wR (eBM t F o as L S) Q E := wR_eBM h
theorem x_Lc {w : WM} {tg : TM} {t : BM} {e : EM} {vs : List Nat} (h : wR (w L S) (fun k S1 => wR (lcL k.chk tg t e (wipe L vs) S1.length k.items (S1 ++ [.lst []])) Q E) E) : wR (eLc w tg t e vs L S) Q E := by rw [wR_eLc]; exact h
theorem x_Not {a : EM} (h : wR (a L S) (fun x S1 => ∃ k, x = .bl k ∧ Q (.bl (!k)) S1) E) : wR (eNot a L S) Q E := by
  rw [wR_eNot]
  exact wR_mono h (fun x S1 ⟨i, e, q⟩ => by subst e; exact q) fun _ _ z => z
theorem x_And {a b : EM} (h : wR (a L S) (fun x S1 => ∃ k, x = .bl k ∧ if k = true then wR (b L S1) Q E else Q (.bl false) S1) E) : wR (eAnd a b L S) Q E := by
  rw [wR_eAnd]
  refine wR_mono h (fun x S1 ⟨k, e, q⟩ => ?_) fun _ _ z => z
  subst e
  cases k <;> simpa using q
theorem x_Or {a b : EM} (h : wR (a L S) (fun x S1 => ∃ k, x = .bl k ∧ if k = true then Q (.bl true) S1 else wR (b L S1) Q E) E) : wR (eOr a b L S) Q E := by
  rw [wR_eOr]
  refine wR_mono h (fun x S1 ⟨k, e, q⟩ => ?_) fun _ _ z => z
  subst e
  cases k <;> simpa using q
/-! tests -/
theorem x_tV {a : EM} (h : wR (a L S) (fun x S1 => ∃ k, x = .bl k ∧ QB k S1) E) : wR (tV a L S) QB E := by
  rw [wR_tV]
  exact wR_mono h (fun x S1 ⟨i, e, q⟩ => by subst e; exact q) fun _ _ z => z
theorem x_tNot {a : BM} (h : wR (a L S) (fun c S1 => QB (!c) S1) E) : wR (tNot a L S) QB E := by rw [wR_tNot]; exact h
theorem x_tYes (h : QB true S) : wR (tYes L S) QB E := h
theorem x_tAnd {a b : BM} (h : wR (a L S) (fun c S1 => if c = true then wR (b L S1) QB E else QB false S1) E) : wR (tAnd a b L S) QB E := by rw [wR_tAnd]; exact h
theorem x_tOr {a b : BM} (h : wR (a L S) (fun c S1 => if c = true then QB true S1 else wR (b L S1) QB E) E) : wR (tOr a b L S) QB E := by rw [wR_tOr]; exact h
/-- both are looked at, nothing changes -/
theorem x_tAnd2 {a b : BM} {p q : Bool} (ha : wR (a L S) (fun c S1 => S1 = S ∧ c = p) Fl2) (hb : p = true → wR (b L S) (fun c S1 => S1 = S ∧ c = q) Fl2) (h : QB (p && q) S) : wR (tAnd a b L S) QB E := by
  refine x_tAnd (wR_mono ha (fun c S1 ⟨e1, e2⟩ => ?_) fun _ _ z => z.elim)
  subst e1 e2
  cases c with
  | false => simpa using h
  | true =>
    rw [if_pos rfl]
    refine wR_mono (hb rfl) (fun d S2 ⟨e1, e2⟩ => ?_) fun _ _ z => z.elim
    subst e1 e2
    simpa using h
theorem x_tOr2 {a b : BM} {p q : Bool} (ha : wR (a L S) (fun c S1 => S1 = S ∧ c = p) Fl2) (hb : p = false → wR (b L S) (fun c S1 => S1 = S ∧ c = q) Fl2) (h : QB (p || q) S) : wR (tOr a b L S) QB E := by
  refine x_tOr (wR_mono ha (fun c S1 ⟨e1, e2⟩ => ?_) fun _ _ z => z.elim)
  subst e1 e2
  cases c with
  | true => simpa using h
  | false =>
    rw [if_neg (by simp)]
    refine wR_mono (hb rfl) (fun d S2 ⟨e1, e2⟩ => ?_) fun _ _ z => z.elim
    subst e1 e2
    simpa using h
theorem x_ite {p : Prop} [Decidable p] {A B : Prop} (h1 : p → A) (h2 : ¬ p → B) : if decide p = true then A else B := by
  by_cases h : p
  · simp [h, h1 h]
  · simp [h, h2 h]
theorem x_iteb {b : Bool} {A B : Prop} (h1 : b = true → A) (h2 : b = false → B) : if b = true then A else B := by
  cases b
  · simpa using h2 rfl
  · simpa using h1 rfl
theorem x_itn {p : Prop} [Decidable p] {A B : Prop} (h1 : ¬ p → A) (h2 : p → B) : if (!decide p) = true then A else B := by
  by_cases h : p
  · simp [h, h2 h]
  · simp [h, h1 h]
theorem x_itY {b : Bool} {A B : Prop} (e : b = true) (h : A) : if b = true then A else B := by rw [if_pos e]; exact h
theorem x_itN {b : Bool} {A B : Prop} (e : b = false) (h : B) : if b = true then A else B := by rw [e]; simpa using h
theorem x_itT {A B : Prop} (h : A) : if true = true then A else B := by simpa using h
theorem x_itF {A B : Prop} (h : B) : if false = true then A else B := by simpa using h
/-! operations on plain values -/
theorem x_addI {i j : Int} (h : Q (.int (i + j)) S) : wR (opAdd (.int i) (.int j) S) Q E := h
theorem x_subI {i j : Int} (h : Q (.int (i - j)) S) : wR (opSub (.int i) (.int j) S) Q E := h
theorem x_cmp {f : Int → Int → Bool} {i j : Int} (h : Q (.bl (f i j)) S) : wR (opCmp f (.int i) (.int j) S) Q E := h
theorem x_negI {i : Int} (h : Q (.int (-i)) S) : wR (opNeg (.int i) S) Q E := h
theorem x_addT {a b : List D} (hl : a.length + b.length ≤ sz) (h : Q (.tup (a ++ b)) S) : wR (opAdd (.tup a) (.tup b) S) Q E := by
  rw [opAdd_t, if_pos hl]; exact h
theorem x_mulI {i j : Int} (hl : mulOk i j = true) (h : Q (.int (i * j)) S) : wR (opMul (.int i) (.int j) S) Q E := by
  rw [opMul_i, if_pos hl]; exact h
theorem x_isN {d : D} (h : Q (.bl (decide (d = .non))) S) : wR (opIsN d S) Q E := h
theorem x_notN {d : D} (h : Q (.bl (!decide (d = .non))) S) : wR (opNotN d S) Q E := h
theorem x_eqI {i j : Int} (h : Q (.bl (decide (i = j))) S) : wR (opEq (.int i) (.int j) S) Q E := by rw [opEq_i]; exact h
theorem x_neI {i j : Int} (h : Q (.bl (!decide (i = j))) S) : wR (opNe (.int i) (.int j) S) Q E := by rw [opNe_i]; exact h
theorem x_eqP {x y : D} (hx : pl 20 x = true) (hy : pl 20 y = true) (h : Q (.bl (decide (x = y))) S) : wR (opEq x y S) Q E := by rw [opEq_pl hx hy]; exact h
theorem x_neP {x y : D} (hx : pl 20 x = true) (hy : pl 20 y = true) (h : Q (.bl (!decide (x = y))) S) : wR (opNe x y S) Q E := by rw [opNe_pl hx hy]; exact h
theorem x_ixT {xs : List D} {i : Int} {d : D} (e : atI xs i = some d) (h : Q d S) : wR (opIx (.tup xs) (.int i) S) Q E := by rw [opIx_t, e]; exact h
theorem x_slT {xs : List D} {lo hi : Option Int} (h : Q (.tup (cut xs lo hi)) S) : wR (opSl (.tup xs) lo hi S) Q E := h
theorem x_lenT {xs : List D} (h : Q (.int xs.length) S) : wR (fLen [.tup xs] S) Q E := h
theorem x_lenS {z : List Nat} (hz : z.length ≤ sz) (h : Q (.int z.length) S) : wR (fLen [.str z] S) Q E := by simp only [fLen, if_pos hz]; exact h
theorem x_min2 {i j : Int} (h : Q (.int (if j < i then j else i)) S) : wR (fMin2 [.int i, .int j] S) Q E := h
theorem x_max2 {i j : Int} (h : Q (.int (if j > i then j else i)) S) : wR (fMax2 [.int i, .int j] S) Q E := h
theorem x_isi {T t : String} {x : D} (e : tyNm S x = some t) (h : Q (.bl (decide (t = T) || (decide (t = "bool") && decide (T = "int")))) S) : wR (opIsi T x S) Q E := by
  unfold opIsi
  rw [e]
  exact h
/-! operations on what is owned -/
variable {l r : List Asn}
theorem x_mkO {o : Ob} (H : St l S) (h : ∀ n S', St (pt n o :: l) S' → Q (.ref n) S') : wR (mkO o S) Q E := h _ _ (H.alloc o)
theorem x_mkI {c : Nat} {F : Fn} {xs : List D} (H : St l S) (h : ∀ n S', St (pt n (.ins c []) :: l) S' → wR (F (.ref n :: xs) S') (fun v S3 => v = .non ∧ Q (.ref n) S3) E) : wR (mkI c F xs S) Q E := by
  unfold mkI
  rw [wR_bind]
  refine wR_mono (h _ _ (H.alloc _)) (fun v S3 ⟨e, q⟩ => ?_) fun _ _ z => z
  rw [if_pos e]
  exact q
theorem x_fld {c f n : Nat} {fs : List (Nat × D)} {d : D} (H : St l S) (p : Pick (pt n (.ins c fs)) l r) (e : fget f fs = some d) (h : Q d S) : wR (opFld c f (.ref n) S) Q E := by
  rw [opFld_r (H.rd p) e]; exact h
theorem x_setF {c f n : Nat} {d : D} {fs fs' : List (Nat × D)} (H : St l S) (p : Pick (pt n (.ins c fs)) l r) (e : fput f d fs = fs') (hl : Nat.ble fs.length 999 = true) (h : ∀ S', St (pt n (.ins c fs') :: r) S' → QL L S') : wR (setFl c f d (.ref n) L S) QL E := by
  subst e
  have := Nat.le_of_ble_eq_true hl
  simp only [setFl, H.rd p]
  rw [if_pos (And.intro trivial (by omega))]
  exact h _ ((H.pk p).set _)
theorem x_ins {c m n : Nat} {fs : List (Nat × D)} (H : St l S) (p : Pick (pt n (.ins c fs)) l r) (e : fget m fs = none) : insOk S n c m := ⟨fs, H.rd p, e⟩
theorem x_ixL {n : Nat} {xs : List D} {i : Int} {d : D} (H : St l S) (p : Pick (pt n (.lst xs)) l r) (e : atI xs i = some d) (h : Q d S) : wR (opIx (.ref n) (.int i) S) Q E := by
  rw [opIx_r (H.rd p), e]; exact h
theorem x_lenL {n : Nat} {xs : List D} (H : St l S) (p : Pick (pt n (.lst xs)) l r) (h : Q (.int xs.length) S) : wR (fLen [.ref n] S) Q E := by
  rw [fLen_r (H.rd p)]; exact h
theorem x_listL {n : Nat} {xs : List D} (H : St l S) (p : Pick (pt n (.lst xs)) l r) (h : ∀ m S', St (pt m (.lst xs) :: l) S' → Q (.ref m) S') : wR (fList [.ref n] S) Q E := by
  rw [fList_r (H.rd p)]; exact h _ _ (H.alloc _)
theorem x_listT {xs : List D} (H : St l S) (h : ∀ m S', St (pt m (.lst xs) :: l) S' → Q (.ref m) S') : wR (fList [.tup xs] S) Q E := h _ _ (H.alloc _)
theorem x_tupL {n : Nat} {xs : List D} (H : St l S) (p : Pick (pt n (.lst xs)) l r) (h : Q (.tup xs) S) : wR (fTuple [.ref n] S) Q E := by
  rw [fTuple_r (H.rd p)]; exact h
theorem x_addL {n m : Nat} {xs ys : List D} {r' : List Asn} (H : St l S) (p : Pick (pt n (.lst xs)) l r) (p' : Pick (pt m (.lst ys)) l r') (hl : xs.length + ys.length ≤ sz) (h : ∀ k S', St (pt k (.lst (xs ++ ys)) :: l) S' → Q (.ref k) S') : wR (opAdd (.ref n) (.ref m) S) Q E := by
  rw [opAdd_r (H.rd p) (H.rd p'), if_pos hl]; exact h _ _ (H.alloc _)
theorem x_slL {n : Nat} {xs : List D} {lo hi : Option Int} (H : St l S) (p : Pick (pt n (.lst xs)) l r) (h : ∀ m S', St (pt m (.lst (cut xs lo hi)) :: l) S' → Q (.ref m) S') : wR (opSl (.ref n) lo hi S) Q E := by
  rw [opSl_r (H.rd p)]; exact h _ _ (H.alloc _)
theorem x_tyL {n : Nat} {xs : List D} (H : St l S) (p : Pick (pt n (.lst xs)) l r) : tyNm S (.ref n) = some "list" := by simp only [tyNm, H.rd p]
theorem x_tyD {n : Nat} {t : Bool} {xs : List (D × D)} (H : St l S) (p : Pick (pt n (.dic t false xs)) l r) : tyNm S (.ref n) = some "dict" := by simp only [tyNm, H.rd p]
theorem x_append {n : Nat} {xs : List D} {y : D} (H : St l S) (p : Pick (pt n (.lst xs)) l r) (hl : xs.length < sz) (h : ∀ S', St (pt n (.lst (xs ++ [y])) :: r) S' → Q .non S') : wR (fAppend [.ref n, y] S) Q E := by
  simp only [fAppend, H.rd p, if_pos hl]
  exact h _ ((H.pk p).set _)
theorem x_setL {n j : Nat} {i : Int} {v : D} {xs : List D} (H : St l S) (p : Pick (pt n (.lst xs)) l r) (e : ixN xs.length i = some j) (h : ∀ S', St (pt n (.lst (xs.set j v)) :: r) S' → QU () S') : wR (setL (.ref n) (.int i) v S) QU E := by
  rw [setL_r (H.rd p) e]
  exact h _ ((H.pk p).set _)
theorem x_popAt {n : Nat} {y : D} {xs : List D} (H : St l S) (p : Pick (pt n (.lst (y :: xs))) l r) (h : ∀ S', St (pt n (.lst xs) :: r) S' → Q y S') : wR (fPopAt [.ref n, .int 0] S) Q E := by
  simp only [fPopAt, H.rd p, if_true]
  exact h _ ((H.pk p).set _)
theorem x_eqL {n m : Nat} {xs ys : List D} {r' : List Asn} (H : St l S) (p : Pick (pt n (.lst xs)) l r) (p' : Pick (pt m (.lst ys)) l r') (hx : pls 20 xs = true) (hy : pls 20 ys = true) (h : Q (.bl (decide (xs = ys))) S) : wR (opEq (.ref n) (.ref m) S) Q E := by
  rw [opEq_l (.inl (H.rd p)) (.inl (H.rd p')) hx hy]; exact h
theorem x_neL {n m : Nat} {xs ys : List D} {r' : List Asn} (H : St l S) (p : Pick (pt n (.lst xs)) l r) (p' : Pick (pt m (.lst ys)) l r') (hx : pls 20 xs = true) (hy : pls 20 ys = true) (h : Q (.bl (!decide (xs = ys))) S) : wR (opNe (.ref n) (.ref m) S) Q E := by
  rw [opNe_l (.inl (H.rd p)) (.inl (H.rd p')) hx hy]; exact h
theorem x_dget {n : Nat} {t lk : Bool} {kvs : List (D × D)} {k d : D} (H : St l S) (p : Pick (pt n (.dic t lk kvs)) l r) (hk : keyOk t k = true) (e : kget k kvs = some d) (h : Q d S) : wR (opGet (.ref n) k S) Q E := by
  simp only [opGet, H.rd p, if_pos hk, e]; exact h
theorem x_inD {n : Nat} {t lk : Bool} {kvs : List (D × D)} {k : D} {b : Bool} (H : St l S) (p : Pick (pt n (.dic t lk kvs)) l r) (hk : keyOk t k = true) (e : (kget k kvs).isSome = b) (h : Q (.bl b) S) : wR (inD false k (.ref n) S) Q E := by
  simp only [inD, H.rd p, if_pos hk, e]; exact h
theorem x_ninD {n : Nat} {t lk : Bool} {kvs : List (D × D)} {k : D} {b : Bool} (H : St l S) (p : Pick (pt n (.dic t lk kvs)) l r) (hk : keyOk t k = true) (e : (kget k kvs).isSome = b) (h : Q (.bl (!b)) S) : wR (inD true k (.ref n) S) Q E := by
  simp only [inD, H.rd p, if_pos hk, e]; exact h
theorem x_setD {n : Nat} {t : Bool} {kvs : List (D × D)} {k v : D} (H : St l S) (p : Pick (pt n (.dic t false kvs)) l r) (hk : keyOk t k = true) (hl : kvs.length < sz) (h : ∀ S', St (pt n (.dic t false (kput k v kvs)) :: r) S' → QU () S') : wR (setD (.ref n) k v S) QU E := by
  simp only [setD, H.rd p, if_pos (And.intro hk hl)]
  exact h _ ((H.pk p).set _)
theorem x_popD {n : Nat} {kvs : List (D × D)} {k d : D} (H : St l S) (p : Pick (pt n (.dic true false kvs)) l r) (hk : keyOk true k = true) (e : kget k kvs = some d) (h : ∀ S', St (pt n (.dic true false (kdrop k kvs)) :: r) S' → Q d S') : wR (fPop1 [.ref n, k] S) Q E := by
  simp only [fPop1, H.rd p, if_pos hk, e]
  exact h _ ((H.pk p).set _)
theorem x_lenD {n : Nat} {kvs : List (D × D)} (H : St l S) (p : Pick (pt n (.dic true false kvs)) l r) (h : Q (.int kvs.length) S) : wR (fLenDT [.ref n] S) Q E := by
  simp only [fLenDT, H.rd p]; exact h
/-! what is walked -/
variable {QW : Wk → Sto → Prop}
def wkL (x : D) (S : Sto) : R Wk := match x with
  | .ref n => (match S[n]? with
    | some (.lst xs) => .ok ⟨xs, fun S => decide (S[n]? = some (.lst xs))⟩ S
    | _ => .err)
  | _ => .err
theorem x_wLst {a : EM} (h : wR (a L S) (fun x S1 => wR (wkL x S1) QW E) E) : wR (wLst a L S) QW E := by
  unfold wLst
  rw [wR_bind]
  exact h
theorem x_wkL {n : Nat} {xs : List D} (H : St l S) (p : Pick (pt n (.lst xs)) l r) (h : QW ⟨xs, fun S => decide (S[n]? = some (.lst xs))⟩ S) : wR (wkL (.ref n) S) QW E := by
  simp only [wkL, H.rd p]
  exact h
theorem x_wTup {a : EM} (h : wR (a L S) (fun x S1 => ∃ xs, x = .tup xs ∧ QW ⟨xs, fun _ => true⟩ S1) E) : wR (wTup a L S) QW E := wR_wTup h
theorem x_wStr {a : EM} (h : wR (a L S) (fun x S1 => ∃ z, x = .str z ∧ QW ⟨z.map fun c => .str [c], fun _ => true⟩ S1) E) : wR (wStr a L S) QW E := wR_wStr h
theorem x_wRng1 {a : EM} (h : wR (a L S) (fun x S1 => ∃ j, x = .int j ∧ (-(2 ^ 62) ≤ j ∧ j < 2 ^ 62) ∧ QW ⟨rngD 0 j.toNat, fun _ => true⟩ S1) E) : wR (wRng1 a L S) QW E := wR_wRng1 h
end
/-! loops -/
/-- a loop that folds: what is walked are the g z -/
theorem x_fold {α σ : Type} {chk : Sto → Bool} {tg : TM} {body : SM} {nx bk ct : Loc → Sto → Prop} {rt : D → Sto → Prop} {exx : Exc → Loc → Sto → Prop} {L : Loc} {S : Sto} (g : α → D) (f : σ → α → σ) (I : σ → Loc → Sto → Prop) {zs : List α} {s0 : σ} {its : List D} (hi : its = zs.map g) (hc : ∀ s L S, I s L S → chk S = true)
    (h0 : I s0 L S) (hs : ∀ pre z post L S, zs = pre ++ z :: post → I (pre.foldl f s0) L S → wR (tg (g z) L S) (fun L1 S1 => wS (body L1 S1) ⟨I (f (pre.foldl f s0) z), rt, fun _ _ => False, I (f (pre.foldl f s0) z), exx⟩) Fl2) (q : ∀ L S, I (zs.foldl f s0) L S → nx L S) : wS (forL chk tg body its L S) ⟨nx, rt, bk, ct, exx⟩ := by
  subst hi
  refine forL_inv (I := fun ys L S => ∃ pre us, ys = us.map g ∧ zs = pre ++ us ∧ I (pre.foldl f s0) L S) (fun ys L S ⟨s, us, _, _, h⟩ => hc _ _ _ h) ?_ ?_ ⟨[], zs, rfl, rfl, h0⟩
  · rintro L S ⟨pre, us, e, e2, h⟩
    cases us with
    | nil => rw [List.append_nil] at e2; subst e2; exact q _ _ h
    | cons u us => cases e
  · rintro y ys L S ⟨pre, us, e, e2, h⟩
    cases us with
    | nil => cases e
    | cons u us =>
      rw [List.map_cons] at e
      cases e
      refine wR_mono (hs pre u us L S e2 h) (fun L1 S1 w => ?_) fun _ _ z => z.elim
      have e3 : zs = (pre ++ [u]) ++ us := by rw [e2]; simp
      have e4 : (pre ++ [u]).foldl f s0 = f (pre.foldl f s0) u := by rw [List.foldl_append]; rfl
      exact wS_mono w (fun L2 S2 i => ⟨pre ++ [u], us, rfl, e3, by rw [e4]; exact i⟩) (fun _ _ z => z) (fun _ _ z => z.elim) (fun L2 S2 i => ⟨pre ++ [u], us, rfl, e3, by rw [e4]; exact i⟩) fun _ _ _ z => z
/-- a comprehension that changes nothing -/
theorem x_lc {α : Type} {chk : Sto → Bool} {tg : TM} {t : BM} {e : EM} {L : Loc} {S : Sto} {l : List Asn} {Q : D → Sto → Prop} {E : Exc → Sto → Prop} (H : St l S) (g : α → D) (p : α → Bool) (f : α → D) {zs : List α} {its : List D} (hi : its = zs.map g)
    (hz : zs.length ≤ sz) (hc : ∀ S', St l S' → chk S' = true)
    (hs : ∀ z ∈ zs, ∀ m acc S', St (pt m (.lst acc) :: l) S' → wR (tg (g z) L S') (fun L1 S1 => S1 = S' ∧ wR (t L1 S') (fun b S2 => S2 = S' ∧ b = p z ∧ Whn (p z) (wR (e L1 S') (fun y S3 => S3 = S' ∧ y = f z) Fl2)) Fl2) Fl2)
    (q : ∀ m S', St (pt m (.lst ((zs.filter p).map f)) :: l) S' → Q (.ref m) S') : wR (lcL chk tg t e L S.length its (S ++ [.lst []])) Q E := by
  subst hi
  refine lcL_inv (I := fun ys acc S' => ∃ us ws, ys = us.map g ∧ ws ++ us = zs ∧ acc = (ws.filter p).map f ∧ St (pt S.length (.lst acc) :: l) S') (fun ys acc S' ⟨us, ws, _, _, _, h⟩ => ⟨hc _ h.tl, h.at⟩) ?_ ?_ ⟨zs, [], rfl, rfl, rfl, H.alloc _⟩
  · rintro acc S' ⟨us, ws, e, e2, e3, h⟩
    cases us with
    | nil =>
      rw [List.append_nil] at e2
      subst e2 e3
      exact q _ _ h
    | cons u us => cases e
  · rintro y ys acc S' ⟨us, ws, e, e2, e3, h⟩
    cases us with
    | nil => cases e
    | cons u us =>
      rw [List.map_cons] at e
      cases e
      refine wR_mono (hs u (by rw [← e2]; simp) _ acc S' h) (fun L1 S1 ⟨z1, w⟩ => ?_) fun _ _ z => z
      subst z1
      refine wR_mono w (fun b S2 ⟨z2, z3, w⟩ => ?_) fun _ _ z => z
      subst z2
      have e2' : (ws ++ [u]) ++ us = zs := by rw [← e2]; simp
      cases hb : p u with
      | true =>
        rw [z3, hb, if_pos rfl]
        refine wR_mono (w hb) (fun y S3 ⟨z4, z5⟩ => ?_) fun _ _ z => z
        subst z4
        have ln : acc.length < sz := by
          rw [e3, List.length_map]
          have h1 : (ws.filter p).length ≤ ws.length := List.length_filter_le _ _
          have h2 : ws.length + (us.length + 1) = zs.length := by rw [← e2]; simp
          omega
        exact ⟨acc, h.at, ln, us, ws ++ [u], rfl, e2', by rw [e3, z5, List.filter_append]; simp [List.filter_cons, hb], h.set _⟩
      | false =>
        rw [z3, hb, if_neg (by simp)]
        exact ⟨us, ws ++ [u], rfl, e2', by rw [e3, List.filter_append]; simp [List.filter_cons, hb], h⟩
end MP

namespace MP
open PySem (PyData)
@[irreducible] def xR {α : Type} (r : R α) (Q : α → Sto → Prop) (E : Exc → Sto → Prop) : Prop := wR r Q E
@[irreducible] def xS (r : RS) (K : En) : Prop := wS r K
theorem xR_eq {α : Type} (r : R α) (Q : α → Sto → Prop) (E : Exc → Sto → Prop) : xR r Q E = wR r Q E := by unfold xR; rfl
theorem xS_eq (r : RS) (K : En) : xS r K = wS r K := by unfold xS; rfl
section
variable {L L' : Loc} {S : Sto} {Q : D → Sto → Prop} {QB : Bool → Sto → Prop} {QA : List D → Sto → Prop} {QL : Loc → Sto → Prop} {QP : Option Int → Sto → Prop} {QU : Unit → Sto → Prop} {E : Exc → Sto → Prop} {K : En}
variable {nx bk ct : Loc → Sto → Prop} {rt : D → Sto → Prop} {ex : Exc → Loc → Sto → Prop}
theorem sx_seq {a b : SM} (h : xS (a L S) ⟨fun L1 S1 => xS (b L1 S1) ⟨nx, rt, bk, ct, ex⟩, rt, bk, ct, ex⟩) : xS (sSeq a b L S) ⟨nx, rt, bk, ct, ex⟩ := by
  simp only [xR_eq, xS_eq] at *
  exact x_seq h
theorem sx_nx (h : nx L S) : xS (sNx L S) ⟨nx, rt, bk, ct, ex⟩ := by
  simp only [xR_eq, xS_eq] at *
  exact x_nx h
theorem sx_expr {a : EM} (h : xR (a L S) (fun _ S1 => nx L S1) (fun x S => ex x L S)) : xS (sExpr a L S) ⟨nx, rt, bk, ct, ex⟩ := by
  simp only [xR_eq, xS_eq] at *
  exact x_expr h
theorem sx_ret {a : EM} (h : xR (a L S) rt (fun x S => ex x L S)) : xS (sRet a L S) ⟨nx, rt, bk, ct, ex⟩ := by
  simp only [xR_eq, xS_eq] at *
  exact x_ret h
theorem sx_retN (h : rt .non S) : xS (sRetN L S) ⟨nx, rt, bk, ct, ex⟩ := by
  simp only [xR_eq, xS_eq] at *
  exact x_retN h
theorem sx_brk (h : bk L S) : xS (sBrk L S) ⟨nx, rt, bk, ct, ex⟩ := by
  simp only [xR_eq, xS_eq] at *
  exact x_brk h
theorem sx_cnt (h : ct L S) : xS (sCnt L S) ⟨nx, rt, bk, ct, ex⟩ := by
  simp only [xR_eq, xS_eq] at *
  exact x_cnt h
theorem sx_if {t : BM} {a b : SM} (h : xR (t L S) (fun c S1 => if c = true then xS (a L S1) ⟨nx, rt, bk, ct, ex⟩ else xS (b L S1) ⟨nx, rt, bk, ct, ex⟩) (fun x S => ex x L S)) : xS (sIf t a b L S) ⟨nx, rt, bk, ct, ex⟩ := by
  simp only [xR_eq, xS_eq] at *
  exact x_if h
theorem sx_asg {a : EM} {t : TM} (h : xR (a L S) (fun d S1 => xR (t d L S1) nx (fun _ _ => False)) (fun x S => ex x L S)) : xS (sAsg a t L S) ⟨nx, rt, bk, ct, ex⟩ := by
  simp only [xR_eq, xS_eq] at *
  exact x_asg h
theorem sx_raise {c : Nat} {as : AM} (h : xR (as L S) (fun xs S1 => ex ⟨c, xs⟩ L S1) (fun x S => ex x L S)) : xS (sRaise c as L S) ⟨nx, rt, bk, ct, ex⟩ := by
  simp only [xR_eq, xS_eq] at *
  exact x_raise h
theorem sx_for {w : WM} {tg : TM} {body : SM} (h : xR (w L S) (fun k S1 => xS (forL k.chk tg body k.items L S1) ⟨nx, rt, bk, ct, ex⟩) (fun x S => ex x L S)) : xS (sFor w tg body L S) ⟨nx, rt, bk, ct, ex⟩ := by
  simp only [xR_eq, xS_eq] at *
  exact x_for h
theorem sx_fn {np nl : Nat} {body : SM} {ds : List D} (hl : ds.length = np) (e : ds.map some ++ List.replicate (nl - np) none = L) (h : xS (body L S) ⟨fun _ S1 => Q .non S1, Q, fun _ _ => False, fun _ _ => False, fun x _ S => E x S⟩) : xR (fn np nl body ds S) Q E := by
  simp only [xR_eq, xS_eq] at *
  exact x_fn hl e h
theorem sx_gV {i : Nat} {d : D} (e : L.set i (some d) = L') (h : QL L' S) : xR (gV i d L S) QL E := by
  simp only [xR_eq, xS_eq] at *
  exact x_gV e h
theorem sx_gTup {n : Nat} {u : List D → Loc → Sto → R Loc} {ds : List D} (e : ds.length = n) (h : xR (u ds L S) QL E) : xR (gTup n u (.tup ds) L S) QL E := by
  simp only [xR_eq, xS_eq] at *
  exact x_gTup e h
theorem sx_gCons {t : TM} {u : List D → Loc → Sto → R Loc} {d : D} {ds : List D} (h : xR (t d L S) (fun L1 S1 => xR (u ds L1 S1) QL E) E) : xR (gCons t u (d :: ds) L S) QL E := by
  simp only [xR_eq, xS_eq] at *
  exact x_gCons h
theorem sx_gNil (h : QL L S) : xR (gNil [] L S) QL E := by
  simp only [xR_eq, xS_eq] at *
  exact x_gNil h
theorem sx_gFld {c f : Nat} {o : EM} {d : D} (h : xR (o L S) (fun x S1 => xR (setFl c f d x L S1) QL E) E) : xR (gFld c f o d L S) QL E := by
  simp only [xR_eq, xS_eq] at *
  exact x_gFld h
theorem sx_gSub {f : Set2} {o i : EM} {d : D} (h : xR (o L S) (fun x S1 => xR (i L S1) (fun y S2 => xR (f x y d S2) (fun _ S3 => QL L S3) E) E) E) : xR (gSub f o i d L S) QL E := by
  simp only [xR_eq, xS_eq] at *
  exact x_gSub h
theorem sx_C {d : D} (h : Q d S) : xR (eC d L S) Q E := by
  simp only [xR_eq, xS_eq] at *
  exact x_C h
theorem sx_V {i : Nat} {d : D} (e : L[i]? = some (some d)) (h : Q d S) : xR (eV i L S) Q E := by
  simp only [xR_eq, xS_eq] at *
  exact x_V e h
theorem sx_Un {f : Op1} {a : EM} (h : xR (a L S) (fun x S1 => xR (f x S1) Q E) E) : xR (eUn f a L S) Q E := by
  simp only [xR_eq, xS_eq] at *
  exact x_Un h
theorem sx_Bin {f : Op2} {a b : EM} (h : xR (a L S) (fun x S1 => xR (b L S1) (fun y S2 => xR (f x y S2) Q E) E) E) : xR (eBin f a b L S) Q E := by
  simp only [xR_eq, xS_eq] at *
  exact x_Bin h
theorem sx_If {t : BM} {a b : EM} (h : xR (t L S) (fun c S1 => if c = true then xR (a L S1) Q E else xR (b L S1) Q E) E) : xR (eIf t a b L S) Q E := by
  simp only [xR_eq, xS_eq] at *
  exact x_If h
theorem sx_aNil (h : QA [] S) : xR (aNil L S) QA E := by
  simp only [xR_eq, xS_eq] at *
  exact x_aNil h
theorem sx_aCons {a : EM} {as : AM} (h : xR (a L S) (fun x S1 => xR (as L S1) (fun xs S2 => QA (x :: xs) S2) E) E) : xR (aCons a as L S) QA E := by
  simp only [xR_eq, xS_eq] at *
  exact x_aCons h
theorem sx_Tup {as : AM} (h : xR (as L S) (fun xs S1 => Nat.ble xs.length 1000 = true ∧ Q (.tup xs) S1) E) : xR (eTup as L S) Q E := by
  simp only [xR_eq, xS_eq] at *
  exact x_Tup h
theorem sx_Lst {as : AM} (h : xR (as L S) (fun xs S1 => Nat.ble xs.length 1000 = true ∧ xR (mkO (.lst xs) S1) Q E) E) : xR (eLst as L S) Q E := by
  simp only [xR_eq, xS_eq] at *
  exact x_Lst h
theorem sx_Dic {t : Bool} (h : xR (mkO (.dic t false []) S) Q E) : xR (eDic t L S) Q E := by
  simp only [xR_eq, xS_eq] at *
  exact x_Dic h
theorem sx_Call {F : Fn} {as : AM} (h : xR (as L S) (fun xs S1 => xR (F xs S1) Q E) E) : xR (eCall F as L S) Q E := by
  simp only [xR_eq, xS_eq] at *
  exact x_Call h
theorem sx_Meth {c mi : Nat} {F : Fn} {o : EM} {as : AM} (h : xR (o L S) (fun x S1 => ∃ n, x = .ref n ∧ insOk S1 n c mi ∧ xR (as L S1) (fun xs S2 => xR (F (.ref n :: xs) S2) Q E) E) E) : xR (eMeth c mi F o as L S) Q E := by
  simp only [xR_eq, xS_eq] at *
  exact x_Meth h
theorem sx_Make {c : Nat} {F : Fn} {as : AM} (h : xR (as L S) (fun xs S1 => xR (mkI c F xs S1) Q E) E) : xR (eMake c F as L S) Q E := by
  simp only [xR_eq, xS_eq] at *
  exact x_Make h
theorem sx_MakeK {c n m : Nat} {F : Fn} {gD : List D → List D → List D} {as ks : AM} (h : xR (as L S) (fun xs S1 => xR (ks L S1) (fun zs S2 => xs.length = n ∧ zs.length = m ∧ xR (mkI c F (gD xs zs) S2) Q E) E) E) : xR (eMakeK c n m F gD as ks L S) Q E := by
  simp only [xR_eq, xS_eq] at *
  exact x_MakeK h
theorem sx_Sl {a : EM} {lo hi : PM} (h : xR (a L S) (fun x S1 => xR (lo L S1) (fun l S2 => xR (hi L S2) (fun h S3 => xR (opSl x l h S3) Q E) E) E) E) : xR (eSl a lo hi L S) Q E := by
  simp only [xR_eq, xS_eq] at *
  exact x_Sl h
theorem sx_pNo (h : QP none S) : xR (pNo L S) QP E := by
  simp only [xR_eq, xS_eq] at *
  exact x_pNo h
theorem sx_pSome {a : EM} (h : xR (a L S) (fun x S1 => ∃ i, x = .int i ∧ QP (some i) S1) E) : xR (pSome a L S) QP E := by
  simp only [xR_eq, xS_eq] at *
  exact x_pSome h
theorem sx_BM {t : String} {F : Fn} {o : EM} {as : AM} (h : xR (o L S) (fun x S1 => tyNm S1 x = some t ∧ xR (as L S1) (fun xs S2 => xR (F (x :: xs) S2) Q E) E) E) : xR (eBM t F o as L S) Q E := by
  simp only [xR_eq, xS_eq] at *
  exact x_BM h
theorem sx_Lc {w : WM} {tg : TM} {t : BM} {e : EM} {vs : List Nat} (h : xR (w L S) (fun k S1 => xR (lcL k.chk tg t e (wipe L vs) S1.length k.items (S1 ++ [.lst []])) Q E) E) : xR (eLc w tg t e vs L S) Q E := by
  simp only [xR_eq, xS_eq] at *
  exact x_Lc h
theorem sx_Not {a : EM} (h : xR (a L S) (fun x S1 => ∃ k, x = .bl k ∧ Q (.bl (!k)) S1) E) : xR (eNot a L S) Q E := by
  simp only [xR_eq, xS_eq] at *
  exact x_Not h
theorem sx_And {a b : EM} (h : xR (a L S) (fun x S1 => ∃ k, x = .bl k ∧ if k = true then xR (b L S1) Q E else Q (.bl false) S1) E) : xR (eAnd a b L S) Q E := by
  simp only [xR_eq, xS_eq] at *
  exact x_And h
theorem sx_Or {a b : EM} (h : xR (a L S) (fun x S1 => ∃ k, x = .bl k ∧ if k = true then Q (.bl true) S1 else xR (b L S1) Q E) E) : xR (eOr a b L S) Q E := by
  simp only [xR_eq, xS_eq] at *
  exact x_Or h
theorem sx_tV {a : EM} (h : xR (a L S) (fun x S1 => ∃ k, x = .bl k ∧ QB k S1) E) : xR (tV a L S) QB E := by
  simp only [xR_eq, xS_eq] at *
  exact x_tV h
theorem sx_tNot {a : BM} (h : xR (a L S) (fun c S1 => QB (!c) S1) E) : xR (tNot a L S) QB E := by
  simp only [xR_eq, xS_eq] at *
  exact x_tNot h
theorem sx_tYes (h : QB true S) : xR (tYes L S) QB E := by
  simp only [xR_eq, xS_eq] at *
  exact x_tYes h
theorem sx_tAnd {a b : BM} (h : xR (a L S) (fun c S1 => if c = true then xR (b L S1) QB E else QB false S1) E) : xR (tAnd a b L S) QB E := by
  simp only [xR_eq, xS_eq] at *
  exact x_tAnd h
theorem sx_tOr {a b : BM} (h : xR (a L S) (fun c S1 => if c = true then QB true S1 else xR (b L S1) QB E) E) : xR (tOr a b L S) QB E := by
  simp only [xR_eq, xS_eq] at *
  exact x_tOr h
theorem sx_tAnd2 {a b : BM} {p q : Bool} (ha : xR (a L S) (fun c S1 => S1 = S ∧ c = p) Fl2) (hb : p = true → xR (b L S) (fun c S1 => S1 = S ∧ c = q) Fl2) (h : QB (p && q) S) : xR (tAnd a b L S) QB E := by
  simp only [xR_eq, xS_eq] at *
  exact x_tAnd2 ha hb h
theorem sx_tOr2 {a b : BM} {p q : Bool} (ha : xR (a L S) (fun c S1 => S1 = S ∧ c = p) Fl2) (hb : p = false → xR (b L S) (fun c S1 => S1 = S ∧ c = q) Fl2) (h : QB (p || q) S) : xR (tOr a b L S) QB E := by
  simp only [xR_eq, xS_eq] at *
  exact x_tOr2 ha hb h
theorem sx_addI {i j : Int} (h : Q (.int (i + j)) S) : xR (opAdd (.int i) (.int j) S) Q E := by
  simp only [xR_eq, xS_eq] at *
  exact x_addI h
theorem sx_subI {i j : Int} (h : Q (.int (i - j)) S) : xR (opSub (.int i) (.int j) S) Q E := by
  simp only [xR_eq, xS_eq] at *
  exact x_subI h
theorem sx_cmp {f : Int → Int → Bool} {i j : Int} (h : Q (.bl (f i j)) S) : xR (opCmp f (.int i) (.int j) S) Q E := by
  simp only [xR_eq, xS_eq] at *
  exact x_cmp h
theorem sx_negI {i : Int} (h : Q (.int (-i)) S) : xR (opNeg (.int i) S) Q E := by
  simp only [xR_eq, xS_eq] at *
  exact x_negI h
theorem sx_addT {a b : List D} (hl : a.length + b.length ≤ sz) (h : Q (.tup (a ++ b)) S) : xR (opAdd (.tup a) (.tup b) S) Q E := by
  simp only [xR_eq, xS_eq] at *
  exact x_addT hl h
theorem sx_mulI {i j : Int} (hl : mulOk i j = true) (h : Q (.int (i * j)) S) : xR (opMul (.int i) (.int j) S) Q E := by
  simp only [xR_eq, xS_eq] at *
  exact x_mulI hl h
theorem sx_isN {d : D} (h : Q (.bl (decide (d = .non))) S) : xR (opIsN d S) Q E := by
  simp only [xR_eq, xS_eq] at *
  exact x_isN h
theorem sx_notN {d : D} (h : Q (.bl (!decide (d = .non))) S) : xR (opNotN d S) Q E := by
  simp only [xR_eq, xS_eq] at *
  exact x_notN h
theorem sx_eqI {i j : Int} (h : Q (.bl (decide (i = j))) S) : xR (opEq (.int i) (.int j) S) Q E := by
  simp only [xR_eq, xS_eq] at *
  exact x_eqI h
theorem sx_neI {i j : Int} (h : Q (.bl (!decide (i = j))) S) : xR (opNe (.int i) (.int j) S) Q E := by
  simp only [xR_eq, xS_eq] at *
  exact x_neI h
theorem sx_eqP {x y : D} (hx : pl 20 x = true) (hy : pl 20 y = true) (h : Q (.bl (decide (x = y))) S) : xR (opEq x y S) Q E := by
  simp only [xR_eq, xS_eq] at *
  exact x_eqP hx hy h
theorem sx_neP {x y : D} (hx : pl 20 x = true) (hy : pl 20 y = true) (h : Q (.bl (!decide (x = y))) S) : xR (opNe x y S) Q E := by
  simp only [xR_eq, xS_eq] at *
  exact x_neP hx hy h
theorem sx_ixT {xs : List D} {i : Int} {d : D} (e : atI xs i = some d) (h : Q d S) : xR (opIx (.tup xs) (.int i) S) Q E := by
  simp only [xR_eq, xS_eq] at *
  exact x_ixT e h
theorem sx_slT {xs : List D} {lo hi : Option Int} (h : Q (.tup (cut xs lo hi)) S) : xR (opSl (.tup xs) lo hi S) Q E := by
  simp only [xR_eq, xS_eq] at *
  exact x_slT h
theorem sx_lenT {xs : List D} (h : Q (.int xs.length) S) : xR (fLen [.tup xs] S) Q E := by
  simp only [xR_eq, xS_eq] at *
  exact x_lenT h
theorem sx_lenS {z : List Nat} (hz : z.length ≤ sz) (h : Q (.int z.length) S) : xR (fLen [.str z] S) Q E := by
  simp only [xR_eq, xS_eq] at *
  exact x_lenS hz h
theorem sx_min2 {i j : Int} (h : Q (.int (if j < i then j else i)) S) : xR (fMin2 [.int i, .int j] S) Q E := by
  simp only [xR_eq, xS_eq] at *
  exact x_min2 h
theorem sx_max2 {i j : Int} (h : Q (.int (if j > i then j else i)) S) : xR (fMax2 [.int i, .int j] S) Q E := by
  simp only [xR_eq, xS_eq] at *
  exact x_max2 h
theorem sx_isi {T t : String} {x : D} (e : tyNm S x = some t) (h : Q (.bl (decide (t = T) || (decide (t = "bool") && decide (T = "int")))) S) : xR (opIsi T x S) Q E := by
  simp only [xR_eq, xS_eq] at *
  exact x_isi e h
variable {l r : List Asn}
theorem sx_mkO {o : Ob} (H : St l S) (h : ∀ n S', St (pt n o :: l) S' → Q (.ref n) S') : xR (mkO o S) Q E := by
  simp only [xR_eq, xS_eq] at *
  exact x_mkO H h
theorem sx_mkI {c : Nat} {F : Fn} {xs : List D} (H : St l S) (h : ∀ n S', St (pt n (.ins c []) :: l) S' → xR (F (.ref n :: xs) S') (fun v S3 => v = .non ∧ Q (.ref n) S3) E) : xR (mkI c F xs S) Q E := by
  simp only [xR_eq, xS_eq] at *
  exact x_mkI H h
theorem sx_fld {c f n : Nat} {fs : List (Nat × D)} {d : D} (H : St l S) (p : Pick (pt n (.ins c fs)) l r) (e : fget f fs = some d) (h : Q d S) : xR (opFld c f (.ref n) S) Q E := by
  simp only [xR_eq, xS_eq] at *
  exact x_fld H p e h
theorem sx_setF {c f n : Nat} {d : D} {fs fs' : List (Nat × D)} (H : St l S) (p : Pick (pt n (.ins c fs)) l r) (e : fput f d fs = fs') (hl : Nat.ble fs.length 999 = true) (h : ∀ S', St (pt n (.ins c fs') :: r) S' → QL L S') : xR (setFl c f d (.ref n) L S) QL E := by
  simp only [xR_eq, xS_eq] at *
  exact x_setF H p e hl h
theorem sx_ixL {n : Nat} {xs : List D} {i : Int} {d : D} (H : St l S) (p : Pick (pt n (.lst xs)) l r) (e : atI xs i = some d) (h : Q d S) : xR (opIx (.ref n) (.int i) S) Q E := by
  simp only [xR_eq, xS_eq] at *
  exact x_ixL H p e h
theorem sx_lenL {n : Nat} {xs : List D} (H : St l S) (p : Pick (pt n (.lst xs)) l r) (h : Q (.int xs.length) S) : xR (fLen [.ref n] S) Q E := by
  simp only [xR_eq, xS_eq] at *
  exact x_lenL H p h
theorem sx_listL {n : Nat} {xs : List D} (H : St l S) (p : Pick (pt n (.lst xs)) l r) (h : ∀ m S', St (pt m (.lst xs) :: l) S' → Q (.ref m) S') : xR (fList [.ref n] S) Q E := by
  simp only [xR_eq, xS_eq] at *
  exact x_listL H p h
theorem sx_listT {xs : List D} (H : St l S) (h : ∀ m S', St (pt m (.lst xs) :: l) S' → Q (.ref m) S') : xR (fList [.tup xs] S) Q E := by
  simp only [xR_eq, xS_eq] at *
  exact x_listT H h
theorem sx_tupL {n : Nat} {xs : List D} (H : St l S) (p : Pick (pt n (.lst xs)) l r) (h : Q (.tup xs) S) : xR (fTuple [.ref n] S) Q E := by
  simp only [xR_eq, xS_eq] at *
  exact x_tupL H p h
theorem sx_addL {n m : Nat} {xs ys : List D} {r' : List Asn} (H : St l S) (p : Pick (pt n (.lst xs)) l r) (p' : Pick (pt m (.lst ys)) l r') (hl : xs.length + ys.length ≤ sz) (h : ∀ k S', St (pt k (.lst (xs ++ ys)) :: l) S' → Q (.ref k) S') : xR (opAdd (.ref n) (.ref m) S) Q E := by
  simp only [xR_eq, xS_eq] at *
  exact x_addL H p p' hl h
theorem sx_slL {n : Nat} {xs : List D} {lo hi : Option Int} (H : St l S) (p : Pick (pt n (.lst xs)) l r) (h : ∀ m S', St (pt m (.lst (cut xs lo hi)) :: l) S' → Q (.ref m) S') : xR (opSl (.ref n) lo hi S) Q E := by
  simp only [xR_eq, xS_eq] at *
  exact x_slL H p h
theorem sx_append {n : Nat} {xs : List D} {y : D} (H : St l S) (p : Pick (pt n (.lst xs)) l r) (hl : xs.length < sz) (h : ∀ S', St (pt n (.lst (xs ++ [y])) :: r) S' → Q .non S') : xR (fAppend [.ref n, y] S) Q E := by
  simp only [xR_eq, xS_eq] at *
  exact x_append H p hl h
theorem sx_setL {n j : Nat} {i : Int} {v : D} {xs : List D} (H : St l S) (p : Pick (pt n (.lst xs)) l r) (e : ixN xs.length i = some j) (h : ∀ S', St (pt n (.lst (xs.set j v)) :: r) S' → QU () S') : xR (setL (.ref n) (.int i) v S) QU E := by
  simp only [xR_eq, xS_eq] at *
  exact x_setL H p e h
theorem sx_popAt {n : Nat} {y : D} {xs : List D} (H : St l S) (p : Pick (pt n (.lst (y :: xs))) l r) (h : ∀ S', St (pt n (.lst xs) :: r) S' → Q y S') : xR (fPopAt [.ref n, .int 0] S) Q E := by
  simp only [xR_eq, xS_eq] at *
  exact x_popAt H p h
theorem sx_eqL {n m : Nat} {xs ys : List D} {r' : List Asn} (H : St l S) (p : Pick (pt n (.lst xs)) l r) (p' : Pick (pt m (.lst ys)) l r') (hx : pls 20 xs = true) (hy : pls 20 ys = true) (h : Q (.bl (decide (xs = ys))) S) : xR (opEq (.ref n) (.ref m) S) Q E := by
  simp only [xR_eq, xS_eq] at *
  exact x_eqL H p p' hx hy h
theorem sx_neL {n m : Nat} {xs ys : List D} {r' : List Asn} (H : St l S) (p : Pick (pt n (.lst xs)) l r) (p' : Pick (pt m (.lst ys)) l r') (hx : pls 20 xs = true) (hy : pls 20 ys = true) (h : Q (.bl (!decide (xs = ys))) S) : xR (opNe (.ref n) (.ref m) S) Q E := by
  simp only [xR_eq, xS_eq] at *
  exact x_neL H p p' hx hy h
theorem sx_dget {n : Nat} {t lk : Bool} {kvs : List (D × D)} {k d : D} (H : St l S) (p : Pick (pt n (.dic t lk kvs)) l r) (hk : keyOk t k = true) (e : kget k kvs = some d) (h : Q d S) : xR (opGet (.ref n) k S) Q E := by
  simp only [xR_eq, xS_eq] at *
  exact x_dget H p hk e h
theorem sx_inD {n : Nat} {t lk : Bool} {kvs : List (D × D)} {k : D} {b : Bool} (H : St l S) (p : Pick (pt n (.dic t lk kvs)) l r) (hk : keyOk t k = true) (e : (kget k kvs).isSome = b) (h : Q (.bl b) S) : xR (inD false k (.ref n) S) Q E := by
  simp only [xR_eq, xS_eq] at *
  exact x_inD H p hk e h
theorem sx_ninD {n : Nat} {t lk : Bool} {kvs : List (D × D)} {k : D} {b : Bool} (H : St l S) (p : Pick (pt n (.dic t lk kvs)) l r) (hk : keyOk t k = true) (e : (kget k kvs).isSome = b) (h : Q (.bl (!b)) S) : xR (inD true k (.ref n) S) Q E := by
  simp only [xR_eq, xS_eq] at *
  exact x_ninD H p hk e h
theorem sx_setD {n : Nat} {t : Bool} {kvs : List (D × D)} {k v : D} (H : St l S) (p : Pick (pt n (.dic t false kvs)) l r) (hk : keyOk t k = true) (hl : kvs.length < sz) (h : ∀ S', St (pt n (.dic t false (kput k v kvs)) :: r) S' → QU () S') : xR (setD (.ref n) k v S) QU E := by
  simp only [xR_eq, xS_eq] at *
  exact x_setD H p hk hl h
theorem sx_popD {n : Nat} {kvs : List (D × D)} {k d : D} (H : St l S) (p : Pick (pt n (.dic true false kvs)) l r) (hk : keyOk true k = true) (e : kget k kvs = some d) (h : ∀ S', St (pt n (.dic true false (kdrop k kvs)) :: r) S' → Q d S') : xR (fPop1 [.ref n, k] S) Q E := by
  simp only [xR_eq, xS_eq] at *
  exact x_popD H p hk e h
theorem sx_lenD {n : Nat} {kvs : List (D × D)} (H : St l S) (p : Pick (pt n (.dic true false kvs)) l r) (h : Q (.int kvs.length) S) : xR (fLenDT [.ref n] S) Q E := by
  simp only [xR_eq, xS_eq] at *
  exact x_lenD H p h
variable {QW : Wk → Sto → Prop}
theorem sx_wLst {a : EM} (h : xR (a L S) (fun x S1 => xR (wkL x S1) QW E) E) : xR (wLst a L S) QW E := by
  simp only [xR_eq, xS_eq] at *
  exact x_wLst h
theorem sx_wkL {n : Nat} {xs : List D} (H : St l S) (p : Pick (pt n (.lst xs)) l r) (h : QW ⟨xs, fun S => decide (S[n]? = some (.lst xs))⟩ S) : xR (wkL (.ref n) S) QW E := by
  simp only [xR_eq, xS_eq] at *
  exact x_wkL H p h
theorem sx_wTup {a : EM} (h : xR (a L S) (fun x S1 => ∃ xs, x = .tup xs ∧ QW ⟨xs, fun _ => true⟩ S1) E) : xR (wTup a L S) QW E := by
  simp only [xR_eq, xS_eq] at *
  exact x_wTup h
theorem sx_wStr {a : EM} (h : xR (a L S) (fun x S1 => ∃ z, x = .str z ∧ QW ⟨z.map fun c => .str [c], fun _ => true⟩ S1) E) : xR (wStr a L S) QW E := by
  simp only [xR_eq, xS_eq] at *
  exact x_wStr h
theorem sx_wRng1 {a : EM} (h : xR (a L S) (fun x S1 => ∃ j, x = .int j ∧ (-(2 ^ 62) ≤ j ∧ j < 2 ^ 62) ∧ QW ⟨rngD 0 j.toNat, fun _ => true⟩ S1) E) : xR (wRng1 a L S) QW E := by
  simp only [xR_eq, xS_eq] at *
  exact x_wRng1 h
end
theorem sx_fold {α σ : Type} {chk : Sto → Bool} {tg : TM} {body : SM} {nx bk ct : Loc → Sto → Prop} {rt : D → Sto → Prop} {exx : Exc → Loc → Sto → Prop} {L : Loc} {S : Sto} (g : α → D) (f : σ → α → σ) (I : σ → Loc → Sto → Prop) {zs : List α} {s0 : σ} {its : List D} (hi : its = zs.map g) (hc : ∀ s L S, I s L S → chk S = true)
    (h0 : I s0 L S) (hs : ∀ pre z post L S, zs = pre ++ z :: post → I (pre.foldl f s0) L S → xR (tg (g z) L S) (fun L1 S1 => xS (body L1 S1) ⟨I (f (pre.foldl f s0) z), rt, fun _ _ => False, I (f (pre.foldl f s0) z), exx⟩) Fl2) (q : ∀ L S, I (zs.foldl f s0) L S → nx L S) : xS (forL chk tg body its L S) ⟨nx, rt, bk, ct, exx⟩ := by
  simp only [xR_eq, xS_eq] at *
  exact x_fold g f I hi hc h0 hs q
theorem sx_lc {α : Type} {chk : Sto → Bool} {tg : TM} {t : BM} {e : EM} {L : Loc} {S : Sto} {l : List Asn} {Q : D → Sto → Prop} {E : Exc → Sto → Prop} (H : St l S) (g : α → D) (p : α → Bool) (f : α → D) {zs : List α} {its : List D} (hi : its = zs.map g)
    (hz : zs.length ≤ sz) (hc : ∀ S', St l S' → chk S' = true)
    (hs : ∀ z ∈ zs, ∀ m acc S', St (pt m (.lst acc) :: l) S' → xR (tg (g z) L S') (fun L1 S1 => S1 = S' ∧ xR (t L1 S') (fun b S2 => S2 = S' ∧ b = p z ∧ Whn (p z) (xR (e L1 S') (fun y S3 => S3 = S' ∧ y = f z) Fl2)) Fl2) Fl2)
    (q : ∀ m S', St (pt m (.lst ((zs.filter p).map f)) :: l) S' → Q (.ref m) S') : xR (lcL chk tg t e L S.length its (S ++ [.lst []])) Q E := by
  simp only [xR_eq, xS_eq] at *
  exact x_lc H g p f hi hz hc hs q
theorem sx_inv {chk : Sto → Bool} {tg : TM} {body : SM} {nx bk ct : Loc → Sto → Prop} {rt : D → Sto → Prop} {exx : Exc → Loc → Sto → Prop} (I : List D → Loc → Sto → Prop) {xs : List D} {L : Loc} {S : Sto} (hc : ∀ xs L S, I xs L S → chk S = true) (h0 : I xs L S) (hQ : ∀ L S, I [] L S → nx L S)
    (hs : ∀ x xs L S, I (x :: xs) L S → xR (tg x L S) (fun L1 S1 => xS (body L1 S1) ⟨fun L2 S2 => I xs L2 S2, rt, nx, fun L2 S2 => I xs L2 S2, exx⟩) (fun _ _ => False)) : xS (forL chk tg body xs L S) ⟨nx, rt, bk, ct, exx⟩ := by
  simp only [xR_eq, xS_eq] at *
  exact forL_inv I hc hQ hs h0
theorem xR_mono {α : Type} {r : R α} {Q Q' : α → Sto → Prop} {E E' : Exc → Sto → Prop} (h : xR r Q E) (hq : ∀ a S, Q a S → Q' a S) (he : ∀ x S, E x S → E' x S) : xR r Q' E' := by
  simp only [xR_eq] at *
  exact wR_mono h hq he
theorem xR_of {α : Type} {r : R α} {Q : α → Sto → Prop} {E : Exc → Sto → Prop} (h : wR r Q E) : xR r Q E := by
  rw [xR_eq]
  exact h
theorem wR_of {α : Type} {r : R α} {Q : α → Sto → Prop} {E : Exc → Sto → Prop} (h : xR r Q E) : wR r Q E := by
  rw [← xR_eq]
  exact h
theorem xR_ok {α : Type} {a : α} {S : Sto} {r : R α} {Q : α → Sto → Prop} {E : Exc → Sto → Prop} (e : r = .ok a S) (h : Q a S) : xR r Q E := by
  rw [xR_eq, e]
  exact h
/-- a test is known -/
theorem sx_cut {t : BM} {L : Loc} {S : Sto} {l : List Asn} {QB : Bool → Sto → Prop} {E : Exc → Sto → Prop} (H : St l S) (b : Bool) (h1 : xR (t L S) (fun c S1 => c = b ∧ St l S1) Fl2) (h2 : ∀ S1, St l S1 → QB b S1) : xR (t L S) QB E :=
  xR_mono h1 (fun c S1 ⟨e, h⟩ => by subst e; exact h2 S1 h) fun _ _ z => z.elim

end MP

namespace MP
open PySem (PyData)
section
variable {κ v w : Type} [DecidableEq κ]
def aget (k : κ) : List (κ × v) → Option v
  | [] => none
  | (g, d) :: r => if g = k then some d else aget k r
def aput (k : κ) (x : v) (m : List (κ × v)) : List (κ × v) := if (aget k m).isSome then m.map fun q => if q.1 = k then (q.1, x) else q else m ++ [(k, x)]
def adrop (k : κ) (m : List (κ × v)) : List (κ × v) := m.filter fun q => decide (q.1 ≠ k)
theorem aget_map (f : v → w) (k : κ) : ∀ m : List (κ × v), aget k (m.map fun q => (q.1, f q.2)) = (aget k m).map f
  | [] => rfl
  | (g, d) :: r => by
    simp only [List.map_cons, aget]
    split
    · rfl
    · exact aget_map f k r
theorem aget_none {k : κ} : ∀ {m : List (κ × v)}, aget k m = none ↔ k ∉ m.map (·.1)
  | [] => by simp [aget]
  | (g, d) :: r => by
    simp only [aget, List.map_cons, List.mem_cons, not_or]
    split
    · rename_i h; simp [h]
    · rename_i h
      rw [aget_none]
      exact ⟨fun z => ⟨fun e => h e.symm, z⟩, fun z => z.2⟩
theorem aget_mem {k : κ} {x : v} : ∀ {m : List (κ × v)}, aget k m = some x → (k, x) ∈ m
  | [], h => by cases h
  | (g, d) :: r, h => by
    simp only [aget] at h
    split at h
    · rename_i e; cases h; subst e; simp
    · exact List.mem_cons_of_mem _ (aget_mem h)
theorem aget_split {k : κ} {x : v} : ∀ {m : List (κ × v)}, aget k m = some x → ∃ r1 r2, m = r1 ++ (k, x) :: r2 ∧ k ∉ r1.map (·.1)
  | [], h => by cases h
  | (g, d) :: r, h => by
    simp only [aget] at h
    split at h
    · rename_i e; cases h; subst e; exact ⟨[], r, rfl, by simp⟩
    · rename_i e
      obtain ⟨r1, r2, e1, e2⟩ := aget_split h
      refine ⟨(g, d) :: r1, r2, by rw [e1]; rfl, ?_⟩
      simp only [List.map_cons, List.mem_cons, not_or]
      exact ⟨fun z => e z.symm, e2⟩
theorem aget_of {k : κ} {x : v} : ∀ {r1 : List (κ × v)} {r2 : List (κ × v)}, k ∉ r1.map (·.1) → aget k (r1 ++ (k, x) :: r2) = some x
  | [], r2, _ => by simp [aget]
  | (g, d) :: r, r2, h => by
    simp only [List.map_cons, List.mem_cons, not_or] at h
    simp only [List.cons_append, aget]
    rw [if_neg (fun z => h.1 z.symm)]
    exact aget_of h.2
theorem map_ne {k : κ} {x : v} : ∀ {m : List (κ × v)}, k ∉ m.map (·.1) → (m.map fun q => if q.1 = k then (q.1, x) else q) = m
  | [], _ => rfl
  | (g, d) :: r, h => by
    simp only [List.map_cons, List.mem_cons, not_or] at h
    rw [List.map_cons, map_ne h.2]
    simp only
    rw [if_neg (fun z => h.1 z.symm)]
theorem aput_split {k : κ} {x y : v} {r1 r2 : List (κ × v)} (h1 : k ∉ r1.map (·.1)) (h2 : k ∉ r2.map (·.1)) : aput k y (r1 ++ (k, x) :: r2) = r1 ++ (k, y) :: r2 := by
  unfold aput
  rw [aget_of h1]
  simp only [Option.isSome_some, if_true, List.map_append, List.map_cons]
  rw [map_ne h1, map_ne h2]
theorem aput_new {k : κ} {x : v} {m : List (κ × v)} (h : aget k m = none) : aput k x m = m ++ [(k, x)] := by
  unfold aput
  rw [h]
  rfl
theorem aput_keys {k : κ} {x : v} {m : List (κ × v)} : (aput k x m).map (·.1) = if (aget k m).isSome then m.map (·.1) else m.map (·.1) ++ [k] := by
  unfold aput
  split
  · rw [List.map_map]
    refine List.map_congr_left fun q _ => ?_
    simp only [Function.comp]
    split <;> rfl
  · simp
theorem aput_nodup {k : κ} {x : v} {m : List (κ × v)} (h : (m.map (·.1)).Nodup) : ((aput k x m).map (·.1)).Nodup := by
  rw [aput_keys]
  split
  · exact h
  · rename_i e
    have e : k ∉ m.map (·.1) := aget_none.mp (by simpa using e)
    rw [List.nodup_append]
    exact ⟨h, by simp, fun a ha b hb z => by simp at hb; subst hb; subst z; exact e ha⟩
theorem adrop_nodup {k : κ} {m : List (κ × v)} (h : (m.map (·.1)).Nodup) : ((adrop k m).map (·.1)).Nodup := h.sublist (List.filter_sublist.map _)
theorem filter_ne {k : κ} : ∀ {m : List (κ × v)}, k ∉ m.map (·.1) → (m.filter fun q => decide (q.1 ≠ k)) = m
  | [], _ => rfl
  | (g, d) :: r, h => by
    simp only [List.map_cons, List.mem_cons, not_or] at h
    rw [List.filter_cons, if_pos (by simpa using fun z => h.1 z.symm), filter_ne h.2]
theorem adrop_split {k : κ} {x : v} {r1 r2 : List (κ × v)} (h1 : k ∉ r1.map (·.1)) (h2 : k ∉ r2.map (·.1)) : adrop k (r1 ++ (k, x) :: r2) = r1 ++ r2 := by
  unfold adrop
  rw [List.filter_append, List.filter_cons, filter_ne h1, filter_ne h2, if_neg (by simp)]
theorem aput_get_self {k : κ} {x : v} {m : List (κ × v)} : aget k (aput k x m) = some x := by
  cases e : aget k m with
  | none =>
    rw [aput_new e]
    exact aget_of (aget_none.mp e)
  | some y =>
    unfold aput
    rw [e]
    simp only [Option.isSome_some, if_true]
    induction m with
    | nil => cases e
    | cons q m ih =>
      obtain ⟨g, d⟩ := q
      simp only [aget] at e
      simp only [List.map_cons]
      by_cases h : g = k
      · simp [h, aget]
      · rw [if_neg h] at e
        simp only [if_neg h, aget]
        exact ih e
theorem aput_get_ne {k j : κ} {x : v} (h : j ≠ k) : ∀ {m : List (κ × v)}, aget j (aput k x m) = aget j m := by
  have ap : ∀ m : List (κ × v), aget j (m ++ [(k, x)]) = aget j m := fun m => by
    induction m with
    | nil => simp [aget, h.symm]
    | cons q m ih => simp only [List.cons_append, aget, ih]
  have mp : ∀ m : List (κ × v), aget j (m.map fun q => if q.1 = k then (q.1, x) else q) = aget j m := fun m => by
    induction m with
    | nil => rfl
    | cons q m ih =>
      simp only [List.map_cons]
      split
      · rename_i e
        simp only [aget, ih, e, if_neg h.symm]
      · simp only [aget, ih]
  intro m
  unfold aput
  split
  · exact mp m
  · exact ap m
theorem adrop_get_self {k : κ} {m : List (κ × v)} : aget k (adrop k m) = none := by
  rw [aget_none]
  intro z
  obtain ⟨q, hq, e⟩ := List.mem_map.mp z
  have := (List.mem_filter.mp hq).2
  simp [e] at this
theorem adrop_get_ne {k j : κ} (h : j ≠ k) : ∀ {m : List (κ × v)}, aget j (adrop k m) = aget j m
  | [] => rfl
  | (g, d) :: r => by
    unfold adrop
    rw [List.filter_cons]
    by_cases e : g = k
    · rw [if_neg (by simp [e])]
      simp only [aget]
      rw [if_neg (fun z => h (by rw [← z, e]))]
      exact adrop_get_ne h
    · rw [if_pos (by simpa using e)]
      simp only [aget]
      split
      · rfl
      · exact adrop_get_ne h
theorem map_flt {k : κ} {x : v} : ∀ m : List (κ × v), (m.filter fun q => decide (q.1 ≠ k)).map (fun q => if q.1 = k then (q.1, x) else q) = m.filter fun q => decide (q.1 ≠ k)
  | [] => rfl
  | q :: m => by
    rw [List.filter_cons]
    split
    · rename_i h
      rw [List.map_cons, if_neg (by simpa using h), map_flt m]
    · exact map_flt m
theorem adrop_aput {k : κ} {x : v} {m : List (κ × v)} : adrop k (aput k x m) = adrop k m := by
  unfold adrop aput
  split
  · rw [List.filter_map]
    have e : (fun q : κ × v => decide (q.1 ≠ k)) ∘ (fun q => if q.1 = k then (q.1, x) else q) = fun q => decide (q.1 ≠ k) := by
      funext q
      simp only [Function.comp]
      split <;> rfl
    rw [e]
    exact map_flt m
  · rw [List.filter_append]
    simp
/-! to a dict in the store -/
variable {kf : κ → D} (ki : ∀ a b, kf a = kf b → a = b) (vf : v → D)
include ki
theorem kget_map (k : κ) : ∀ m : List (κ × v), kget (kf k) (m.map fun q => (kf q.1, vf q.2)) = (aget k m).map vf
  | [] => rfl
  | (g, d) :: r => by
    simp only [List.map_cons, kget, aget]
    by_cases e : g = k
    · rw [if_pos (by rw [e]), if_pos e]
      rfl
    · rw [if_neg (fun z => e (ki _ _ z)), if_neg e]
      exact kget_map k r
theorem any_key (k : κ) : ∀ m : List (κ × v), ((m.map fun q => (kf q.1, vf q.2)).any fun q => decide (q.1 = kf k)) = (aget k m).isSome
  | [] => rfl
  | (g, d) :: r => by
    simp only [List.map_cons, List.any_cons, aget, any_key k r]
    by_cases e : g = k
    · simp [e]
    · have : ¬ kf g = kf k := fun z => e (ki _ _ z)
      simp [e, this]
theorem kput_map (k : κ) (x : v) (m : List (κ × v)) : kput (kf k) (vf x) (m.map fun q => (kf q.1, vf q.2)) = (aput k x m).map fun q => (kf q.1, vf q.2) := by
  unfold kput aput
  rw [any_key ki]
  cases (aget k m).isSome with
  | true =>
    simp only [if_true, List.map_map]
    refine List.map_congr_left fun q _ => ?_
    simp only [Function.comp]
    by_cases e : q.1 = k
    · simp [e]
    · have : ¬ kf q.1 = kf k := fun z => e (ki _ _ z)
      simp [e, this]
  | false => simp
theorem kdrop_map (k : κ) (m : List (κ × v)) : kdrop (kf k) (m.map fun q => (kf q.1, vf q.2)) = (adrop k m).map fun q => (kf q.1, vf q.2) := by
  unfold kdrop adrop
  rw [List.filter_map]
  congr 1
  refine List.filter_congr fun q _ => ?_
  simp only [Function.comp]
  rw [Bool.eq_iff_iff]
  simp only [decide_eq_true_eq]
  exact ⟨fun h z => h (by rw [z]), fun h z => h (ki _ _ z)⟩
end
/-! dicts that own -/
section
variable {κ v : Type} [DecidableEq κ]
def rowsD (kf : κ → D) (rows : List (κ × Nat × v)) : List (D × D) := rows.map fun q => (kf q.1, .ref q.2.1)
def strip (rows : List (κ × Nat × v)) : List (κ × v) := rows.map fun q => (q.1, q.2.2)
def own (A : Nat → v → Asn) (rows : List (κ × Nat × v)) : List Asn := rows.map fun q => A q.2.1 q.2.2
/-- the dict at n leads to things, each at a place of its own -/
def dicAt (n : Nat) (lk : Bool) (kf : κ → D) (A : Nat → v → Asn) (m : List (κ × v)) : Asn := ex fun rows : List (κ × Nat × v) => bun [pu (strip rows = m ∧ (m.map (·.1)).Nodup), pt n (.dic true lk (rowsD kf rows)), bun (own A rows)]
/-- .., but for the thing of k, which is at j -/
def dicHole (n : Nat) (lk : Bool) (kf : κ → D) (A : Nat → v → Asn) (m : List (κ × v)) (k : κ) (j : Nat) : Asn := ex fun r1 : List (κ × Nat × v) => ex fun r2 : List (κ × Nat × v) => ex fun v0 : v =>
  bun [pu (strip r1 ++ (k, v0) :: strip r2 = m ∧ (m.map (·.1)).Nodup), pt n (.dic true lk (rowsD kf (r1 ++ (k, j, v0) :: r2))), bun (own A r1), bun (own A r2)]
variable {n : Nat} {lk : Bool} {kf : κ → D} {A : Nat → v → Asn} {m : List (κ × v)} {l : List Asn} {S : Sto} {k : κ} {j : Nat} {x : v}
theorem dicAt_h {h : Hp} : sats (dicAt n lk kf A m :: l) h ↔ ∃ rows : List (κ × Nat × v), strip rows = m ∧ (m.map (·.1)).Nodup ∧ sats (pt n (.dic true lk (rowsD kf rows)) :: (own A rows ++ l)) h := by
  rw [dicAt, sats.ex]
  refine exists_congr fun rows => ?_
  rw [sats.bun]
  simp only [List.cons_append, List.nil_append]
  rw [sats.pu, and_assoc]
  refine and_congr_right fun _ => and_congr_right fun _ => ?_
  exact sats.appb (xs := [_])
theorem dicHole_h {h : Hp} : sats (dicHole n lk kf A m k j :: l) h ↔ ∃ (r1 r2 : List (κ × Nat × v)) (v0 : v), strip r1 ++ (k, v0) :: strip r2 = m ∧ (m.map (·.1)).Nodup ∧ sats (pt n (.dic true lk (rowsD kf (r1 ++ (k, j, v0) :: r2))) :: (own A r1 ++ (own A r2 ++ l))) h := by
  simp only [dicHole, sats.ex]
  refine exists_congr fun r1 => exists_congr fun r2 => exists_congr fun v0 => ?_
  rw [sats.bun]
  simp only [List.cons_append, List.nil_append]
  rw [sats.pu, and_assoc]
  refine and_congr_right fun _ => and_congr_right fun _ => ?_
  have h1 := sats.appb (xs := [pt n (.dic true lk (rowsD kf (r1 ++ (k, j, v0) :: r2)))]) (ys := own A r1) (l := bun (own A r2) :: l) (h := h)
  have h2 := sats.appb (xs := pt n (.dic true lk (rowsD kf (r1 ++ (k, j, v0) :: r2))) :: own A r1) (ys := own A r2) (l := l) (h := h)
  exact h1.trans h2
theorem sats.mid2 {B C : Asn} {xs ys : List Asn} {h : Hp} (H : sats (B :: (xs ++ C :: ys)) h) : sats (B :: C :: (xs ++ ys)) h := by
  refine sats.cons (fun b k => ?_) H
  have gen : ∀ (xs : List Asn) (b : Hp), sats (xs ++ C :: ys) b → sats (C :: (xs ++ ys)) b := fun xs => by
    induction xs with
    | nil => exact fun b h => h
    | cons D xs ih => exact fun b h => sats.swap (sats.cons (fun b k => ih b k) h)
  exact gen xs b k
theorem sats.mid2' {B C : Asn} {xs ys : List Asn} {h : Hp} (H : sats (B :: C :: (xs ++ ys)) h) : sats (B :: (xs ++ C :: ys)) h := by
  refine sats.cons (fun b k => ?_) H
  have gen : ∀ (xs : List Asn) (b : Hp), sats (C :: (xs ++ ys)) b → sats (xs ++ C :: ys) b := fun xs => by
    induction xs with
    | nil => exact fun b h => h
    | cons D xs ih => exact fun b h => sats.cons (fun b k => ih b k) (sats.swap h)
  exact gen xs b k
theorem own_app (A : Nat → v → Asn) (r1 r2 : List (κ × Nat × v)) : own A (r1 ++ r2) = own A r1 ++ own A r2 := by simp [own]
theorem strip_app (r1 r2 : List (κ × Nat × v)) : strip (r1 ++ r2) = strip r1 ++ strip r2 := by simp [strip]
theorem strip_keys (r : List (κ × Nat × v)) : (strip r).map (·.1) = r.map (·.1) := by
  unfold strip
  rw [List.map_map]
  rfl
theorem aget_strip {rows : List (κ × Nat × v)} {k : κ} : aget k (strip rows) = (aget k rows).map (·.2) := aget_map (fun q : Nat × v => q.2) k rows
theorem nodup_mid {r1 r2 : List (κ × v)} {x : v} (h : ((r1 ++ (k, x) :: r2).map (·.1)).Nodup) : k ∉ r1.map (·.1) ∧ k ∉ r2.map (·.1) := by
  rw [List.map_append, List.map_cons, List.nodup_append] at h
  obtain ⟨_, h2, h3⟩ := h
  exact ⟨fun z => h3 k z k (by simp) rfl, (List.nodup_cons.mp h2).1⟩
/-- the thing of k is taken aside -/
theorem dic_open_h {h : Hp} (H : sats (dicAt n lk kf A m :: l) h) (e : aget k m = some x) : ∃ j, sats (A j x :: dicHole n lk kf A m k j :: l) h := by
  obtain ⟨rows, e1, nd, H⟩ := dicAt_h.mp H
  rw [← e1, aget_strip] at e
  obtain ⟨⟨j, y⟩, e2, e3⟩ := Option.map_eq_some_iff.mp e
  obtain ⟨r1, r2, e4, e5⟩ := aget_split e2
  cases e3
  subst e4
  refine ⟨j, ?_⟩
  rw [own_app] at H
  have H2 : sats (pt n (.dic true lk (rowsD kf (r1 ++ (k, j, y) :: r2))) :: (own A r1 ++ A j y :: (own A r2 ++ l))) h := by
    rw [List.append_assoc] at H
    exact H
  have H3 := sats.mid2 H2
  rw [← List.append_assoc] at H3
  have H4 := sats.mid2' H3
  rw [List.append_assoc] at H4
  exact sats.swap (dicHole_h.mpr ⟨r1, r2, y, by rw [← e1, strip_app]; rfl, nd, H4⟩)
theorem dic_close_h {h : Hp} {y : v} (H : sats (A j y :: dicHole n lk kf A m k j :: l) h) : sats (dicAt n lk kf A (aput k y m) :: l) h := by
  obtain ⟨r1, r2, v0, e1, nd, H⟩ := dicHole_h.mp (sats.swap H)
  have nd2 := nd
  rw [← e1] at nd2
  obtain ⟨n1, n2⟩ := nodup_mid nd2
  refine dicAt_h.mpr ⟨r1 ++ (k, j, y) :: r2, ?_, aput_nodup nd, ?_⟩
  · rw [← e1, aput_split n1 n2, strip_app]
    rfl
  · have e2 : rowsD kf (r1 ++ (k, j, y) :: r2) = rowsD kf (r1 ++ (k, j, v0) :: r2) := by simp [rowsD]
    rw [e2, own_app, List.append_assoc]
    have : own A ((k, j, y) :: r2) ++ l = A j y :: (own A r2 ++ l) := rfl
    rw [this]
    have h1 : sats (pt n (.dic true lk (rowsD kf (r1 ++ (k, j, v0) :: r2))) :: (own A r1 ++ (own A r2 ++ A j y :: l))) h := H
    have h2 : sats (pt n (.dic true lk (rowsD kf (r1 ++ (k, j, v0) :: r2))) :: ((own A r1 ++ own A r2) ++ A j y :: l)) h := by rw [List.append_assoc]; exact h1
    have h3 := sats.mid2 h2
    rw [List.append_assoc] at h3
    exact sats.mid2' h3
theorem aput_same (h : aget k m = some x) (nd : (m.map (·.1)).Nodup) : aput k x m = m := by
  obtain ⟨r1, r2, e, h1⟩ := aget_split h
  subst e
  rw [aput_split h1 (nodup_mid nd).2]
theorem dicAt_o : St (dicAt n lk kf A m :: l) S ↔ ∃ rows : List (κ × Nat × v), strip rows = m ∧ (m.map (·.1)).Nodup ∧ St (pt n (.dic true lk (rowsD kf rows)) :: (own A rows ++ l)) S := dicAt_h
theorem dicHole_o : St (dicHole n lk kf A m k j :: l) S ↔ ∃ (r1 r2 : List (κ × Nat × v)) (v0 : v), strip r1 ++ (k, v0) :: strip r2 = m ∧ (m.map (·.1)).Nodup ∧ St (pt n (.dic true lk (rowsD kf (r1 ++ (k, j, v0) :: r2))) :: (own A r1 ++ (own A r2 ++ l))) S := dicHole_h
theorem St.swap {B C : Asn} {l : List Asn} {S : Sto} (H : St (B :: C :: l) S) : St (C :: B :: l) S := sats.swap H
theorem St.mid2 {B C : Asn} {xs ys : List Asn} {S : Sto} (H : St (B :: (xs ++ C :: ys)) S) : St (B :: C :: (xs ++ ys)) S := sats.mid2 H
theorem St.mid2' {B C : Asn} {xs ys : List Asn} {S : Sto} (H : St (B :: C :: (xs ++ ys)) S) : St (B :: (xs ++ C :: ys)) S := sats.mid2' H
theorem dic_open (H : St (dicAt n lk kf A m :: l) S) (e : aget k m = some x) : ∃ j, St (A j x :: dicHole n lk kf A m k j :: l) S := dic_open_h H e
theorem dic_close {y : v} (H : St (A j y :: dicHole n lk kf A m k j :: l) S) : St (dicAt n lk kf A (aput k y m) :: l) S := dic_close_h H
theorem hole_nodup_h {h : Hp} (H : sats (dicHole n lk kf A m k j :: l) h) : (m.map (·.1)).Nodup := by
  obtain ⟨r1, r2, v0, e1, nd, _⟩ := dicHole_h.mp H
  exact nd
theorem dic_nodup (H : St (dicAt n lk kf A m :: l) S) : (m.map (·.1)).Nodup := by
  obtain ⟨rows, e1, nd, _⟩ := dicAt_o.mp H
  exact nd
theorem hole_nodup (H : St (dicHole n lk kf A m k j :: l) S) : (m.map (·.1)).Nodup := by
  obtain ⟨r1, r2, v0, e1, nd, _⟩ := dicHole_o.mp H
  exact nd
/-- .. and put back as it was -/
theorem dic_back_h {h : Hp} (H : sats (A j x :: dicHole n lk kf A m k j :: l) h) (e : aget k m = some x) : sats (dicAt n lk kf A m :: l) h := by
  have nd := hole_nodup_h H.tl
  have := dic_close_h H
  rwa [aput_same e nd] at this
theorem dic_back (H : St (A j x :: dicHole n lk kf A m k j :: l) S) (e : aget k m = some x) : St (dicAt n lk kf A m :: l) S := by
  have nd := hole_nodup H.tl
  have := dic_close H
  rwa [aput_same e nd] at this
variable {Q : D → Sto → Prop} {QU : Unit → Sto → Prop} {E : Exc → Sto → Prop} {r : List Asn} (ki : ∀ a b, kf a = kf b → a = b)
include ki
theorem kget_rows {rows : List (κ × Nat × v)} {k : κ} : kget (kf k) (rowsD kf rows) = (aget k rows).map fun q => .ref q.1 := kget_map ki (fun q : Nat × v => D.ref q.1) k rows
theorem isSome_rows {rows : List (κ × Nat × v)} {k : κ} : (kget (kf k) (rowsD kf rows)).isSome = (aget k (strip rows)).isSome := by
  rw [kget_rows ki, aget_strip]
  cases aget k rows <;> rfl
theorem x_dinO (H : St l S) (p : Pick (dicAt n lk kf A m) l r) (hk : keyOk true (kf k) = true) (h : Q (.bl (aget k m).isSome) S) : wR (inD false (kf k) (.ref n) S) Q E := by
  obtain ⟨rows, e1, nd, H⟩ := dicAt_o.mp (H.pk p)
  refine x_inD H .here hk ?_ h
  rw [isSome_rows ki, e1]
theorem x_dninO (H : St l S) (p : Pick (dicAt n lk kf A m) l r) (hk : keyOk true (kf k) = true) (h : Q (.bl (!(aget k m).isSome)) S) : wR (inD true (kf k) (.ref n) S) Q E := by
  obtain ⟨rows, e1, nd, H⟩ := dicAt_o.mp (H.pk p)
  refine x_ninD H .here hk ?_ h
  rw [isSome_rows ki, e1]
theorem x_dgetO (H : St l S) (p : Pick (dicAt n lk kf A m) l r) (hk : keyOk true (kf k) = true) (e : aget k m = some x) (h : ∀ j, St (A j x :: dicHole n lk kf A m k j :: r) S → Q (.ref j) S) : wR (opGet (.ref n) (kf k) S) Q E := by
  have H := H.pk p
  obtain ⟨j, H2⟩ := dic_open H e
  obtain ⟨r1, r2, v0, e1, nd, H3⟩ := dicHole_o.mp (St.swap H2)
  rw [← e1] at nd
  obtain ⟨n1, n2⟩ := nodup_mid nd
  refine x_dget H3 .here hk (d := .ref j) ?_ (h j H2)
  rw [kget_rows ki, aget_of (by rw [← strip_keys]; exact n1)]
  rfl
/-- .. while it is aside -/
theorem x_dgetH (H : St l S) (p : Pick (dicHole n lk kf A m k j) l r) (hk : keyOk true (kf k) = true) (h : Q (.ref j) S) : wR (opGet (.ref n) (kf k) S) Q E := by
  obtain ⟨r1, r2, v0, e1, nd, H3⟩ := dicHole_o.mp (H.pk p)
  rw [← e1] at nd
  obtain ⟨n1, n2⟩ := nodup_mid nd
  refine x_dget H3 .here hk (d := .ref j) ?_ h
  rw [kget_rows ki, aget_of (by rw [← strip_keys]; exact n1)]
  rfl
theorem x_dpopO (H : St l S) (p : Pick (dicAt n false kf A m) l r) (hk : keyOk true (kf k) = true) (e : aget k m = some x) (h : ∀ j S', St (A j x :: dicAt n false kf A (adrop k m) :: r) S' → Q (.ref j) S') : wR (fPop1 [.ref n, kf k] S) Q E := by
  have H := H.pk p
  obtain ⟨j, H2⟩ := dic_open H e
  obtain ⟨r1, r2, v0, e1, nd, H3⟩ := dicHole_o.mp (St.swap H2)
  have nd2 := nd
  rw [← e1] at nd2
  obtain ⟨n1, n2⟩ := nodup_mid nd2
  refine x_popD H3 .here hk (d := .ref j) ?_ fun S' H4 => h j S' ?_
  · rw [kget_rows ki, aget_of (by rw [← strip_keys]; exact n1)]
    rfl
  · have e3 : kdrop (kf k) (rowsD kf (r1 ++ (k, j, v0) :: r2)) = rowsD kf (r1 ++ r2) := by
      unfold rowsD
      rw [kdrop_map ki (fun q : Nat × v => D.ref q.1) k (r1 ++ (k, j, v0) :: r2), adrop_split (by rw [← strip_keys]; exact n1) (by rw [← strip_keys]; exact n2)]
    rw [e3] at H4
    have h1 : St (pt n (.dic true false (rowsD kf (r1 ++ r2))) :: ((own A r1 ++ own A r2) ++ A j x :: r)) S' := by rw [List.append_assoc]; exact H4
    have h2 := St.swap (St.mid2 h1)
    have h3 : St (pt n (.dic true false (rowsD kf (r1 ++ r2))) :: (own A (r1 ++ r2) ++ (A j x :: r))) S' := by
      have := St.mid2' (St.swap h2)
      rwa [own_app]
    refine St.swap (dicAt_o.mpr ⟨r1 ++ r2, ?_, adrop_nodup nd, h3⟩)
    rw [← e1, adrop_split n1 n2, strip_app]
/-- .., what is aside goes -/
theorem x_dpopH (H : St l S) (p : Pick (dicHole n false kf A m k j) l r) (hk : keyOk true (kf k) = true) (h : ∀ S', St (dicAt n false kf A (adrop k m) :: r) S' → Q (.ref j) S') : wR (fPop1 [.ref n, kf k] S) Q E := by
  obtain ⟨r1, r2, v0, e1, nd, H3⟩ := dicHole_o.mp (H.pk p)
  have nd2 := nd
  rw [← e1] at nd2
  obtain ⟨n1, n2⟩ := nodup_mid nd2
  refine x_popD H3 .here hk (d := .ref j) ?_ fun S' H4 => h S' ?_
  · rw [kget_rows ki, aget_of (by rw [← strip_keys]; exact n1)]
    rfl
  · have e3 : kdrop (kf k) (rowsD kf (r1 ++ (k, j, v0) :: r2)) = rowsD kf (r1 ++ r2) := by
      unfold rowsD
      rw [kdrop_map ki (fun q : Nat × v => D.ref q.1) k (r1 ++ (k, j, v0) :: r2), adrop_split (by rw [← strip_keys]; exact n1) (by rw [← strip_keys]; exact n2)]
    rw [e3] at H4
    refine dicAt_o.mpr ⟨r1 ++ r2, ?_, adrop_nodup nd, ?_⟩
    · rw [← e1, adrop_split n1 n2, strip_app]
    · rw [own_app, List.append_assoc]
      exact H4
theorem x_dsetO (H : St l S) (p : Pick (dicAt n false kf A m) l r) {r' : List Asn} (p' : Pick (A j x) r r') (hk : keyOk true (kf k) = true) (hl : m.length < sz) (h : ∀ S', St (dicAt n false kf A (aput k x m) :: r') S' → QU () S') : wR (setD (.ref n) (kf k) (.ref j) S) QU E := by
  obtain ⟨rows, e1, nd, H⟩ := dicAt_o.mp (H.pks (.cons p (.cons p' .nil)))
  have H : St (pt n (.dic true false (rowsD kf rows)) :: (own A rows ++ A j x :: r')) S := H
  refine x_setD H .here hk ?_ fun S' H2 => h S' ?_
  · rw [← e1] at hl
    simpa [rowsD, strip] using hl
  · have e3 : kput (kf k) (.ref j) (rowsD kf rows) = rowsD kf (aput k (j, x) rows) := kput_map ki (fun q : Nat × v => D.ref q.1) k (j, x) rows
    rw [e3] at H2
    refine dicAt_o.mpr ⟨aput k (j, x) rows, ?_, aput_nodup nd, ?_⟩
    · cases e : aget k rows with
      | none =>
        have e4 : aget k m = none := by rw [← e1, aget_strip, e]; rfl
        rw [aput_new e, aput_new e4, strip_app, e1]
        rfl
      | some q =>
        obtain ⟨r1, r2, e5, e6⟩ := aget_split e
        subst e5
        rw [← e1] at nd
        rw [strip_app] at nd
        have nd' := nd
        obtain ⟨n1, n2⟩ := nodup_mid (r1 := strip r1) (r2 := strip r2) (x := q.2) nd
        rw [aput_split e6 (by rw [← strip_keys]; exact n2), strip_app, ← e1, strip_app]
        exact (aput_split n1 n2).symm
    · cases e : aget k rows with
      | none =>
        rw [aput_new e] at H2 ⊢
        rw [own_app, List.append_assoc]
        exact H2
      | some q =>
        obtain ⟨r1, r2, e5, e6⟩ := aget_split e
        subst e5
        rw [← e1] at nd
        rw [strip_app] at nd
        obtain ⟨n1, n2⟩ := nodup_mid (r1 := strip r1) (r2 := strip r2) (x := q.2) nd
        rw [aput_split e6 (by rw [← strip_keys]; exact n2)] at H2 ⊢
        rw [own_app] at H2 ⊢
        have h1 : St (pt n (.dic true false (rowsD kf (r1 ++ (k, j, x) :: r2))) :: (own A r1 ++ A q.1 q.2 :: (own A r2 ++ A j x :: r'))) S' := by
          rw [List.append_assoc] at H2
          exact H2
        have h2 := (St.swap (St.mid2 h1)).tl
        have h3 : St (pt n (.dic true false (rowsD kf (r1 ++ (k, j, x) :: r2))) :: ((own A r1 ++ own A r2) ++ A j x :: r')) S' := by rw [List.append_assoc]; exact h2
        have h4 := St.mid2 h3
        rw [List.append_assoc] at h4
        have h5 := St.mid2' h4
        have e8 : own A r1 ++ A j x :: (own A r2 ++ r') = (own A r1 ++ own A ((k, j, x) :: r2)) ++ r' := by
          rw [List.append_assoc]
          rfl
        rw [← e8]
        exact h5
omit ki
theorem dic_empty (H : St (pt n (.dic true lk []) :: l) S) : St (dicAt n lk kf A ([] : List (κ × v)) :: l) S := dicAt_o.mpr ⟨[], rfl, by simp, H⟩
theorem x_dlenO (H : St l S) (p : Pick (dicAt n false kf A m) l r) (h : Q (.int m.length) S) : wR (fLenDT [.ref n] S) Q E := by
  obtain ⟨rows, e1, nd, H⟩ := dicAt_o.mp (H.pk p)
  refine x_lenD H .here ?_
  have : (rowsD kf rows).length = m.length := by rw [← e1]; simp [rowsD, strip]
  rw [this]
  exact h
theorem x_tyDH (H : St l S) (p : Pick (dicHole n false kf A m k j) l r) : tyNm S (.ref n) = some "dict" := by
  obtain ⟨r1, r2, v0, e1, nd, H⟩ := dicHole_o.mp (H.pk p)
  exact x_tyD H .here
theorem x_tyDO (H : St l S) (p : Pick (dicAt n false kf A m) l r) : tyNm S (.ref n) = some "dict" := by
  obtain ⟨rows, e1, nd, H⟩ := dicAt_o.mp (H.pk p)
  exact x_tyD H .here
end
theorem Pick.hereE {n : Nat} {o o' : Ob} {r : List Asn} (e : o' = o) : Pick (pt n o) (pt n o' :: r) r := by subst e; exact .here
/-! from some pieces to others -/
def Ent (l l' : List Asn) : Prop := ∀ h, sats l h → sats l' h
theorem Ent.refl {l : List Asn} : Ent l l := fun _ q => q
theorem Ent.nil {l : List Asn} : Ent l [] := fun _ _ => trivial
theorem Ent.pick {x : Asn} {l r l' : List Asn} (p : Pick x l r) (e : Ent r l') : Ent l (x :: l') := fun _ q => sats.cons (fun b k => e b k) (p.sats q)
theorem Ent.drop {x : Asn} {l l' : List Asn} (e : Ent l l') : Ent (x :: l) l' := fun h q => e h (sats.tl q)
theorem Ent.ex {α : Type} {B : α → Asn} {l l' : List Asn} (x : α) (e : Ent l (B x :: l')) : Ent l (MP.ex B :: l') := fun h q => by
  obtain ⟨a, b, d, sa, sb, ha, hb⟩ := e h q
  exact ⟨a, b, d, sa, sb, ⟨x, ha⟩, hb⟩
theorem Ent.bun {xs l l' : List Asn} (e : Ent l (xs ++ l')) : Ent l (MP.bun xs :: l') := fun h q => sats.bun.mpr (e h q)
theorem Ent.pu {p : Prop} {l l' : List Asn} (hp : p) (e : Ent l l') : Ent l (MP.pu p :: l') := fun h q => ⟨fun _ => none, h, fun _ => .inl rfl, (fun _ _ z => by cases z), Hsub.refl _, hp, e h q⟩
theorem St.ent {l l' : List Asn} {S : Sto} (H : St l S) (e : Ent l l') : St l' S := e _ H
theorem Ent.back {κ v : Type} [DecidableEq κ] {n : Nat} {lk : Bool} {kf : κ → D} {A : Nat → v → Asn} {m : List (κ × v)} {k : κ} {j : Nat} {x : v} {l r l' : List Asn} (p : Pick (dicHole n lk kf A m k j) l r) (hx : aget k m = some x) (e : Ent r (A j x :: l')) : Ent l (dicAt n lk kf A m :: l') := fun h q => by
  have q1 := sats.cons (fun b k => e b k) (p.sats q)
  exact dic_back_h (sats.swap q1) hx
theorem Ent.close {κ v : Type} [DecidableEq κ] {n : Nat} {lk : Bool} {kf : κ → D} {A : Nat → v → Asn} {m : List (κ × v)} {k : κ} {j : Nat} {x : v} {l r l' : List Asn} (p : Pick (dicHole n lk kf A m k j) l r) (e : Ent r (A j x :: l')) : Ent l (dicAt n lk kf A (aput k x m) :: l') := fun h q => by
  have q1 := sats.cons (fun b k => e b k) (p.sats q)
  exact dic_close_h (sats.swap q1)
theorem Ent.empty {κ v : Type} [DecidableEq κ] {n : Nat} {lk : Bool} {kf : κ → D} {A : Nat → v → Asn} {l r l' : List Asn} (p : Pick (pt n (.dic true lk [])) l r) (e : Ent r l') : Ent l (dicAt n lk kf A ([] : List (κ × v)) :: l') := fun h q => sats.cons (fun b k => e b k) (dicAt_h.mpr ⟨[], rfl, by simp, p.sats q⟩)
/-! while a dict is walked -/
theorem x_lock {a : EM} {st : SM} {L : Loc} {S : Sto} {n : Nat} {kvs : List (D × D)} {l r : List Asn} {nx bk ct : Loc → Sto → Prop} {rt : D → Sto → Prop} {exx : Exc → Loc → Sto → Prop} (H : St l S) (p : Pick (pt n (.dic true false kvs)) l r) (ha : a L S = .ok (.ref n) S)
    (h : ∀ S', St (pt n (.dic true true kvs) :: r) S' → wS (st L S') ⟨fun L1 S1 => ∃ l2, St (pt n (.dic true true kvs) :: l2) S1 ∧ ∀ S2, St (pt n (.dic true false kvs) :: l2) S2 → nx L1 S2,
      fun d S1 => ∃ l2, St (pt n (.dic true true kvs) :: l2) S1 ∧ ∀ S2, St (pt n (.dic true false kvs) :: l2) S2 → rt d S2, fun _ _ => False, fun _ _ => False, exx⟩) : wS (sLock a st L S) ⟨nx, rt, bk, ct, exx⟩ := by
  have H1 := H.pk p
  have h := h _ (H1.set _)
  unfold sLock
  rw [ha]
  simp only [H1.at]
  cases e : st L (S.set n (.dic true true kvs)) with
  | nx L1 S1 =>
    rw [e] at h
    obtain ⟨l2, h1, h2⟩ := h
    simp only [unlD, h1.at]
    exact h2 _ (h1.set _)
  | rt d S1 =>
    rw [e] at h
    obtain ⟨l2, h1, h2⟩ := h
    simp only [unlD, h1.at]
    exact h2 _ (h1.set _)
  | bk L1 S1 => rw [e] at h; exact h.elim
  | ct L1 S1 => rw [e] at h; exact h.elim
  | exc x L1 S1 => rw [e] at h; exact h
  | err => rw [e] at h; exact h
theorem x_wDic {a : EM} {L : Loc} {S : Sto} {n : Nat} {kvs : List (D × D)} {l r : List Asn} {Q : Wk → Sto → Prop} {E : Exc → Sto → Prop} (H : St l S) (p : Pick (pt n (.dic true true kvs)) l r) (ha : a L S = .ok (.ref n) S) (h : Q ⟨kvs.map (·.1), fun S => decide (S[n]? = some (.dic true true kvs))⟩ S) : wR (wDic a L S) Q E := by
  simp only [wDic, ha, R.bind_ok, (H.pk p).at, wR_ok]
  exact h
end MP

namespace MP
open PySem (PyData)
section
variable {κ v w : Type} [DecidableEq κ]
variable {kf : κ → D} (ki : ∀ a b, kf a = kf b → a = b) (vf : v → D)
include ki
end
section
variable {κ v : Type} [DecidableEq κ]
variable {n : Nat} {lk : Bool} {kf : κ → D} {A : Nat → v → Asn} {m : List (κ × v)} {l : List Asn} {S : Sto} {k : κ} {j : Nat} {x : v}
variable {Q : D → Sto → Prop} {QU : Unit → Sto → Prop} {E : Exc → Sto → Prop} {r : List Asn} (ki : ∀ a b, kf a = kf b → a = b)
include ki
theorem sx_dinO (H : St l S) (p : Pick (dicAt n lk kf A m) l r) (hk : keyOk true (kf k) = true) (h : Q (.bl (aget k m).isSome) S) : xR (inD false (kf k) (.ref n) S) Q E := by
  simp only [xR_eq, xS_eq] at *
  exact x_dinO ki H p hk h
theorem sx_dninO (H : St l S) (p : Pick (dicAt n lk kf A m) l r) (hk : keyOk true (kf k) = true) (h : Q (.bl (!(aget k m).isSome)) S) : xR (inD true (kf k) (.ref n) S) Q E := by
  simp only [xR_eq, xS_eq] at *
  exact x_dninO ki H p hk h
theorem sx_dgetO (H : St l S) (p : Pick (dicAt n lk kf A m) l r) (hk : keyOk true (kf k) = true) (e : aget k m = some x) (h : ∀ j, St (A j x :: dicHole n lk kf A m k j :: r) S → Q (.ref j) S) : xR (opGet (.ref n) (kf k) S) Q E := by
  simp only [xR_eq, xS_eq] at *
  exact x_dgetO ki H p hk e h
theorem sx_dgetH (H : St l S) (p : Pick (dicHole n lk kf A m k j) l r) (hk : keyOk true (kf k) = true) (h : Q (.ref j) S) : xR (opGet (.ref n) (kf k) S) Q E := by
  simp only [xR_eq, xS_eq] at *
  exact x_dgetH ki H p hk h
theorem sx_dpopO (H : St l S) (p : Pick (dicAt n false kf A m) l r) (hk : keyOk true (kf k) = true) (e : aget k m = some x) (h : ∀ j S', St (A j x :: dicAt n false kf A (adrop k m) :: r) S' → Q (.ref j) S') : xR (fPop1 [.ref n, kf k] S) Q E := by
  simp only [xR_eq, xS_eq] at *
  exact x_dpopO ki H p hk e h
theorem sx_dpopH (H : St l S) (p : Pick (dicHole n false kf A m k j) l r) (hk : keyOk true (kf k) = true) (h : ∀ S', St (dicAt n false kf A (adrop k m) :: r) S' → Q (.ref j) S') : xR (fPop1 [.ref n, kf k] S) Q E := by
  simp only [xR_eq, xS_eq] at *
  exact x_dpopH ki H p hk h
theorem sx_dsetO (H : St l S) (p : Pick (dicAt n false kf A m) l r) {r' : List Asn} (p' : Pick (A j x) r r') (hk : keyOk true (kf k) = true) (hl : m.length < sz) (h : ∀ S', St (dicAt n false kf A (aput k x m) :: r') S' → QU () S') : xR (setD (.ref n) (kf k) (.ref j) S) QU E := by
  simp only [xR_eq, xS_eq] at *
  exact x_dsetO ki H p p' hk hl h
omit ki
theorem sx_dlenO (H : St l S) (p : Pick (dicAt n false kf A m) l r) (h : Q (.int m.length) S) : xR (fLenDT [.ref n] S) Q E := by
  simp only [xR_eq, xS_eq] at *
  exact x_dlenO H p h
end
theorem sx_lock {a : EM} {st : SM} {L : Loc} {S : Sto} {n : Nat} {kvs : List (D × D)} {l r : List Asn} {nx bk ct : Loc → Sto → Prop} {rt : D → Sto → Prop} {exx : Exc → Loc → Sto → Prop} (H : St l S) (p : Pick (pt n (.dic true false kvs)) l r) (ha : a L S = .ok (.ref n) S)
    (h : ∀ S', St (pt n (.dic true true kvs) :: r) S' → xS (st L S') ⟨fun L1 S1 => ∃ l2, St (pt n (.dic true true kvs) :: l2) S1 ∧ ∀ S2, St (pt n (.dic true false kvs) :: l2) S2 → nx L1 S2,
      fun d S1 => ∃ l2, St (pt n (.dic true true kvs) :: l2) S1 ∧ ∀ S2, St (pt n (.dic true false kvs) :: l2) S2 → rt d S2, fun _ _ => False, fun _ _ => False, exx⟩) : xS (sLock a st L S) ⟨nx, rt, bk, ct, exx⟩ := by
  simp only [xR_eq, xS_eq] at *
  exact x_lock H p ha h
theorem sx_wDic {a : EM} {L : Loc} {S : Sto} {n : Nat} {kvs : List (D × D)} {l r : List Asn} {Q : Wk → Sto → Prop} {E : Exc → Sto → Prop} (H : St l S) (p : Pick (pt n (.dic true true kvs)) l r) (ha : a L S = .ok (.ref n) S) (h : Q ⟨kvs.map (·.1), fun S => decide (S[n]? = some (.dic true true kvs))⟩ S) : xR (wDic a L S) Q E := by
  simp only [xR_eq, xS_eq] at *
  exact x_wDic H p ha h
end MP

namespace MP
open PySem (PyData)
section
variable {κ v : Type}
/-- a dict that owns, by its rows -/
def dicL (n : Nat) (lk : Bool) (kf : κ → D) (A : Nat → v → Asn) (rows : List (κ × Nat × v)) : Asn := bun (pt n (.dic true lk (rowsD kf rows)) :: own A rows)
variable {n : Nat} {lk : Bool} {kf : κ → D} {A : Nat → v → Asn} {rows : List (κ × Nat × v)} {l r : List Asn} {S : Sto}
theorem dicL_o : St (dicL n lk kf A rows :: l) S ↔ St (pt n (.dic true lk (rowsD kf rows)) :: (own A rows ++ l)) S := by
  rw [dicL, St.bun]
  exact Iff.rfl
theorem dicL_of [DecidableEq κ] {m : List (κ × v)} (H : St (dicAt n lk kf A m :: l) S) : ∃ rows, strip rows = m ∧ (m.map (·.1)).Nodup ∧ St (dicL n lk kf A rows :: l) S := by
  obtain ⟨rows, e1, nd, H⟩ := dicAt_o.mp H
  exact ⟨rows, e1, nd, dicL_o.mpr H⟩
theorem dicL_to [DecidableEq κ] (H : St (dicL n lk kf A rows :: l) S) (nd : ((strip rows).map (·.1)).Nodup) : St (dicAt n lk kf A (strip rows) :: l) S := dicAt_o.mpr ⟨rows, rfl, nd, dicL_o.mp H⟩
theorem dicL_get [DecidableEq κ] {z : κ × Nat × v} (H : St (dicL n lk kf A rows :: l) S) (hz : z ∈ rows) : St (A z.2.1 z.2.2 :: pt n (.dic true lk (rowsD kf rows)) :: l) S := by
  obtain ⟨r1, r2, rfl⟩ := List.append_of_mem hz
  have H := dicL_o.mp H
  rw [own_app] at H
  have H2 : St (pt n (.dic true lk (rowsD kf (r1 ++ z :: r2))) :: (own A r1 ++ A z.2.1 z.2.2 :: (own A r2 ++ l))) S := by
    rw [List.append_assoc] at H
    exact H
  have H3 := St.swap (St.mid2 H2)
  have drop : ∀ (xs ys : List Asn) (b : Hp), sats (xs ++ ys) b → sats ys b := fun xs => by
    induction xs with
    | nil => exact fun ys b h => h
    | cons D xs ih => exact fun ys b h => ih ys b (sats.tl h)
  exact sats.cons (fun b h => sats.cons (fun b h => drop _ _ b (drop _ _ b h)) h) H3
theorem kget_mem [DecidableEq κ] (ki : ∀ a b, kf a = kf b → a = b) {z : κ × Nat × v} (nd : ((strip rows).map (·.1)).Nodup) (hz : z ∈ rows) : kget (kf z.1) (rowsD kf rows) = some (.ref z.2.1) := by
  rw [kget_rows ki]
  obtain ⟨r1, r2, rfl⟩ := List.append_of_mem hz
  rw [strip_app] at nd
  obtain ⟨k, j, x⟩ := z
  have := (nodup_mid (r1 := strip r1) (r2 := strip r2) (x := x) nd).1
  rw [strip_keys] at this
  rw [aget_of this]
  rfl
theorem rows_keys (kf : κ → D) (rows : List (κ × Nat × v)) : (rowsD kf rows).map (·.1) = rows.map fun q => kf q.1 := by
  unfold rowsD
  rw [List.map_map]
  rfl
end
section
variable {l r : List Asn} {S : Sto} {L : Loc} {Q : D → Sto → Prop} {E : Exc → Sto → Prop}
theorem sx_elock {a m : EM} {n : Nat} {kvs : List (D × D)} (H : St l S) (p : Pick (pt n (.dic true false kvs)) l r) (ha : a L S = .ok (.ref n) S)
    (h : ∀ S', St (pt n (.dic true true kvs) :: r) S' → xR (m L S') (fun d S1 => ∃ l2, St (pt n (.dic true true kvs) :: l2) S1 ∧ ∀ S2, St (pt n (.dic true false kvs) :: l2) S2 → Q d S2) E) : xR (eLock a m L S) Q E := by
  simp only [xR_eq] at *
  have H1 := H.pk p
  have h := h _ (H1.set _)
  unfold eLock
  rw [ha]
  simp only [H1.at]
  cases e : m L (S.set n (.dic true true kvs)) with
  | ok d S1 =>
    rw [e] at h
    obtain ⟨l2, h1, h2⟩ := h
    simp only [unlD, h1.at]
    exact h2 _ (h1.set _)
  | exc x S1 => rw [e] at h; exact h
  | err => rw [e] at h; exact h
variable {κ v : Type} {n : Nat} {kf : κ → D} {A : Nat → v → Asn} {rows : List (κ × Nat × v)}
theorem sx_elockL {a m : EM} (H : St l S) (p : Pick (dicL n false kf A rows) l r) (ha : a L S = .ok (.ref n) S)
    (h : ∀ S', St (dicL n true kf A rows :: r) S' → xR (m L S') (fun d S1 => ∃ l2, St (dicL n true kf A rows :: l2) S1 ∧ ∀ S2, St (dicL n false kf A rows :: l2) S2 → Q d S2) E) : xR (eLock a m L S) Q E := by
  refine sx_elock (dicL_o.mp (H.pk p)) .here ha fun S' H' => ?_
  refine xR_mono (h S' (dicL_o.mpr H')) (fun d S1 ⟨l2, h1, h2⟩ => ⟨own A rows ++ l2, dicL_o.mp h1, fun S2 h3 => h2 S2 (dicL_o.mpr h3)⟩) fun _ _ z => z
theorem sx_lockL {a : EM} {st : SM} {nx bk ct : Loc → Sto → Prop} {rt : D → Sto → Prop} {exx : Exc → Loc → Sto → Prop} (H : St l S) (p : Pick (dicL n false kf A rows) l r) (ha : a L S = .ok (.ref n) S)
    (h : ∀ S', St (dicL n true kf A rows :: r) S' → xS (st L S') ⟨fun L1 S1 => ∃ l2, St (dicL n true kf A rows :: l2) S1 ∧ ∀ S2, St (dicL n false kf A rows :: l2) S2 → nx L1 S2,
      fun d S1 => ∃ l2, St (dicL n true kf A rows :: l2) S1 ∧ ∀ S2, St (dicL n false kf A rows :: l2) S2 → rt d S2, fun _ _ => False, fun _ _ => False, exx⟩) : xS (sLock a st L S) ⟨nx, rt, bk, ct, exx⟩ := by
  refine sx_lock (dicL_o.mp (H.pk p)) .here ha fun S' H' => ?_
  have := h S' (dicL_o.mpr H')
  simp only [xS_eq] at *
  exact wS_mono this (fun L1 S1 ⟨l2, h1, h2⟩ => ⟨own A rows ++ l2, dicL_o.mp h1, fun S2 h3 => h2 S2 (dicL_o.mpr h3)⟩) (fun L1 S1 ⟨l2, h1, h2⟩ => ⟨own A rows ++ l2, dicL_o.mp h1, fun S2 h3 => h2 S2 (dicL_o.mpr h3)⟩) (fun _ _ z => z) (fun _ _ z => z) fun _ _ _ z => z
theorem sx_wDicL {a : EM} {Q : Wk → Sto → Prop} (H : St l S) (p : Pick (dicL n true kf A rows) l r) (ha : a L S = .ok (.ref n) S) (h : Q ⟨rows.map fun q => kf q.1, fun S => decide (S[n]? = some (.dic true true (rowsD kf rows)))⟩ S) : xR (wDic a L S) Q E := by
  refine sx_wDic (dicL_o.mp (H.pk p)) .here ha ?_
  rw [rows_keys]
  exact h
theorem dicL_chk {S : Sto} (H : St l S) (p : Pick (dicL n true kf A rows) l r) : decide (S[n]? = some (.dic true true (rowsD kf rows))) = true := decide_eq_true (dicL_o.mp (H.pk p)).at
/-- self.f, where self is the instance at h -/
theorem fld_ok {c f i h : Nat} {fs : List (Nat × D)} {d : D} (H : St l S) (p : Pick (pt h (.ins c fs)) l r) (hL : L[i]? = some (some (.ref h))) (e : fget f fs = some d) : eUn (opFld c f) (eV i) L S = .ok d S := by
  simp only [eUn_a, eV_a, hL, R.bind_ok]
  exact opFld_r (H.rd p) e
end
end MP

namespace MP
open PySem (PyData)
/-- a comprehension whose parts may make new things, and leave all that is owned -/
theorem x_lcS {α : Type} {chk : Sto → Bool} {tg : TM} {t : BM} {e : EM} {L : Loc} {S : Sto} {l : List Asn} {Q : D → Sto → Prop} {E : Exc → Sto → Prop} (H : St l S) (g : α → D) (p : α → Bool) (f : α → D) {zs : List α} {its : List D} (hi : its = zs.map g)
    (hz : zs.length ≤ sz) (hc : ∀ S', St l S' → chk S' = true)
    (hs : ∀ z ∈ zs, ∀ m acc S', St (pt m (.lst acc) :: l) S' → wR (tg (g z) L S') (fun L1 S1 => wR (t L1 S1) (fun b S2 => b = p z ∧ St (pt m (.lst acc) :: l) S2 ∧ Whn (p z) (wR (e L1 S2) (fun y S3 => y = f z ∧ St (pt m (.lst acc) :: l) S3) Fl2)) Fl2) Fl2)
    (q : ∀ m S', St (pt m (.lst ((zs.filter p).map f)) :: l) S' → Q (.ref m) S') : wR (lcL chk tg t e L S.length its (S ++ [.lst []])) Q E := by
  subst hi
  refine lcL_inv (I := fun ys acc S' => ∃ us ws, ys = us.map g ∧ ws ++ us = zs ∧ acc = (ws.filter p).map f ∧ St (pt S.length (.lst acc) :: l) S') (fun ys acc S' ⟨us, ws, _, _, _, h⟩ => ⟨hc _ h.tl, h.at⟩) ?_ ?_ ⟨zs, [], rfl, rfl, rfl, H.alloc _⟩
  · rintro acc S' ⟨us, ws, e, e2, e3, h⟩
    cases us with
    | nil =>
      rw [List.append_nil] at e2
      subst e2 e3
      exact q _ _ h
    | cons u us => cases e
  · rintro y ys acc S' ⟨us, ws, e, e2, e3, h⟩
    cases us with
    | nil => cases e
    | cons u us =>
      rw [List.map_cons] at e
      cases e
      refine wR_mono (hs u (by rw [← e2]; simp) _ acc S' h) (fun L1 S1 w => ?_) fun _ _ z => z
      refine wR_mono w (fun b S2 ⟨z3, z2, w⟩ => ?_) fun _ _ z => z
      have e2' : (ws ++ [u]) ++ us = zs := by rw [← e2]; simp
      cases hb : p u with
      | true =>
        rw [z3, hb, if_pos rfl]
        refine wR_mono (w hb) (fun y S3 ⟨z5, z4⟩ => ?_) fun _ _ z => z
        have ln : acc.length < sz := by
          rw [e3, List.length_map]
          have h1 : (ws.filter p).length ≤ ws.length := List.length_filter_le _ _
          have h2 : ws.length + (us.length + 1) = zs.length := by rw [← e2]; simp
          omega
        exact ⟨acc, z4.at, ln, us, ws ++ [u], rfl, e2', by rw [e3, z5, List.filter_append]; simp [List.filter_cons, hb], z4.set _⟩
      | false =>
        rw [z3, hb, if_neg (by simp)]
        exact ⟨us, ws ++ [u], rfl, e2', by rw [e3, List.filter_append]; simp [List.filter_cons, hb], z2⟩
theorem sx_lcS {α : Type} {chk : Sto → Bool} {tg : TM} {t : BM} {e : EM} {L : Loc} {S : Sto} {l : List Asn} {Q : D → Sto → Prop} {E : Exc → Sto → Prop} (H : St l S) (g : α → D) (p : α → Bool) (f : α → D) {zs : List α} {its : List D} (hi : its = zs.map g)
    (hz : zs.length ≤ sz) (hc : ∀ S', St l S' → chk S' = true)
    (hs : ∀ z ∈ zs, ∀ m acc S', St (pt m (.lst acc) :: l) S' → xR (tg (g z) L S') (fun L1 S1 => xR (t L1 S1) (fun b S2 => b = p z ∧ St (pt m (.lst acc) :: l) S2 ∧ Whn (p z) (xR (e L1 S2) (fun y S3 => y = f z ∧ St (pt m (.lst acc) :: l) S3) Fl2)) Fl2) Fl2)
    (q : ∀ m S', St (pt m (.lst ((zs.filter p).map f)) :: l) S' → Q (.ref m) S') : xR (lcL chk tg t e L S.length its (S ++ [.lst []])) Q E := by
  simp only [xR_eq] at *
  exact x_lcS H g p f hi hz hc hs q
section
variable {l r : List Asn} {S : Sto} {Q : D → Sto → Prop} {E : Exc → Sto → Prop} {n : Nat}
theorem sx_insert {xs : List D} {i : Int} {y : D} (H : St l S) (p : Pick (pt n (.lst xs)) l r) (hl : xs.length < sz) (hi : 0 ≤ i ∧ i < 2 ^ 63) (h : ∀ S', St (pt n (.lst (xs.take i.toNat ++ [y] ++ xs.drop i.toNat)) :: r) S' → Q .non S') : xR (fInsert [.ref n, .int i, y] S) Q E := by
  rw [xR_eq]
  simp only [fInsert, H.rd p, if_pos (And.intro hl hi)]
  exact h _ ((H.pk p).set _)
theorem sx_mulL {xs : List D} {k : Int} (H : St l S) (p : Pick (pt n (.lst xs)) l r) (hk : -(2 ^ 63) ≤ k ∧ k < 2 ^ 63 ∧ xs.length * k.toNat ≤ sz) (h : ∀ m S', St (pt m (.lst (List.replicate k.toNat xs).flatten) :: l) S' → Q (.ref m) S') : xR (opMul (.ref n) (.int k) S) Q E := by
  rw [xR_eq]
  simp only [opMul, H.rd p, if_pos hk]
  exact h _ _ (H.alloc _)
theorem intsOf_mapI : ∀ ns : List Int, intsOf (ns.map .int) = some ns
  | [] => rfl
  | n :: ns => by simp [intsOf, intsOf_mapI ns]
theorem sx_countI {ns : List Int} {k : Int} (H : St l S) (p : Pick (pt n (.lst (ns.map .int))) l r) (h : Q (.int (ns.count k : Nat)) S) : xR (fCount [.ref n, .int k] S) Q E := by
  rw [xR_eq]
  simp only [fCount, H.rd p, intsOf_mapI]
  exact h
end
/-- places of their own -/
theorem St_pts {S : Sto} : ∀ {ps : List (Nat × Ob)}, (ps.map (·.1)).Nodup → (∀ q ∈ ps, S[q.1]? = some q.2) → St (ps.map fun q => pt q.1 q.2) S := by
  suffices h : ∀ (ps : List (Nat × Ob)), (ps.map (·.1)).Nodup → (∀ q ∈ ps, S[q.1]? = some q.2) → sats (ps.map fun q => pt q.1 q.2) (fun n => if n ∈ ps.map (·.1) then S[n]? else none) from fun {ps} nd hp => (h ps nd hp).St_of fun n o e => by
    simp only at e
    split at e
    · exact e
    · cases e
  intro ps
  induction ps with
  | nil => exact fun _ _ => trivial
  | cons q ps ih =>
    intro nd hp
    rw [List.map_cons, List.nodup_cons] at nd
    refine ⟨fun n => if n = q.1 then S[n]? else none, fun n => if n ∈ ps.map (·.1) then S[n]? else none, fun n => ?_, fun n o e => ?_, fun n o e => ?_, ?_, ih nd.2 fun z hz => hp z (List.mem_cons_of_mem _ hz)⟩
    · by_cases e : n = q.1
      · right
        simp only
        rw [e, if_neg nd.1]
      · left
        simp [e]
    · simp only at e ⊢
      split at e
      · rename_i z
        rw [if_pos (by rw [List.map_cons, z]; exact List.mem_cons_self ..)]
        exact e
      · cases e
    · simp only at e ⊢
      split at e
      · rename_i z
        rw [if_pos (by rw [List.map_cons]; exact List.mem_cons_of_mem _ z)]
        exact e
      · cases e
    · simp only [pt, if_true]
      exact hp q (List.mem_cons_self ..)
/-- one of many is taken aside -/
theorem St_aside {α : Type} {A : α → Asn} {zs pre post : List α} {z : α} {l : List Asn} {S : Sto} (e : zs = pre ++ z :: post) : St (bun (zs.map A) :: l) S ↔ St (A z :: bun ((pre ++ post).map A) :: l) S := by
  subst e
  rw [St.bun]
  have up : ∀ {x : Asn} {a b : List Asn}, St (a ++ x :: b) S → St (x :: (a ++ b)) S := fun {x a b} h => by
    have : Pick x (a ++ x :: b) (a ++ b) := by
      induction a with
      | nil => exact .here
      | cons y a ih => exact .there (ih (St.tl h))
    exact h.pk this
  have dn : ∀ {x : Asn} {a b : List Asn} {h : Hp}, sats (x :: (a ++ b)) h → sats (a ++ x :: b) h := fun {x a b} => by
    induction a with
    | nil => exact fun h => h
    | cons y a ih => exact fun h => sats.cons (fun b h => ih h) (sats.swap h)
  rw [List.map_append, List.map_append, List.map_cons, List.append_assoc, List.cons_append]
  constructor
  · intro h
    have := up h
    rw [← List.append_assoc] at this
    exact sats.cons (fun b h => sats.bun.mpr h) this
  · intro h
    have h : St (A z :: ((pre.map A ++ post.map A) ++ l)) S := sats.cons (fun b h => sats.bun.mp h) h
    rw [List.append_assoc] at h
    exact dn h
end MP

namespace MP
open PySem (PyData)
/-! words of tactics -/
set_option hygiene false in
local macro_rules
  | `(tactic| fail "pk") => `(tactic| first | with_reducible exact Pick.here | ((with_reducible apply Pick.hereE); (focus rfl)) | ((with_reducible apply hereH); (focus rfl)) | ((with_reducible apply Pick.there); fail "pk"))
  | `(tactic| fail "pks") => `(tactic| first | with_reducible exact Picks.nil | ((with_reducible apply Picks.cons); (focus (fail "pk")); fail "pks"))
  | `(tactic| fail "st") => `(tactic| with_reducible assumption)
  | `(tactic| fail "sp") => `(tactic| ((focus (fail "st")); (focus (fail "pk"))))
  | `(tactic| fail "fput") => `(tactic| (simp only [fput, reduceIte, Nat.reduceEqDiff, if_false, if_true]; rfl))
  | `(tactic| fail "lset") => `(tactic| (simp only [wipe, List.set_cons_succ, List.set_cons_zero]; rfl))
  | `(tactic| fail "pl") => `(tactic| first
      | (with_reducible exact pl_int) | (with_reducible exact pl_str) | (with_reducible exact pl_non) | (with_reducible exact pl_nm20 _) | (with_reducible exact pl_nm19 _) | (with_reducible exact pl_nm18 _) | (with_reducible exact pl_nm17 _) | (with_reducible exact pl_nm16 _) | (with_reducible exact pls_nil)
      | (with_reducible assumption)
      | ((with_reducible apply pls_map); intro _; fail "pl")
      | ((with_reducible apply pls_cons); (focus (fail "pl")); fail "pl")
      | ((with_reducible apply pls_app); (focus (fail "pl")); fail "pl")
      | (apply pl_tup (n := 19); fail "pl") | (apply pl_tup (n := 18); fail "pl") | (apply pl_tup (n := 17); fail "pl") | (apply pl_tup (n := 16); fail "pl")
      | rfl)
  | `(tactic| fail "ins") => `(tactic| first
      | ((with_reducible apply x_ins); fail "sp"; (focus rfl))
      | ((with_reducible apply tableAt_ins); fail "sp"; (focus decide))
      | ((with_reducible apply keepsAt_ins); fail "sp"; (focus decide))
      | ((with_reducible apply houseAt_ins); fail "sp"; (focus decide)))
  | `(tactic| fail "ty") => `(tactic| first | rfl | ((with_reducible apply x_tyL); fail "sp") | ((with_reducible apply x_tyD); fail "sp") | ((with_reducible apply n_tyDO); fail "sp") | ((with_reducible apply n_tyDH); fail "sp"))
  | `(tactic| fail "fn") => `(tactic| (apply sx_fn; (focus rfl); (focus (simp only [List.map_cons, List.map_nil, Nat.reduceSub, List.replicate_succ, List.replicate_zero, List.cons_append, List.nil_append]; rfl))))
  | `(tactic| fail "e1") => `(tactic| first
      | (with_reducible exact Ent.refl)
      | (with_reducible exact Ent.nil)
      | ((with_reducible apply Ent.pick); (focus (fail "pk")))
      | ((with_reducible apply Ent.back); (focus (fail "pk")); (focus (with_reducible assumption)))
      | ((with_reducible apply Ent.close); (focus (fail "pk")))
      | ((with_reducible apply Ent.empty); (focus (fail "pk")))
      | (with_reducible apply Ent.table)
      | (with_reducible apply Ent.keeps)
      | (with_reducible apply Ent.wait)
      | (with_reducible apply Ent.house)
      | (with_reducible apply Ent.die)
      | (with_reducible apply Ent.drop))
  | `(tactic| fail "ent") => `(tactic| ((repeat fail "e1"); done))
  | `(tactic| fail "u1") => `(tactic| first
      | ((with_reducible apply sx_seq))
      | ((with_reducible apply sx_asg))
      | ((with_reducible apply sx_Bin))
      | ((with_reducible apply sx_V); (focus rfl))
      | ((with_reducible apply sx_C))
      | ((with_reducible apply sx_Un))
      | ((with_reducible apply sx_Call))
      | ((with_reducible apply sx_aCons))
      | ((with_reducible apply sx_aNil))
      | ((with_reducible apply sx_gV); (focus (fail "lset")))
      | ((with_reducible apply sx_if))
      | ((with_reducible apply sx_tV))
      | ((with_reducible apply x_exb))
      | ((with_reducible apply x_exi))
      | ((with_reducible apply x_ext))
      | ((with_reducible apply x_exs))
      | ((with_reducible apply x_ble); (focus rfl))
      | ((with_reducible apply x_lens); (focus rfl); (focus rfl))
      | ((with_reducible apply x_itT))
      | ((with_reducible apply x_itF))
      | ((with_reducible apply x_itY); (focus rfl))
      | ((with_reducible apply x_itN); (focus rfl))
      | ((with_reducible apply sx_nx))
      | ((with_reducible apply sx_expr))
      | ((with_reducible apply sx_ret))
      | ((with_reducible apply sx_retN))
      | ((with_reducible apply sx_Tup))
      | ((with_reducible apply sx_Lst))
      | ((with_reducible apply sx_Meth))
      | ((with_reducible apply sx_BM))
      | ((with_reducible apply sx_Sl))
      | ((with_reducible apply sx_pSome))
      | ((with_reducible apply sx_pNo))
      | ((with_reducible apply sx_If))
      | ((with_reducible apply sx_tNot))
      | ((with_reducible apply sx_tYes))
      | ((with_reducible apply sx_Not))
      | ((with_reducible apply sx_Dic))
      | ((with_reducible apply sx_Make))
      | ((with_reducible apply sx_MakeK))
      | ((with_reducible apply sx_raise))
      | ((with_reducible apply sx_brk))
      | ((with_reducible apply sx_cnt))
      | ((with_reducible apply sx_gFld))
      | ((with_reducible apply sx_gSub))
      | ((with_reducible apply sx_gTup); (focus rfl))
      | ((with_reducible apply sx_gCons))
      | ((with_reducible apply sx_gNil))
      | (with_reducible exact x_fin)
      | (with_reducible apply x_sm)
      | ((with_reducible apply x_peq); (focus rfl))
      | ((with_reducible apply x_whn); intro hp))
  | `(tactic| fail "o1") => `(tactic| first
      | ((with_reducible apply p_din); fail "sp"; (focus (with_reducible assumption)))
      | ((with_reducible apply n_din); fail "sp"; (focus (with_reducible assumption)))
      | ((with_reducible apply p_dnin); fail "sp"; (focus (with_reducible assumption)))
      | ((with_reducible apply n_dnin); fail "sp"; (focus (with_reducible assumption)))
      | ((with_reducible apply p_dget); fail "sp"; (focus (with_reducible assumption)); (focus (with_reducible assumption)))
      | ((with_reducible apply n_dgetH); fail "sp"; (focus (with_reducible assumption)))
      | (with_reducible apply numi_st)
      | ((with_reducible apply needi_st); (focus (first | assumption | omega)))
      | ((with_reducible apply needd_st); (focus (first | assumption | omega)))
      | (with_reducible apply isi_tt)
      | (with_reducible apply isi_ti)
      | ((with_reducible apply in_I); fail "sp")
      | ((with_reducible apply nin_I); fail "sp")
      | ((with_reducible apply nin_W); fail "sp")
      | (with_reducible apply ne_sW)
      | (with_reducible apply ne_Ws)
      | (with_reducible apply eqnm_st)
      | (with_reducible apply nenm_st)
      | ((with_reducible apply sx_addI))
      | ((with_reducible apply sx_subI))
      | ((with_reducible apply sx_negI))
      | ((with_reducible apply sx_cmp))
      | ((with_reducible apply sx_isN))
      | ((with_reducible apply sx_notN))
      | ((with_reducible apply sx_eqI))
      | ((with_reducible apply sx_neI))
      | ((with_reducible apply sx_slT))
      | ((with_reducible apply sx_lenT))
      | ((with_reducible apply sx_min2))
      | ((with_reducible apply sx_max2))
      | ((with_reducible apply sx_ixT); (focus (with_unfolding_all rfl)))
      | ((with_reducible apply sx_mkO); (focus (fail "st")); intro n S H)
      | ((with_reducible apply sx_mkI); (focus (fail "st")); intro n S H)
      | ((with_reducible apply sx_fld); fail "sp"; (focus rfl))
      | ((with_reducible apply x_exr); (focus (fail "ins")))
      | ((with_reducible apply x_ty); (focus (fail "ty")))
      | ((with_reducible apply sx_setF); fail "sp"; (focus (fail "fput")); (focus rfl); intro S H)
      | ((with_reducible apply sx_lenL); fail "sp")
      | ((with_reducible apply sx_listL); fail "sp"; intro n S H)
      | ((with_reducible apply sx_listT); (focus (fail "st")); intro n S H)
      | ((with_reducible apply sx_tupL); fail "sp")
      | ((with_reducible apply sx_slL); fail "sp"; intro n S H)
      | ((with_reducible apply sx_wkL); fail "sp")
      | ((with_reducible apply sx_wLst))
      | ((with_reducible apply sx_wTup))
      | ((with_reducible apply sx_wStr))
      | ((with_reducible apply sx_wRng1))
      | ((with_reducible apply sx_Lc))
      | ((with_reducible apply sx_for))
      | ((with_reducible apply sx_eqP); (focus (fail "pl")); (focus (fail "pl")))
      | ((with_reducible apply sx_neP); (focus (fail "pl")); (focus (fail "pl")))
      | ((with_reducible apply sx_eqL); fail "sp"; (focus (fail "pk")); (focus (fail "pl")); (focus (fail "pl")))
      | ((with_reducible apply sx_neL); fail "sp"; (focus (fail "pk")); (focus (fail "pl")); (focus (fail "pl"))))
  | `(tactic| fail "b2") => `(tactic| first
      | ((with_reducible apply sx_tAnd2); (focus (fail "sx"; first | done | exact rfl)); (focus (intro _; fail "sx"; first | done | exact rfl)))
      | ((with_reducible apply sx_tOr2); (focus (fail "sx"; first | done | exact rfl)); (focus (intro _; fail "sx"; first | done | exact rfl))))
  | `(tactic| fail "sx") => `(tactic| repeat' (first | fail "u1" | fail "o1" | fail "b2"))
/-! end of words -/
/-! ### names, numbers: what is owned stays -/
section
variable {l : List Asn} {S : Sto} {Q : D → Sto → Prop} {E : Exc → Sto → Prop}
theorem nm_ki : ∀ a b : List (List Nat), nmD a = nmD b → a = b := fun _ _ => nmD_inj
theorem sign_lt : ∀ c ∈ signs, c < 0x110000 := by decide
theorem key_ok {nm : List (List Nat)} (h : okBeg nm = true) : keyOk true (nmD nm) = true := by
  unfold okBeg at h
  simp only [Bool.and_eq_true, decide_eq_true_eq, List.all_eq_true] at h
  simp only [keyOk, if_true, List.all_eq_true]
  intro d hd
  obtain ⟨x, hx, rfl⟩ := List.mem_map.mp hd
  have := h.2 x hx
  unfold okPart at this
  simp only [Bool.and_eq_true, decide_eq_true_eq, List.all_eq_true] at this
  simp only [isKey, List.all_eq_true, decide_eq_true_eq]
  exact fun c hc => sign_lt c (this.2.2 c hc)
theorem okNm_beg {nm : List (List Nat)} (h : okNm nm = true) : okBeg nm = true := by
  unfold okNm at h
  simp only [Bool.and_eq_true] at h
  exact h.1
theorem okBeg_len {nm : List (List Nat)} (h : okBeg nm = true) : nm.length ≤ 5 ∧ ∀ x ∈ nm, x.length ≤ sz := by
  unfold okBeg at h
  simp only [Bool.and_eq_true, decide_eq_true_eq, List.all_eq_true] at h
  exact ⟨h.1, fun x hx => okPart_len (h.2 x hx)⟩
theorem okBeg_take {nm : List (List Nat)} (h : okBeg nm = true) (m : Nat) : okBeg (nm.take m) = true := by
  unfold okBeg at h ⊢
  simp only [Bool.and_eq_true, decide_eq_true_eq, List.all_eq_true] at h ⊢
  exact ⟨by rw [List.length_take]; omega, fun x hx => h.2 x (List.mem_of_mem_take hx)⟩
theorem neednm_st {xs : List (List Nat)} (H : St l S) (h : okNm xs = true) (q : ∀ S', St l S' → Q .non S') : xR (f_need_name [nmD xs] S) Q E := by
  simp only [xR_eq] at *
  exact neednm_ok h (fun S' f => q S' (H.fm0 f)) (okBeg_len (okNm_beg h)).2
theorem isnm_st {xs : List (List Nat)} (H : St l S) (hx : ∀ x ∈ xs, x.length ≤ sz) (q : ∀ S', St l S' → Q (.bl (okNm xs)) S') : xR (f_is_name [nmD xs] S) Q E := by
  simp only [xR_eq] at *
  exact name_ok (fun S' f => q S' (H.fm0 f)) hx
theorem needi_st {x lo hi : Int} (h : lo ≤ x ∧ x ≤ hi) (q : Q .non S) : xR (f_need_number [.int x, .int lo, .int hi] S) Q E := by
  rw [xR_eq, need_i S h]
  exact q
theorem needd_st {x lo : Int} (h : lo ≤ x) (q : Q .non S) : xR (withD f_need_number [.non] [.int x, .int lo] S) Q E := by
  rw [xR_eq, need_d S h]
  exact q
theorem numi_st {x lo hi : Int} (q : Q (.bl (decide (lo ≤ x ∧ x ≤ hi))) S) : xR (f_is_number [.int x, .int lo, .int hi] S) Q E := by
  rw [xR_eq, num_i]
  exact q
theorem eqnm_st {a b : List (List Nat)} (h : Q (.bl (decide (a = b))) S) : xR (opEq (nmD a) (nmD b) S) Q E := by rw [xR_eq, opEq_nm]; exact h
theorem nenm_st {a b : List (List Nat)} (h : Q (.bl (!decide (a = b))) S) : xR (opNe (nmD a) (nmD b) S) Q E := by rw [xR_eq, opNe_nm]; exact h
theorem pl_nmn {n : Nat} (xs : List (List Nat)) : pl (n + 1) (nmD xs) = true := pl_mono (pl_nm xs) (by omega)
theorem pl_nm20 (xs : List (List Nat)) : pl 20 (nmD xs) = true := pl_nmn xs
theorem pl_nm19 (xs : List (List Nat)) : pl 19 (nmD xs) = true := pl_nmn xs
theorem pl_nm18 (xs : List (List Nat)) : pl 18 (nmD xs) = true := pl_nmn xs
theorem pl_nm17 (xs : List (List Nat)) : pl 17 (nmD xs) = true := pl_nmn xs
theorem pl_nm16 (xs : List (List Nat)) : pl 16 (nmD xs) = true := pl_nmn xs
/-- the dice -/
def dieAt (j : Nat) : Asn := ex fun a : Int => ex fun b : Int => pt j (.lst [.int a, .int b])
theorem dieAt_is {j : Nat} (H : St (dieAt j :: l) S) : isDie S j := by
  obtain ⟨a, H⟩ := St.ex.mp H
  obtain ⟨b, H⟩ := St.ex.mp H
  exact ⟨a, b, H.at⟩
theorem dieAt_fm {j : Nat} {S' : Sto} (H : St (dieAt j :: l) S) (f : Fm [j] S S') (h : isDie S' j) : St (dieAt j :: l) S' := by
  obtain ⟨a, H⟩ := St.ex.mp H
  obtain ⟨b, H⟩ := St.ex.mp H
  obtain ⟨a', b', h⟩ := h
  exact St.ex.mpr ⟨a', St.ex.mpr ⟨b', H.fm1 f h⟩⟩
theorem roll_st {j : Nat} {m : Int} {r : List Asn} (H : St l S) (p : Pick (dieAt j) l r) (hm : 0 < m) (hm2 : m < 2 ^ 64) (q : ∀ (i : Int) (S' : Sto), 0 ≤ i → i < m → St (dieAt j :: r) S' → Q (.int i) S') : xR (f__law_roll [.ref j, .int m] S) Q E := by
  simp only [xR_eq] at *
  exact roll_ok (dieAt_is (H.pk p)) hm hm2 fun i S' h0 h1 f h _ => q i S' h0 h1 (dieAt_fm (H.pk p) f h)
end
section
variable {v : Type} {n j : Nat} {lk : Bool} {A : Nat → v → Asn} {m : List (List (List Nat) × v)} {l r r' : List Asn} {S : Sto} {k : List (List Nat)} {x : v} {Q : D → Sto → Prop} {QU : Unit → Sto → Prop} {E : Exc → Sto → Prop}
theorem n_din (H : St l S) (p : Pick (dicAt n lk nmD A m) l r) (hk : okBeg k = true) (h : Q (.bl (aget k m).isSome) S) : xR (inD false (nmD k) (.ref n) S) Q E := sx_dinO nm_ki H p (key_ok hk) h
theorem n_dnin (H : St l S) (p : Pick (dicAt n lk nmD A m) l r) (hk : okBeg k = true) (h : Q (.bl (!(aget k m).isSome)) S) : xR (inD true (nmD k) (.ref n) S) Q E := sx_dninO nm_ki H p (key_ok hk) h
theorem n_dget (H : St l S) (p : Pick (dicAt n lk nmD A m) l r) (hk : okBeg k = true) (e : aget k m = some x) (h : ∀ j, St (A j x :: dicHole n lk nmD A m k j :: r) S → Q (.ref j) S) : xR (opGet (.ref n) (nmD k) S) Q E := sx_dgetO nm_ki H p (key_ok hk) e h
theorem n_dgetH (H : St l S) (p : Pick (dicHole n lk nmD A m k j) l r) (hk : okBeg k = true) (h : Q (.ref j) S) : xR (opGet (.ref n) (nmD k) S) Q E := sx_dgetH nm_ki H p (key_ok hk) h
theorem n_dpop (H : St l S) (p : Pick (dicAt n false nmD A m) l r) (hk : okBeg k = true) (e : aget k m = some x) (h : ∀ j S', St (A j x :: dicAt n false nmD A (adrop k m) :: r) S' → Q (.ref j) S') : xR (fPop1 [.ref n, nmD k] S) Q E := sx_dpopO nm_ki H p (key_ok hk) e h
theorem n_dpopH (H : St l S) (p : Pick (dicHole n false nmD A m k j) l r) (hk : okBeg k = true) (h : ∀ S', St (dicAt n false nmD A (adrop k m) :: r) S' → Q (.ref j) S') : xR (fPop1 [.ref n, nmD k] S) Q E := sx_dpopH nm_ki H p (key_ok hk) h
theorem n_dset (H : St l S) (p : Pick (dicAt n false nmD A m) l r) (p' : Pick (A j x) r r') (hk : okBeg k = true) (hl : m.length < sz) (h : ∀ S', St (dicAt n false nmD A (aput k x m) :: r') S' → QU () S') : xR (setD (.ref n) (nmD k) (.ref j) S) QU E := sx_dsetO nm_ki H p p' (key_ok hk) hl h
theorem n_tyDO (H : St l S) (p : Pick (dicAt n false nmD A m) l r) : tyNm S (.ref n) = some "dict" := x_tyDO H p
theorem n_tyDH (H : St l S) (p : Pick (dicHole n false nmD A m k j) l r) : tyNm S (.ref n) = some "dict" := x_tyDH H p
/-- dicts of plain things -/
def plD (vf : v → D) (m : List (List (List Nat) × v)) : List (D × D) := m.map fun q => (nmD q.1, vf q.2)
variable {vf : v → D}
theorem p_din (H : St l S) (p : Pick (pt n (.dic true lk (plD vf m))) l r) (hk : okBeg k = true) (h : Q (.bl (aget k m).isSome) S) : xR (inD false (nmD k) (.ref n) S) Q E := by
  refine sx_inD H p (key_ok hk) ?_ h
  unfold plD
  rw [kget_map nm_ki]
  cases aget k m <;> rfl
theorem p_dnin (H : St l S) (p : Pick (pt n (.dic true lk (plD vf m))) l r) (hk : okBeg k = true) (h : Q (.bl (!(aget k m).isSome)) S) : xR (inD true (nmD k) (.ref n) S) Q E := by
  refine sx_ninD H p (key_ok hk) ?_ h
  unfold plD
  rw [kget_map nm_ki]
  cases aget k m <;> rfl
theorem p_dget (H : St l S) (p : Pick (pt n (.dic true lk (plD vf m))) l r) (hk : okBeg k = true) (e : aget k m = some x) (h : Q (vf x) S) : xR (opGet (.ref n) (nmD k) S) Q E := by
  refine sx_dget H p (key_ok hk) ?_ h
  unfold plD
  rw [kget_map nm_ki, e]
  rfl
theorem p_dpop (H : St l S) (p : Pick (pt n (.dic true false (plD vf m))) l r) (hk : okBeg k = true) (e : aget k m = some x) (h : ∀ S', St (pt n (.dic true false (plD vf (adrop k m))) :: r) S' → Q (vf x) S') : xR (fPop1 [.ref n, nmD k] S) Q E := by
  refine sx_popD H p (key_ok hk) (d := vf x) ?_ fun S' H' => h S' ?_
  · unfold plD
    rw [kget_map nm_ki, e]
    rfl
  · unfold plD at H' ⊢
    rw [kdrop_map nm_ki] at H'
    exact H'
theorem p_dset {d : D} (H : St l S) (p : Pick (pt n (.dic true false (plD vf m))) l r) (hk : okBeg k = true) (hl : m.length < sz) (ed : d = vf x) (h : ∀ S', St (pt n (.dic true false (plD vf (aput k x m))) :: r) S' → QU () S') : xR (setD (.ref n) (nmD k) d S) QU E := by
  subst ed
  refine sx_setD H p (key_ok hk) (by simpa [plD] using hl) fun S' H' => h S' ?_
  unfold plD at H' ⊢
  rw [kput_map nm_ki] at H'
  exact H'
end
/-! ### tables, by their rows -/
abbrev Nm := List (List Nat)
abbrev Tab := List (Nm × List Int)
abbrev sdAt (j : Nat) (s : List Int) : Asn := pt j (.lst (s.map .int))
def tableAt (r : Nat) (t : Tab) : Asn := ex fun tl : Nat => bun [pt r (.ins 3 [(38, .ref tl)]), dicAt tl false nmD sdAt t]
theorem tableAt_o {r : Nat} {t : Tab} {l : List Asn} {S : Sto} : St (tableAt r t :: l) S ↔ ∃ tl, St (pt r (.ins 3 [(38, .ref tl)]) :: dicAt tl false nmD sdAt t :: l) S := by
  rw [tableAt, St.ex]
  simp only [St.bun]
  exact Iff.rfl
theorem Ent.table {r tl : Nat} {t : Tab} {l l' : List Asn} (e : Ent l (pt r (.ins 3 [(38, .ref tl)]) :: dicAt tl false nmD sdAt t :: l')) : Ent l (tableAt r t :: l') := Ent.ex tl (Ent.bun e)
theorem tableAt_ins {r m : Nat} {t : Tab} {l l' : List Asn} {S : Sto} (H : St l S) (p : Pick (tableAt r t) l l') (hm : ¬ 38 = m) : insOk S r 3 m := by
  obtain ⟨tl, H⟩ := tableAt_o.mp (H.pk p)
  exact x_ins H .here (by simp only [fget]; rw [if_neg (fun z => hm z.symm)])
def tLongN (t : Tab) (nm : Nm) : Nat → Option Nm
  | 0 => if (aget (nm.take 0) t).isSome = true then some (nm.take 0) else none
  | m + 1 => if (aget (nm.take (m + 1)) t).isSome = true then some (nm.take (m + 1)) else tLongN t nm m
def tLong (t : Tab) (nm : Nm) : Option Nm := tLongN t nm nm.length
def tFound (t : Tab) (nm : Nm) : List Int := match tLong t nm with
  | none => []
  | some b => (aget b t).getD []
theorem tLongN_some {t : Tab} {nm b : Nm} : ∀ {m : Nat}, tLongN t nm m = some b → (∃ k, b = nm.take k) ∧ ∃ s, aget b t = some s
  | 0, h => by
    unfold tLongN at h
    split at h
    · rename_i e
      cases h
      exact ⟨⟨0, rfl⟩, Option.isSome_iff_exists.mp e⟩
    · cases h
  | m + 1, h => by
    unfold tLongN at h
    split at h
    · rename_i e
      cases h
      exact ⟨⟨m + 1, rfl⟩, Option.isSome_iff_exists.mp e⟩
    · exact tLongN_some h
theorem rngDn_cons (m : Nat) : rngDn (m : Int) (m + 1) = .int m :: (if m = 0 then [] else rngDn ((m - 1 : Nat) : Int) m) := by
  unfold rngDn
  rw [List.range_succ_eq_map]
  simp only [List.map_cons, List.map_map]
  congr 1
  cases m with
  | zero => rfl
  | succ m =>
    simp only [Nat.add_one_ne_zero, if_false, Nat.add_sub_cancel]
    refine List.map_congr_left fun k _ => ?_
    simp only [Function.comp, Nat.succ_eq_add_one]
    congr 1
    omega
theorem sx_rngDn {a b : EM} {L : Loc} {S : Sto} {Q : Wk → Sto → Prop} {E : Exc → Sto → Prop} (h : xR (a L S) (fun x S1 => xR (b L S1) (fun y S2 => ∃ i, x = .int i ∧ ∃ j, y = .int j ∧ (-(2 ^ 62) ≤ i ∧ i < 2 ^ 62 ∧ -(2 ^ 62) ≤ j ∧ j < 2 ^ 62) ∧ Q ⟨rngDn i (i - j).toNat, fun _ => true⟩ S2) E) E) : xR (wRngDn a b L S) Q E := by
  simp only [xR_eq] at *
  simp only [wRngDn, wR_bind]
  refine wR_mono h (fun x S1 h => wR_mono h (fun y S2 ⟨i, e1, j, e2, h1, h2⟩ => ?_) fun _ _ z => z) fun _ _ z => z
  subst e1
  subst e2
  simp only [if_pos h1]
  exact h2
theorem cut_take {α : Type} (xs : List α) (n : Nat) : cut xs none (some (n : Int)) = xs.take n := cut_none xs n
def onmD : Option Nm → D
  | none => .non
  | some b => nmD b
section
variable {r : Nat} {t : Tab} {F : List Asn} {S : Sto} {Q : D → Sto → Prop} {E : Exc → Sto → Prop} {nm : Nm}
theorem tlong_st (H : St (tableAt r t :: F) S) (hk : okBeg nm = true) (q : Q (onmD (tLong t nm)) S) : xR (f_Table_longest [.ref r, nmD nm] S) Q E := by
  obtain ⟨tl, H2⟩ := tableAt_o.mp H
  have hl := (okBeg_len hk).1
  fail "fn"
  unfold c_Table_longest
  fail "sx"
  refine sx_rngDn ?_
  fail "sx"
  rw [List.length_map]
  refine ⟨⟨by omega, by omega, by omega, by omega⟩, ?_⟩
  have e0 : ((nm.length : Int) - -1).toNat = nm.length + 1 := by omega
  rw [e0]
  refine sx_inv (fun ys L S' => S' = S ∧ (∃ b, L = [some (.ref r), some (nmD nm), b]) ∧ ((ys = [] ∧ tLong t nm = none) ∨ ∃ m : Nat, m ≤ nm.length ∧ ys = rngDn (m : Int) (m + 1) ∧ tLong t nm = tLongN t nm m)) (fun _ _ _ _ => rfl) ⟨rfl, ⟨_, rfl⟩, .inr ⟨nm.length, Nat.le_refl _, rfl, rfl⟩⟩ ?_ ?_
  · rintro L S' ⟨rfl, ⟨b, rfl⟩, ⟨_, h⟩ | ⟨m, _, e, _⟩⟩
    · rw [h] at q
      fail "sx"
      exact q
    · rw [rngDn_cons] at e
      cases e
  · rintro y ys L S' ⟨rfl, ⟨b, rfl⟩, ⟨e, _⟩ | ⟨m, hm, e, h⟩⟩
    · cases e
    rw [rngDn_cons] at e
    obtain ⟨rfl, e2⟩ := List.cons.inj e
    clear e
    fail "sx"
    rw [cut_take, ← List.map_take]
    refine n_din H2 (by fail "pk") (okBeg_take hk m) ?_
    fail "sx"
    refine x_iteb (fun h1 => ?_) fun h1 => ?_
    · fail "sx"
      rw [cut_take, ← List.map_take]
      have : tLong t nm = some (nm.take m) := by
        rw [h]
        cases m <;> (unfold tLongN; rw [if_pos h1])
      rw [this] at q
      exact q
    · fail "sx"
      refine ⟨⟨_, rfl⟩, ?_⟩
      cases m with
      | zero =>
        refine .inl ⟨e2, ?_⟩
        rw [h]
        unfold tLongN
        rw [if_neg (by rw [h1]; simp)]
      | succ m =>
        refine .inr ⟨m, by omega, e2, ?_⟩
        rw [h]
        show tLongN t nm (m + 1) = _
        unfold tLongN
        rw [if_neg (by rw [h1]; simp)]
        cases m <;> rfl
theorem tfound_st (H : St (tableAt r t :: F) S) (hk : okBeg nm = true) (q : ∀ j S', St (sdAt j (tFound t nm) :: tableAt r t :: F) S' → Q (.ref j) S') : xR (f_Table_found [.ref r, nmD nm] S) Q E := by
  fail "fn"
  unfold c_Table_found
  fail "sx"
  refine tlong_st H hk ?_
  unfold tFound at q
  cases e : tLong t nm with
  | none =>
    rw [e] at q
    simp only [onmD]
    fail "sx"
    exact q _ _ H
  | some b =>
    rw [e] at q
    obtain ⟨⟨k, rfl⟩, s, hs⟩ := tLongN_some e
    simp only [hs, Option.getD_some] at q
    simp only [onmD]
    fail "sx"
    obtain ⟨tl, H⟩ := tableAt_o.mp H
    fail "sx"
    refine n_dget H (by fail "pk") (okBeg_take hk k) hs fun j H => ?_
    fail "sx"
    exact q _ _ (H.ent (by fail "ent"))
end
/-! ### keeps -/
abbrev Row := List (List Nat) × Int × Int
abbrev rowD (r : Row) : D := .tup [nmD r.1, .int r.2.1, .int r.2.2]
def keepsAt (k : Nat) (room : Int) (rs : List Row) : Asn := ex fun l : Nat => bun [pt k (.ins 1 [(64, .int room), (38, .ref l)]), pt l (.lst (rs.map rowD))]
theorem keepsAt_o {k : Nat} {room : Int} {rs : List Row} {l : List Asn} {S : Sto} : St (keepsAt k room rs :: l) S ↔ ∃ j, St (pt k (.ins 1 [(64, .int room), (38, .ref j)]) :: pt j (.lst (rs.map rowD)) :: l) S := by
  rw [keepsAt, St.ex]
  simp only [St.bun]
  exact Iff.rfl
theorem Ent.keeps {k j : Nat} {room : Int} {rs : List Row} {l l' : List Asn} (e : Ent l (pt k (.ins 1 [(64, .int room), (38, .ref j)]) :: pt j (.lst (rs.map rowD)) :: l')) : Ent l (keepsAt k room rs :: l') := Ent.ex j (Ent.bun e)
theorem Ent.keeps0 {k j : Nat} {room : Int} {l l' : List Asn} (e : Ent l (pt k (.ins 1 [(64, .int room), (38, .ref j)]) :: pt j (.lst []) :: l')) : Ent l (keepsAt k room [] :: l') := Ent.keeps (rs := []) e
theorem keepsAt_ins {k m : Nat} {room : Int} {rs : List Row} {l l' : List Asn} {S : Sto} (H : St l S) (p : Pick (keepsAt k room rs) l l') (hm : ¬ (64 = m ∨ 38 = m)) : insOk S k 1 m := by
  obtain ⟨j, H⟩ := keepsAt_o.mp (H.pk p)
  exact x_ins H .here (by simp only [fget]; rw [if_neg (fun z => hm (.inl z.symm)), if_neg (fun z => hm (.inr z.symm))])
abbrev others (nm : Nm) (rs : List Row) : List Row := rs.filter fun r => !decide (r.1 = nm)
theorem cut_last {α : Type} (xs : List α) (room : Int) (h : 0 < room) : cut xs (some (-room)) none = xs.drop (xs.length - room.toNat) := by
  have e : sIx xs.length 0 (some (-room)) = xs.length - room.toNat := by
    simp only [sIx]
    rw [if_pos (by omega)]
    omega
  have e2 : sIx xs.length xs.length none = xs.length := rfl
  unfold cut
  rw [e, e2, List.take_of_length_le (by simp)]
def kept (nm : Nm) (v u now room : Int) (rs : List Row) : List Row := if now < u ∧ 0 < room then (others nm rs ++ [(nm, v, u)]).drop ((others nm rs).length + 1 - room.toNat) else others nm rs
abbrev alive (nm : Nm) (now : Int) (rs : List Row) : List Row := rs.filter fun r => decide (r.1 = nm) && decide (now < r.2.2)
def dueD : List Row → D
  | [] => .non
  | r :: _ => .tup [.int r.2.1, .int r.2.2]
def gotRows (nm : Nm) (now : Int) (rs : List Row) : List Row := if alive nm now rs = [] then rs else others nm rs ++ alive nm now rs
abbrev agedRows (now : Int) (rs : List Row) : List Row := rs.filter fun r => decide (now < r.2.2)
section
variable {k : Nat} {room now v u : Int} {rs : List Row} {nm : Nm} {F : List Asn} {S : Sto} {Q : D → Sto → Prop} {E : Exc → Sto → Prop}
theorem takeout_st (H : St (keepsAt k room rs :: F) S) (hz : rs.length ≤ 1000)
   (q : ∀ v S', St (keepsAt k room (others nm rs) :: F) S' → Q v S') : xR (f_Keeps_take_out [.ref k, nmD nm] S) Q E := by
  obtain ⟨j, H⟩ := keepsAt_o.mp H
  fail "fn"
  unfold c_Keeps_take_out
  fail "sx"
  refine sx_lc (zs := rs) H rowD (fun r => decide (r.1 = nm)) rowD rfl (by unfold sz; omega) (fun S' H => by simp only [H.rd (n := j) (o := .lst (rs.map rowD)) (by fail "pk"), decide_true]) (fun r _ m acc S' H => by fail "sx") fun m S H => ?_
  fail "sx"
  refine sx_lc (zs := rs) H rowD (fun r => !decide (r.1 = nm)) rowD rfl (by unfold sz; omega) (fun S' H => by simp only [H.rd (n := j) (o := .lst (rs.map rowD)) (by fail "pk"), decide_true]) (fun r _ m acc S' H => by fail "sx") fun m' S H => ?_
  fail "sx"
  refine x_iteb (fun h => ?_) fun h => ?_
  · fail "sx"
    cases e : rs.filter fun r => decide (r.1 = nm) with
    | nil => simp [e] at h
    | cons r t =>
      rw [e] at H
      refine sx_ixL (xs := (r :: t).map rowD) H (by fail "pk") (atI_0 (rowD r) (t.map rowD)) ?_
      exact q _ _ (H.ent (by fail "ent"))
  · fail "sx"
    exact q _ _ (H.ent (by fail "ent"))
theorem keep_st (H : St (keepsAt k room rs :: F) S) (hz : rs.length ≤ 1000)
   (q : ∀ S', St (keepsAt k room (kept nm v u now room rs) :: F) S' → Q .non S') : xR (f_Keeps_keep [.ref k, nmD nm, .int v, .int u, .int now] S) Q E := by
  fail "fn"
  unfold c_Keeps_keep
  fail "sx"
  refine takeout_st H hz fun w S H => ?_
  have hl : (others nm rs).length ≤ 1000 := Nat.le_trans (List.length_filter_le _ _) hz
  obtain ⟨j, H⟩ := keepsAt_o.mp H
  fail "sx"
  refine x_iteb (fun h => ?_) fun h => ?_
  · simp only [Bool.and_eq_true, decide_eq_true_eq] at h
    fail "sx"
    refine sx_addL H (by fail "pk") (by fail "pk") (by simp only [List.length_map, List.length_cons, List.length_nil]; unfold sz; omega) fun m S H => ?_
    fail "sx"
    rw [cut_last _ _ h.2] at H
    have e5 : [D.tup [nmD nm, .int v, .int u]] = [((nm, v, u) : Row)].map rowD := rfl
    rw [e5, ← List.map_append, ← List.map_drop] at H
    have e7 : ((others nm rs ++ [((nm, v, u) : Row)]).map rowD).length = (others nm rs).length + 1 := by simp
    rw [e7] at H
    refine q _ (H.ent ?_)
    unfold kept
    rw [if_pos h]
    fail "ent"
  · fail "sx"
    refine q _ (H.ent ?_)
    unfold kept
    rw [if_neg (fun z => by simp [z.1, z.2] at h)]
    fail "ent"
theorem find_st (H : St (keepsAt k room rs :: F) S) (hz : rs.length ≤ 1000)
   (q : ∀ S', St (keepsAt k room (gotRows nm now rs) :: F) S' → Q (dueD (alive nm now rs)) S') : xR (f_Keeps_find [.ref k, nmD nm, .int now] S) Q E := by
  obtain ⟨j, H⟩ := keepsAt_o.mp H
  fail "fn"
  unfold c_Keeps_find
  fail "sx"
  refine sx_lc (zs := rs) H rowD (fun r => decide (r.1 = nm) && decide (now < r.2.2)) rowD rfl (by unfold sz; omega) (fun S' H => by simp only [H.rd (n := j) (o := .lst (rs.map rowD)) (by fail "pk"), decide_true]) (fun r _ m acc S' H => by fail "sx") fun m S H => ?_
  fail "sx"
  have l1 : (others nm rs).length ≤ 1000 := Nat.le_trans (List.length_filter_le _ _) hz
  have l2 : (alive nm now rs).length ≤ 1000 := Nat.le_trans (List.length_filter_le _ _) hz
  refine x_ite (fun h => ?_) fun h => ?_
  · have h : alive nm now rs = [] := List.map_eq_nil_iff.mp h
    fail "sx"
    unfold gotRows at q
    rw [if_pos h, h] at q
    exact q _ (H.ent (by fail "ent"))
  · have h : ¬ alive nm now rs = [] := fun z => h (List.map_eq_nil_iff.mpr z)
    unfold gotRows at q
    rw [if_neg h] at q
    have H := H.ent (l' := keepsAt k room rs :: pt m (.lst ((alive nm now rs).map rowD)) :: F) (by fail "ent")
    fail "sx"
    refine takeout_st H hz fun w S H => ?_
    obtain ⟨j, H⟩ := keepsAt_o.mp H
    fail "sx"
    refine sx_addL H (by fail "pk") (by fail "pk") (by simp only [List.length_map]; unfold sz; omega) fun m S H => ?_
    rw [← List.map_append] at H
    fail "sx"
    cases e : alive nm now rs with
    | nil => exact absurd e h
    | cons r t =>
      rw [e] at H q
      refine sx_ixL (xs := (r :: t).map rowD) H (by fail "pk") (atI_0 (rowD r) (t.map rowD)) ?_
      fail "sx"
      exact q _ (H.ent (by fail "ent"))
theorem kinit_st (H : St (pt k (.ins 1 []) :: F) S) (h : 0 ≤ room ∧ room ≤ 9) (q : ∀ S', St (keepsAt k room [] :: F) S' → Q .non S') : xR (f_Keeps___init__ [.ref k, .int room] S) Q E := by
  fail "fn"
  unfold c_Keeps___init__
  fail "sx"
  fail "sx"
  exact q _ (H.ent (by fail "ent"))
end
section
variable {k : Nat} {room now v u : Int} {rs : List Row} {nm : Nm} {F : List Asn} {S : Sto} {Q : D → Sto → Prop} {E : Exc → Sto → Prop}
theorem rows_st (H : St (keepsAt k room rs :: F) S) (q : ∀ j S', St (pt j (.lst (rs.map rowD)) :: keepsAt k room rs :: F) S' → Q (.ref j) S') : xR (f_Keeps_rows [.ref k] S) Q E := by
  obtain ⟨j, H⟩ := keepsAt_o.mp H
  fail "fn"
  unfold c_Keeps_rows
  fail "sx"
  exact q _ _ (H.ent (by fail "ent"))
end
/-! ### a house -/
inductive Wh where
  | sd (i : Int)
  | ow (k : Nat)
deriving DecidableEq
def wOwn : List Nat := [111, 119, 110]
def whD : Wh → D
  | .sd i => .int i
  | .ow k => .tup [.str wOwn, .int k]
theorem whD_inj {a b : Wh} (h : whD a = whD b) : a = b := by
  cases a <;> cases b <;> simp [whD] at h ⊢ <;> omega
theorem pl_wh {n : Nat} (w : Wh) : pl (n + 1) (whD w) = true := by cases w <;> rfl
inductive Lt where
  | ask (n : Nm)
  | thing (n : Nm) (v u : Int)
  | no (n : Nm)
deriving DecidableEq
def ltD : Lt → D
  | .ask n => .tup [.str wAsk, nmD n]
  | .thing n v u => .tup [.str wThing, nmD n, .int v, .int u]
  | .no n => .tup [.str wNo, nmD n]
def Lt.val : Lt → Option Int
  | .thing _ v _ => some v
  | _ => none
def Lt.name : Lt → Nm
  | .ask n => n
  | .thing n _ _ => n
  | .no n => n
def oiD : Option Int → D
  | none => .non
  | some v => .int v
def endD : Option (Option Int) → D
  | none => .tup []
  | some x => .tup [oiD x]
abbrev Out := List (Int × Lt)
def msgD (m : Int × Lt) : D := .tup [.int m.1, ltD m.2]
theorem pl_lt {n : Nat} (t : Lt) : pl (n + 2) (ltD t) = true := by
  cases t <;> simp [ltD, pl, pls, pls_map (fun x => pl_str)]
theorem pl_msg {n : Nat} (m : Int × Lt) : pl (n + 3) (msgD m) = true := by simp [msgD, pl, pls, pl_lt]
theorem pl_end {n : Nat} (x : Option (Option Int)) : pl (n + 1) (endD x) = true := by
  rcases x with _ | _ | x <;> simp [endD, oiD, pl, pls, pl_non, pl_int]
structure Wt where
  since : Int
  who : List Wh
  asked : List Int
  noes : List Int
deriving DecidableEq
structure Hs where
  me : Int
  near : List Int
  room : Int
  keeps : List Row
  most : Int
  tab : Tab
  things : List (Nm × Int × Int)
  pend : List (Nm × Wt)
  fresh : List (Nm × Int × Int × Int)
  ends : List (Option (Option Int))
abbrev intsAt (j : Nat) (s : List Int) : Asn := pt j (.lst (s.map .int))
def waitAt (r : Nat) (w : Wt) : Asn := ex fun a : Nat => ex fun b : Nat => ex fun c : Nat => bun [pt r (.ins 4 [(70, .int w.since), (85, .ref a), (9, .ref b), (50, .ref c)]), pt a (.lst (w.who.map whD)), pt b (.lst (w.asked.map .int)), pt c (.lst (w.noes.map .int))]
def thD (x : Int × Int) : D := .tup [.int x.1, .int x.2]
def frD (x : Int × Int × Int) : D := .tup [.int x.1, .int x.2.1, .int x.2.2]
def houseAt (h : Nat) (v : Hs) : Asn := ex fun n1 : Nat => ex fun sh : Nat => ex fun rd : Nat => ex fun th : Nat => ex fun pd : Nat => ex fun fr : Nat => ex fun en : Nat =>
  bun [pt h (.ins 0 [(41, .int v.me), (44, .ref n1), (68, .ref sh), (43, .int v.most), (63, .ref rd), (80, .ref th), (58, .ref pd), (24, .ref fr), (20, .ref en)]), pt n1 (.lst (v.near.map .int)), keepsAt sh v.room v.keeps, tableAt rd v.tab,
    pt th (.dic true false (plD thD v.things)), dicAt pd false nmD waitAt v.pend, pt fr (.dic true false (plD frD v.fresh)), pt en (.lst (v.ends.map endD))]
theorem waitAt_o {r : Nat} {w : Wt} {l : List Asn} {S : Sto} : St (waitAt r w :: l) S ↔ ∃ a b c, St (pt r (.ins 4 [(70, .int w.since), (85, .ref a), (9, .ref b), (50, .ref c)]) :: pt a (.lst (w.who.map whD)) :: pt b (.lst (w.asked.map .int)) :: pt c (.lst (w.noes.map .int)) :: l) S := by
  simp only [waitAt, St.ex, St.bun]
  exact Iff.rfl
theorem houseAt_o {h : Nat} {v : Hs} {l : List Asn} {S : Sto} : St (houseAt h v :: l) S ↔ ∃ n1 sh rd th pd fr en, St (pt h (.ins 0 [(41, .int v.me), (44, .ref n1), (68, .ref sh), (43, .int v.most), (63, .ref rd), (80, .ref th), (58, .ref pd), (24, .ref fr), (20, .ref en)]) :: pt n1 (.lst (v.near.map .int)) :: keepsAt sh v.room v.keeps :: tableAt rd v.tab ::
    pt th (.dic true false (plD thD v.things)) :: dicAt pd false nmD waitAt v.pend :: pt fr (.dic true false (plD frD v.fresh)) :: pt en (.lst (v.ends.map endD)) :: l) S := by
  simp only [houseAt, St.ex, St.bun]
  exact Iff.rfl
theorem Ent.wait {r a b c : Nat} {w : Wt} {l l' : List Asn} (e : Ent l (pt r (.ins 4 [(70, .int w.since), (85, .ref a), (9, .ref b), (50, .ref c)]) :: pt a (.lst (w.who.map whD)) :: pt b (.lst (w.asked.map .int)) :: pt c (.lst (w.noes.map .int)) :: l')) : Ent l (waitAt r w :: l') := Ent.ex a (Ent.ex b (Ent.ex c (Ent.bun e)))
theorem Ent.house {h n1 sh rd th pd fr en : Nat} {v : Hs} {l l' : List Asn} (e : Ent l (pt h (.ins 0 [(41, .int v.me), (44, .ref n1), (68, .ref sh), (43, .int v.most), (63, .ref rd), (80, .ref th), (58, .ref pd), (24, .ref fr), (20, .ref en)]) :: pt n1 (.lst (v.near.map .int)) :: keepsAt sh v.room v.keeps :: tableAt rd v.tab ::
    pt th (.dic true false (plD thD v.things)) :: dicAt pd false nmD waitAt v.pend :: pt fr (.dic true false (plD frD v.fresh)) :: pt en (.lst (v.ends.map endD)) :: l')) : Ent l (houseAt h v :: l') := Ent.ex n1 (Ent.ex sh (Ent.ex rd (Ent.ex th (Ent.ex pd (Ent.ex fr (Ent.ex en (Ent.bun e)))))))
theorem hereH {h : Nat} {v v' : Hs} {r : List Asn} (e : v' = v) : Pick (houseAt h v) (houseAt h v' :: r) r := by subst e; exact .here
theorem houseAt_ins {h m : Nat} {v : Hs} {l l' : List Asn} {S : Sto} (H : St l S) (p : Pick (houseAt h v) l l') (hm : m ∉ [41, 44, 68, 43, 63, 80, 58, 24, 20]) : insOk S h 0 m := by
  obtain ⟨n1, sh, rd, th, pd, fr, en, H⟩ := houseAt_o.mp (H.pk p)
  simp only [List.mem_cons, List.not_mem_nil, or_false, not_or] at hm
  exact x_ins H .here (by simp [fget, hm])
/-- what is small enough -/
structure hOk (v : Hs) : Prop where
  near : v.near.length ≤ 1000
  keeps : v.keeps.length ≤ 1000
  tab : ∀ q ∈ v.tab, q.2.length ≤ 1000
  things : v.things.length < sz
  pend : v.pend.length ≤ 1000
  fresh : v.fresh.length < sz
  ends : v.ends.length < sz
  who : ∀ q ∈ v.pend, q.2.who.length ≤ 1000 ∧ q.2.asked.length ≤ 1000000 ∧ q.2.noes.length ≤ 1000000
/-! what it does -/
def outW (t : Lt) : Wh → Out
  | .sd i => [(i, t)]
  | .ow _ => []
def endW (t : Lt) (ends : List (Option (Option Int))) : Wh → List (Option (Option Int))
  | .sd _ => ends
  | .ow k => ends.set k (some t.val)
def whoOk (n : Nat) : Wh → Prop
  | .sd _ => True
  | .ow k => k < n
def tSides (v : Hs) (nm : Nm) : List Int := (tFound v.tab nm).filter fun i => decide (i ∈ v.near)
def Hs.tell (v : Hs) (w : Wh) (t : Lt) : Hs × Out := ({v with ends := endW t v.ends w}, outW t w)
def Hs.tellAll (v : Hs) (ws : List Wh) (t : Lt) : Hs × Out := ({v with ends := ws.foldl (endW t) v.ends}, ws.flatMap (outW t))
def jstep (nm : Nm) (who : List Wh) (noes : List Int) (q : List Int × Out) (s : Int) : List Int × Out := if s ∉ q.1 ∧ s ∉ noes ∧ who ≠ [.sd s] then (q.1 ++ [s], q.2 ++ [(s, .ask nm)]) else q
def addW (w : Wh) (ws : List Wh) : List Wh := if w ∈ ws then ws else ws ++ [w]
def Hs.joined (v : Hs) (w : Wh) (nm : Nm) (p : Wt) : Hs × Out :=
  let q := (tSides v nm).foldl (jstep nm (addW w p.who) p.noes) (p.asked, [])
  ({v with pend := aput nm ⟨p.since, addW w p.who, q.1, p.noes⟩ v.pend}, q.2)
def freshOf (v : Hs) (nm : Nm) (now : Int) : Option (Int × Int) := match aget nm v.fresh with
  | some (x, u, n) => if n = now then some (x, u) else none
  | none => none
def Hs.heard (v : Hs) (nm : Nm) (now : Int) : Option (Int × Int) := match alive nm now v.keeps with
  | r :: _ => some (r.2.1, r.2.2)
  | [] => freshOf v nm now
def Hs.askedBy (v : Hs) (w : Wh) (nm : Nm) (now : Int) : Hs × Out := match aget nm v.things with
  | some (x, life) => v.tell w (.thing nm x (now + life))
  | none => match v.heard nm now with
    | some (x, u) => Hs.tell {v with keeps := gotRows nm now v.keeps} w (.thing nm x u)
    | none => match aget nm v.pend with
      | some p => Hs.joined {v with keeps := gotRows nm now v.keeps} w nm p
      | none => if (tSides v nm).filter (fun s => !decide (Wh.sd s = w)) = [] then Hs.tell {v with keeps := gotRows nm now v.keeps} w (.no nm) else
          ({v with keeps := gotRows nm now v.keeps, pend := aput nm ⟨now, [w], (tSides v nm).filter (fun s => !decide (Wh.sd s = w)), []⟩ v.pend}, ((tSides v nm).filter (fun s => !decide (Wh.sd s = w))).map fun s => (s, .ask nm))
def Hs.thingFrom (v : Hs) (side : Int) (nm : Nm) (x u now : Int) : Hs × Out := match aget nm v.pend with
  | some p => if side ∈ p.asked then Hs.tellAll {v with keeps := kept nm x u now v.room v.keeps, fresh := aput nm (x, u, now) v.fresh, pend := adrop nm v.pend} (p.who.filter fun w => !decide (w = .sd side)) (.thing nm x u) else (v, [])
  | none => (v, [])
def Hs.noFrom (v : Hs) (side : Int) (nm : Nm) : Hs × Out := match aget nm v.pend with
  | some p => if side ∈ p.asked then (if p.asked.erase side ≠ [] then ({v with pend := aput nm ⟨p.since, p.who, p.asked.erase side, p.noes ++ [side]⟩ v.pend}, []) else Hs.tellAll {v with pend := adrop nm v.pend} p.who (.no nm)) else (v, [])
  | none => (v, [])
def Hs.ask (v : Hs) (nm : Nm) (now : Int) : Hs × Out := Hs.askedBy {v with ends := v.ends ++ [none]} (.ow v.ends.length) nm now
def Hs.come (v : Hs) (side : Int) (t : Lt) (now : Int) : Hs × Out := match t with
  | .ask nm => v.askedBy (.sd side) nm now
  | .thing nm x u => if now ≤ u then v.thingFrom side nm x u now else v.noFrom side nm
  | .no nm => v.noFrom side nm
def dueNames (v : Hs) (now : Int) : List Nm := (v.pend.filter fun q => decide (v.most ≤ now - q.2.since)).map (·.1)
def tickStep (q : Hs × Out) (nm : Nm) : Hs × Out := match aget nm q.1.pend with
  | some p => ((Hs.tellAll {q.1 with pend := adrop nm q.1.pend} p.who (.no nm)).1, q.2 ++ (Hs.tellAll {q.1 with pend := adrop nm q.1.pend} p.who (.no nm)).2)
  | none => q
def Hs.tick (v : Hs) (now : Int) : Hs × Out := (dueNames v now).foldl tickStep ({v with keeps := agedRows now v.keeps}, [])
/-! rules -/
section
variable {l r r' : List Asn} {S : Sto} {Q : D → Sto → Prop} {QU : Unit → Sto → Prop} {E : Exc → Sto → Prop} {n m : Nat}
theorem inL_pl {x : D} {xs : List D} {neg : Bool} (h : S[n]? = some (.lst xs)) (hx : pl 20 x = true) (hy : pls 20 xs = true) : inL neg x (.ref n) S = .ok (.bl (if neg = true then !decide (x ∈ xs) else decide (x ∈ xs))) S := by
  have e : mapR S xs = some (toPys xs) := reify_pls S 20 59 xs hy (by decide)
  have e1 : reify 60 S x = some (toPy x) := reify_pl S 20 60 x hx (by decide)
  have e2 : ((toPys xs).any fun z => PyData.eqv z (toPy x)) = decide (x ∈ xs) := by
    clear h e
    induction xs with
    | nil => rfl
    | cons y ys ih =>
      simp only [pls, Bool.and_eq_true] at hy
      simp only [toPys, List.any_cons]
      rw [ih hy.2, eqv_pl 20 20 y x hy.1 hx, Bool.eq_iff_iff]
      simp only [Bool.or_eq_true, decide_eq_true_eq, List.mem_cons]
      exact or_congr ⟨fun z => z.symm, fun z => z.symm⟩ Iff.rfl
  simp only [inL, h, e, e1, e2]
theorem in_I {i : Int} {ns : List Int} (H : St l S) (p : Pick (pt n (.lst (ns.map .int))) l r) (h : Q (.bl (decide (i ∈ ns))) S) : xR (inL false (.int i) (.ref n) S) Q E := by
  refine xR_ok (inL_pl (H.rd p) rfl (pls_map fun _ => pl_int)) ?_
  have : decide (D.int i ∈ ns.map D.int) = decide (i ∈ ns) := by rw [Bool.eq_iff_iff]; simp
  simp only [Bool.false_eq_true, if_false]
  rw [this]
  exact h
theorem nin_I {i : Int} {ns : List Int} (H : St l S) (p : Pick (pt n (.lst (ns.map .int))) l r) (h : Q (.bl (!decide (i ∈ ns))) S) : xR (inL true (.int i) (.ref n) S) Q E := by
  refine xR_ok (inL_pl (H.rd p) rfl (pls_map fun _ => pl_int)) ?_
  have : decide (D.int i ∈ ns.map D.int) = decide (i ∈ ns) := by rw [Bool.eq_iff_iff]; simp
  simp only [if_true]
  rw [this]
  exact h
theorem nin_W {w : Wh} {ns : List Wh} (H : St l S) (p : Pick (pt n (.lst (ns.map whD))) l r) (h : Q (.bl (!decide (w ∈ ns))) S) : xR (inL true (whD w) (.ref n) S) Q E := by
  refine xR_ok (inL_pl (H.rd p) (pl_wh w) (pls_map fun _ => pl_wh _)) ?_
  have : decide (whD w ∈ ns.map whD) = decide (w ∈ ns) := by
    rw [Bool.eq_iff_iff]
    simp only [List.mem_map, decide_eq_true_eq]
    exact ⟨fun ⟨a, h1, h2⟩ => whD_inj h2 ▸ h1, fun h => ⟨w, h, rfl⟩⟩
  simp only [if_true]
  rw [this]
  exact h
theorem ne_sW {s : Int} {w : Wh} (h : Q (.bl (!decide (Wh.sd s = w))) S) : xR (opNe (.int s) (whD w) S) Q E := by
  refine sx_neP rfl (pl_wh w) ?_
  have : decide (D.int s = whD w) = decide (Wh.sd s = w) := by
    rw [Bool.eq_iff_iff]
    simp only [decide_eq_true_eq]
    exact ⟨fun z => whD_inj (a := .sd s) z, fun z => by rw [← z]; rfl⟩
  rw [this]
  exact h
theorem ne_Ws {s : Int} {w : Wh} (h : Q (.bl (!decide (w = Wh.sd s))) S) : xR (opNe (whD w) (.int s) S) Q E := by
  refine sx_neP (pl_wh w) rfl ?_
  have : decide (whD w = D.int s) = decide (w = Wh.sd s) := by
    rw [Bool.eq_iff_iff]
    simp only [decide_eq_true_eq]
    exact ⟨fun z => whD_inj (b := .sd s) z, fun z => by rw [z]; rfl⟩
  rw [this]
  exact h
theorem rm_I {i : Int} {ns : List Int} (H : St l S) (p : Pick (pt n (.lst (ns.map .int))) l r) (hi : i ∈ ns) (h : ∀ S', St (pt n (.lst ((ns.erase i).map .int)) :: r) S' → Q .non S') : xR (fRemove [.ref n, .int i] S) Q E := by
  have e : ∀ ns : List Int, intsOf (ns.map .int) = some ns := fun ns => by
    induction ns with
    | nil => rfl
    | cons n ns ih => simp [intsOf, ih]
  have e2 : fRemove [.ref n, .int i] S = .ok .non (S.set n (.lst ((ns.erase i).map .int))) := by
    simp only [fRemove, H.rd p, e, if_pos hi]
  exact xR_ok e2 (h _ ((H.pk p).set _))
end
section
variable {S : Sto} {Q : D → Sto → Prop} {E : Exc → Sto → Prop}
theorem isi_tt {xs : List D} (h : Q (.bl true) S) : xR (opIsi "tuple" (.tup xs) S) Q E := xR_ok (by simp [opIsi, tyNm]) h
theorem isi_ti {i : Int} (h : Q (.bl false) S) : xR (opIsi "tuple" (.int i) S) Q E := xR_ok (by simp [opIsi, tyNm]) h
theorem ixN_nat {n k : Nat} (h : k < n) : ixN n (k : Int) = some k := by
  unfold ixN
  rw [if_pos (by omega), if_pos (by omega)]
  simp
theorem atI_map {α : Type} {f : α → D} {xs : List α} {i : Nat} {x : α} (h : xs[i]? = some x) : atI (xs.map f) (i : Int) = some (f x) := by
  have hl := (List.getElem?_eq_some_iff.mp h).1
  unfold atI
  rw [ixN_nat (by simpa using hl)]
  simp [h]
end
section
variable {h : Nat} {v : Hs} {F : List Asn} {S : Sto} {Q : D → Sto → Prop} {E : Exc → Sto → Prop} {w : Wh} {t : Lt} {nm : Nm}
theorem tell_st (H : St (houseAt h v :: F) S) (hw : whoOk v.ends.length w) (q : ∀ j S', St (pt j (.lst ((v.tell w t).2.map msgD)) :: houseAt h (v.tell w t).1 :: F) S' → Q (.ref j) S') : xR (f_House_tell [.ref h, whD w, ltD t] S) Q E := by
  obtain ⟨n1, sh, rd, th, pd, fr, en, H⟩ := houseAt_o.mp H
  fail "fn"
  unfold c_House_tell
  cases w with
  | sd i =>
    simp only [whD]
    fail "sx"
    refine q _ _ (H.ent ?_)
    simp only [Hs.tell, endW, outW, List.map_cons, List.map_nil, msgD]
    fail "ent"
  | ow k =>
    simp only [whD]
    have hk : k < (v.ends.map endD).length := by rw [List.length_map]; exact hw
    have e : (v.ends.map endD).set k (.tup [oiD t.val]) = (v.ends.set k (some t.val)).map endD := by rw [List.map_set]; rfl
    cases t <;> (
      simp only [ltD]
      fail "sx"
      refine sx_setL H (by fail "pk") (ixN_nat hk) fun S H => ?_
      simp only [Lt.val, oiD] at e
      rw [e] at H
      fail "sx"
      refine q _ _ (H.ent ?_)
      simp only [Hs.tell, endW, outW, List.map_nil, Lt.val]
      fail "ent")
theorem tellf_eq (v : Hs) (t : Lt) : ∀ (ws : List Wh) (o : Out), ws.foldl (fun (q : Hs × Out) w => ((q.1.tell w t).1, q.2 ++ (q.1.tell w t).2)) (v, o) = ((v.tellAll ws t).1, o ++ (v.tellAll ws t).2) := by
  intro ws
  induction ws generalizing v with
  | nil => intro o; simp [Hs.tellAll]
  | cons w ws ih =>
    intro o
    rw [List.foldl_cons, ih]
    simp [Hs.tellAll, Hs.tell, List.append_assoc]
theorem outW_len (t : Lt) (w : Wh) : (outW t w).length ≤ 1 := by cases w <;> simp [outW]
theorem tellAll_len (v : Hs) (t : Lt) : ∀ ws : List Wh, (v.tellAll ws t).2.length ≤ ws.length
  | [] => by simp [Hs.tellAll]
  | w :: ws => by
    have ih := tellAll_len v t ws
    have h1 := outW_len t w
    simp only [Hs.tellAll, List.flatMap_cons, List.length_append, List.length_cons] at ih ⊢
    omega
theorem endW_len (t : Lt) (ends : List (Option (Option Int))) (w : Wh) : (endW t ends w).length = ends.length := by cases w <;> simp [endW]
theorem tellAll_ends (v : Hs) (t : Lt) : ∀ ws : List Wh, (v.tellAll ws t).1.ends.length = v.ends.length := by
  intro ws
  simp only [Hs.tellAll]
  suffices h : ∀ (ws : List Wh) (e : List (Option (Option Int))), (ws.foldl (endW t) e).length = e.length from h ws _
  intro ws
  induction ws with
  | nil => intro e; rfl
  | cons w ws ih => intro e; rw [List.foldl_cons, ih, endW_len]
theorem tellall_st {ws : List Wh} {wl : Nat} (H : St (houseAt h v :: pt wl (.lst (ws.map whD)) :: F) S) (hz : ws.length ≤ 1000000) (hw : ∀ w ∈ ws, whoOk v.ends.length w) (q : ∀ j S', St (pt j (.lst ((v.tellAll ws t).2.map msgD)) :: houseAt h (v.tellAll ws t).1 :: pt wl (.lst (ws.map whD)) :: F) S' → Q (.ref j) S') : xR (f_House_tell_all [.ref h, .ref wl, ltD t] S) Q E := by
  fail "fn"
  unfold c_House_tell_all
  fail "sx"
  refine sx_fold (zs := ws) (s0 := ((v, []) : Hs × Out)) whD (fun (q : Hs × Out) w => ((q.1.tell w t).1, q.2 ++ (q.1.tell w t).2)) (fun s L S => ∃ j b, L = [some (.ref h), some (.ref wl), some (ltD t), some (.ref j), b] ∧ St (pt j (.lst (s.2.map msgD)) :: houseAt h s.1 :: pt wl (.lst (ws.map whD)) :: F) S) rfl (fun s L S ⟨j, b, _, H⟩ => by simp only [H.rd (n := wl) (o := .lst (ws.map whD)) (by fail "pk"), decide_true]) ⟨_, _, rfl, H.ent (by fail "ent")⟩ ?_ ?_
  · rintro pre w post L S e ⟨j, b, rfl, H⟩
    rw [tellf_eq] at H ⊢
    have hw1 : whoOk (v.tellAll pre t).1.ends.length w := by rw [tellAll_ends]; exact hw w (by rw [e]; simp)
    have hl := tellAll_len v t pre
    have hl2 : pre.length ≤ ws.length := by rw [e]; simp
    simp only [List.nil_append] at H ⊢
    fail "sx"
    refine tell_st (t := t) (H.ent (by fail "ent")) hw1 fun k S H => ?_
    have hl3 := outW_len t w
    refine sx_addL H (by fail "pk") (by fail "pk") (by simp only [List.length_map, Hs.tell]; unfold sz; omega) fun m S H => ?_
    rw [← List.map_append] at H
    fail "sx"
    exact ⟨_, _, rfl, H.ent (by fail "ent")⟩
  · rintro L S ⟨j, b, rfl, H⟩
    rw [tellf_eq] at H
    simp only [List.nil_append] at H
    fail "sx"
    exact q _ _ H
theorem tFound_len (hv : hOk v) (nm : Nm) : (tFound v.tab nm).length ≤ 1000 := by
  unfold tFound
  cases e : tLong v.tab nm with
  | none => simp
  | some b =>
    cases e2 : aget b v.tab with
    | none => simp [e2]
    | some s => simpa [e2] using hv.tab _ (aget_mem e2)
theorem tSides_len (hv : hOk v) (nm : Nm) : (tSides v nm).length ≤ 1000 := Nat.le_trans (List.length_filter_le _ _) (tFound_len hv nm)
theorem tsides0_st {fs : List (Nat × D)} {n1 rd : Nat} (H : St (pt h (.ins 0 fs) :: pt n1 (.lst (v.near.map .int)) :: tableAt rd v.tab :: F) S) (e1 : fget 44 fs = some (.ref n1)) (e2 : fget 63 fs = some (.ref rd)) (hv : hOk v) (hk : okBeg nm = true)
    (q : ∀ j S', St (intsAt j (tSides v nm) :: pt h (.ins 0 fs) :: pt n1 (.lst (v.near.map .int)) :: tableAt rd v.tab :: F) S' → Q (.ref j) S') : xR (f_House_table_sides [.ref h, nmD nm] S) Q E := by
  fail "fn"
  unfold c_House_table_sides
  fail "sx"
  refine sx_fld H (by fail "pk") e2 ?_
  fail "sx"
  refine tfound_st (H.ent (by fail "ent")) hk fun j S H => ?_
  fail "sx"
  have hl := tFound_len hv nm
  refine sx_lc (zs := tFound v.tab nm) H .int (fun i => decide (i ∈ v.near)) .int rfl (by unfold sz; omega) (fun S' H => by simp only [H.rd (n := j) (o := .lst ((tFound v.tab nm).map .int)) (by fail "pk"), decide_true]) (fun r _ m acc S' H => ?_) fun m S H => ?_
  · fail "sx"
    refine sx_fld H (by fail "pk") e1 ?_
    fail "sx"
  exact q _ _ (H.ent (by fail "ent"))
theorem tsides_st (H : St (houseAt h v :: F) S) (hv : hOk v) (hk : okBeg nm = true) (q : ∀ j S', St (intsAt j (tSides v nm) :: houseAt h v :: F) S' → Q (.ref j) S') : xR (f_House_table_sides [.ref h, nmD nm] S) Q E := by
  obtain ⟨n1, sh, rd, th, pd, fr, en, H⟩ := houseAt_o.mp H
  exact tsides0_st (H.ent (by fail "ent")) rfl rfl hv hk fun j S H => q _ _ (H.ent (by fail "ent"))
theorem jfold_len (nm : Nm) (who : List Wh) (noes : List Int) : ∀ (ss : List Int) (q : List Int × Out), (ss.foldl (jstep nm who noes) q).1.length ≤ q.1.length + ss.length ∧ (ss.foldl (jstep nm who noes) q).2.length ≤ q.2.length + ss.length
  | [], q => by simp
  | s :: ss, q => by
    have ih := jfold_len nm who noes ss (jstep nm who noes q s)
    have h1 : (jstep nm who noes q s).1.length ≤ q.1.length + 1 ∧ (jstep nm who noes q s).2.length ≤ q.2.length + 1 := by
      unfold jstep
      split <;> simp
    rw [List.foldl_cons, List.length_cons]
    omega
theorem joined_st {p : Wt} (H : St (houseAt h v :: F) S) (hv : hOk v) (hk : okBeg nm = true) (hp : aget nm v.pend = some p) (q : ∀ j S', St (pt j (.lst ((v.joined w nm p).2.map msgD)) :: houseAt h (v.joined w nm p).1 :: F) S' → Q (.ref j) S') : xR (f_House_joined [.ref h, whD w, nmD nm] S) Q E := by
  obtain ⟨n1, sh, rd, th, pd, fr, en, H⟩ := houseAt_o.mp H
  have hb := hv.who _ (aget_mem hp)
  simp only at hb
  fail "fn"
  unfold c_House_joined
  fail "sx"
  refine n_dget H (by fail "pk") hk hp fun j H => ?_
  obtain ⟨a, b, c, H⟩ := waitAt_o.mp H
  fail "sx"
  rename_i n _ _
  obtain ⟨G, hG⟩ : ∃ G, G = keepsAt sh v.room v.keeps :: pt th (.dic true false (plD thD v.things)) :: pt fr (.dic true false (plD frD v.fresh)) :: pt en (.lst (v.ends.map endD)) :: F := ⟨_, rfl⟩
  obtain ⟨fs, hfs⟩ : ∃ fs, fs = [(41, D.int v.me), (44, .ref n1), (68, .ref sh), (43, .int v.most), (63, .ref rd), (80, .ref th), (58, .ref pd), (24, .ref fr), (20, .ref en)] := ⟨_, rfl⟩
  have e44 : fget 44 fs = some (.ref n1) := by rw [hfs]; rfl
  have e63 : fget 63 fs = some (.ref rd) := by rw [hfs]; rfl
  -- who asked
  have go : ∀ (S : Sto), St (pt n (.lst []) :: pt j (.ins 4 [(70, .int p.since), (85, .ref a), (9, .ref b), (50, .ref c)]) :: pt a (.lst ((addW w p.who).map whD)) :: pt b (.lst (p.asked.map .int)) :: pt c (.lst (p.noes.map .int)) :: dicHole pd false nmD waitAt v.pend nm j ::
      pt h (.ins 0 fs) :: pt n1 (.lst (v.near.map .int)) :: tableAt rd v.tab :: G) S →
      xS (sSeq (sFor (wLst (eMeth 0 74 f_House_table_sides (eV 0) (aCons (eV 2) aNil))) (gV 3) (sIf (tAnd (tV (eBin (inL true) (eV 3) (eUn (opFld 4 9) (eV 4)))) (tAnd (tV (eBin (inL true) (eV 3) (eUn (opFld 4 50) (eV 4)))) (tV (eBin opNe (eUn (opFld 4 85) (eV 4)) (eLst (aCons (eV 3) aNil)))))) (sSeq (sExpr (eBM "list" fAppend (eUn (opFld 4 9) (eV 4)) (aCons (eV 3) aNil)))
        (sExpr (eBM "list" fAppend (eV 5) (aCons (eTup (aCons (eV 3) (aCons (eTup (aCons (eC (.str [97, 115, 107])) (aCons (eV 2) aNil))) aNil))) aNil)))) sNx)) (sRet (eV 5)) [some (.ref h), some (whD w), some (nmD nm), none, some (.ref j), some (.ref n)] S) ⟨fun _ S1 => Q .non S1, Q, fun _ _ => False, fun _ _ => False, fun x _ S => E x S⟩ := by
    intro S H
    apply sx_seq
    apply sx_for
    apply sx_wLst
    apply sx_Meth
    apply sx_V
    · rfl
    refine ⟨h, rfl, x_ins H (fs := fs) (by fail "pk") (by rw [hfs]; rfl), ?_⟩
    fail "sx"
    refine tsides0_st (v := v) (H.ent (by fail "ent")) e44 e63 hv hk fun k S H => ?_
    fail "sx"
    have hl := tSides_len hv nm
    refine sx_fold (zs := tSides v nm) (s0 := ((p.asked, []) : List Int × Out)) .int (jstep nm (addW w p.who) p.noes) (fun s L S => ∃ b0, L = [some (.ref h), some (whD w), some (nmD nm), b0, some (.ref j), some (.ref n)] ∧
      St (pt n (.lst (s.2.map msgD)) :: pt b (.lst (s.1.map .int)) :: intsAt k (tSides v nm) :: pt j (.ins 4 [(70, .int p.since), (85, .ref a), (9, .ref b), (50, .ref c)]) :: pt a (.lst ((addW w p.who).map whD)) :: pt c (.lst (p.noes.map .int)) :: dicHole pd false nmD waitAt v.pend nm j ::
        pt h (.ins 0 fs) :: pt n1 (.lst (v.near.map .int)) :: tableAt rd v.tab :: G) S) rfl (fun s L S ⟨_, _, H⟩ => by simp only [H.rd (n := k) (o := .lst ((tSides v nm).map .int)) (by fail "pk"), decide_true]) ⟨_, rfl, H.ent (by fail "ent")⟩ ?_ ?_
    · rintro pre s post L S e ⟨b0, rfl, H⟩
      have hj := jfold_len nm (addW w p.who) p.noes pre (p.asked, [])
      have hl2 : pre.length ≤ (tSides v nm).length := by rw [e]; simp
      simp only [List.length_nil] at hj
      generalize pre.foldl (jstep nm (addW w p.who) p.noes) (p.asked, []) = z at H hj ⊢
      fail "sx"
      refine sx_cut H (decide (s ∉ z.1 ∧ s ∉ p.noes ∧ addW w p.who ≠ [.sd s])) ?_ fun S H => ?_
      · apply sx_tAnd
        fail "sx"
        refine x_itn (fun h1 => ?_) fun h1 => ?_
        · apply sx_tAnd
          fail "sx"
          refine x_itn (fun h2 => ?_) fun h2 => ?_
          · fail "sx"
            refine sx_neL H (by fail "pk") (by fail "pk") (pls_map fun _ => pl_wh _) (by fail "pl") ?_
            fail "sx"
            refine ⟨?_, H.ent (by fail "ent")⟩
            have : (List.map whD (addW w p.who) = [D.int s]) ↔ addW w p.who = [.sd s] := by
              constructor
              · intro z
                have : (addW w p.who).map whD = [Wh.sd s].map whD := z
                exact (List.map_inj_right (fun _ _ => whD_inj)).mp this
              · intro z
                rw [z]
                rfl
            simp [h1, h2, this]
          · fail "sx"
            exact ⟨by simp [h2], H⟩
        · fail "sx"
          exact ⟨by simp [h1], H⟩
      · refine x_ite (fun hc => ?_) fun hc => ?_
        · have ej : jstep nm (addW w p.who) p.noes z s = (z.1 ++ [s], z.2 ++ [(s, .ask nm)]) := by unfold jstep; rw [if_pos hc]
          rw [ej]
          fail "sx"
          refine sx_append H (by fail "pk") (by rw [List.length_map]; unfold sz; omega) fun S H => ?_
          fail "sx"
          refine sx_append H (by fail "pk") (by rw [List.length_map]; unfold sz; omega) fun S H => ?_
          fail "sx"
          refine ⟨_, rfl, H.ent ?_⟩
          simp only [List.map_append, List.map_cons, List.map_nil]
          fail "ent"
        · have ej : jstep nm (addW w p.who) p.noes z s = z := by unfold jstep; rw [if_neg hc]
          rw [ej]
          fail "sx"
          exact ⟨_, rfl, H⟩
    · rintro L S ⟨b0, rfl, H⟩
      fail "sx"
      subst hG hfs
      refine q _ _ (H.ent ?_)
      unfold Hs.joined
      simp only
      generalize (tSides v nm).foldl (jstep nm (addW w p.who) p.noes) (p.asked, []) = z
      fail "ent"
  refine x_itn (fun h1 => ?_) fun h1 => ?_
  · fail "sx"
    refine sx_append H (by fail "pk") (by rw [List.length_map]; unfold sz; omega) fun S H => ?_
    have e : p.who.map whD ++ [whD w] = (addW w p.who).map whD := by unfold addW; rw [if_neg h1]; simp
    rw [e] at H
    subst hG hfs
    exact go _ (H.ent (by fail "ent"))
  · apply sx_nx
    have e : p.who = addW w p.who := by unfold addW; rw [if_pos h1]
    rw [e] at H
    subst hG hfs
    exact go _ (H.ent (by fail "ent"))
end
theorem filters_len {α : Type} (p q : α → Bool) : ∀ xs : List α, (xs.filter fun x => !p x).length + (xs.filter fun x => p x && q x).length ≤ xs.length
  | [] => by simp
  | x :: xs => by
    have ih := filters_len p q xs
    simp only [List.filter_cons, List.length_cons]
    cases p x <;> cases q x <;> simp <;> omega
theorem gotRows_len (nm : Nm) (now : Int) (rs : List Row) : (gotRows nm now rs).length ≤ rs.length := by
  unfold gotRows
  split
  · exact Nat.le_refl _
  · rw [List.length_append]
    exact filters_len (fun r : Row => decide (r.1 = nm)) (fun r => decide (now < r.2.2)) rs
theorem hOk.got {v : Hs} (hv : hOk v) (nm : Nm) (now : Int) : hOk {v with keeps := gotRows nm now v.keeps} :=
  ⟨hv.near, Nat.le_trans (gotRows_len nm now v.keeps) hv.keeps, hv.tab, hv.things, hv.pend, hv.fresh, hv.ends, hv.who⟩
section
variable {h : Nat} {v : Hs} {F : List Asn} {S : Sto} {Q : D → Sto → Prop} {E : Exc → Sto → Prop} {w : Wh} {t : Lt} {nm : Nm} {now x u side : Int}
theorem winit_st {n a b : Nat} {w : Wt} (H : St (pt n (.ins 4 []) :: pt a (.lst (w.who.map whD)) :: pt b (.lst (w.asked.map .int)) :: F) S) (e : w.noes = []) (q : ∀ S', St (waitAt n w :: F) S' → Q .non S') : xR (f_Wait___init__ [.ref n, .int w.since, .ref a, .ref b] S) Q E := by
  fail "fn"
  unfold c_Wait___init__
  fail "sx"
  refine q _ (H.ent ?_)
  obtain ⟨s, who, asked, noes⟩ := w
  simp only at e
  subst e
  fail "ent"
/-- asked for what it doesn't have -/
def Hs.asked2 (v : Hs) (w : Wh) (nm : Nm) (now : Int) : Hs × Out := match aget nm v.pend with
  | some p => v.joined w nm p
  | none => if (tSides v nm).filter (fun s => !decide (Wh.sd s = w)) = [] then v.tell w (.no nm) else
    ({v with pend := aput nm ⟨now, [w], (tSides v nm).filter (fun s => !decide (Wh.sd s = w)), []⟩ v.pend}, ((tSides v nm).filter (fun s => !decide (Wh.sd s = w))).map fun s => (s, .ask nm))
def asked2C : SM := (sSeq (sIf (tV (eBin (inD false) (eV 2) (eUn (opFld 0 58) (eV 0)))) (sRet (eMeth 0 32 f_House_joined (eV 0) (aCons (eV 1) (aCons (eV 2) aNil)))) sNx)
  (sSeq (sAsg (eLc (wLst (eMeth 0 74 f_House_table_sides (eV 0) (aCons (eV 2) aNil))) (gV 8) (tV (eBin opNe (eV 8) (eV 1))) (eV 8) [8]) (gV 5))
  (sSeq (sIf (tV (eBin opEq (eV 5) (eLst aNil))) (sRet (eMeth 0 77 f_House_tell (eV 0) (aCons (eV 1) (aCons (eTup (aCons (eC (.str [110, 111])) (aCons (eV 2) aNil))) aNil)))) sNx)
  (sSeq (sAsg (eMake 4 f_Wait___init__ (aCons (eV 3) (aCons (eLst (aCons (eV 1) aNil)) (aCons (eCall fList (aCons (eV 5) aNil)) aNil)))) (gSub setD (eUn (opFld 0 58) (eV 0)) (eV 2)))
  (sRet (eLc (wLst (eV 5)) (gV 8) tYes (eTup (aCons (eV 8) (aCons (eTup (aCons (eC (.str [97, 115, 107])) (aCons (eV 2) aNil))) aNil))) [8]))))))
theorem asked2_st {d : D} (H : St (houseAt h v :: F) S) (hv : hOk v) (hk : okBeg nm = true) (hw : whoOk v.ends.length w) (q : ∀ j S', St (pt j (.lst ((v.asked2 w nm now).2.map msgD)) :: houseAt h (v.asked2 w nm now).1 :: F) S' → Q (.ref j) S') :
    xS (asked2C [some (.ref h), some (whD w), some (nmD nm), some (.int now), some d, none, none, none, none] S) ⟨fun _ S1 => Q .non S1, Q, fun _ _ => False, fun _ _ => False, fun x _ S => E x S⟩ := by
  unfold Hs.asked2 at q
  obtain ⟨n1, sh, rd, th, pd, fr, en, H⟩ := houseAt_o.mp H
  unfold asked2C
  fail "sx"
  refine x_iteb (fun h1 => ?_) fun h1 => ?_
  · obtain ⟨p, e⟩ := Option.isSome_iff_exists.mp h1
    rw [e] at q
    simp only at q
    fail "sx"
    exact joined_st (H.ent (by fail "ent")) hv hk e q
  have e : aget nm v.pend = none := by simpa using h1
  rw [e] at q
  simp only at q
  fail "sx"
  refine tsides_st (v := v) (H.ent (by fail "ent")) hv hk fun k S H => ?_
  fail "sx"
  have hl := tSides_len hv nm
  refine sx_lc (zs := tSides v nm) H .int (fun s => !decide (Wh.sd s = w)) .int rfl (by unfold sz; omega) (fun S' H => by simp only [H.rd (n := k) (o := .lst ((tSides v nm).map .int)) (by fail "pk"), decide_true]) (fun r _ m acc S' H => by fail "sx") fun m S H => ?_
  have hl2 : ((tSides v nm).filter fun s => !decide (Wh.sd s = w)).length ≤ 1000 := Nat.le_trans (List.length_filter_le _ _) hl
  generalize ((tSides v nm).filter fun s => !decide (Wh.sd s = w)) = ss at H q hl2
  fail "sx"
  refine x_ite (fun h2 => ?_) fun h2 => ?_
  · have h2 : ss = [] := List.map_eq_nil_iff.mp h2
    rw [if_pos h2] at q
    fail "sx"
    exact tell_st (t := .no nm) (H.ent (by fail "ent")) hw q
  · have h2 : ¬ ss = [] := fun z => h2 (List.map_eq_nil_iff.mpr z)
    rw [if_neg h2] at q
    fail "sx"
    refine winit_st (w := ⟨now, [w], ss, []⟩) (H.ent (by fail "ent")) rfl fun S H => ?_
    refine ⟨rfl, ?_⟩
    obtain ⟨n1, sh, rd, th, pd, fr, en, H⟩ := houseAt_o.mp (H.ent (l' := houseAt h v :: _) (by fail "ent"))
    fail "sx"
    refine n_dset H (by fail "pk") (by fail "pk") hk (by have := hv.pend; unfold sz; omega) fun S H => ?_
    fail "sx"
    refine sx_lc (zs := ss) H .int (fun _ => true) (fun s => msgD (s, .ask nm)) rfl (by unfold sz; omega) (fun S' H => by simp only [H.rd (n := m) (o := .lst (ss.map .int)) (by fail "pk"), decide_true]) (fun r _ m acc S' H => by fail "sx"; rfl) fun m S H => ?_
    rw [List.filter_eq_self.mpr (fun _ _ => rfl)] at H
    refine q _ _ (H.ent ?_)
    simp only [List.map_map, Function.comp_def]
    fail "ent"
theorem dueD_nil : dueD [] = D.non := rfl
theorem askedby_st (H : St (houseAt h v :: F) S) (hv : hOk v) (hk : okBeg nm = true) (hw : whoOk v.ends.length w) (q : ∀ j S', St (pt j (.lst ((v.askedBy w nm now).2.map msgD)) :: houseAt h (v.askedBy w nm now).1 :: F) S' → Q (.ref j) S') : xR (f_House_asked_by [.ref h, whD w, nmD nm, .int now] S) Q E := by
  have eq : v.askedBy w nm now = match aget nm v.things with
    | some (x, life) => v.tell w (.thing nm x (now + life))
    | none => match v.heard nm now with
      | some (x, u) => Hs.tell {v with keeps := gotRows nm now v.keeps} w (.thing nm x u)
      | none => Hs.asked2 {v with keeps := gotRows nm now v.keeps} w nm now := rfl
  rw [eq] at q
  clear eq
  obtain ⟨n1, sh, rd, th, pd, fr, en, H⟩ := houseAt_o.mp H
  fail "fn"
  unfold c_House_asked_by
  fail "sx"
  refine x_iteb (fun h1 => ?_) fun h1 => ?_
  · obtain ⟨⟨x, life⟩, e⟩ := Option.isSome_iff_exists.mp h1
    rw [e] at q
    simp only at q
    fail "sx"
    unfold thD
    fail "sx"
    refine tell_st (t := .thing nm x (now + life)) (H.ent (by fail "ent")) hw q
  have e : aget nm v.things = none := by simpa using h1
  rw [e] at q
  simp only at q
  fail "sx"
  refine find_st (H.ent (by fail "ent")) hv.keeps fun S H => ?_
  fail "sx"
  have hv2 := hv.got nm now
  -- what is told
  have fin : ∀ (x u : Int) (S : Sto) (r5 r6 r7 r8 : Option D), v.heard nm now = some (x, u) → St (houseAt h {v with keeps := gotRows nm now v.keeps} :: F) S → xR (f_House_tell [.ref h, whD w, .tup [.str [116, 104, 105, 110, 103], nmD nm, .int x, .int u]] S) Q E := fun x u S _ _ _ _ e2 H => by
    rw [e2] at q
    exact tell_st (v := {v with keeps := gotRows nm now v.keeps}) (t := .thing nm x u) H hw q
  cases ea : alive nm now v.keeps with
  | cons r rs =>
    have e2 : v.heard nm now = some (r.2.1, r.2.2) := by unfold Hs.heard; rw [ea]
    simp only [dueD]
    apply sx_tAnd
    fail "sx"
    refine fin _ _ _ none none none none e2 (H.ent (by fail "ent"))
  | nil =>
    have e2 : v.heard nm now = freshOf v nm now := by unfold Hs.heard; rw [ea]
    simp only [dueD]
    refine sx_cut H (freshOf v nm now).isSome ?_ fun S H => ?_
    · apply sx_tAnd
      fail "sx"
      apply sx_tAnd
      fail "sx"
      refine x_iteb (fun h2 => ?_) fun h2 => ?_
      · obtain ⟨⟨x, u, n⟩, e3⟩ := Option.isSome_iff_exists.mp h2
        fail "sx"
        unfold frD
        fail "sx"
        refine ⟨?_, H⟩
        unfold freshOf
        rw [e3]
        simp only
        by_cases hn : n = now <;> simp [hn]
      · have e3 : aget nm v.fresh = none := by simpa using h2
        refine ⟨?_, H⟩
        unfold freshOf
        rw [e3]
        rfl
    · refine x_iteb (fun h2 => ?_) fun h2 => ?_
      · obtain ⟨⟨x, u⟩, e3⟩ := Option.isSome_iff_exists.mp h2
        have e4 : aget nm v.fresh = some (x, u, now) := by
          unfold freshOf at e3
          cases e5 : aget nm v.fresh with
          | none => rw [e5] at e3; cases e3
          | some z =>
            obtain ⟨a, b, c⟩ := z
            rw [e5] at e3
            simp only at e3
            split at e3
            · rename_i e6; cases e3; rw [e6]
            · cases e3
        fail "sx"
        unfold frD
        fail "sx"
        refine fin _ _ _ none none none none (e2.trans e3) (H.ent (by fail "ent"))
      · have e3 : freshOf v nm now = none := by simpa using h2
        rw [e2, e3] at q
        simp only at q
        iterate 10 (first | fail "u1" | fail "o1")
        exact asked2_st (v := {v with keeps := gotRows nm now v.keeps}) (H.ent (by fail "ent")) hv2 hk hw q
end
section
variable {h : Nat} {v : Hs} {F : List Asn} {S : Sto} {Q : D → Sto → Prop} {E : Exc → Sto → Prop} {w : Wh} {t : Lt} {nm : Nm} {now x u side : Int}
theorem thingfrom_st (H : St (houseAt h v :: F) S) (hv : hOk v) (hk : okBeg nm = true) (hw : ∀ p, aget nm v.pend = some p → ∀ w ∈ p.who, whoOk v.ends.length w) (q : ∀ j S', St (pt j (.lst ((v.thingFrom side nm x u now).2.map msgD)) :: houseAt h (v.thingFrom side nm x u now).1 :: F) S' → Q (.ref j) S') :
    xR (f_House_thing_from [.ref h, .int side, ltD (.thing nm x u), .int now] S) Q E := by
  unfold Hs.thingFrom at q
  obtain ⟨n1, sh, rd, th, pd, fr, en, H⟩ := houseAt_o.mp H
  fail "fn"
  unfold c_House_thing_from
  simp only [ltD]
  fail "sx"
  cases e : aget nm v.pend with
  | none =>
    rw [e] at q
    simp only at q
    apply sx_tOr
    fail "sx"
    rw [e]
    fail "sx"
    exact q _ _ (H.ent (by fail "ent"))
  | some p =>
    rw [e] at q
    simp only at q
    apply sx_tOr
    fail "sx"
    rw [e]
    fail "sx"
    refine n_dget H (by fail "pk") hk e fun j H => ?_
    obtain ⟨a, b, c, H⟩ := waitAt_o.mp H
    fail "sx"
    have H := H.ent (l' := dicAt pd false nmD waitAt v.pend :: pt h _ :: pt n1 _ :: keepsAt sh v.room v.keeps :: tableAt rd v.tab :: pt th _ :: pt fr (.dic true false (plD frD v.fresh)) :: pt en _ :: F) (by fail "ent")
    refine x_itn (fun h1 => ?_) fun h1 => ?_
    · rw [if_neg h1] at q
      fail "sx"
      exact q _ _ (H.ent (by fail "ent"))
    · rw [if_pos h1] at q
      fail "sx"
      refine keep_st (H.ent (by fail "ent")) hv.keeps fun S H => ?_
      fail "sx"
      refine p_dset (vf := frD) (x := (x, u, now)) H (by fail "pk") hk hv.fresh rfl fun S H => ?_
      fail "sx"
      refine n_dpop H (by fail "pk") hk e fun j S H => ?_
      obtain ⟨a, b, c, H⟩ := waitAt_o.mp H
      have hwl := (hv.who _ (aget_mem e)).1
      simp only at hwl
      fail "sx"
      refine sx_lc (zs := p.who) H whD (fun w => !decide (w = .sd side)) whD rfl (by unfold sz; omega) (fun S' H => by simp only [H.rd (n := a) (o := .lst (p.who.map whD)) (by fail "pk"), decide_true]) (fun r _ m acc S' H => by fail "sx") fun m S H => ?_
      have hl : (p.who.filter fun w => !decide (w = .sd side)).length ≤ 1000000 := Nat.le_trans (List.length_filter_le _ _) (by omega)
      fail "sx"
      refine tellall_st (t := .thing nm x u) (v := {v with keeps := kept nm x u now v.room v.keeps, fresh := aput nm (x, u, now) v.fresh, pend := adrop nm v.pend}) (H.ent (by fail "ent")) hl (fun w hm => hw p e w (List.mem_filter.mp hm).1) fun j S H => q _ _ (H.ent (by fail "ent"))
theorem nofrom_st (H : St (houseAt h v :: F) S) (hv : hOk v) (hk : okBeg nm = true) (hw : ∀ p, aget nm v.pend = some p → ∀ w ∈ p.who, whoOk v.ends.length w) (q : ∀ j S', St (pt j (.lst ((v.noFrom side nm).2.map msgD)) :: houseAt h (v.noFrom side nm).1 :: F) S' → Q (.ref j) S') :
    xR (f_House_no_from [.ref h, .int side, ltD (.no nm)] S) Q E := by
  unfold Hs.noFrom at q
  obtain ⟨n1, sh, rd, th, pd, fr, en, H⟩ := houseAt_o.mp H
  fail "fn"
  unfold c_House_no_from
  simp only [ltD]
  fail "sx"
  cases e : aget nm v.pend with
  | none =>
    rw [e] at q
    simp only at q
    apply sx_tOr
    fail "sx"
    rw [e]
    fail "sx"
    exact q _ _ (H.ent (by fail "ent"))
  | some p =>
    rw [e] at q
    simp only at q
    apply sx_tOr
    fail "sx"
    rw [e]
    fail "sx"
    have hb := hv.who _ (aget_mem e)
    simp only at hb
    refine n_dget H (by fail "pk") hk e fun j H => ?_
    obtain ⟨a, b, c, H⟩ := waitAt_o.mp H
    fail "sx"
    refine x_itn (fun h1 => ?_) fun h1 => ?_
    · rw [if_neg h1] at q
      fail "sx"
      exact q _ _ (H.ent (by fail "ent"))
    · rw [if_pos h1] at q
      fail "sx"
      refine rm_I H (by fail "pk") h1 fun S H => ?_
      fail "sx"
      refine sx_append H (by fail "pk") (by rw [List.length_map]; unfold sz; omega) fun S H => ?_
      have e5 : p.noes.map D.int ++ [.int side] = (p.noes ++ [side]).map .int := by simp
      rw [e5] at H
      fail "sx"
      refine x_itn (fun h2 => ?_) fun h2 => ?_
      · have h2 : p.asked.erase side ≠ [] := fun z => h2 (by rw [z]; rfl)
        rw [if_pos h2] at q
        fail "sx"
        exact q _ _ (H.ent (by fail "ent"))
      · have h2 : p.asked.erase side = [] := List.map_eq_nil_iff.mp h2
        rw [if_neg (fun z => z h2)] at q
        fail "sx"
        refine n_dpopH H (by fail "pk") hk fun S H => ?_
        fail "sx"
        exact tellall_st (t := .no nm) (v := {v with pend := adrop nm v.pend}) (H.ent (by fail "ent")) (by omega) (hw p e) fun j S H => q _ _ (H.ent (by fail "ent"))
/-- who waits can be told -/
def pOk (v : Hs) : Prop := ∀ nm p, aget nm v.pend = some p → ∀ w ∈ p.who, whoOk v.ends.length w
theorem ask_st (H : St (houseAt h v :: F) S) (hv : hOk v) (hl : v.ends.length + 1 < sz) (hk : okNm nm = true) (hn : 0 ≤ now) (q : ∀ j S', St (pt j (.lst ((v.ask nm now).2.map msgD)) :: houseAt h (v.ask nm now).1 :: F) S' → Q (.tup [.int v.ends.length, .ref j]) S') : xR (f_House_ask [.ref h, nmD nm, .int now] S) Q E := by
  fail "fn"
  unfold c_House_ask
  fail "sx"
  refine neednm_st H hk fun S H => ?_
  fail "sx"
  obtain ⟨n1, sh, rd, th, pd, fr, en, H⟩ := houseAt_o.mp H
  fail "sx"
  refine sx_append H (by fail "pk") (by rw [List.length_map]; omega) fun S H => ?_
  have e : v.ends.map endD ++ [.tup []] = (v.ends ++ [none]).map endD := by simp [endD]
  rw [e] at H
  fail "sx"
  have e2 : (((v.ends ++ [none]).map endD).length : Int) - 1 = (v.ends.length : Int) := by simp
  rw [e2]
  refine askedby_st (v := {v with ends := v.ends ++ [none]}) (w := .ow v.ends.length) (H.ent (by fail "ent")) ⟨hv.near, hv.keeps, hv.tab, hv.things, hv.pend, hv.fresh, by simpa using hl, hv.who⟩ (okNm_beg hk) (by simp [whoOk]) fun j S H => ?_
  fail "sx"
  exact q _ _ H
end
def ltOk : Lt → Prop
  | .ask n => okNm n = true
  | .thing n v u => okNm n = true ∧ (0 ≤ v ∧ v ≤ 999) ∧ 0 ≤ u
  | .no n => okNm n = true
section
variable {h : Nat} {v : Hs} {F l : List Asn} {S : Sto} {Q : D → Sto → Prop} {E : Exc → Sto → Prop} {w : Wh} {t : Lt} {nm : Nm} {now x u side : Int}
theorem islet_st (H : St l S) (ht : ltOk t) (q : ∀ S', St l S' → Q (.bl true) S') : xR (f_is_letter [ltD t] S) Q E := by
  rw [xR_eq]
  have nb : ∀ {n : Nm}, okNm n = true → nmB S (nmD n) true := fun {n} h => .inl ⟨n, rfl, (okBeg_len (okNm_beg h)).2, h.symm⟩
  refine islet (b := true) ?_ fun S' f => q S' (H.fm0 f)
  cases t with
  | ask n => exact .inr (.inr (.inr (.inr ⟨_, _, _, rfl, nb ht, .inr (.inr ⟨by decide, by decide⟩)⟩)))
  | no n => exact .inr (.inr (.inr (.inr ⟨_, _, _, rfl, nb ht, .inr (.inr ⟨by decide, by decide⟩)⟩)))
  | thing n x u =>
    obtain ⟨h1, h2, h3⟩ := ht
    exact .inr (.inr (.inr (.inr ⟨_, _, _, rfl, nb h1, .inr (.inl ⟨rfl, _, _, rfl, rfl, rfl, by simp [numOk, h2, h3]⟩)⟩)))
theorem lt_0 (t : Lt) : ∃ z r, ltD t = .tup (.str z :: nmD t.name :: r) ∧ z = (match t with
    | .ask _ => wAsk
    | .thing _ _ _ => wThing
    | .no _ => wNo) := by cases t <;> exact ⟨_, _, rfl, rfl⟩
theorem come_st (H : St (houseAt h v :: F) S) (hv : hOk v) (hp : pOk v) (hs : side ∈ v.near) (hs2 : 0 ≤ side ∧ side ≤ 7) (ht : ltOk t) (hn : 0 ≤ now) (q : ∀ j S', St (pt j (.lst ((v.come side t now).2.map msgD)) :: houseAt h (v.come side t now).1 :: F) S' → Q (.ref j) S') :
    xR (f_House_come [.ref h, .int side, ltD t, .int now] S) Q E := by
  have hk : okBeg t.name = true := by cases t <;> first | exact okNm_beg ht | exact okNm_beg ht.1
  fail "fn"
  unfold c_House_come
  obtain ⟨n1, sh, rd, th, pd, fr, en, H⟩ := houseAt_o.mp H
  fail "sx"
  rw [decide_eq_true hs, decide_eq_true hs2]
  fail "sx"
  have H := H.ent (l' := houseAt h v :: F) (by fail "ent")
  refine islet_st H ht fun S H => ?_
  fail "sx"
  cases t with
  | ask n =>
    simp only [ltD]
    fail "sx"
    exact askedby_st (w := .sd side) H hv hk trivial q
  | thing n x u =>
    simp only [ltD]
    simp only [Hs.come] at q
    fail "sx"
    have e1 : (decide (D.str wThing = D.str [116, 104, 105, 110, 103]) && decide (now ≤ u)) = decide (now ≤ u) := rfl
    rw [e1]
    refine x_ite (fun h1 => ?_) fun h1 => ?_
    · rw [if_pos h1] at q
      fail "sx"
      exact thingfrom_st H hv hk (fun p e => hp _ p e) q
    · rw [if_neg h1] at q
      fail "sx"
      exact nofrom_st H hv hk (fun p e => hp _ p e) q
  | no n =>
    simp only [ltD]
    fail "sx"
    apply sx_tAnd
    fail "sx"
    exact nofrom_st H hv hk (fun p e => hp _ p e) q
end
theorem adrop_len {κ v : Type} [DecidableEq κ] (k : κ) (m : List (κ × v)) : (adrop k m).length ≤ m.length := List.length_filter_le _ _
theorem aget_adrop {κ v : Type} [DecidableEq κ] {k j : κ} {m : List (κ × v)} {x : v} (h : aget j (adrop k m) = some x) : aget j m = some x := by
  by_cases e : j = k
  · subst e
    rw [adrop_get_self] at h
    cases h
  · rwa [adrop_get_ne e] at h
theorem hOk.drop {v : Hs} (hv : hOk v) (nm : Nm) : hOk {v with pend := adrop nm v.pend} :=
  ⟨hv.near, hv.keeps, hv.tab, hv.things, Nat.le_trans (adrop_len nm v.pend) hv.pend, hv.fresh, hv.ends, fun q hq => hv.who q (List.mem_filter.mp hq).1⟩
theorem hOk.tellAll {v : Hs} (hv : hOk v) (ws : List Wh) (t : Lt) : hOk (v.tellAll ws t).1 :=
  ⟨hv.near, hv.keeps, hv.tab, hv.things, hv.pend, hv.fresh, by rw [tellAll_ends]; exact hv.ends, hv.who⟩
theorem pOk.drop {v : Hs} (hv : pOk v) (nm : Nm) : pOk {v with pend := adrop nm v.pend} := fun n p e => hv n p (aget_adrop e)
theorem pOk.tellAll {v : Hs} (hv : pOk v) (ws : List Wh) (t : Lt) : pOk (v.tellAll ws t).1 := fun n p e w hw => by
  rw [tellAll_ends]
  exact hv n p e w hw
theorem tick_ok : ∀ (ns : List Nm) (q : Hs × Out), hOk q.1 → pOk q.1 → hOk (ns.foldl tickStep q).1 ∧ pOk (ns.foldl tickStep q).1
  | [], q, h1, h2 => ⟨h1, h2⟩
  | n :: ns, q, h1, h2 => by
    rw [List.foldl_cons]
    refine tick_ok ns _ ?_ ?_
    · unfold tickStep
      split
      · exact (h1.drop n).tellAll _ _
      · exact h1
    · unfold tickStep
      split
      · exact (h2.drop n).tellAll _ _
      · exact h2
theorem tick_pend (n : Nm) : ∀ (ns : List Nm) (q : Hs × Out), n ∉ ns → aget n (ns.foldl tickStep q).1.pend = aget n q.1.pend
  | [], q, _ => rfl
  | m :: ns, q, h => by
    simp only [List.mem_cons, not_or] at h
    rw [List.foldl_cons, tick_pend n ns _ h.2]
    unfold tickStep
    split
    · simp only [Hs.tellAll]
      exact adrop_get_ne h.1
    · rfl
theorem dueNames_nodup {v : Hs} (nd : (v.pend.map (·.1)).Nodup) (now : Int) : (dueNames v now).Nodup := nd.sublist (List.filter_sublist.map _)
theorem tick_out : ∀ (ns : List Nm) (q : Hs × Out), hOk q.1 → (ns.foldl tickStep q).2.length ≤ q.2.length + 1000 * ns.length
  | [], q, _ => by simp
  | n :: ns, q, h => by
    have h1 : hOk (tickStep q n).1 ∧ (tickStep q n).2.length ≤ q.2.length + 1000 := by
      unfold tickStep
      split
      · rename_i p e
        refine ⟨(h.drop n).tellAll _ _, ?_⟩
        simp only [List.length_append]
        exact Nat.add_le_add_left (Nat.le_trans (tellAll_len _ _ _) (h.who _ (aget_mem e)).1) _
      · exact ⟨h, by omega⟩
    have ih := tick_out ns (tickStep q n) h1.1
    rw [List.foldl_cons, List.length_cons]
    omega
/-! a house is made, taught, looked at -/
section
variable {l r : List Asn} {S : Sto} {Q : D → Sto → Prop} {E : Exc → Sto → Prop}
theorem needbeg_st {xs : Nm} (H : St l S) (h : okBeg xs = true) (q : ∀ S', St l S' → Q .non S') : xR (f_need_beginning [nmD xs] S) Q E := by
  simp only [xR_eq] at *
  exact needbeg_ok h (fun S' f => q S' (H.fm0 f)) (okBeg_len h).2
theorem needsd_st {j : Nat} {s : List Int} (H : St l S) (p : Pick (sdAt j s) l r) (h : okSd s) (q : ∀ S', St l S' → Q .non S') : xR (f_need_sides [.ref j] S) Q E := by
  simp only [xR_eq] at *
  exact needsides_ok (H.rd p) h fun S' f => q S' (H.fm0 f)
end
section
variable {h k j : Nat} {v : Hs} {t : Tab} {F : List Asn} {S : Sto} {Q : D → Sto → Prop} {E : Exc → Sto → Prop} {b : Nm} {s : List Int} {me room wait : Int}
theorem tinit_st (H : St (pt k (.ins 3 []) :: F) S) (q : ∀ S', St (tableAt k [] :: F) S' → Q .non S') : xR (f_Table___init__ [.ref k] S) Q E := by
  fail "fn"
  unfold c_Table___init__
  fail "sx"
  exact q _ (H.ent (by fail "ent"))
theorem tput_st (H : St (tableAt k t :: sdAt j s :: F) S) (hb : okBeg b = true) (hs : okSd s) (hl : t.length < sz) (q : ∀ S', St (tableAt k (aput b s t) :: sdAt j s :: F) S' → Q .non S') : xR (f_Table_put [.ref k, nmD b, .ref j] S) Q E := by
  fail "fn"
  unfold c_Table_put
  fail "sx"
  refine needbeg_st H hb fun S H => ?_
  fail "sx"
  refine needsd_st H (by fail "pk") hs fun S H => ?_
  fail "sx"
  obtain ⟨tl, H⟩ := tableAt_o.mp (H.ent (l' := tableAt k t :: _ :: sdAt j s :: F) (by fail "ent"))
  fail "sx"
  rename_i n _ _
  refine n_dset (A := sdAt) (j := n) (x := s) (H.ent (l' := pt n (.lst (s.map .int)) :: pt k _ :: dicAt tl false nmD sdAt t :: sdAt j s :: F) (by fail "ent")) (by fail "pk") (by fail "pk") hb hl fun S H => ?_
  exact q _ (H.ent (by fail "ent"))
theorem hinit_st {near : List Int} (H : St (pt h (.ins 0 []) :: sdAt j near :: F) S) (h1 : 0 ≤ me ∧ me ≤ 7) (h2 : okSd near) (h3 : me ∉ near) (h4 : 0 ≤ room ∧ room ≤ 9) (h5 : 1 ≤ wait ∧ wait ≤ 20)
    (q : ∀ S', St (houseAt h ⟨me, near, room, [], wait, [], [], [], [], []⟩ :: sdAt j near :: F) S' → Q .non S') : xR (f_House___init__ [.ref h, .int me, .ref j, .int room, .int wait] S) Q E := by
  fail "fn"
  unfold c_House___init__
  fail "sx"
  refine needsd_st H (by fail "pk") h2 fun S H => ?_
  fail "sx"
  refine x_ite (fun z => absurd z h3) fun _ => ?_
  fail "sx"
  refine kinit_st (H.ent (by fail "ent")) h4 fun S H => ?_
  refine ⟨rfl, ?_⟩
  fail "sx"
  refine tinit_st (H.ent (by fail "ent")) fun S H => ?_
  refine ⟨rfl, ?_⟩
  fail "sx"
  exact q _ (H.ent (by fail "ent"))
theorem teach_st (H : St (houseAt h v :: sdAt j s :: F) S) (hb : okBeg b = true) (hs : okSd s) (hl : v.tab.length < sz) (q : ∀ S', St (houseAt h {v with tab := aput b s v.tab} :: sdAt j s :: F) S' → Q .non S') : xR (f_House_teach [.ref h, nmD b, .ref j] S) Q E := by
  obtain ⟨n1, sh, rd, th, pd, fr, en, H⟩ := houseAt_o.mp H
  fail "fn"
  unfold c_House_teach
  fail "sx"
  refine tput_st (H.ent (l' := tableAt rd v.tab :: sdAt j s :: pt h _ :: pt n1 _ :: keepsAt sh v.room v.keeps :: pt th _ :: dicAt pd false nmD waitAt v.pend :: pt fr _ :: pt en _ :: F) (by fail "ent")) hb hs hl fun S H => ?_
  fail "sx"
  exact q _ (H.ent (by fail "ent"))
theorem end_st {k : Nat} {x : Option (Option Int)} (H : St (houseAt h v :: F) S) (hk : v.ends[k]? = some x) (q : ∀ S', St (houseAt h v :: F) S' → Q (endD x) S') : xR (f_House_end [.ref h, .int k] S) Q E := by
  obtain ⟨n1, sh, rd, th, pd, fr, en, H⟩ := houseAt_o.mp H
  have hl := (List.getElem?_eq_some_iff.mp hk).1
  fail "fn"
  unfold c_House_end
  fail "sx"
  rw [List.length_map]
  refine needi_st (by omega) ?_
  fail "sx"
  refine sx_ixL H (by fail "pk") (atI_map hk) ?_
  exact q _ (H.ent (by fail "ent"))
end
/-! ### how great a house can grow -/
theorem aput_mem {κ v : Type} [DecidableEq κ] {k : κ} {x : v} {m : List (κ × v)} {q : κ × v} (h : q ∈ aput k x m) : q = (k, x) ∨ q ∈ m := by
  unfold aput at h
  split at h
  · obtain ⟨z, hz, e⟩ := List.mem_map.mp h
    split at e
    · rename_i e2
      left
      rw [← e, e2]
    · right
      rw [← e]
      exact hz
  · rcases List.mem_append.mp h with z | z
    · exact .inr z
    · exact .inl (by simpa using z)
theorem aput_len {κ v : Type} [DecidableEq κ] (k : κ) (x : v) (m : List (κ × v)) : (aput k x m).length ≤ m.length + 1 := by
  unfold aput
  split
  · simp
  · simp
theorem aput_len_same {κ v : Type} [DecidableEq κ] {k : κ} {x y : v} {m : List (κ × v)} (h : aget k m = some y) : (aput k x m).length = m.length := by
  unfold aput
  rw [if_pos (by rw [h]; rfl)]
  simp
structure hSz (n : Nat) (v : Hs) : Prop where
  near : v.near.length ≤ 1000
  tab : ∀ q ∈ v.tab, q.2.length ≤ 1000
  things : v.things.length ≤ n
  keeps : v.keeps.length ≤ n
  pend : v.pend.length ≤ n
  fresh : v.fresh.length ≤ n
  ends : v.ends.length ≤ n
  who : ∀ q ∈ v.pend, q.2.who.length ≤ n ∧ q.2.asked.length ≤ 1000 * n ∧ q.2.noes.length ≤ n
section
variable {n m : Nat} {v : Hs} {nm : Nm} {now x u side : Int} {w : Wh} {t : Lt} {ws : List Wh}
theorem hSz.ok (h : hSz n v) (hn : n ≤ 1000) : hOk v :=
  ⟨h.near, Nat.le_trans h.keeps hn, h.tab, by have := h.things; unfold sz; omega, Nat.le_trans h.pend hn, by have := h.fresh; unfold sz; omega, by have := h.ends; unfold sz; omega, fun q hq => by have := h.who q hq; omega⟩
theorem hSz.up (h : hSz n v) (hn : n ≤ m) : hSz m v :=
  ⟨h.near, h.tab, Nat.le_trans h.things hn, Nat.le_trans h.keeps hn, Nat.le_trans h.pend hn, Nat.le_trans h.fresh hn, Nat.le_trans h.ends hn, fun q hq => by
    have := h.who q hq
    have : 1000 * n ≤ 1000 * m := Nat.mul_le_mul_left _ hn
    omega⟩
theorem hSz.tellAll (h : hSz n v) : hSz n (v.tellAll ws t).1 :=
  ⟨h.near, h.tab, h.things, h.keeps, h.pend, h.fresh, by rw [tellAll_ends]; exact h.ends, h.who⟩
theorem hSz.tell (h : hSz n v) : hSz n (v.tell w t).1 :=
  ⟨h.near, h.tab, h.things, h.keeps, h.pend, h.fresh, by simp only [Hs.tell, endW_len]; exact h.ends, h.who⟩
theorem hSz.setK (h : hSz n v) {ks : List Row} (hk : ks.length ≤ n) : hSz n {v with keeps := ks} :=
  ⟨h.near, h.tab, h.things, hk, h.pend, h.fresh, h.ends, h.who⟩
theorem hSz.setE (h : hSz n v) {es : List (Option (Option Int))} (hk : es.length ≤ n) : hSz n {v with ends := es} :=
  ⟨h.near, h.tab, h.things, h.keeps, h.pend, h.fresh, hk, h.who⟩
theorem hSz.setF (h : hSz n v) {fs : List (Nm × Int × Int × Int)} (hk : fs.length ≤ n) : hSz n {v with fresh := fs} :=
  ⟨h.near, h.tab, h.things, h.keeps, h.pend, hk, h.ends, h.who⟩
theorem hSz.drop (h : hSz n v) : hSz n {v with pend := adrop nm v.pend} :=
  ⟨h.near, h.tab, h.things, h.keeps, Nat.le_trans (adrop_len nm v.pend) h.pend, h.fresh, h.ends, fun q hq => h.who q (List.mem_filter.mp hq).1⟩
theorem hSz.put (h : hSz n v) {p : Wt} (hl : v.pend.length < n ∨ (aget nm v.pend).isSome = true) (hp : p.who.length ≤ n ∧ p.asked.length ≤ 1000 * n ∧ p.noes.length ≤ n) : hSz n {v with pend := aput nm p v.pend} := by
  refine ⟨h.near, h.tab, h.things, h.keeps, ?_, h.fresh, h.ends, fun q hq => ?_⟩
  · rcases hl with z | z
    · exact Nat.le_trans (aput_len nm p v.pend) z
    · obtain ⟨y, e⟩ := Option.isSome_iff_exists.mp z
      show (aput nm p v.pend).length ≤ n
      rw [aput_len_same e]
      exact h.pend
  · rcases aput_mem hq with z | z
    · rw [z]
      exact hp
    · exact h.who q z
theorem hSz.tfound (h : hSz n v) (nm : Nm) : (tFound v.tab nm).length ≤ 1000 := by
  unfold tFound
  cases e : tLong v.tab nm with
  | none => simp
  | some b =>
    cases e2 : aget b v.tab with
    | none => simp [e2]
    | some s => simpa [e2] using h.tab _ (aget_mem e2)
theorem hSz.tsides (h : hSz n v) (nm : Nm) : (tSides v nm).length ≤ 1000 := Nat.le_trans (List.length_filter_le _ _) (h.tfound nm)
theorem addW_len (w : Wh) (ws : List Wh) : (addW w ws).length ≤ ws.length + 1 := by
  unfold addW
  split <;> simp
theorem hSz.joined {p : Wt} (h : hSz n v) (hp : aget nm v.pend = some p) : hSz (n + 1) (v.joined w nm p).1 := by
  have hw := h.who _ (aget_mem hp)
  have hj := (jfold_len nm (addW w p.who) p.noes (tSides v nm) (p.asked, [])).1
  have ht := h.tsides nm
  have ha := addW_len w p.who
  simp only at hw hj
  exact (h.up (Nat.le_succ n)).put (.inl (Nat.lt_succ_of_le h.pend)) ⟨by simp only; omega, by simp only; omega, by simp only; omega⟩
theorem hSz.askedBy (h : hSz n v) : hSz (n + 1) (v.askedBy w nm now).1 := by
  have hg : hSz n {v with keeps := gotRows nm now v.keeps} := h.setK (Nat.le_trans (gotRows_len nm now v.keeps) h.keeps)
  unfold Hs.askedBy
  split
  · exact (h.up (Nat.le_succ n)).tell
  · split
    · exact (hg.up (Nat.le_succ n)).tell
    · split
      · rename_i p hp
        exact hSz.joined (v := {v with keeps := gotRows nm now v.keeps}) hg hp
      · split
        · exact (hg.up (Nat.le_succ n)).tell
        · have ht := h.tsides nm
          have ht2 : ((tSides v nm).filter fun s => !decide (Wh.sd s = w)).length ≤ 1000 := Nat.le_trans (List.length_filter_le _ _) ht
          exact (hg.up (Nat.le_succ n)).put (.inl (Nat.lt_succ_of_le h.pend)) ⟨by simp, by simp only; omega, by simp⟩
theorem hSz.ask (h : hSz n v) : hSz (n + 2) (v.ask nm now).1 := by
  unfold Hs.ask
  exact hSz.askedBy ((h.up (Nat.le_succ n)).setE (by have := h.ends; simp; omega))
theorem kept_len (nm : Nm) (x u now room : Int) (rs : List Row) : (kept nm x u now room rs).length ≤ rs.length + 1 := by
  have h1 : (others nm rs).length ≤ rs.length := List.length_filter_le _ _
  unfold kept
  split
  · rw [List.length_drop, List.length_append]
    simp only [List.length_cons, List.length_nil]
    omega
  · omega
theorem hSz.thingFrom (h : hSz n v) : hSz (n + 1) (v.thingFrom side nm x u now).1 := by
  have h1 := h.up (Nat.le_succ n)
  unfold Hs.thingFrom
  split
  · split
    · have hk := kept_len nm x u now v.room v.keeps
      have := h.keeps
      have := h.fresh
      have hf := aput_len nm (x, u, now) v.fresh
      exact (((h1.setK (ks := kept nm x u now v.room v.keeps) (by omega)).setF (fs := aput nm (x, u, now) v.fresh) (by omega)).drop (nm := nm)).tellAll
    · exact h1
  · exact h1
theorem hSz.noFrom (h : hSz n v) : hSz (n + 1) (v.noFrom side nm).1 := by
  have h1 := h.up (Nat.le_succ n)
  unfold Hs.noFrom
  split
  · rename_i p hp
    have hw := h.who _ (aget_mem hp)
    simp only at hw
    have he := List.length_erase_le (a := side) (l := p.asked)
    split
    · split
      · exact h1.put (.inl (Nat.lt_succ_of_le h.pend)) ⟨by simp only; omega, by simp only; omega, by simp; omega⟩
      · exact h1.drop.tellAll
    · exact h1
  · exact h1
theorem hSz.come (h : hSz n v) : hSz (n + 1) (v.come side t now).1 := by
  unfold Hs.come
  split
  · exact h.askedBy
  · split
    · exact h.thingFrom
    · exact h.noFrom
  · exact h.noFrom
theorem hSz.ticks (ns : List Nm) : ∀ {q : Hs × Out}, hSz n q.1 → hSz n (ns.foldl tickStep q).1 := by
  induction ns with
  | nil => exact fun h => h
  | cons m ns ih =>
    intro q h
    rw [List.foldl_cons]
    refine ih ?_
    unfold tickStep
    split
    · exact h.drop.tellAll
    · exact h
theorem hSz.tick (h : hSz n v) : hSz n (v.tick now).1 := by
  unfold Hs.tick
  exact hSz.ticks _ (h.setK (Nat.le_trans (List.length_filter_le _ _) h.keeps))
theorem hSz.teach {b : Nm} {s : List Int} (h : hSz n v) (hs : s.length ≤ 1000) : hSz n {v with tab := aput b s v.tab} :=
  ⟨h.near, fun q hq => (aput_mem hq).elim (fun z => by rw [z]; exact hs) (h.tab q), h.things, h.keeps, h.pend, h.fresh, h.ends, h.who⟩
end
/-! ### what stays, how asks come to their ends -/
def hCon (a b : Hs) : Prop := b.me = a.me ∧ b.near = a.near ∧ b.room = a.room ∧ b.most = a.most ∧ b.tab = a.tab ∧ b.things = a.things
section
variable {v : Hs} {nm : Nm} {now x u side : Int} {w : Wh} {t : Lt} {ws : List Wh}
theorem hCon.refl (v : Hs) : hCon v v := ⟨rfl, rfl, rfl, rfl, rfl, rfl⟩
theorem hCon.trans {a b c : Hs} (h : hCon a b) (k : hCon b c) : hCon a c :=
  ⟨k.1.trans h.1, k.2.1.trans h.2.1, k.2.2.1.trans h.2.2.1, k.2.2.2.1.trans h.2.2.2.1, k.2.2.2.2.1.trans h.2.2.2.2.1, k.2.2.2.2.2.trans h.2.2.2.2.2⟩
theorem hCon.askedBy : hCon v (v.askedBy w nm now).1 := by
  unfold Hs.askedBy
  split
  · exact ⟨rfl, rfl, rfl, rfl, rfl, rfl⟩
  · split
    · exact ⟨rfl, rfl, rfl, rfl, rfl, rfl⟩
    · split
      · exact ⟨rfl, rfl, rfl, rfl, rfl, rfl⟩
      · split <;> exact ⟨rfl, rfl, rfl, rfl, rfl, rfl⟩
theorem hCon.ask : hCon v (v.ask nm now).1 := hCon.askedBy (v := {v with ends := v.ends ++ [none]})
theorem hCon.thingFrom : hCon v (v.thingFrom side nm x u now).1 := by
  unfold Hs.thingFrom
  split
  · split <;> exact ⟨rfl, rfl, rfl, rfl, rfl, rfl⟩
  · exact hCon.refl v
theorem hCon.noFrom : hCon v (v.noFrom side nm).1 := by
  unfold Hs.noFrom
  split
  · split
    · split <;> exact ⟨rfl, rfl, rfl, rfl, rfl, rfl⟩
    · exact hCon.refl v
  · exact hCon.refl v
theorem hCon.come : hCon v (v.come side t now).1 := by
  unfold Hs.come
  split
  · exact hCon.askedBy
  · split
    · exact hCon.thingFrom
    · exact hCon.noFrom
  · exact hCon.noFrom
theorem hCon.ticks (ns : List Nm) : ∀ q : Hs × Out, hCon q.1 (ns.foldl tickStep q).1 := by
  induction ns with
  | nil => exact fun q => hCon.refl _
  | cons m ns ih =>
    intro q
    rw [List.foldl_cons]
    refine hCon.trans ?_ (ih _)
    unfold tickStep
    split
    · exact ⟨rfl, rfl, rfl, rfl, rfl, rfl⟩
    · exact hCon.refl _
theorem hCon.tick : hCon v (v.tick now).1 := by
  unfold Hs.tick
  exact hCon.trans ⟨rfl, rfl, rfl, rfl, rfl, rfl⟩ (hCon.ticks _ _)
end
theorem endW_at (t : Lt) (es : List (Option (Option Int))) (w : Wh) (i : Nat) : (endW t es w)[i]? = if Wh.ow i = w ∧ i < es.length then some (some t.val) else es[i]? := by
  cases w with
  | sd s => simp [endW]
  | ow k =>
    simp only [endW, Wh.ow.injEq]
    by_cases e : i = k
    · subst e
      by_cases h : i < es.length
      · simp [h]
      · simp [h]
    · rw [List.getElem?_set_ne (fun z => e z.symm), if_neg (fun z => e z.1)]
theorem ends_at (t : Lt) (i : Nat) : ∀ (ws : List Wh) (es : List (Option (Option Int))), (ws.foldl (endW t) es)[i]? = if Wh.ow i ∈ ws ∧ i < es.length then some (some t.val) else es[i]?
  | [], es => by simp
  | w :: ws, es => by
    rw [List.foldl_cons, ends_at t i ws, endW_len, endW_at]
    by_cases h : i < es.length
    · by_cases h1 : Wh.ow i ∈ ws
      · simp [h, h1]
      · simp only [h, h1, List.mem_cons, and_true, or_false, if_false, false_and]
    · simp [h]
structure Inv (c : Wh) (A : List (Nm × Int)) (T : List Row) (v : Hs) : Prop where
  len : v.ends.length = A.length
  nd : (v.pend.map (·.1)).Nodup
  nms : ∀ q ∈ v.pend, okBeg q.1 = true
  wait : ∀ nm p, aget nm v.pend = some p → ∀ i, Wh.ow i ∈ p.who → v.ends[i]? = some none ∧ Wh.ow i ≠ c ∧ ∃ s, A[i]? = some (nm, s) ∧ p.since ≤ s
  opn : ∀ i, Wh.ow i ≠ c → v.ends[i]? = some none → ∃ nm p, aget nm v.pend = some p ∧ Wh.ow i ∈ p.who
  kept : ∀ r ∈ v.keeps, r ∈ T
  fresh : ∀ nm x u n, aget nm v.fresh = some (x, u, n) → (nm, x, u) ∈ T ∧ n ≤ u
  things : v.things = []
def Due (now : Int) (v : Hs) : Prop := ∀ nm p, aget nm v.pend = some p → p.since ≤ now ∧ now - p.since < v.most
structure Prog (A : List (Nm × Int)) (T : List Row) (now : Int) (v v' : Hs) : Prop where
  keep : ∀ (i : Nat) (e : Option Int), v.ends[i]? = some (some e) → v'.ends[i]? = some (some e)
  good : ∀ (i : Nat) (x : Int), v'.ends[i]? = some (some (some x)) → v.ends[i]? = some (some (some x)) ∨ ∃ nm s u, A[i]? = some (nm, s) ∧ (nm, x, u) ∈ T ∧ now ≤ u
theorem Prog.same {A : List (Nm × Int)} {T : List Row} {now : Int} {v v' : Hs} (h : v'.ends = v.ends) : Prog A T now v v' := ⟨fun i e z => by rw [h]; exact z, fun i x z => .inl (by rw [h] at z; exact z)⟩
theorem Prog.trans {A : List (Nm × Int)} {T : List Row} {now : Int} {a b c : Hs} (h : Prog A T now a b) (k : Prog A T now b c) : Prog A T now a c :=
  ⟨fun i e z => k.keep i e (h.keep i e z), fun i x z => (k.good i x z).elim (h.good i x) .inr⟩
section
variable {v : Hs} {nm : Nm} {now x u side : Int} {w c : Wh} {t : Lt} {ws : List Wh} {A : List (Nm × Int)} {T T' : List Row} {p : Wt}
theorem Inv.more (h : Inv c A T v) (s : ∀ r ∈ T, r ∈ T') : Inv c A T' v := ⟨h.len, h.nd, h.nms, h.wait, h.opn, fun r hr => s _ (h.kept r hr), fun a b d e z => ⟨s _ (h.fresh a b d e z).1, (h.fresh a b d e z).2⟩, h.things⟩
theorem Inv.setK (h : Inv c A T v) {ks : List Row} (s : ∀ r ∈ ks, r ∈ T) : Inv c A T {v with keeps := ks} := ⟨h.len, h.nd, h.nms, h.wait, h.opn, s, h.fresh, h.things⟩
theorem Inv.setF (h : Inv c A T v) (hT : (nm, x, u) ∈ T) (hu : now ≤ u) : Inv c A T {v with fresh := aput nm (x, u, now) v.fresh} := by
  refine ⟨h.len, h.nd, h.nms, h.wait, h.opn, h.kept, fun a b d e z => ?_, h.things⟩
  by_cases q : a = nm
  · subst q
    simp only [aput_get_self, Option.some.injEq, Prod.mk.injEq] at z
    obtain ⟨rfl, rfl, rfl⟩ := z
    exact ⟨hT, hu⟩
  · simp only [aput_get_ne q] at z
    exact h.fresh a b d e z
theorem Inv.pok (h : Inv c A T v) : pOk v := fun nm p e w hw => by
  cases w with
  | sd i => trivial
  | ow k => exact (List.getElem?_eq_some_iff.mp (h.wait nm p e k hw).1).1
theorem Inv.anyside {s s' : Int} (h : Inv (.sd s) A T v) : Inv (.sd s') A T v := ⟨h.len, h.nd, h.nms, fun nm p e i hi => ⟨(h.wait nm p e i hi).1, by simp, (h.wait nm p e i hi).2.2⟩, fun i _ z => h.opn i (by simp) z, h.kept, h.fresh, h.things⟩
/-- all who wait for a name are told -/
theorem Inv.close (h : Inv c A T v) (hp : aget nm v.pend = some p) (hws : ∀ i, Wh.ow i ∈ ws ↔ Wh.ow i ∈ p.who) (ht : ∀ x, t.val = some x → ∃ u, (nm, x, u) ∈ T ∧ now ≤ u) :
    Inv c A T (Hs.tellAll {v with pend := adrop nm v.pend} ws t).1 ∧ Prog A T now v (Hs.tellAll {v with pend := adrop nm v.pend} ws t).1 := by
  have ea : ∀ i, (Hs.tellAll {v with pend := adrop nm v.pend} ws t).1.ends[i]? = if Wh.ow i ∈ ws ∧ i < v.ends.length then some (some t.val) else v.ends[i]? := fun i => ends_at t i ws v.ends
  have epn : (Hs.tellAll {v with pend := adrop nm v.pend} ws t).1.pend = adrop nm v.pend := rfl
  refine ⟨⟨?_, ?_, ?_, ?_, ?_, h.kept, h.fresh, h.things⟩, ?_, ?_⟩
  · rw [tellAll_ends]; exact h.len
  · rw [epn]; exact adrop_nodup h.nd
  · rw [epn]; exact fun q hq => h.nms q (List.mem_filter.mp hq).1
  · intro nm' p' e i hi
    rw [epn] at e
    have ne : nm' ≠ nm := fun z => by rw [z, adrop_get_self] at e; cases e
    rw [adrop_get_ne ne] at e
    obtain ⟨h1, h2, s, h3, h4⟩ := h.wait nm' p' e i hi
    refine ⟨?_, h2, s, h3, h4⟩
    rw [ea, if_neg ?_, h1]
    rintro ⟨z, _⟩
    obtain ⟨_, _, s', h5, _⟩ := h.wait nm p hp i ((hws i).mp z)
    rw [h3] at h5
    exact ne (by simpa using (congrArg Prod.fst (Option.some.inj h5)))
  · intro i hc hi
    rw [ea] at hi
    split at hi
    · cases hi
    rename_i hn
    obtain ⟨nm', p', e, hi'⟩ := h.opn i hc hi
    have hl := (List.getElem?_eq_some_iff.mp hi).1
    have ne : nm' ≠ nm := fun z => by
      subst z
      rw [hp] at e
      cases e
      exact hn ⟨(hws i).mpr hi', hl⟩
    exact ⟨nm', p', by rw [epn, adrop_get_ne ne]; exact e, hi'⟩
  · intro i e hi
    rw [ea, if_neg ?_, hi]
    rintro ⟨z, _⟩
    have := (h.wait nm p hp i ((hws i).mp z)).1
    rw [hi] at this
    cases this
  · intro i x hi
    rw [ea] at hi
    split at hi
    · rename_i hn
      obtain ⟨_, _, s, h3, _⟩ := h.wait nm p hp i ((hws i).mp hn.1)
      simp only [Option.some.injEq] at hi
      obtain ⟨u, hu, hu2⟩ := ht x hi
      exact .inr ⟨nm, s, u, h3, hu, hu2⟩
    · exact .inl hi
/-- who asks -/
def Asks (w : Wh) (A : List (Nm × Int)) (nm : Nm) (now : Int) (v : Hs) : Prop := ∀ k, w = .ow k → v.ends[k]? = some none ∧ A[k]? = some (nm, now)
/-- who asks is told -/
theorem Inv.told (h : Inv w A T v) (hw : Asks w A nm now v) (ht : ∀ x, t.val = some x → ∃ u, (nm, x, u) ∈ T ∧ now ≤ u) : Inv (.sd 0) A T (v.tell w t).1 ∧ Prog A T now v (v.tell w t).1 := by
  have ea : ∀ i, (v.tell w t).1.ends[i]? = if Wh.ow i = w ∧ i < v.ends.length then some (some t.val) else v.ends[i]? := endW_at t v.ends w
  refine ⟨⟨?_, h.nd, h.nms, ?_, ?_, h.kept, h.fresh, h.things⟩, ?_, ?_⟩
  · show (endW t v.ends w).length = _
    rw [endW_len]
    exact h.len
  · intro nm' p' e i hi
    obtain ⟨h1, h2, h3⟩ := h.wait nm' p' e i hi
    refine ⟨?_, by simp, h3⟩
    rw [ea, if_neg (fun z => h2 z.1), h1]
  · intro i _ hi
    rw [ea] at hi
    split at hi
    · cases hi
    rename_i hn
    have hl := (List.getElem?_eq_some_iff.mp hi).1
    exact h.opn i (fun z => hn ⟨z, hl⟩) hi
  · intro i e hi
    rw [ea, if_neg ?_, hi]
    rintro ⟨z, _⟩
    have := (hw i z.symm).1
    rw [hi] at this
    cases this
  · intro i x hi
    rw [ea] at hi
    split at hi
    · rename_i hn
      simp only [Option.some.injEq] at hi
      obtain ⟨u, hu, hu2⟩ := ht x hi
      exact .inr ⟨nm, now, u, (hw i hn.1.symm).2, hu, hu2⟩
    · exact .inl hi
/-- who asks waits -/
theorem Inv.waits {p' : Wt} (h : Inv w A T v) (hk : okBeg nm = true) (hw : Asks w A nm now v) (h1 : w ∈ p'.who) (h2 : ∀ i, Wh.ow i ∈ p'.who → Wh.ow i = w ∨ ∃ p, aget nm v.pend = some p ∧ Wh.ow i ∈ p.who ∧ p'.since = p.since) (h3 : p'.since ≤ now)
    (h4 : ∀ p, aget nm v.pend = some p → ∀ i, Wh.ow i ∈ p.who → Wh.ow i ∈ p'.who) : Inv (.sd 0) A T {v with pend := aput nm p' v.pend} := by
  refine ⟨h.len, aput_nodup h.nd, ?_, ?_, ?_, h.kept, h.fresh, h.things⟩
  · intro q hq
    rcases aput_mem hq with z | z
    · rw [z]; exact hk
    · exact h.nms q z
  · intro nm' q e i hi
    by_cases en : nm' = nm
    · subst en
      have e : some p' = some q := by rw [← e]; exact aput_get_self.symm
      cases e
      rcases h2 i hi with z | ⟨p, z1, z2, z3⟩
      · obtain ⟨a, b⟩ := hw i z.symm
        exact ⟨a, by simp, now, b, h3⟩
      · obtain ⟨a, _, s, b, d⟩ := h.wait nm' p z1 i z2
        exact ⟨a, by simp, s, b, by rw [z3]; exact d⟩
    · have e : aget nm' v.pend = some q := by rw [← e]; exact (aput_get_ne en).symm
      obtain ⟨a, _, b⟩ := h.wait nm' q e i hi
      exact ⟨a, by simp, b⟩
  · intro i _ hi
    have hself : aget nm (aput nm p' v.pend) = some p' := aput_get_self
    by_cases ew : Wh.ow i = w
    · exact ⟨nm, p', hself, by rw [ew]; exact h1⟩
    · obtain ⟨nm', q, e, hq⟩ := h.opn i ew hi
      by_cases en : nm' = nm
      · subst en
        exact ⟨nm', p', hself, h4 q e i hq⟩
      · exact ⟨nm', q, by rw [← e]; exact aput_get_ne en, hq⟩
theorem Due.put {p' : Wt} (h : Due now v) (hp : p'.since ≤ now ∧ now - p'.since < v.most) : Due now {v with pend := aput nm p' v.pend} := fun nm' q e => by
  by_cases en : nm' = nm
  · subst en
    have e : some p' = some q := by rw [← e]; exact aput_get_self.symm
    cases e
    exact hp
  · exact h nm' q (by rw [← e]; exact (aput_get_ne en).symm)
theorem Due.drop (h : Due now v) : Due now {v with pend := adrop nm v.pend} := fun nm' q e => h nm' q (aget_adrop e)
theorem gotRows_sub {rs : List Row} : ∀ r ∈ gotRows nm now rs, r ∈ rs := fun r hr => by
  unfold gotRows at hr
  split at hr
  · exact hr
  · rcases List.mem_append.mp hr with z | z <;> exact (List.mem_filter.mp z).1
theorem heard_in (h : Inv c A T v) (e : v.heard nm now = some (x, u)) : (nm, x, u) ∈ T ∧ now ≤ u := by
  unfold Hs.heard at e
  split at e
  · rename_i r rs ea
    have hr : r ∈ alive nm now v.keeps := by rw [ea]; exact List.mem_cons_self ..
    obtain ⟨h1, h2⟩ := List.mem_filter.mp hr
    simp only [Bool.and_eq_true, decide_eq_true_eq] at h2
    cases e
    refine ⟨?_, by omega⟩
    have := h.kept r h1
    rw [← h2.1]
    exact this
  · unfold freshOf at e
    split at e
    · rename_i a b n ef
      split at e
      · rename_i en
        cases e
        have := h.fresh nm _ _ _ ef
        exact ⟨this.1, by omega⟩
      · cases e
    · cases e
theorem addW_mem {z : Wh} : z ∈ addW w ws ↔ z = w ∨ z ∈ ws := by
  unfold addW
  split
  · rename_i h
    constructor
    · exact .inr
    · rintro (e | e)
      · rw [e]; exact h
      · exact e
  · simp only [List.mem_append, List.mem_singleton]
    exact or_comm
theorem Inv.askedBy (h : Inv w A T v) (hd : Due now v) (hk : okBeg nm = true) (hw : Asks w A nm now v) (hm : 0 < v.most) :
    Inv (.sd 0) A T (v.askedBy w nm now).1 ∧ Due now (v.askedBy w nm now).1 ∧ Prog A T now v (v.askedBy w nm now).1 := by
  have hg : Inv w A T {v with keeps := gotRows nm now v.keeps} := h.setK fun r hr => h.kept r (gotRows_sub r hr)
  have dg : Due now {v with keeps := gotRows nm now v.keeps} := hd
  unfold Hs.askedBy
  have et : aget nm v.things = none := by rw [h.things]; rfl
  rw [et]
  simp only
  split
  · rename_i x u e
    have := heard_in h e
    obtain ⟨a, b⟩ := Inv.told (t := .thing nm x u) hg hw (fun y hy => by cases hy; exact ⟨u, this⟩)
    exact ⟨a, dg, ⟨b.keep, b.good⟩⟩
  · split
    · rename_i p e
      have hp := hd nm p e
      refine ⟨Inv.waits (v := {v with keeps := gotRows nm now v.keeps}) hg hk hw (addW_mem.mpr (.inl rfl)) (fun i hi => ?_) hp.1 (fun q hq i hi => ?_), Due.put (v := {v with keeps := gotRows nm now v.keeps}) dg hp, Prog.same rfl⟩
      · rcases addW_mem.mp hi with z | z
        · exact .inl z
        · exact .inr ⟨p, e, z, rfl⟩
      · have e2 : some p = some q := by rw [← e, ← hq]
        cases e2
        exact addW_mem.mpr (.inr hi)
    · rename_i e
      split
      · obtain ⟨a, b⟩ := Inv.told (t := .no nm) hg hw (fun y hy => by cases hy)
        exact ⟨a, dg, ⟨b.keep, b.good⟩⟩
      · refine ⟨Inv.waits (v := {v with keeps := gotRows nm now v.keeps}) hg hk hw (by simp) (fun i hi => .inl (by simpa using hi)) (Int.le_refl _) (fun q hq => ?_), Due.put (v := {v with keeps := gotRows nm now v.keeps}) dg ⟨Int.le_refl _, by simp only; omega⟩, Prog.same rfl⟩
        have : aget nm v.pend = some q := hq
        rw [e] at this
        cases this
theorem Inv.ask (h : Inv (.sd 0) A T v) (hd : Due now v) (hk : okBeg nm = true) (hm : 0 < v.most) :
    Inv (.sd 0) (A ++ [(nm, now)]) T (v.ask nm now).1 ∧ Due now (v.ask nm now).1 ∧ Prog (A ++ [(nm, now)]) T now v (v.ask nm now).1 := by
  have h0 : Inv (.ow v.ends.length) (A ++ [(nm, now)]) T {v with ends := v.ends ++ [none]} := by
    refine ⟨by simp [h.len], h.nd, h.nms, ?_, ?_, h.kept, h.fresh, h.things⟩
    · intro nm' p e i hi
      obtain ⟨h1, _, s, h3, h4⟩ := h.wait nm' p e i hi
      have hl := (List.getElem?_eq_some_iff.mp h1).1
      have hl2 := (List.getElem?_eq_some_iff.mp h3).1
      refine ⟨?_, ?_, s, ?_, h4⟩
      · show (v.ends ++ [none])[i]? = _
        rw [List.getElem?_append_left hl, h1]
      · intro z
        cases z
        omega
      · rw [List.getElem?_append_left hl2, h3]
    · intro i hc hi
      have hi : (v.ends ++ [none])[i]? = some none := hi
      have hne : i ≠ v.ends.length := fun z => hc (by rw [z])
      have hl := (List.getElem?_eq_some_iff.mp hi).1
      rw [List.length_append, List.length_singleton] at hl
      rw [List.getElem?_append_left (by omega)] at hi
      exact h.opn i (by simp) hi
  have hw : Asks (.ow v.ends.length) (A ++ [(nm, now)]) nm now {v with ends := v.ends ++ [none]} := fun k e => by
    cases e
    exact ⟨by simp, by simp [h.len]⟩
  obtain ⟨a, b, d⟩ := Inv.askedBy (v := {v with ends := v.ends ++ [none]}) h0 hd hk hw hm
  refine ⟨a, b, Prog.trans ⟨fun i e z => ?_, fun i x z => .inl ?_⟩ d⟩
  · have hl := (List.getElem?_eq_some_iff.mp z).1
    show (v.ends ++ [none])[i]? = _
    rw [List.getElem?_append_left hl, z]
  · have z : (v.ends ++ [none])[i]? = some (some (some x)) := z
    rcases Nat.lt_or_ge i v.ends.length with hl | hl
    · rwa [List.getElem?_append_left hl] at z
    · rw [List.getElem?_append_right hl] at z
      cases hh : i - v.ends.length with
      | zero => rw [hh] at z; cases z
      | succ n => rw [hh] at z; cases z
theorem kept_sub {room : Int} {rs : List Row} : ∀ r ∈ kept nm x u now room rs, r ∈ rs ∨ r = (nm, x, u) := fun r hr => by
  unfold kept at hr
  split at hr
  · rcases List.mem_append.mp (List.mem_of_mem_drop hr) with z | z
    · exact .inl (List.mem_filter.mp z).1
    · exact .inr (by simpa using z)
  · exact .inl (List.mem_filter.mp hr).1
theorem Inv.thingFrom (h : Inv (.sd 0) A T v) (hd : Due now v) (hT : (nm, x, u) ∈ T) (hu : now ≤ u) :
    Inv (.sd 0) A T (v.thingFrom side nm x u now).1 ∧ Due now (v.thingFrom side nm x u now).1 ∧ Prog A T now v (v.thingFrom side nm x u now).1 := by
  unfold Hs.thingFrom
  split
  · rename_i p e
    split
    · have h1 : Inv (.sd 0) A T {v with keeps := MP.kept nm x u now v.room v.keeps, fresh := aput nm (x, u, now) v.fresh} :=
        Inv.setF (v := {v with keeps := MP.kept nm x u now v.room v.keeps}) (h.setK fun r hr => (kept_sub r hr).elim (h.kept r) fun z => by rw [z]; exact hT) hT hu
      have h2 := Inv.close (t := .thing nm x u) (now := now) (ws := p.who.filter fun w => !decide (w = .sd side)) h1 e (fun i => by simp) (fun y hy => by cases hy; exact ⟨u, hT, hu⟩)
      exact ⟨h2.1, Due.drop (v := {v with keeps := MP.kept nm x u now v.room v.keeps, fresh := aput nm (x, u, now) v.fresh}) hd, h2.2.keep, h2.2.good⟩
    · exact ⟨h, hd, Prog.same rfl⟩
  · exact ⟨h, hd, Prog.same rfl⟩
theorem Inv.noFrom (h : Inv (.sd 0) A T v) (hd : Due now v) (hk : okBeg nm = true) :
    Inv (.sd 0) A T (v.noFrom side nm).1 ∧ Due now (v.noFrom side nm).1 ∧ Prog A T now v (v.noFrom side nm).1 := by
  unfold Hs.noFrom
  split
  · rename_i p e
    have hp := hd nm p e
    split
    · split
      · refine ⟨⟨h.len, aput_nodup h.nd, ?_, ?_, ?_, h.kept, h.fresh, h.things⟩, Due.put (v := v) hd hp, Prog.same rfl⟩
        · intro q hq
          rcases aput_mem hq with z | z
          · rw [z]; exact hk
          · exact h.nms q z
        · intro nm' q eq i hi
          by_cases en : nm' = nm
          · subst en
            have e2 := eq
            rw [show aget nm' (aput nm' _ v.pend) = some _ from aput_get_self] at e2
            cases e2
            exact h.wait nm' p e i hi
          · exact h.wait nm' q (by rw [← eq]; exact (aput_get_ne en).symm) i hi
        · intro i hc hi
          obtain ⟨nm', q, eq, hq⟩ := h.opn i hc hi
          by_cases en : nm' = nm
          · subst en
            rw [e] at eq
            cases eq
            exact ⟨nm', _, aput_get_self, hq⟩
          · exact ⟨nm', q, by rw [← eq]; exact aput_get_ne en, hq⟩
      · obtain ⟨a, b⟩ := Inv.close (t := .no nm) (now := now) h e (fun i => Iff.rfl) (fun y hy => by cases hy)
        exact ⟨a, Due.drop hd, b⟩
    · exact ⟨h, hd, Prog.same rfl⟩
  · exact ⟨h, hd, Prog.same rfl⟩
theorem Inv.come (h : Inv (.sd 0) A T v) (hd : Due now v) (hm : 0 < v.most) (ht : ltOk t) (hT : ∀ n x u, t = .thing n x u → (n, x, u) ∈ T) :
    Inv (.sd 0) A T (v.come side t now).1 ∧ Due now (v.come side t now).1 ∧ Prog A T now v (v.come side t now).1 := by
  unfold Hs.come
  split
  · exact Inv.askedBy h.anyside hd (okNm_beg ht) (fun k e => by cases e) hm
  · rename_i n x u
    split
    · rename_i hu
      exact h.thingFrom hd (hT _ _ _ rfl) hu
    · exact h.noFrom hd (okNm_beg ht.1)
  · exact h.noFrom hd (okNm_beg ht)
theorem Inv.ticks {now : Int} : ∀ (ns : List Nm) (q : Hs × Out), Inv (.sd 0) A T q.1 → Inv (.sd 0) A T (ns.foldl tickStep q).1 ∧ Prog A T now q.1 (ns.foldl tickStep q).1
  | [], q, h => ⟨h, Prog.same rfl⟩
  | n :: ns, q, h => by
    have h1 : Inv (.sd 0) A T (tickStep q n).1 ∧ Prog A T now q.1 (tickStep q n).1 := by
      unfold tickStep
      split
      · rename_i p e
        exact Inv.close (t := .no n) h e (fun i => Iff.rfl) (fun y hy => by cases hy)
      · exact ⟨h, Prog.same rfl⟩
    rw [List.foldl_cons]
    obtain ⟨a, b⟩ := Inv.ticks ns _ h1.1
    exact ⟨a, h1.2.trans b⟩
theorem tick_gone (n : Nm) : ∀ (ns : List Nm) (q : Hs × Out), n ∈ ns ∨ aget n q.1.pend = none → aget n (ns.foldl tickStep q).1.pend = none
  | [], q, h => h.elim (fun z => by cases z) id
  | m :: ns, q, h => by
    rw [List.foldl_cons]
    refine tick_gone n ns _ ?_
    by_cases e : n = m
    · subst e
      right
      unfold tickStep
      split
      · exact adrop_get_self
      · rename_i e; exact e
    · rcases h with h | h
      · exact .inl (by simpa [e] using h)
      · right
        unfold tickStep
        split
        · simp only [Hs.tellAll]
          rw [adrop_get_ne e]
          exact h
        · exact h
theorem Inv.tick {now : Int} (h : Inv (.sd 0) A T v) (hd : ∀ nm p, aget nm v.pend = some p → p.since ≤ now) :
    Inv (.sd 0) A T (v.tick now).1 ∧ Due now (v.tick now).1 ∧ Prog A T now v (v.tick now).1 := by
  have h1 : Inv (.sd 0) A T {v with keeps := agedRows now v.keeps} := h.setK fun r hr => h.kept r (List.mem_filter.mp hr).1
  obtain ⟨a, b⟩ := Inv.ticks (now := now) (dueNames v now) ({v with keeps := agedRows now v.keeps}, []) h1
  refine ⟨a, fun nm p e => ?_, ⟨b.keep, b.good⟩⟩
  have em : (v.tick now).1.most = v.most := hCon.tick.2.2.2.1
  rw [em]
  have hn : nm ∉ dueNames v now := fun z => by
    have := tick_gone nm (dueNames v now) ({v with keeps := agedRows now v.keeps}, []) (.inl z)
    have e : aget nm ((dueNames v now).foldl tickStep ({v with keeps := agedRows now v.keeps}, [])).1.pend = some p := e
    rw [this] at e
    cases e
  have e2 : aget nm v.pend = some p := by
    rw [← e]
    exact (tick_pend nm (dueNames v now) ({v with keeps := agedRows now v.keeps}, []) hn).symm
  refine ⟨hd nm p e2, ?_⟩
  rcases Int.lt_or_le (now - p.since) v.most with z | z
  · exact z
  · exact absurd (List.mem_map.mpr ⟨(nm, p), List.mem_filter.mpr ⟨aget_mem e2, by simpa using z⟩, rfl⟩) hn
end
/-! ### the law's own tools -/
section
variable {l r : List Asn} {S : Sto} {Q : D → Sto → Prop} {E : Exc → Sto → Prop} {j : Nat}
theorem anyname_st (H : St l S) (p : Pick (dieAt j) l r) (q : ∀ (nm : Nm) (S' : Sto), okNm nm = true → St (dieAt j :: r) S' → Q (nmD nm) S') : xR (f__law_any_name [.ref j] S) Q E := by
  simp only [xR_eq] at *
  exact anyname_ok (dieAt_is (H.pk p)) fun xs S' h1 h2 h3 f h => q xs S' (okNm_words h1 h2 h3) (dieAt_fm (H.pk p) f h)
theorem lawhead_st (H : St l S) (p : Pick (dieAt j) l r) (q : ∀ (nm : Nm) (S' : Sto), okBeg nm = true → St (dieAt j :: r) S' → Q (nmD nm) S') : xR (f__law_head [.ref j] S) Q E := by
  simp only [xR_eq] at *
  exact head_ok (dieAt_is (H.pk p)) fun xs S' h1 h2 f h => q xs S' (okBeg_words (by omega) h2) (dieAt_fm (H.pk p) f h)
theorem ins_mid (s : List Int) (k : Nat) (x : Int) : (s.map D.int).take k ++ [.int x] ++ (s.map D.int).drop k = (s.take k ++ x :: s.drop k).map .int := by simp [List.map_take, List.map_drop]
theorem somesides_st {nr : Nat} {near : List Int} (H : St l S) (p : Picks [dieAt j, sdAt nr near] l r) (hn : near.Nodup) (hl : near.length ≤ 1000)
    (q : ∀ (f : Nat) (s : List Int) (S' : Sto), (∀ x ∈ s, x ∈ near) → s.Nodup → s.length ≤ near.length → St (sdAt f s :: dieAt j :: sdAt nr near :: r) S' → Q (.ref f) S') : xR (f__law_some_sides [.ref j, .ref nr] S) Q E := by
  have H : St (dieAt j :: sdAt nr near :: r) S := H.pks p
  clear p
  fail "fn"
  unfold c__law_some_sides
  fail "sx"
  refine sx_inv (fun ys L S => ∃ (b : Option D) (pre post : List Int) (s : List Int), near = pre ++ post ∧ ys = post.map .int ∧ L = [some (.ref j), some (.ref nr), some (.ref n), b] ∧ (∀ x ∈ s, x ∈ pre) ∧ s.Nodup ∧ s.length ≤ pre.length ∧
    St (sdAt n s :: dieAt j :: sdAt nr near :: r) S) (fun ys L S ⟨_, _, _, _, _, _, _, _, _, _, H⟩ => by simp only [H.rd (n := nr) (o := .lst (near.map .int)) (by fail "pk"), decide_true]) ⟨_, [], near, [], rfl, rfl, rfl, by simp, .nil, by simp, H.ent (by fail "ent")⟩ ?_ ?_
  · rintro L S ⟨b, pre, post, s, e1, e2, rfl, h1, h2, h3, H⟩
    have e3 : post = [] := by simpa using e2.symm
    subst e3
    rw [List.append_nil] at e1
    subst e1
    fail "sx"
    exact q _ _ _ h1 h2 h3 (H.ent (by fail "ent"))
  · rintro y ys L S ⟨b, pre, post, s, e1, e2, rfl, h1, h2, h3, H⟩
    cases post with
    | nil => cases e2
    | cons x post =>
      rw [List.map_cons] at e2
      obtain ⟨rfl, rfl⟩ := List.cons.inj e2
      have hx : x ∉ pre := by
        rw [e1, List.nodup_append] at hn
        exact fun z => hn.2.2 x z x (by simp) rfl
      have hp : pre.length ≤ near.length := by rw [e1]; simp
      have e1' : near = (pre ++ [x]) ++ post := by rw [e1]; simp
      fail "sx"
      refine roll_st H (by fail "pk") (by decide) (by decide) fun i S hi0 hi1 H => ?_
      fail "sx"
      refine x_ite (fun _ => ?_) fun _ => ?_
      · fail "sx"
        refine roll_st H (by fail "pk") (by simp only [List.length_map]; omega) (by simp only [List.length_map]; omega) fun i S hi0 hi1 H => ?_
        fail "sx"
        refine sx_insert H (by fail "pk") (by simp only [List.length_map]; unfold sz; omega) ⟨hi0, by simp only [List.length_map] at hi1; omega⟩ fun S H => ?_
        rw [ins_mid] at H
        refine ⟨_, pre ++ [x], post, s.take i.toNat ++ x :: s.drop i.toNat, e1', rfl, rfl, ?_, ?_, ?_, H.ent (by fail "ent")⟩
        · intro y hy
          rcases List.mem_append.mp hy with z | z
          · exact List.mem_append_left _ (h1 y (List.mem_of_mem_take z))
          · rcases List.mem_cons.mp z with z | z
            · simp [z]
            · exact List.mem_append_left _ (h1 y (List.mem_of_mem_drop z))
        · have hs : x ∉ s := fun z => hx (h1 x z)
          have hd : (s.take i.toNat ++ s.drop i.toNat).Nodup := by rw [List.take_append_drop]; exact h2
          have hs2 : x ∉ s.take i.toNat ++ s.drop i.toNat := by rw [List.take_append_drop]; exact hs
          exact (List.perm_middle.nodup_iff).mpr (List.nodup_cons.mpr ⟨hs2, hd⟩)
        · have : (s.take i.toNat ++ s.drop i.toNat).length = s.length := by rw [List.take_append_drop]
          simp only [List.length_append, List.length_cons] at this ⊢
          simp only [List.length_nil]
          omega
      · fail "sx"
        exact ⟨_, pre ++ [x], post, s, e1', rfl, rfl, fun y hy => List.mem_append_left _ (h1 y hy), h2, by simp only [List.length_append]; omega, H.ent (by fail "ent")⟩
end
/-- the dice of all rounds -/
theorem dice_st {S : Sto} {k : Nat} {ds : List D} (hk : S[k]? = some (.lst ds)) (hd : ∀ d ∈ ds, ∃ j, d = .ref j ∧ isDie S j ∧ j ≠ k) (nd : ds.Nodup) : ∃ js : List Nat, ds = js.map .ref ∧ St [pt k (.lst (js.map .ref)), bun (js.map dieAt)] S := by
  have ex : ∀ ds : List D, (∀ d ∈ ds, ∃ j, d = .ref j ∧ isDie S j ∧ j ≠ k) → ∃ ps : List (Nat × Int × Int), ds = ps.map (fun q => .ref q.1) ∧ ∀ q ∈ ps, S[q.1]? = some (.lst [.int q.2.1, .int q.2.2]) ∧ q.1 ≠ k := fun ds => by
    induction ds with
    | nil => exact fun _ => ⟨[], rfl, fun q hq => by cases hq⟩
    | cons d ds ih =>
      intro h
      obtain ⟨ps, e, hp⟩ := ih fun d hd => h d (List.mem_cons_of_mem _ hd)
      obtain ⟨j, rfl, ⟨a, b, hj⟩, hk⟩ := h d (List.mem_cons_self ..)
      exact ⟨(j, a, b) :: ps, by rw [e]; rfl, fun q hq => (List.mem_cons.mp hq).elim (fun z => by rw [z]; exact ⟨hj, hk⟩) (hp q)⟩
  obtain ⟨ps, e, hp⟩ := ex ds hd
  refine ⟨ps.map (·.1), by rw [e, List.map_map]; rfl, ?_⟩
  have nd2 : (ps.map (·.1)).Nodup := by
    rw [e] at nd
    have : (ps.map fun q => D.ref q.1) = (ps.map (·.1)).map .ref := by rw [List.map_map]; rfl
    rw [this] at nd
    exact (List.pairwise_map.mp nd).imp fun h z => h (by rw [z])
  have h1 := St_pts (S := S) (ps := (k, .lst ds) :: ps.map fun q => (q.1, .lst [.int q.2.1, .int q.2.2])) (by
    rw [List.map_cons, List.map_map, List.nodup_cons]
    refine ⟨fun z => ?_, nd2⟩
    obtain ⟨q, hq, e⟩ := List.mem_map.mp z
    exact (hp q hq).2 e) (fun q hq => by
    rcases List.mem_cons.mp hq with z | z
    · rw [z]; exact hk
    · obtain ⟨p, h1, rfl⟩ := List.mem_map.mp z
      exact (hp p h1).1)
  rw [List.map_cons, List.map_map] at h1
  have e2 : ds = (ps.map (·.1)).map .ref := by rw [e, List.map_map]; rfl
  rw [← e2]
  refine sats.cons (fun b hb => ?_) h1
  refine sats.bun.mpr ?_
  rw [List.append_nil, List.map_map]
  clear h1 nd2 e2 ex hp e
  induction ps generalizing b with
  | nil => trivial
  | cons q ps ih =>
    obtain ⟨x, y, d, sx, sy, hx, hy⟩ := hb
    exact ⟨x, y, d, sx, sy, ⟨q.2.1, q.2.2, hx⟩, ih y hy⟩
theorem law_frame {S : Sto} {n nl : Nat} {ns : List Int} {m : Int} {body : SM} (h : isL S n (ns.map .int)) (hz : ns.length ≤ 63) (hm : 0 ≤ m) (hm2 : m < 1000) (hnl : 2 ≤ nl)
    (hb : ∀ (z : Nat) (F : List Asn) (S : Sto) (rest : List (Option D)), rest.length = nl - 2 → St (dieAt z :: F) S →
      xS (body (some (.ref n) :: some (.ref z) :: rest) S) ⟨fun L' S' => (∃ rest' : List (Option D), rest'.length = nl - 2 ∧ L' = some (.ref n) :: some (.ref z) :: rest') ∧ St (dieAt z :: F) S', fun _ _ => False, fun _ _ => False, fun _ _ => False, fun _ _ _ => False⟩) :
    wR (fn 1 nl (sSeq (sFor (wLst (eCall f__law_rounds (aCons (eV 0) (aCons (eC (.int m)) aNil)))) (gV 1) body) (sRet (eC (.bl true)))) [.ref n] S) (fun d _ => d = .bl true) Fl := by
  rw [← xR_eq]
  refine sx_fn rfl rfl ?_
  fail "sx"
  rw [xR_eq]
  refine rounds_ok h hz hm hm2 fun k ds S1 hk f1 dl hds hnd => ?_
  obtain ⟨js, rfl, H⟩ := dice_st hk (fun d hd => let ⟨j, a, b, _, c⟩ := hds d hd; ⟨j, a, b, c⟩) hnd
  refine sx_wkL H (by fail "pk") ?_
  refine sx_inv (fun ys L S => (∃ pre post : List Nat, js = pre ++ post ∧ ys = post.map .ref) ∧ (∃ (b : Option D) (rest : List (Option D)), rest.length = nl - 2 ∧ L = some (.ref n) :: b :: rest) ∧ St [pt k (.lst (js.map .ref)), bun (js.map dieAt)] S) (fun ys L S ⟨_, _, H⟩ => by simp only [H.rd (n := k) (o := .lst (js.map .ref)) (by fail "pk"), decide_true]) ⟨⟨[], js, rfl, rfl⟩, ⟨none, List.replicate (nl - 2) none, by simp, ?_⟩, H⟩ ?_ ?_
  · have : nl - 1 = (nl - 2) + 1 := by omega
    rw [this, List.replicate_succ]
    rfl
  · rintro L S ⟨_, _, _⟩
    fail "sx"
    rfl
  · rintro y ys L S ⟨⟨pre, post, e1, e2⟩, ⟨b, rest, hr, rfl⟩, H⟩
    cases post with
    | nil => cases e2
    | cons z post =>
      rw [List.map_cons] at e2
      obtain ⟨rfl, rfl⟩ := List.cons.inj e2
      fail "sx"
      have H2 := (St_aside e1).mp (H.pk (.there .here))
      have := hb z _ S rest hr H2
      simp only [xS_eq] at this ⊢
      refine wS_mono this (fun L1 S1 ⟨⟨r1, h1, h2⟩, h3⟩ => ?_) (fun _ _ z => z.elim) (fun _ _ z => z.elim) (fun _ _ z => z.elim) fun _ _ _ z => z.elim
      exact ⟨⟨pre ++ [z], post, by rw [e1]; simp, rfl⟩, ⟨_, r1, h1, h2⟩, St.swap ((St_aside e1).mpr h3)⟩
theorem sx_mid {st : SM} {L : Loc} {S : Sto} {P nx bk ct : Loc → Sto → Prop} {rt : D → Sto → Prop} {exx : Exc → Loc → Sto → Prop} (h : xS (st L S) ⟨P, fun _ _ => False, fun _ _ => False, fun _ _ => False, fun _ _ _ => False⟩) (k : ∀ L S, P L S → nx L S) : xS (st L S) ⟨nx, rt, bk, ct, exx⟩ := by
  simp only [xS_eq] at *
  exact wS_mono h k (fun _ _ z => z.elim) (fun _ _ z => z.elim) (fun _ _ z => z.elim) fun _ _ _ z => z.elim
/-! what a house has -/
/-- all of them can be compared -/
def rfy (ds : List D) : Asn := fun h => ∀ S : Sto, Hsub h (fun n => S[n]?) → ∃ ps : List PyData, ds.mapM (reify 59 S) = some ps
theorem rfy_nil {l : List Asn} {h : Hp} (q : sats l h) : sats (rfy [] :: l) h := ⟨fun _ => none, h, fun _ => .inl rfl, (fun _ _ z => by cases z), Hsub.refl _, fun S _ => ⟨[], rfl⟩, q⟩
theorem mapM_app {α β : Type} (f : α → Option β) : ∀ (xs ys : List α) {ps qs : List β}, xs.mapM f = some ps → ys.mapM f = some qs → (xs ++ ys).mapM f = some (ps ++ qs)
  | [], ys, ps, qs, h1, h2 => by
    cases h1
    exact h2
  | x :: xs, ys, ps, qs, h1, h2 => by
    simp only [List.mapM_cons, Option.bind_eq_bind, Option.pure_def] at h1
    cases e : f x with
    | none => rw [e] at h1; cases h1
    | some y =>
      rw [e] at h1
      cases e2 : xs.mapM f with
      | none => rw [e2] at h1; cases h1
      | some zs =>
        rw [e2] at h1
        cases h1
        have := mapM_app f xs ys e2 h2
        simp only [List.cons_append, List.mapM_cons, e, this, Option.bind_eq_bind, Option.pure_def]
        rfl
theorem rfy_more {l : List Asn} {ds : List D} {a b c : Nat} {n : Nm} {i : Int} {w : List Wh} {x y : List Int} {h : Hp} (q : sats (rfy ds :: pt a (.lst (w.map whD)) :: pt b (.lst (x.map .int)) :: pt c (.lst (y.map .int)) :: l) h) : sats (rfy (ds ++ [.tup [nmD n, .int i, .ref a, .ref b, .ref c]]) :: l) h := by
  have q2 : sats ([rfy ds, pt a (.lst (w.map whD)), pt b (.lst (x.map .int)), pt c (.lst (y.map .int))] ++ l) h := q
  obtain ⟨u, r, d, su, sr, hu, hr⟩ := sats.app.mp q2
  refine ⟨u, r, d, su, sr, fun S hS => ?_, hr⟩
  obtain ⟨u1, r1, _, s1, t1, h1, u2, r2, _, s2, t2, h2, u3, r3, _, s3, t3, h3, u4, r4, _, s4, t4, h4, _⟩ := hu
  obtain ⟨ps, hps⟩ := h1 S (s1.trans hS)
  have ea : S[a]? = some (.lst (w.map whD)) := (s2.trans (t1.trans hS)) a _ h2
  have eb : S[b]? = some (.lst (x.map .int)) := (s3.trans (t2.trans (t1.trans hS))) b _ h3
  have ec : S[c]? = some (.lst (y.map .int)) := (s4.trans (t3.trans (t2.trans (t1.trans hS)))) c _ h4
  have ra : reify 58 S (.ref a) = some (.list (toPys (w.map whD))) := reify_l (k := 20) (.inl ea) (pls_map fun _ => pl_wh _) (by decide)
  have rb : reify 58 S (.ref b) = some (.list (toPys (x.map .int))) := reify_l (k := 20) (.inl eb) (pls_map fun _ => pl_int) (by decide)
  have rc : reify 58 S (.ref c) = some (.list (toPys (y.map .int))) := reify_l (k := 20) (.inl ec) (pls_map fun _ => pl_int) (by decide)
  have rn : reify 58 S (nmD n) = some (toPy (nmD n)) := reify_pl S 20 58 _ (pl_nm20 n) (by decide)
  have ri : reify 58 S (.int i) = some (toPy (.int i)) := reify_pl S 20 58 _ pl_int (by decide)
  have rt : reify 59 S (.tup [nmD n, .int i, .ref a, .ref b, .ref c]) = some (.tuple [toPy (nmD n), toPy (.int i), .list (toPys (w.map whD)), .list (toPys (x.map .int)), .list (toPys (y.map .int))]) := by
    show ([nmD n, D.int i, .ref a, .ref b, .ref c].mapM (reify 58 S)).map PyData.tuple = _
    simp only [List.mapM_cons, List.mapM_nil, ra, rb, rc, rn, ri]
    rfl
  exact ⟨_, mapM_app _ _ _ hps (by simp only [List.mapM_cons, List.mapM_nil, rt]; rfl)⟩
theorem rfy_eq {l r r' : List Asn} {S : Sto} {j m : Nat} {ds : List D} (H : St l S) (p : Picks [rfy ds, pt j (.lst ds)] l r) (p' : Pick (pt m (.lst [])) l r') : opEq (.ref j) (.ref m) S = .ok (.bl (decide (ds = []))) S ∧ opNe (.ref j) (.ref m) S = .ok (.bl (!decide (ds = []))) S := by
  have H1 : St (rfy ds :: pt j (.lst ds) :: r) S := H.pks p
  have ej : S[j]? = some (.lst ds) := H1.tl.at
  have em := H.rd p'
  obtain ⟨u, _, _, su, _, hu, _⟩ := H1
  obtain ⟨ps, hps⟩ := hu S su
  have e1 : reify 60 S (.ref j) = some (.list ps) := by simp only [reify, ej, hps]; rfl
  have e2 : reify 60 S (.ref m) = some (.list []) := by simp only [reify, em]; rfl
  have e3 : PyData.eqv (.list ps) (.list []) = decide (ds = []) := by
    cases ds with
    | nil => cases hps; rfl
    | cons d ds =>
      cases ps with
      | nil =>
        simp only [List.mapM_cons, Option.bind_eq_bind, Option.pure_def] at hps
        cases e : reify 59 S d with
        | none => rw [e] at hps; cases hps
        | some y =>
          rw [e] at hps
          cases e2 : ds.mapM (reify 59 S) with
          | none => rw [e2] at hps; cases hps
          | some zs => rw [e2] at hps; cases hps
      | cons q ps => rfl
  simp only [opEq, opNe, e1, e2, e3, and_self]
section
variable {h : Nat} {v : Hs} {F : List Asn} {S : Sto} {Q : D → Sto → Prop} {E : Exc → Sto → Prop}
theorem hkeeps_st (H : St (houseAt h v :: F) S) (q : ∀ j S', St (pt j (.lst (v.keeps.map rowD)) :: houseAt h v :: F) S' → Q (.ref j) S') : xR (f_House_keeps [.ref h] S) Q E := by
  obtain ⟨n1, sh, rd, th, pd, fr, en, H⟩ := houseAt_o.mp H
  fail "fn"
  unfold c_House_keeps
  fail "sx"
  refine rows_st (H.ent (by fail "ent")) fun j S H => q _ _ (H.ent (by fail "ent"))
theorem waits_st (H : St (houseAt h v :: F) S) (hk : ∀ q ∈ v.pend, okBeg q.1 = true) (hl : v.pend.length < sz) (q : ∀ j ds S', ds.length = v.pend.length → St (rfy ds :: pt j (.lst ds) :: houseAt h v :: F) S' → Q (.ref j) S') : xR (f_House_waits [.ref h] S) Q E := by
  obtain ⟨n1, sh, rd, th, pd, fr, en, H⟩ := houseAt_o.mp H
  fail "fn"
  unfold c_House_waits
  fail "sx"
  rename Nat => fl
  obtain ⟨rows, er, nd, H⟩ := dicL_of (m := v.pend) (n := pd) (lk := false) (kf := nmD) (A := waitAt) (H.ent (l' := dicAt pd false nmD waitAt v.pend :: pt fl _ :: pt h _ :: pt n1 _ :: keepsAt sh v.room v.keeps :: tableAt rd v.tab :: pt th _ :: pt fr (.dic true false (plD frD v.fresh)) :: pt en _ :: F) (by fail "ent"))
  refine sx_lockL H (by fail "pk") (fld_ok H (by fail "pk") rfl rfl) fun S H => ?_
  fail "sx"
  refine sx_wDicL H (by fail "pk") (fld_ok H (by fail "pk") rfl rfl) ?_
  have rl : rows.length = v.pend.length := by rw [← er]; simp [strip]
  have hR : ∀ {S : Sto} {l : List Asn}, St (dicL pd true nmD waitAt rows :: l) S ↔ St (pt pd (.dic true true (rowsD nmD rows)) :: bun (rows.map fun q => waitAt q.2.1 q.2.2) :: l) S := fun {S l} => by
    rw [dicL_o]
    constructor
    · exact fun H => sats.cons (fun b h => sats.bun.mpr h) H
    · exact fun H => sats.cons (fun b h => sats.bun.mp h) H
  refine sx_inv (fun ys L S => ∃ (pre post : List (Nm × Nat × Wt)) (ds : List D) (b2 b3 : Option D), rows = pre ++ post ∧ ys = post.map (fun q => nmD q.1) ∧ ds.length = pre.length ∧ L = [some (.ref h), some (.ref fl), b2, b3] ∧
    St (pt fl (.lst ds) :: rfy ds :: dicL pd true nmD waitAt rows :: pt h (.ins 0 [(41, .int v.me), (44, .ref n1), (68, .ref sh), (43, .int v.most), (63, .ref rd), (80, .ref th), (58, .ref pd), (24, .ref fr), (20, .ref en)]) :: pt n1 (.lst (v.near.map .int)) :: keepsAt sh v.room v.keeps :: tableAt rd v.tab :: pt th (.dic true false (plD thD v.things)) :: pt fr (.dic true false (plD frD v.fresh)) :: pt en (.lst (v.ends.map endD)) :: F) S)
    (fun ys L S ⟨_, _, _, _, _, _, _, _, _, H⟩ => dicL_chk H (by fail "pk")) ⟨[], rows, [], _, _, rfl, rfl, rfl, rfl, St.swap (rfy_nil (H.ent (by fail "ent")))⟩ ?_ ?_
  · rintro L S ⟨pre, post, ds, b2, b3, e1, e2, e3, rfl, H⟩
    have e5 : post = [] := List.map_eq_nil_iff.mp e2.symm
    subst e5
    rw [List.append_nil] at e1
    subst e1
    refine ⟨_, H.ent (l' := dicL pd true nmD waitAt rows :: rfy ds :: pt fl (.lst ds) :: pt h _ :: pt n1 _ :: keepsAt sh v.room v.keeps :: tableAt rd v.tab :: pt th _ :: pt fr (.dic true false (plD frD v.fresh)) :: pt en _ :: F) (by fail "ent"), fun S H => ?_⟩
    have H := dicL_to H (by rw [er]; exact nd)
    rw [er] at H
    fail "sx"
    exact q _ ds _ (by rw [e3, rl]) (H.ent (by fail "ent"))
  · rintro y ys L S ⟨pre, post, ds, b2, b3, e1, e2, e3, rfl, H⟩
    cases post with
    | nil => cases e2
    | cons z post =>
      rw [List.map_cons] at e2
      obtain ⟨rfl, rfl⟩ := List.cons.inj e2
      have hz : z ∈ rows := by rw [e1]; simp
      have hkz : okBeg z.1 = true := hk (z.1, z.2.2) (by rw [← er]; exact List.mem_map.mpr ⟨z, hz, rfl⟩)
      have hpl : pre.length < rows.length := by rw [e1]; simp
      have H := hR.mp (H.ent (l' := dicL pd true nmD waitAt rows :: rfy ds :: pt fl (.lst ds) :: pt h _ :: pt n1 _ :: keepsAt sh v.room v.keeps :: tableAt rd v.tab :: pt th _ :: pt fr (.dic true false (plD frD v.fresh)) :: pt en _ :: F) (by fail "ent"))
      have H := (St_aside (A := fun q : Nm × Nat × Wt => waitAt q.2.1 q.2.2) e1).mp (H.pk (.there .here))
      obtain ⟨a, b, c, H⟩ := waitAt_o.mp H
      fail "sx"
      refine sx_dget H (by fail "pk") (key_ok hkz) (kget_mem nm_ki (by rw [er]; exact nd) hz) ?_
      fail "sx"
      have hll : v.pend.length < sz := hl
      rename_i nb _ _ nc _ _
      refine sx_append H (by fail "pk") (by omega) fun S H => ?_
      have H := (St_aside (A := fun q : Nm × Nat × Wt => waitAt q.2.1 q.2.2) e1).mpr (H.ent (l' := waitAt z.2.1 z.2.2 :: bun ((pre ++ post).map fun q => waitAt q.2.1 q.2.2) :: rfy ds :: pt nb _ :: pt nc _ :: pt n _ :: pt fl _ :: pt pd _ :: pt h _ :: pt n1 _ :: keepsAt sh v.room v.keeps :: tableAt rd v.tab :: pt th _ :: pt fr (.dic true false (plD frD v.fresh)) :: pt en _ :: F) (by fail "ent"))
      have H : St (rfy (ds ++ [D.tup [nmD z.1, .int z.2.2.since, .ref nb, .ref nc, .ref n]]) :: bun (rows.map fun q => waitAt q.2.1 q.2.2) :: pt fl _ :: pt pd _ :: pt h _ :: pt n1 _ :: keepsAt sh v.room v.keeps :: tableAt rd v.tab :: pt th _ :: pt fr (.dic true false (plD frD v.fresh)) :: pt en _ :: F) S := rfy_more (H.ent (by fail "ent"))
      refine ⟨pre ++ [z], post, ds ++ [D.tup [nmD z.1, .int z.2.2.since, .ref nb, .ref nc, .ref n]], _, _, by rw [e1]; simp, rfl, by simp [e3], rfl, ?_⟩
      have H := hR.mpr (H.ent (l' := pt pd _ :: bun (rows.map fun q => waitAt q.2.1 q.2.2) :: pt fl _ :: rfy (ds ++ [D.tup [nmD z.1, .int z.2.2.since, .ref nb, .ref nc, .ref n]]) :: pt h _ :: pt n1 _ :: keepsAt sh v.room v.keeps :: tableAt rd v.tab :: pt th _ :: pt fr (.dic true false (plD frD v.fresh)) :: pt en _ :: F) (by fail "ent"))
      exact H.ent (by fail "ent")
end
/-! ### houses of the law k41 -/
def hv (room : Int) (s : List Int) (pend : List (Nm × Wt)) (ends : List (Option (Option Int))) : Hs := ⟨0, [1, 2, 3, 4], room, [], 9, [([], s ++ [5])], [], pend, [], ends⟩
section
variable {room : Int} {s : List Int} {nm : Nm} {pend : List (Nm × Wt)} {ends : List (Option (Option Int))} {w : Wh} {p : Wt} {t : Lt}
theorem hv_long (hn : nm ≠ []) : ∀ m, m ≤ nm.length → tLongN [([], s ++ [5])] nm m = some []
  | 0, _ => by simp [tLongN, aget]
  | m + 1, h => by
    unfold tLongN
    have : nm.take (m + 1) ≠ [] := fun z => by
      have := congrArg List.length z
      rw [List.length_take, List.length_nil] at this
      omega
    rw [if_neg (by simp only [aget]; rw [if_neg this.symm]; simp)]
    exact hv_long hn m (by omega)
theorem hv_sides (hs : ∀ x ∈ s, x ∈ [(1 : Int), 2, 3, 4]) (hn : nm ≠ []) : tSides (hv room s pend ends) nm = s := by
  unfold tSides tFound tLong hv
  simp only
  rw [hv_long hn _ (Nat.le_refl _)]
  simp only [aget, if_true, Option.getD_some]
  rw [List.filter_append, List.filter_eq_self.mpr (fun x hx => decide_eq_true (hs x hx))]
  simp
theorem hv_got : gotRows nm 0 ([] : List Row) = [] := by simp [gotRows]
theorem hv_new (hs : ∀ x ∈ s, x ∈ [(1 : Int), 2, 3, 4]) (hn : nm ≠ []) : (hv room s [] ends).askedBy w nm 0 = if s.filter (fun x => !decide (Wh.sd x = w)) = [] then (hv room s [] ends).tell w (.no nm) else
    (hv room s [(nm, ⟨0, [w], s.filter (fun x => !decide (Wh.sd x = w)), []⟩)] ends, (s.filter (fun x => !decide (Wh.sd x = w))).map fun x => (x, .ask nm)) := by
  unfold Hs.askedBy
  rw [hv_sides hs hn]
  rfl
theorem hv_join : (hv room s [(nm, p)] ends).askedBy w nm 0 = Hs.joined (hv room s [(nm, p)] ends) w nm p := by
  have e : aget nm [(nm, p)] = some p := by simp [aget]
  unfold Hs.askedBy
  have e2 : aget nm (hv room s [(nm, p)] ends).things = none := rfl
  have e3 : (hv room s [(nm, p)] ends).heard nm 0 = none := rfl
  have e4 : aget nm (hv room s [(nm, p)] ends).pend = some p := e
  rw [e2, e3, e4]
  rfl
theorem jfold (nm : Nm) (who : List Wh) : ∀ (ss a : List Int) (o : Out), a.Nodup → ∃ news : List Int, ss.foldl (jstep nm who []) (a, o) = (a ++ news, o ++ news.map fun x => (x, Lt.ask nm)) ∧ (a ++ news).Nodup ∧ ∀ x ∈ news, x ∈ ss
  | [], a, o, h => ⟨[], by simp, by simpa using h, by simp⟩
  | x :: ss, a, o, h => by
    rw [List.foldl_cons]
    by_cases c : x ∉ a ∧ x ∉ ([] : List Int) ∧ who ≠ [.sd x]
    · have e : jstep nm who [] (a, o) x = (a ++ [x], o ++ [(x, .ask nm)]) := by unfold jstep; rw [if_pos c]
      rw [e]
      obtain ⟨news, h1, h2, h3⟩ := jfold nm who ss (a ++ [x]) (o ++ [(x, .ask nm)]) (by
        rw [List.nodup_append]
        exact ⟨h, by simp, fun u hu w hw z => c.1 (by rw [List.mem_singleton.mp hw] at z; rw [← z]; exact hu)⟩)
      exact ⟨x :: news, by rw [h1]; simp, by simpa using h2, fun y hy => (List.mem_cons.mp hy).elim (fun z => by rw [z]; exact List.mem_cons_self ..) fun z => List.mem_cons_of_mem _ (h3 y z)⟩
    · have e : jstep nm who [] (a, o) x = (a, o) := by unfold jstep; rw [if_neg c]
      rw [e]
      obtain ⟨news, h1, h2, h3⟩ := jfold nm who ss a o h
      exact ⟨news, h1, h2, fun y hy => List.mem_cons_of_mem _ (h3 y hy)⟩
theorem hv_joined (hs : ∀ x ∈ s, x ∈ [(1 : Int), 2, 3, 4]) (hn : nm ≠ []) (ha : p.asked.Nodup) (hno : p.noes = []) (h0 : p.since = 0) (hsub : ∀ x ∈ p.asked, x ∈ s) : ∃ news : List Int, (hv room s [(nm, p)] ends).askedBy w nm 0 = (hv room s [(nm, ⟨0, addW w p.who, p.asked ++ news, []⟩)] ends, news.map fun x => (x, Lt.ask nm)) ∧ (p.asked ++ news).Nodup ∧ ∀ x ∈ p.asked ++ news, x ∈ s := by
  obtain ⟨news, h1, h2, h3⟩ := jfold nm (addW w p.who) s p.asked [] ha
  refine ⟨news, ?_, h2, fun x hx => (List.mem_append.mp hx).elim (hsub x) (h3 x)⟩
  rw [hv_join]
  unfold Hs.joined
  simp only
  rw [hv_sides hs hn, hno, h1, h0]
  simp [hv, aput, aget]
/-- the sides of those who asked -/
def sidesOf : List Wh → List Int
  | [] => []
  | .sd i :: ws => i :: sidesOf ws
  | .ow _ :: ws => sidesOf ws
theorem out_sides (t : Lt) : ∀ ws : List Wh, ws.flatMap (outW t) = (sidesOf ws).map fun i => (i, t)
  | [] => rfl
  | .sd i :: ws => by rw [List.flatMap_cons, out_sides t ws]; rfl
  | .ow _ :: ws => by rw [List.flatMap_cons, out_sides t ws]; rfl
def sdNot (side : Int) : Wh → Bool
  | .ow _ => false
  | .sd i => !decide (i = side)
def sdAll : Wh → Bool
  | .ow _ => false
  | .sd _ => true
theorem told_sides {side : Int} : ∀ ws : List Wh, (ws.filter (sdNot side)).map whD = (sidesOf (ws.filter fun w => !decide (w = .sd side))).map .int
  | [] => rfl
  | .sd i :: ws => by
    have ih := told_sides (side := side) ws
    by_cases e : i = side
    · simp only [List.filter_cons, sdNot, e, decide_true, Bool.not_true, Bool.false_eq_true, if_false]
      exact ih
    · have e2 : ¬ (Wh.sd i = Wh.sd side) := fun z => e (by cases z; rfl)
      simp only [List.filter_cons, sdNot, e, e2, decide_false, Bool.not_false, if_true, List.map_cons, sidesOf, ih]
      rfl
  | .ow _ :: ws => by
    have ih := told_sides (side := side) ws
    simp only [List.filter_cons, sdNot, Bool.false_eq_true, if_false, reduceCtorEq, decide_false, Bool.not_false, if_true, sidesOf]
    exact ih
theorem told_all : ∀ ws : List Wh, (ws.filter sdAll).map whD = (sidesOf ws).map .int
  | [] => rfl
  | .sd i :: ws => by
    simp only [List.filter_cons, sdAll, if_true, List.map_cons, sidesOf, told_all ws]
    rfl
  | .ow _ :: ws => by
    simp only [List.filter_cons, sdAll, Bool.false_eq_true, if_false, sidesOf]
    exact told_all ws
theorem all_told {n : Nat} {ws : List Wh} (h : ∀ k < n, Wh.ow k ∈ ws) : ws.foldl (endW t) (List.replicate n none) = List.replicate n (some t.val) := by
  refine List.ext_getElem? fun i => ?_
  rw [ends_at]
  by_cases hi : i < n
  · rw [if_pos ⟨h i hi, by simpa using hi⟩]
    simp [hi]
  · rw [if_neg (by simp; exact fun _ => by omega)]
    simp [hi]
theorem sidesOf_len : ∀ ws : List Wh, (sidesOf ws).length ≤ ws.length
  | [] => Nat.le_refl _
  | .sd _ :: ws => Nat.succ_le_succ (sidesOf_len ws)
  | .ow _ :: ws => Nat.le_succ_of_le (sidesOf_len ws)
theorem cut_m1 {α : Type} (xs : List α) : cut xs none (some (-1)) = xs.take (xs.length - 1) := by
  have e : sIx xs.length xs.length (some (-1)) = xs.length - 1 := by
    simp only [sIx]
    rw [if_pos (by omega)]
    omega
  have e2 : sIx xs.length 0 none = 0 := rfl
  unfold cut
  rw [e, e2]
  simp
end
section
variable {F : List Asn} {S : Sto} {Q : D → Sto → Prop} {E : Exc → Sto → Prop} {ho wl ol al d k c : Nat} {room side : Int} {s : List Int} {nm : Nm} {p : Wt}
/-- behind a thing -/
def hvT (room : Int) (s : List Int) (nm : Nm) (k : Nat) : Hs := ⟨0, [1, 2, 3, 4], room, (if 0 < room then [(nm, 7, 3)] else []), 9, [([], s ++ [5])], [], [], [(nm, 7, 3, 0)], List.replicate k (some (some 7))⟩
theorem hv_thing (hs : side ∈ p.asked) (hw2 : ∀ i < k, Wh.ow i ∈ p.who) : (hv room s [(nm, p)] (List.replicate k none)).thingFrom side nm 7 3 0 = (hvT room s nm k, (sidesOf (p.who.filter fun w => !decide (w = .sd side))).map fun i => (i, Lt.thing nm 7 3)) := by
  unfold Hs.thingFrom
  have e : aget nm (hv room s [(nm, p)] (List.replicate k none)).pend = some p := by simp [hv, aget]
  rw [e]
  simp only
  rw [if_pos hs]
  unfold Hs.tellAll
  rw [out_sides]
  have e2 : kept nm 7 3 0 room [] = if 0 < room then [(nm, 7, 3)] else [] := by
    unfold kept
    by_cases h : 0 < room
    · rw [if_pos ⟨by decide, h⟩, if_pos h]
      have : others nm ([] : List Row) = [] := rfl
      rw [this]
      have : ([] : List Row).length + 1 - room.toNat = 0 := by simp; omega
      rw [this]
      rfl
    · rw [if_neg (fun z => h z.2), if_neg h]
      rfl
  have e3 : adrop nm [(nm, p)] = [] := by simp [adrop]
  have e4 : (p.who.filter fun w => !decide (w = .sd side)).foldl (endW (.thing nm 7 3)) (List.replicate k none) = List.replicate k (some (some 7)) := all_told fun i hi => List.mem_filter.mpr ⟨hw2 i hi, by simp⟩
  simp only [hv, hvT, e2, e3, e4, aput, aget, Option.isSome_none, Bool.false_eq_true, if_false, List.nil_append]
theorem hvT_again : (hvT room s nm k).come side (.thing nm 7 3) 0 = (hvT room s nm k, []) := by
  unfold Hs.come
  simp only
  rw [if_pos (by decide)]
  rfl
theorem hvT_ask : ((hvT room s nm k).ask nm 0).2 = [] ∧ ((hvT room s nm k).ask nm 0).1.ends[k]? = some (some (some 7)) ∧ ((hvT room s nm k).ask nm 0).1.pend = [] := by
  have eh : ∀ es, Hs.heard {hvT room s nm k with ends := es} nm 0 = some (7, 3) := fun es => by
    unfold Hs.heard hvT
    by_cases h : 0 < room
    · simp [h, alive]
    · simp [h, alive, freshOf, aget]
  have ea : (hvT room s nm k).ask nm 0 = Hs.tell {hvT room s nm k with ends := (hvT room s nm k).ends ++ [none], keeps := gotRows nm 0 (hvT room s nm k).keeps} (.ow (hvT room s nm k).ends.length) (.thing nm 7 3) := by
    unfold Hs.ask Hs.askedBy
    have et : aget nm (hvT room s nm k).things = none := rfl
    simp only [et, eh]
  rw [ea]
  refine ⟨rfl, ?_, rfl⟩
  simp only [Hs.tell, endW_at]
  rw [if_pos ⟨by simp [hvT], by simp [hvT]⟩]
  rfl
theorem pl_rng (k : Nat) : pls 20 ((List.range k).map fun (i : Nat) => D.int i) = true := pls_map fun _ => pl_int
theorem rep_map {α : Type} (d : D) : ∀ xs : List α, xs.map (fun _ => d) = List.replicate xs.length d
  | [] => rfl
  | x :: xs => by rw [List.map_cons, rep_map d xs]; rfl
theorem flat1 (d : D) : ∀ k : Nat, (List.replicate k [d]).flatten = List.replicate k d
  | 0 => rfl
  | k + 1 => by rw [List.replicate_succ, List.flatten_cons, flat1 d k]; rfl
theorem pls_rep {n : Nat} {d : D} (h : pl n d = true) (k : Nat) : pls n (List.replicate k d) = true := pls_all.mpr fun x hx => by rw [List.eq_of_mem_replicate hx]; exact h
/-- all own asks have come to the same end -/
theorem ends_all {v : Hs} {x : Option Int} (hv : v.ends[k]? = some (some x)) : True := trivial
theorem thing_comes_st (H : St (houseAt ho (hv room s [(nm, p)] (List.replicate k none)) :: pt wl (.lst (p.who.map whD)) :: pt ol (.lst ((List.range k).map fun (i : Nat) => .int i)) :: F) S) (hz : hSz c (hv room s [(nm, p)] (List.replicate k none))) (hc : c ≤ 900) (hk : okNm nm = true)
    (hs : side ∈ p.asked) (hs2 : side ∈ [(1 : Int), 2, 3, 4]) (hw : ∀ i, Wh.ow i ∈ p.who → i < k) (hw2 : ∀ i < k, Wh.ow i ∈ p.who) (q : ∀ v' S', v'.pend = [] → St (houseAt ho v' :: pt wl (.lst (p.who.map whD)) :: pt ol (.lst ((List.range k).map fun (i : Nat) => .int i)) :: F) S' → Q (.bl true) S') :
    xR (f__law_thing_comes [.ref d, .ref ho, nmD nm, .int room, .ref wl, .ref ol, .int side] S) Q E := by
  have hp : pOk (hv room s [(nm, p)] (List.replicate k none)) := fun n' p' e w hw' => by
    cases w with
    | sd i => trivial
    | ow i =>
      have : p' = p := by
        simp only [hv, aget] at e
        split at e
        · cases e; rfl
        · cases e
      subst this
      simpa [hv, whoOk] using hw i hw'
  have hs3 : 0 ≤ side ∧ side ≤ 7 := by simp at hs2; omega
  have hwl : p.who.length ≤ 1000 := by
    have := (hz.who (nm, p) (by simp [hv])).1
    simp only at this
    omega
  have hkl : k ≤ 1000 := by have := hz.ends; simp [hv] at this; omega
  fail "fn"
  unfold c__law_thing_comes
  fail "sx"
  refine sx_lc (zs := p.who) H whD (sdNot side) whD rfl (by unfold sz; omega) (fun S' H => by simp only [H.rd (n := wl) (o := .lst (p.who.map whD)) (by fail "pk"), decide_true]) (fun w _ m acc S' H => ?_) fun tl S H => ?_
  · cases w with
    | sd i =>
      simp only [whD]
      fail "sx"
    | ow i =>
      simp only [whD]
      fail "sx"
  rw [told_sides] at H
  fail "sx"
  refine come_st (t := .thing nm 7 3) (H.ent (by fail "ent")) (hz.ok (by omega)) hp hs2 hs3 ⟨hk, by decide, by decide⟩ (by decide) fun j S H => ?_
  have e1 : (hv room s [(nm, p)] (List.replicate k none)).come side (.thing nm 7 3) 0 = (hvT room s nm k, (sidesOf (p.who.filter fun w => !decide (w = .sd side))).map fun i => (i, Lt.thing nm 7 3)) := by
    rw [← hv_thing hs hw2]
    rfl
  have hz1 : hSz (c + 1) (hvT room s nm k) := by
    have := hz.come (side := side) (t := .thing nm 7 3) (now := 0)
    rwa [e1] at this
  rw [e1] at H
  simp only at H
  have htl : (sidesOf (p.who.filter fun w => !decide (w = .sd side))).length ≤ sz := by
    have := sidesOf_len (p.who.filter fun w => !decide (w = .sd side))
    have := List.length_filter_le (fun w => !decide (w = Wh.sd side)) p.who
    unfold sz
    omega
  generalize sidesOf (p.who.filter fun w => !decide (w = .sd side)) = told at H htl
  fail "sx"
  refine sx_lc (zs := told) H .int (fun _ => true) (fun i => .tup [.int i, .tup [.str wThing, nmD nm, .int 7, .int 3]]) rfl htl (fun S' H => by simp only [H.rd (n := tl) (o := .lst (told.map .int)) (by fail "pk"), decide_true]) (fun w _ m acc S' H => by fail "sx"; rfl) fun m S H => ?_
  have et : (told.filter (fun _ => true)).map (fun i => D.tup [.int i, .tup [.str wThing, nmD nm, .int 7, .int 3]]) = (told.map fun i => (i, Lt.thing nm 7 3)).map msgD := by
    rw [List.filter_eq_self.mpr (fun _ _ => rfl), List.map_map]
    rfl
  rw [et] at H
  have plm : ∀ o : Out, pls 20 (o.map msgD) = true := fun o => pls_map fun _ => pl_msg _
  refine sx_neL H (by fail "pk") (by fail "pk") (plm _) (plm _) ?_
  rw [decide_eq_true rfl]
  fail "sx"
  -- the ends
  have ev : ∀ i < k, (hvT room s nm k).ends[i]? = some (some (some 7)) := fun i hi => by simp [hvT, hi]
  refine sx_lcS (zs := List.range k) H (fun (i : Nat) => .int i) (fun _ => true) (fun _ => .tup [.int 7]) rfl (by simp; unfold sz; omega) (fun S' H => by simp only [H.rd (n := ol) (o := .lst ((List.range k).map fun (i : Nat) => .int i)) (by fail "pk"), decide_true]) (fun i hi m acc S' H => ?_) fun m2 S H => ?_
  · fail "sx"
    refine ⟨H, x_whn fun _ => ?_⟩
    fail "sx"
    refine end_st (H.ent (by fail "ent")) (ev i (List.mem_range.mp hi)) fun S H => ?_
    exact ⟨rfl, H.ent (by fail "ent")⟩
  rw [List.filter_eq_self.mpr (fun _ _ => rfl), rep_map] at H
  fail "sx"
  refine sx_mulL H (by fail "pk") ⟨by simp <;> omega, by simp <;> omega, by simp <;> (unfold sz; omega)⟩ fun m3 S H => ?_
  have er : (List.replicate ((List.map (fun (i : Nat) => D.int ↑i) (List.range k)).length : Int).toNat [D.tup [D.int 7]]).flatten = List.replicate (List.range k).length (D.tup [.int 7]) := by
    rw [flat1]
    simp
  rw [er] at H
  refine sx_neL H (by fail "pk") (by fail "pk") (pls_rep rfl _) (pls_rep rfl _) ?_
  rw [decide_eq_true rfl]
  fail "sx"
  -- the keeps
  refine sx_cut H false ?_ fun S H => ?_
  · apply sx_tOr
    fail "sx"
    refine hkeeps_st (H.ent (by fail "ent")) fun j S H => ?_
    fail "sx"
    have plr : ∀ rs : List Row, pls 20 (rs.map rowD) = true := fun rs => pls_map fun r => pl_tup (pls_cons (pl_nm19 _) (pls_cons pl_int (pls_cons pl_int pls_nil)))
    refine x_ite (fun hr => ?_) fun hr => ?_
    · fail "sx"
      have ek : (hvT room s nm k).keeps.map rowD = [.tup [nmD nm, .int 7, .int 3]] := by simp [hvT, hr]
      rw [decide_eq_true (show List.map rowD (hvT room s nm k).keeps = _ from ek)]
      fail "sx"
      refine come_st (t := .thing nm 7 3) (H.ent (by fail "ent")) (hz1.ok (by omega)) (fun n' p' e => by cases e) hs2 hs3 ⟨hk, by decide, by decide⟩ (by decide) fun j S H => ?_
      rw [hvT_again] at H
      fail "sx"
      exact H.ent (by fail "ent")
    · fail "sx"
      have ek : (hvT room s nm k).keeps.map rowD = [] := by simp [hvT, hr]
      rw [decide_eq_true (show List.map rowD (hvT room s nm k).keeps = _ from ek)]
      fail "sx"
      refine come_st (t := .thing nm 7 3) (H.ent (by fail "ent")) (hz1.ok (by omega)) (fun n' p' e => by cases e) hs2 hs3 ⟨hk, by decide, by decide⟩ (by decide) fun j S H => ?_
      rw [hvT_again] at H
      fail "sx"
      exact H.ent (by fail "ent")
  fail "sx"
  have hz2 : hSz (c + 3) ((hvT room s nm k).ask nm 0).1 := hz1.ask
  obtain ⟨a1, a2, a3⟩ := hvT_ask (room := room) (s := s) (nm := nm) (k := k)
  apply sx_And
  fail "sx"
  refine ask_st (H.ent (by fail "ent")) (hz1.ok (by omega)) (by simp [hvT]; unfold sz; omega) hk (by decide) fun j S H => ?_
  rw [a1] at H
  fail "sx"
  rw [List.length_map, List.length_range]
  refine end_st (k := k) (x := some (some 7)) (H.ent (l' := houseAt ho ((hvT room s nm k).ask nm 0).1 :: pt wl (.lst (p.who.map whD)) :: pt ol (.lst ((List.range k).map fun (i : Nat) => .int i)) :: F) (by fail "ent")) a2 fun S H => ?_
  fail "sx"
  exact q _ _ a3 H
theorem hv_sz {ends : List (Option (Option Int))} (h1 : s.length ≤ 100) (h2 : ends.length ≤ 100) (h3 : p.who.length ≤ 100) (h4 : p.asked.length ≤ 100) (h5 : p.noes.length ≤ 100) : hSz 200 (hv room s [(nm, p)] ends) := by
  refine ⟨by simp [hv], fun q hq => ?_, by simp [hv], by simp [hv], by simp [hv], by simp [hv], by simp [hv]; omega, fun q hq => ?_⟩
  · simp only [hv, List.mem_singleton] at hq
    rw [hq]
    simp
    omega
  · simp only [hv, List.mem_singleton] at hq
    rw [hq]
    simp only
    omega
theorem hv_no {x z : Int} {who : List Wh} {pre post : List Int} {s0 : Int} {ends : List (Option (Option Int))} : (hv room s [(nm, ⟨s0, who, x :: post ++ [z], pre⟩)] ends).come x (.no nm) 0 = (hv room s [(nm, ⟨s0, who, post ++ [z], pre ++ [x]⟩)] ends, []) := by
  unfold Hs.come
  simp only
  unfold Hs.noFrom
  have e : aget nm (hv room s [(nm, ⟨s0, who, x :: post ++ [z], pre⟩)] ends).pend = some ⟨s0, who, x :: post ++ [z], pre⟩ := by simp [hv, aget]
  rw [e]
  simp only [List.cons_append, List.mem_cons, true_or, if_true, List.erase_cons_head]
  rw [if_pos (by simp)]
  simp [hv, aput, aget]
/-- behind the last no -/
def hvN (room : Int) (s : List Int) (k : Nat) : Hs := hv room s [] (List.replicate k (some none))
theorem hv_last {z : Int} {who : List Wh} {pre : List Int} {s0 : Int} (hw2 : ∀ i < k, Wh.ow i ∈ who) : (hv room s [(nm, ⟨s0, who, [z], pre⟩)] (List.replicate k none)).come z (.no nm) 0 = (hvN room s k, (sidesOf who).map fun i => (i, Lt.no nm)) := by
  unfold Hs.come
  simp only
  unfold Hs.noFrom
  have e : aget nm (hv room s [(nm, ⟨s0, who, [z], pre⟩)] (List.replicate k none)).pend = some ⟨s0, who, [z], pre⟩ := by simp [hv, aget]
  rw [e]
  simp only [List.mem_cons, true_or, if_true, List.erase_cons_head]
  rw [if_neg (by simp)]
  unfold Hs.tellAll
  rw [out_sides]
  have e4 : who.foldl (endW (.no nm)) (List.replicate k none) = List.replicate k (some none) := all_told (t := .no nm) hw2
  simp only [hv, hvN, e4]
  simp [adrop]
theorem atI_last {as : List Int} {z : Int} : atI ((as ++ [z]).map D.int) (-1) = some (.int z) := by
  unfold atI ixN
  rw [if_neg (by decide), if_pos (by simp; omega)]
  have : (-1 + ((List.map D.int (as ++ [z])).length : Int)).toNat = as.length := by
    simp
    omega
  rw [this]
  simp
theorem noes_come_st {asked : List Int} {who : List Wh} {s0 : Int} (H : St (houseAt ho (hv room s [(nm, ⟨s0, who, asked, []⟩)] (List.replicate k none)) :: pt wl (.lst (who.map whD)) :: pt ol (.lst ((List.range k).map fun (i : Nat) => .int i)) :: intsAt al asked :: F) S) (hk : okNm nm = true) (h1 : s.length ≤ 100) (h2 : k ≤ 100) (h3 : who.length ≤ 100) (h4 : asked.length ≤ 100)
    (hne : asked ≠ []) (hs2 : ∀ x ∈ asked, x ∈ [(1 : Int), 2, 3, 4]) (hw : ∀ i, Wh.ow i ∈ who → i < k) (hw2 : ∀ i < k, Wh.ow i ∈ who) (q : ∀ v' S', v'.pend = [] → St (houseAt ho v' :: pt wl (.lst (who.map whD)) :: pt ol (.lst ((List.range k).map fun (i : Nat) => .int i)) :: intsAt al asked :: F) S' → Q (.bl true) S') :
    xR (f__law_noes_come [.ref ho, nmD nm, .ref wl, .ref ol, .ref al] S) Q E := by
  obtain ⟨as, z, rfl⟩ : ∃ as z, asked = as ++ [z] := by
    rcases List.eq_nil_or_concat asked with e | ⟨as, z, e⟩
    · exact absurd e hne
    · exact ⟨as, z, by simpa using e⟩
  have hp : ∀ p : Wt, p.who = who → pOk (hv room s [(nm, p)] (List.replicate k none)) := fun p ep n' p' e w hw' => by
    cases w with
    | sd i => trivial
    | ow i =>
      have : p' = p := by
        simp only [hv, aget] at e
        split at e
        · cases e; rfl
        · cases e
      subst this
      rw [ep] at hw'
      simpa [hv, whoOk] using hw i hw'
  have hs3 : ∀ x ∈ as ++ [z], 0 ≤ x ∧ x ≤ 7 := fun x hx => by have := hs2 x hx; simp at this; omega
  fail "fn"
  unfold c__law_noes_come
  fail "sx"
  rename Nat => m
  have ec : cut ((as ++ [z]).map D.int) none (some (-1)) = as.map .int := by
    rw [cut_m1, List.length_map, ← List.map_take, show (as ++ [z]).length - 1 = as.length from by simp, List.take_left]
  rw [ec] at H ⊢
  refine sx_inv (fun ys L S => ∃ (pre post : List Int) (b5 : Option D), as = pre ++ post ∧ ys = post.map .int ∧ L = [some (.ref ho), some (nmD nm), some (.ref wl), some (.ref ol), some (.ref al), b5, none] ∧
    St (pt m (.lst (as.map .int)) :: houseAt ho (hv room s [(nm, ⟨s0, who, post ++ [z], pre⟩)] (List.replicate k none)) :: pt wl (.lst (who.map whD)) :: pt ol (.lst ((List.range k).map fun (i : Nat) => .int i)) :: intsAt al (as ++ [z]) :: F) S)
    (fun ys L S ⟨_, _, _, _, _, _, H⟩ => by simp only [H.rd (n := m) (o := .lst (as.map .int)) (by fail "pk"), decide_true]) ⟨[], as, _, rfl, rfl, rfl, H⟩ ?_ ?_
  rotate_left
  · rintro y ys L S ⟨pre, post, b5, e1, e2, rfl, H⟩
    cases post with
    | nil => cases e2
    | cons x post =>
      rw [List.map_cons] at e2
      obtain ⟨rfl, rfl⟩ := List.cons.inj e2
      have hx : x ∈ as ++ [z] := by rw [e1]; simp
      have hlen : pre.length + post.length + 2 ≤ 100 := by have := h4; rw [e1] at this; simp at this; omega
      have hsz : hSz 200 (hv room s [(nm, ⟨s0, who, (x :: post) ++ [z], pre⟩)] (List.replicate k none)) := hv_sz h1 (by simpa using h2) h3 (by simp; omega) (by simp only; omega)
      fail "sx"
      refine xR_mono (Q := fun c S1 => c = false ∧ St (pt m (.lst (as.map .int)) :: houseAt ho (hv room s [(nm, ⟨s0, who, post ++ [z], pre ++ [x]⟩)] (List.replicate k none)) :: pt wl (.lst (who.map whD)) :: pt ol (.lst ((List.range k).map fun (i : Nat) => .int i)) :: intsAt al (as ++ [z]) :: F) S1) (E := Fl2) ?_ (fun c S ⟨e, H⟩ => ?_) (fun _ _ z => z.elim)
      · apply sx_tOr
        fail "sx"
        refine come_st (t := .no nm) (H.ent (by fail "ent")) (hsz.ok (by decide)) (hp _ rfl) (hs2 x hx) (hs3 x hx) hk (by decide) fun j S H => ?_
        rw [hv_no] at H
        fail "sx"
        refine waits_st (H.ent (l' := houseAt ho (hv room s [(nm, ⟨s0, who, post ++ [z], pre ++ [x]⟩)] (List.replicate k none)) :: pt m (.lst (as.map .int)) :: pt wl (.lst (who.map whD)) :: pt ol (.lst ((List.range k).map fun (i : Nat) => .int i)) :: intsAt al (as ++ [z]) :: F) (by fail "ent")) (fun q hq => ?_) (by simp [hv]; decide) fun j ds S hds H => ?_
        · simp only [hv, List.mem_singleton] at hq
          rw [hq]
          exact okNm_beg hk
        fail "sx"
        refine xR_ok (rfy_eq H (by fail "pks") (by fail "pk")).1 ?_
        have hd : ¬ ds = [] := fun z => by rw [z] at hds; simp [hv] at hds
        rw [decide_eq_false hd]
        fail "sx"
        exact H.ent (by fail "ent")
      · subst e
        fail "sx"
        exact ⟨pre ++ [x], post, _, by rw [e1]; simp, rfl, rfl, H.ent (by fail "ent")⟩
  rintro L S ⟨pre, post, b5, e1, e2, rfl, H⟩
  have e5 : post = [] := List.map_eq_nil_iff.mp e2.symm
  subst e5
  rw [List.append_nil] at e1
  subst e1
  fail "sx"
  refine sx_lc (zs := who) H whD sdAll whD rfl (by unfold sz; omega) (fun S' H => by simp only [H.rd (n := wl) (o := .lst (who.map whD)) (by fail "pk"), decide_true]) (fun w _ m acc S' H => ?_) fun tl S H => ?_
  · cases w with
    | sd i =>
      simp only [whD]
      fail "sx"
    | ow i =>
      simp only [whD]
      fail "sx"
  rw [told_all] at H
  fail "sx"
  have htl : (sidesOf who).length ≤ sz := by
    have := sidesOf_len who
    unfold sz
    omega
  have hz0 : hSz 200 (hv room s [(nm, ⟨s0, who, [z], as⟩)] (List.replicate k none)) := hv_sz h1 (by simpa using h2) h3 (by simp) (by simp at h4 ⊢; omega)
  have hz1 : hSz 201 (hvN room s k) := by
    have := hz0.come (side := z) (t := .no nm) (now := 0)
    rwa [hv_last hw2] at this
  refine sx_ixL H (by fail "pk") atI_last ?_
  fail "sx"
  refine come_st (t := .no nm) (H.ent (by fail "ent")) (hz0.ok (by decide)) (hp _ rfl) (hs2 z (by simp)) (hs3 z (by simp)) hk (by decide) fun j S H => ?_
  rw [hv_last hw2] at H
  simp only at H
  generalize sidesOf who = told at H htl
  fail "sx"
  refine sx_lc (zs := told) H .int (fun _ => true) (fun i => .tup [.int i, .tup [.str wNo, nmD nm]]) rfl htl (fun S' H => by simp only [H.rd (n := tl) (o := .lst (told.map .int)) (by fail "pk"), decide_true]) (fun w _ m acc S' H => by fail "sx"; rfl) fun m2 S H => ?_
  have et : (told.filter (fun _ => true)).map (fun i => D.tup [.int i, .tup [.str wNo, nmD nm]]) = (told.map fun i => (i, Lt.no nm)).map msgD := by
    rw [List.filter_eq_self.mpr (fun _ _ => rfl), List.map_map]
    rfl
  rw [et] at H
  have plm : ∀ o : Out, pls 20 (o.map msgD) = true := fun o => pls_map fun _ => pl_msg _
  refine sx_neL H (by fail "pk") (by fail "pk") (plm _) (plm _) ?_
  rw [decide_eq_true rfl]
  fail "sx"
  -- the ends
  apply sx_And
  fail "sx"
  have ev : ∀ i < k, (hvN room s k).ends[i]? = some (some none) := fun i hi => by simp [hvN, hv, hi]
  refine sx_lcS (zs := List.range k) H (fun (i : Nat) => .int i) (fun _ => true) (fun _ => .tup [.non]) rfl (by simp; unfold sz; omega) (fun S' H => by simp only [H.rd (n := ol) (o := .lst ((List.range k).map fun (i : Nat) => .int i)) (by fail "pk"), decide_true]) (fun i hi m acc S' H => ?_) fun m3 S H => ?_
  · fail "sx"
    refine ⟨H, x_whn fun _ => ?_⟩
    fail "sx"
    refine end_st (H.ent (by fail "ent")) (ev i (List.mem_range.mp hi)) fun S H => ?_
    exact ⟨rfl, H.ent (by fail "ent")⟩
  rw [List.filter_eq_self.mpr (fun _ _ => rfl), rep_map] at H
  fail "sx"
  refine sx_mulL H (by fail "pk") ⟨by simp <;> omega, by simp <;> omega, by simp <;> (unfold sz; omega)⟩ fun m4 S H => ?_
  have er : (List.replicate ((List.map (fun (i : Nat) => D.int ↑i) (List.range k)).length : Int).toNat [D.tup [D.non]]).flatten = List.replicate (List.range k).length (D.tup [.non]) := by
    rw [flat1]
    simp
  rw [er] at H
  refine sx_eqL H (by fail "pk") (by fail "pk") (pls_rep rfl _) (pls_rep rfl _) ?_
  rw [decide_eq_true rfl]
  fail "sx"
  refine hkeeps_st (H.ent (l' := houseAt ho (hvN room s k) :: pt wl (.lst (who.map whD)) :: pt ol (.lst ((List.range k).map fun (i : Nat) => .int i)) :: intsAt al (as ++ [z]) :: F) (by fail "ent")) fun j S H => ?_
  have ek : (hvN room s k).keeps.map rowD = [] := rfl
  rw [ek] at H
  fail "sx"
  exact q _ _ rfl (H.ent (by fail "ent"))
end
theorem nodup_len : ∀ {l b : List Int}, l.Nodup → (∀ x ∈ l, x ∈ b) → l.length ≤ b.length
  | [], _, _, _ => Nat.zero_le _
  | x :: l, b, nd, h => by
    have nd := List.nodup_cons.mp nd
    have hb := h x (List.mem_cons_self ..)
    have := nodup_len (b := b.erase x) nd.2 fun y hy => (List.mem_erase_of_ne (fun z => nd.1 (by rw [← z]; exact hy))).mpr (h y (List.mem_cons_of_mem _ hy))
    rw [List.length_erase_of_mem hb] at this
    have hp : 0 < b.length := List.length_pos_of_mem hb
    simp only [List.length_cons]
    omega
/-- how far the asks have come -/
structure B41 (s : List Int) (nm : Nm) (who : List Wh) (asked : List Int) (k : Nat) (pend : List (Nm × Wt)) (ends : List (Option (Option Int))) (p : Wt) : Prop where
  ep : pend = [(nm, p)]
  es : p.since = 0
  ew : p.who = who
  ea : p.asked = asked
  eo : p.noes = []
  ee : ends = List.replicate k none
  nd : asked.Nodup
  ne : asked ≠ []
  sub : ∀ x ∈ asked, x ∈ s
  lt : ∀ i, Wh.ow i ∈ who → i < k
  all : ∀ i < k, Wh.ow i ∈ who
def W41 (s : List Int) (nm : Nm) (who : List Wh) (asked : List Int) (k : Nat) (pend : List (Nm × Wt)) (ends : List (Option (Option Int))) : Prop :=
  ends.length = k ∧ ((pend = [] ∧ asked = [] ∧ (s = [] ∨ (who = [] ∧ ends = []))) ∨ ∃ p, B41 s nm who asked k pend ends p)
section
variable {room : Int} {s : List Int} {nm : Nm} {who : List Wh} {asked : List Int} {k : Nat} {pend : List (Nm × Wt)} {ends : List (Option (Option Int))}
theorem rep_more {α : Type} (a : α) (k : Nat) : List.replicate k a ++ [a] = List.replicate (k + 1) a := by rw [List.replicate_succ']
theorem step_own (hs : ∀ x ∈ s, x ∈ [(1 : Int), 2, 3, 4]) (hnd : s.Nodup) (hn : nm ≠ []) (W : W41 s nm who asked k pend ends) : ∃ pend' ends' news, (hv room s pend ends).ask nm 0 = (hv room s pend' ends', (news : List Int).map fun x => (x, Lt.ask nm)) ∧ W41 s nm (who ++ [.ow k]) (asked ++ news) (k + 1) pend' ends' := by
  obtain ⟨hl, W⟩ := W
  have ea : (hv room s pend ends).ask nm 0 = (hv room s pend (ends ++ [none])).askedBy (.ow k) nm 0 := by rw [← hl]; rfl
  rw [ea]
  rcases W with ⟨rfl, rfl, W⟩ | ⟨p, W⟩
  · rw [hv_new hs hn]
    have ef : s.filter (fun x => !decide (Wh.sd x = Wh.ow k)) = s := List.filter_eq_self.mpr fun x _ => by simp
    rw [ef]
    rcases W with rfl | ⟨rfl, rfl⟩
    · rw [if_pos rfl]
      exact ⟨[], (ends ++ [none]).set k (some none), [], rfl, by simp [hl], .inl ⟨rfl, rfl, .inl rfl⟩⟩
    · by_cases h0 : s = []
      · rw [if_pos h0]
        exact ⟨[], ([] ++ [none]).set k (some none), [], rfl, by simp at hl ⊢; omega, .inl ⟨rfl, rfl, .inl h0⟩⟩
      · rw [if_neg h0]
        have k0 : k = 0 := by simpa using hl.symm
        subst k0
        refine ⟨_, _, s, rfl, rfl, .inr ⟨_, ⟨rfl, rfl, rfl, by simp, rfl, rfl, by simpa using hnd, by simpa using h0, by simp, ?_, ?_⟩⟩⟩
        · intro i hi
          simp at hi
          omega
        · intro i hi
          have : i = 0 := by omega
          subst this
          simp
  · rw [W.ep]
    obtain ⟨news, h1, h2, h3⟩ := hv_joined (room := room) (ends := ends ++ [none]) (w := .ow k) (p := p) hs hn (by rw [W.ea]; exact W.nd) W.eo W.es (by rw [W.ea]; exact W.sub)
    have hk : Wh.ow k ∉ who := fun z => by have := W.lt k z; omega
    have ew : addW (.ow k) p.who = who ++ [.ow k] := by rw [W.ew]; unfold addW; rw [if_neg hk]
    rw [h1, ew, W.ea]
    rw [W.ea] at h2 h3
    refine ⟨_, _, news, rfl, by simp [hl], .inr ⟨_, ⟨rfl, rfl, rfl, rfl, rfl, ?_, h2, ?_, h3, ?_, ?_⟩⟩⟩
    · rw [W.ee, rep_more]
    · have := W.ne
      simp [this]
    · intro i hi
      rcases List.mem_append.mp hi with z | z
      · have := W.lt i z; omega
      · simp at z; omega
    · intro i hi
      by_cases e : i = k
      · rw [e]; simp
      · exact List.mem_append_left _ (W.all i (by omega))
theorem step_side {x : Int} (hs : ∀ x ∈ s, x ∈ [(1 : Int), 2, 3, 4]) (hnd : s.Nodup) (hn : nm ≠ []) (W : W41 s nm who asked k pend ends) : ∃ pend' ends' o, (hv room s pend ends).come x (.ask nm) 0 = (hv room s pend' ends', o) ∧
    ((∃ news : List Int, o = news.map (fun x => (x, Lt.ask nm)) ∧ W41 s nm (addW (.sd x) who) (asked ++ news) k pend' ends') ∨ (o = [(x, .no nm)] ∧ asked = [])) := by
  obtain ⟨hl, W⟩ := W
  have ea : (hv room s pend ends).come x (.ask nm) 0 = (hv room s pend ends).askedBy (.sd x) nm 0 := rfl
  rw [ea]
  rcases W with ⟨rfl, rfl, W⟩ | ⟨p, W⟩
  · rw [hv_new hs hn]
    by_cases h0 : s.filter (fun y => !decide (Wh.sd y = Wh.sd x)) = []
    · rw [if_pos h0]
      exact ⟨[], ends, _, rfl, .inr ⟨rfl, rfl⟩⟩
    · rw [if_neg h0]
      rcases W with rfl | ⟨rfl, rfl⟩
      · exact absurd rfl h0
      · have k0 : k = 0 := by simpa using hl.symm
        subst k0
        refine ⟨_, _, _, rfl, .inl ⟨_, rfl, rfl, .inr ⟨_, ⟨rfl, rfl, rfl, by simp, rfl, rfl, ?_, by simpa using h0, ?_, ?_, fun i hi => by omega⟩⟩⟩⟩
        · rw [List.nil_append]
          exact hnd.sublist List.filter_sublist
        · intro y hy
          rw [List.nil_append] at hy
          exact (List.mem_filter.mp hy).1
        · intro i hi
          simp [addW] at hi
  · rw [W.ep]
    obtain ⟨news, h1, h2, h3⟩ := hv_joined (room := room) (ends := ends) (w := .sd x) (p := p) hs hn (by rw [W.ea]; exact W.nd) W.eo W.es (by rw [W.ea]; exact W.sub)
    rw [h1, W.ew, W.ea]
    rw [W.ea] at h2 h3
    refine ⟨_, _, _, rfl, .inl ⟨news, rfl, hl, .inr ⟨_, ⟨rfl, rfl, rfl, rfl, rfl, W.ee, h2, ?_, h3, ?_, ?_⟩⟩⟩⟩
    · have := W.ne
      simp [this]
    · intro i hi
      rcases addW_mem.mp hi with z | z
      · cases z
      · exact W.lt i z
    · intro i hi
      exact addW_mem.mpr (.inr (W.all i hi))
end
theorem ex14 {α : Type} {l : List α} (h : l.length = 14) : ∃ a2 a3 a4 a5 a6 a7 a8 a9 a10 a11 a12 a13 a14 a15, l = [a2, a3, a4, a5, a6, a7, a8, a9, a10, a11, a12, a13, a14, a15] := match l, h with
  | [a2, a3, a4, a5, a6, a7, a8, a9, a10, a11, a12, a13, a14, a15], _ => ⟨_, _, _, _, _, _, _, _, _, _, _, _, _, _, rfl⟩
theorem atI_near {q : Int} (h0 : 0 ≤ q) (h1 : q < 4) : atI ([(1 : Int), 2, 3, 4].map D.int) q = some (.int (1 + q)) := by
  have : q = 0 ∨ q = 1 ∨ q = 2 ∨ q = 3 := by omega
  rcases this with rfl | rfl | rfl | rfl <;> rfl
theorem law_k41 {S : Sto} {n0 : Nat} {ns : List Int} (h : isL S n0 (ns.map .int)) (hz : ns.length ≤ 63) : wR (f_law [.ref n0] S) (fun d _ => d = .bl true) Fl := by
  unfold f_law c_law
  refine law_frame h hz (by decide) (by decide) (by decide) fun d F S rest hr H => ?_
  obtain ⟨a2, a3, a4, a5, a6, a7, a8, a9, a10, a11, a12, a13, a14, a15, rfl⟩ := ex14 hr
  fail "sx"
  refine anyname_st H (by fail "pk") fun nm S hk H => ?_
  have hn : nm ≠ [] := fun z => by rw [z] at hk; exact absurd hk (by decide)
  fail "sx"
  rename Nat => nr
  refine roll_st H (by fail "pk") (by decide) (by decide) fun room S r0 r1 H => ?_
  fail "sx"
  rename Nat => ho
  refine hinit_st (near := [1, 2, 3, 4]) (H.ent (by fail "ent")) (by decide) ⟨by decide, by decide, by decide⟩ (by decide) ⟨r0, by omega⟩ (by decide) fun S H => ?_
  refine ⟨rfl, ?_⟩
  fail "sx"
  refine somesides_st H (by fail "pks") (by decide) (by decide) fun f s S h1 h2 h3 H => ?_
  fail "sx"
  rename Nat => fv
  refine sx_addL H (by fail "pk") (by fail "pk") (by simp at h3 ⊢; unfold sz; omega) fun sd S H => ?_
  rw [show s.map D.int ++ [.int 5] = (s ++ [5]).map .int from by simp] at H
  fail "sx"
  refine teach_st (s := s ++ [5]) (b := []) (H.ent (by fail "ent")) (by decide) ⟨fun x hx => ?_, ?_, by simp at h3 ⊢; omega⟩ (by simp; decide) fun S H => ?_
  · rcases List.mem_append.mp hx with z | z
    · have := h1 x z
      simp at this
      omega
    · simp at z
      omega
  · rw [List.nodup_append]
    refine ⟨h2, by simp, fun a ha b hb z => ?_⟩
    have := h1 a ha
    simp at this hb
    omega
  fail "sx"
  rename Nat => ol
  rename_i wl0 _ _ al0 _ _
  refine roll_st H (by fail "pk") (by decide) (by decide) fun i S hi0 hi1 H => ?_
  fail "sx"
  refine ⟨⟨by omega, by omega⟩, ?_⟩
  have hv0 : hSz 0 (hv room s [] []) := ⟨by simp [hv], fun q hq => by simp only [hv, List.mem_singleton] at hq; rw [hq]; simp at h3 ⊢; omega, by simp [hv], by simp [hv], by simp [hv], by simp [hv], by simp [hv], fun q hq => by cases hq⟩
  refine sx_mid (P := fun L S => ∃ (k : Nat) (who : List Wh) (asked : List Int) (pend : List (Nm × Wt)) (ends : List (Option (Option Int))) (wl al : Nat) (b4 b11 b12 b13 b14 b15 : Option D), hSz 20 (hv room s pend ends) ∧ who.length ≤ 20 ∧ k ≤ 20 ∧ asked.Nodup ∧ (∀ x ∈ asked, x ∈ s) ∧ (who = [] ∨ asked = [] ∨ ∃ p, B41 s nm who asked k pend ends p) ∧
    L = [some (.ref n0), some (.ref d), some (.ref ho), some (.ref sd), b4, some (nmD nm), some (.ref nr), some (.int room), some (.ref wl), some (.ref al), some (.ref ol), b11, b12, b13, b14, b15] ∧
    St (houseAt ho (hv room s pend ends) :: pt wl (.lst (who.map whD)) :: intsAt al asked :: pt ol (.lst ((List.range k).map fun (i : Nat) => .int i)) :: sdAt sd (s ++ [5]) :: dieAt d :: sdAt nr [1, 2, 3, 4] :: F) S) ?_ ?_
  · refine sx_inv (fun ys L S => ∃ (c k : Nat) (who : List Wh) (asked : List Int) (pend : List (Nm × Wt)) (ends : List (Option (Option Int))) (wl al : Nat) (b4 b11 b12 b13 b14 b15 : Option D), c + ys.length ≤ 6 ∧ hSz (2 * c) (hv room s pend ends) ∧ who.length ≤ c ∧ k ≤ c ∧ W41 s nm who asked k pend ends ∧
      L = [some (.ref n0), some (.ref d), some (.ref ho), some (.ref sd), b4, some (nmD nm), some (.ref nr), some (.int room), some (.ref wl), some (.ref al), some (.ref ol), b11, b12, b13, b14, b15] ∧
      St (houseAt ho (hv room s pend ends) :: pt wl (.lst (who.map whD)) :: intsAt al asked :: pt ol (.lst ((List.range k).map fun (i : Nat) => .int i)) :: sdAt sd (s ++ [5]) :: dieAt d :: sdAt nr [1, 2, 3, 4] :: F) S)
      (fun ys L S _ => rfl) ⟨0, 0, [], [], [], [], _, _, _, _, _, _, _, _, ?_, hv0, by simp, by simp, ⟨rfl, .inl ⟨rfl, rfl, .inr ⟨rfl, rfl⟩⟩⟩, rfl, H.ent (by fail "ent")⟩ ?_ ?_
    · simp [rngD]
      omega
    · rintro L S ⟨c, k, who, asked, pend, ends, wl, al, b4, b11, b12, b13, b14, b15, hc, hs, hw, hkc, ⟨hl, W⟩, rfl, H⟩
      simp only [List.length_nil] at hc
      refine ⟨k, who, asked, pend, ends, wl, al, _, _, _, _, _, _, hs.up (by omega), by omega, by omega, ?_, ?_, ?_, rfl, H⟩
      · rcases W with ⟨_, rfl, _⟩ | ⟨p, W⟩
        · exact .nil
        · exact W.nd
      · rcases W with ⟨_, rfl, _⟩ | ⟨p, W⟩
        · exact fun x hx => by cases hx
        · exact W.sub
      · rcases W with ⟨_, rfl, _⟩ | ⟨p, W⟩
        · exact .inr (.inl rfl)
        · exact .inr (.inr ⟨p, W⟩)
    rintro y ys L S ⟨c, k, who, asked, pend, ends, wl, al, b4, b11, b12, b13, b14, b15, hc, hs, hw, hkc, W, rfl, H⟩
    have hc' : c + 1 + ys.length ≤ 6 := by simp at hc; omega
    have plw : pls 20 (who.map whD) = true := pls_map fun _ => pl_wh _
    have hpok : pOk (hv room s pend ends) := by
      obtain ⟨hl, ⟨rfl, _⟩ | ⟨p, W⟩⟩ := W
      · exact fun n' p' e => by cases e
      · intro n' p' e w hw'
        cases w with
        | sd i => trivial
        | ow i =>
          have e : aget n' pend = some p' := e
          rw [W.ep] at e
          have : p' = p := by
            simp only [aget] at e
            split at e
            · cases e; rfl
            · cases e
          rw [this, W.ew] at hw'
          have := W.lt i hw'
          simp only [hv, whoOk]
          omega
    apply sx_gV
    focus (fail "lset")
    apply sx_seq
    refine sx_mid (P := fun L S => ∃ (k' : Nat) (who' : List Wh) (pend' : List (Nm × Wt)) (ends' : List (Option (Option Int))) (o : Out) (wl' lt : Nat) (b11 b13 : Option D), hSz (2 * c + 2) (hv room s pend' ends') ∧ who'.length ≤ c + 1 ∧ k' ≤ c + 1 ∧ ((∃ news : List Int, o = news.map (fun x => (x, Lt.ask nm)) ∧ W41 s nm who' (asked ++ news) k' pend' ends') ∨ (∃ x, o = [(x, Lt.no nm)] ∧ asked = [])) ∧
      L = [some (.ref n0), some (.ref d), some (.ref ho), some (.ref sd), some y, some (nmD nm), some (.ref nr), some (.int room), some (.ref wl'), some (.ref al), some (.ref ol), b11, some (.ref lt), b13, b14, b15] ∧
      St (pt lt (.lst (o.map msgD)) :: houseAt ho (hv room s pend' ends') :: pt wl' (.lst (who'.map whD)) :: intsAt al asked :: pt ol (.lst ((List.range k').map fun (i : Nat) => .int i)) :: sdAt sd (s ++ [5]) :: dieAt d :: sdAt nr [1, 2, 3, 4] :: F) S) ?_ ?_
    · fail "sx"
      refine roll_st H (by fail "pk") (by decide) (by decide) fun q S _ _ H => ?_
      fail "sx"
      refine x_ite (fun _ => ?_) fun _ => ?_
      · fail "sx"
        refine ask_st (H.ent (l' := houseAt ho (hv room s pend ends) :: pt wl _ :: intsAt al asked :: pt ol _ :: sdAt sd (s ++ [5]) :: dieAt d :: sdAt nr [1, 2, 3, 4] :: F) (by fail "ent")) (hs.ok (by omega)) (by have := hs.ends; unfold sz; omega) hk (by decide) fun j S H => ?_
        have hs2 : hSz (2 * c + 2) ((hv room s pend ends).ask nm 0).1 := hs.ask
        obtain ⟨pend', ends', news, e1, W'⟩ := step_own (room := room) h1 h2 hn W
        have hlen : (hv room s pend ends).ends.length = k := W.1
        rw [hlen]
        rw [e1] at H hs2
        simp only at H hs2
        fail "sx"
        refine sx_append H (by fail "pk") (by rw [List.length_map]; unfold sz; omega) fun S H => ?_
        rw [show who.map whD ++ [D.tup [.str [111, 119, 110], .int k]] = (who ++ [Wh.ow k]).map whD from by simp [whD, wOwn]] at H
        fail "sx"
        refine sx_append H (by fail "pk") (by rw [List.length_map, List.length_range]; unfold sz; omega) fun S H => ?_
        rw [show ((List.range k).map fun (i : Nat) => D.int i) ++ [D.int k] = (List.range (k + 1)).map fun (i : Nat) => D.int i from by rw [List.range_succ]; simp] at H
        fail "sx"
        exact ⟨k + 1, _, pend', ends', _, wl, j, _, _, hs2, by simp; omega, by omega, .inl ⟨news, rfl, W'⟩, rfl, H.ent (by fail "ent")⟩
      · fail "sx"
        refine roll_st H (by fail "pk") (by decide) (by decide) fun q S q0 q1 H => ?_
        refine sx_ixL H (by fail "pk") (atI_near q0 q1) ?_
        fail "sx"
        refine come_st (t := .ask nm) (H.ent (l' := houseAt ho (hv room s pend ends) :: pt wl _ :: intsAt al asked :: pt ol _ :: sdAt sd (s ++ [5]) :: dieAt d :: sdAt nr [1, 2, 3, 4] :: F) (by fail "ent")) (hs.ok (by omega)) hpok (by simp [hv]; omega) (by omega) hk (by decide) fun j S H => ?_
        have hs2 : hSz (2 * c + 2) ((hv room s pend ends).come (1 + q) (.ask nm) 0).1 := hs.come.up (by omega)
        obtain ⟨pend', ends', o, e1, W'⟩ := step_side (room := room) (x := 1 + q) h1 h2 hn W
        rw [e1] at H hs2
        simp only at H hs2
        have hal := addW_len (.sd (1 + q)) who
        have W2 : (∃ news : List Int, o = news.map (fun x => (x, Lt.ask nm)) ∧ W41 s nm (addW (.sd (1 + q)) who) (asked ++ news) k pend' ends') ∨ (∃ x, o = [(x, Lt.no nm)] ∧ asked = []) := W'.elim .inl fun z => .inr ⟨_, z⟩
        fail "sx"
        refine nin_W (w := .sd (1 + q)) H (by fail "pk") ?_
        fail "sx"
        refine x_itn (fun hni => ?_) fun hni => ?_
        · fail "sx"
          refine sx_addL H (by fail "pk") (by fail "pk") (by simp; unfold sz; omega) fun m S H => ?_
          rw [show who.map whD ++ [D.int (1 + q)] = (addW (.sd (1 + q)) who).map whD from by unfold addW; rw [if_neg hni]; simp [whD]] at H
          fail "sx"
          exact ⟨k, _, pend', ends', _, m, j, _, _, hs2, by omega, by omega, W2, rfl, H.ent (by fail "ent")⟩
        · fail "sx"
          refine sx_addL H (by fail "pk") (by fail "pk") (by simp; unfold sz; omega) fun m S H => ?_
          rw [show who.map whD ++ [] = (addW (.sd (1 + q)) who).map whD from by unfold addW; rw [if_pos hni]; simp] at H
          fail "sx"
          exact ⟨k, _, pend', ends', _, m, j, _, _, hs2, by omega, by omega, W2, rfl, H.ent (by fail "ent")⟩
    · rintro L S ⟨k', who', pend', ends', o, wl', lt, b11, b13, hs2, hw', hk', W2, rfl, H⟩
      have hol : o.length ≤ 10000 := by
        rcases W2 with ⟨news, rfl, _, ⟨_, e, _⟩ | ⟨p, W'⟩⟩ | ⟨x, rfl, _⟩
        · have : news = [] := (List.append_eq_nil_iff.mp e).2
          rw [this]
          simp
        · have h4 := nodup_len W'.nd (fun x hx => h1 x (W'.sub x hx))
          simp only [List.length_append, List.length_map] at h4 ⊢
          simp at h4
          omega
        · simp
      fail "sx"
      refine sx_lc (zs := o) H msgD (fun m => !decide (ltD m.2 = .tup [.str wAsk, nmD nm])) (fun m => ltD m.2) rfl (by unfold sz; omega) (fun S' H => by simp only [H.rd (n := lt) (o := .lst (o.map msgD)) (by fail "pk"), decide_true]) (fun m _ ma acc S' H => ?_) fun ml S H => ?_
      · have hpl : pl 20 (ltD m.2) = true := pl_lt (n := 18) m.2
        simp only [msgD]
        fail "sx"
      have plo : ∀ o : Out, pls 20 (o.map fun m => ltD m.2) = true := fun o => pls_map fun m => pl_lt (n := 18) m.2
      fail "sx"
      refine sx_neL H (by fail "pk") (by fail "pk") (plo _) rfl ?_
      fail "sx"
      rcases W2 with ⟨news, rfl, W'⟩ | ⟨x, rfl, rfl⟩
      · have ef : (news.map fun x => (x, Lt.ask nm)).filter (fun m => !decide (ltD m.2 = .tup [.str wAsk, nmD nm])) = [] := List.filter_eq_nil_iff.mpr fun m hm => by
          obtain ⟨x, _, rfl⟩ := List.mem_map.mp hm
          simp [ltD]
        rw [ef, List.map_nil]
        fail "sx"
        refine sx_lc (zs := news.map fun x => (x, Lt.ask nm)) H msgD (fun _ => true) (fun m => .int m.1) rfl (by unfold sz; omega) (fun S' H => by simp only [H.rd (n := lt) (o := .lst ((news.map fun x => (x, Lt.ask nm)).map msgD)) (by fail "pk"), decide_true]) (fun m _ ma acc S' H => ?_) fun mg S H => ?_
        · simp only [msgD]
          fail "sx"
        rw [List.filter_eq_self.mpr (fun _ _ => rfl), List.map_map, show news.map ((fun m : Int × Lt => D.int m.1) ∘ fun x => (x, Lt.ask nm)) = news.map .int from rfl] at H
        fail "sx"
        have hal2 : asked.length + news.length ≤ 10000 := by
          rcases W'.2 with ⟨_, e, _⟩ | ⟨p, W3⟩
          · rw [(List.append_eq_nil_iff.mp e).1, (List.append_eq_nil_iff.mp e).2]
            simp
          · have h4 := nodup_len W3.nd (fun x hx => h1 x (W3.sub x hx))
            simp at h4
            omega
        refine sx_addL H (by fail "pk") (by fail "pk") (by simp only [List.length_map]; unfold sz; omega) fun na S H => ?_
        rw [← List.map_append] at H
        fail "sx"
        exact ⟨c + 1, k', who', _, pend', ends', wl', na, _, _, _, _, _, _, hc', hs2, hw', hk', W', rfl, H.ent (by fail "ent")⟩
      · fail "sx"
        rename Nat => nw
        exact ⟨k', [], [], pend', ends', nw, al, _, _, _, _, _, _, hs2.up (by omega), by simp, by omega, .nil, fun x hx => (by cases hx), .inl rfl, rfl, H.ent (by fail "ent")⟩
  rintro L S ⟨k, who, asked, pend, ends, wl, al, b4, b11, b12, b13, b14, b15, hs, hw, hkc, nd, sub, W, rfl, H⟩
  have h4 : asked.length ≤ 4 := by
    have := nodup_len nd (fun x hx => h1 x (sub x hx))
    simpa using this
  fail "sx"
  refine sx_lc (zs := asked) H .int (fun x => decide ((1 : Int) < (asked.count x : Nat)) || !decide (x ∈ s ++ [5])) .int rfl (by unfold sz; omega) (fun S' H => by simp only [H.rd (n := al) (o := .lst (asked.map .int)) (by fail "pk"), decide_true]) (fun x _ ma acc S' H => ?_) fun ml S H => ?_
  · fail "sx"
    refine sx_tOr2 (p := decide ((1 : Int) < (asked.count x : Nat))) (q := !decide (x ∈ s ++ [5])) ?_ (fun _ => ?_) ?_
    · fail "sx"
      refine sx_countI H (by fail "pk") ?_
      fail "sx"
    · fail "sx"
    · fail "sx"
  have ef : asked.filter (fun x => decide ((1 : Int) < (asked.count x : Nat)) || !decide (x ∈ s ++ [5])) = [] := List.filter_eq_nil_iff.mpr fun x hx => by
    have hc := List.nodup_iff_count.mp nd x
    have hm : x ∈ s ++ [5] := List.mem_append_left _ (sub x hx)
    have : ¬ ((1 : Int) < (asked.count x : Nat)) := by omega
    rw [decide_eq_false this, decide_eq_true hm]
    decide
  rw [ef] at H
  fail "sx"
  have plw : pls 20 (who.map whD) = true := pls_map fun _ => pl_wh _
  apply sx_tAnd
  fail "sx"
  refine x_itn (fun g1 => ?_) fun g1 => ?_
  rotate_left
  · fail "sx"
    exact ⟨⟨_, rfl, rfl⟩, H.ent (by fail "ent")⟩
  fail "sx"
  refine x_itn (fun g2 => ?_) fun g2 => ?_
  rotate_left
  · fail "sx"
    exact ⟨⟨_, rfl, rfl⟩, H.ent (by fail "ent")⟩
  obtain ⟨p, B⟩ : ∃ p, B41 s nm who asked k pend ends p := by
    rcases W with rfl | rfl | W
    · exact absurd rfl g1
    · exact absurd rfl g2
    · exact W
  have hne := B.ne
  have hpos : 0 < asked.length := List.length_pos_iff.mpr hne
  have es4 : s.length ≤ 4 := by simpa using h3
  apply sx_seq
  refine sx_mid (P := fun L S => ∃ (v' : Hs) (b11 : Option D), v'.pend = [] ∧ L = [some (.ref n0), some (.ref d), some (.ref ho), some (.ref sd), b4, some (nmD nm), some (.ref nr), some (.int room), some (.ref wl), some (.ref al), some (.ref ol), b11, b12, b13, b14, b15] ∧ St (houseAt ho v' :: dieAt d :: F) S) ?_ ?_
  · obtain ⟨rfl, e0, rfl, rfl, en, rfl, _, _, _, lt, all⟩ := B
    fail "sx"
    refine roll_st H (by fail "pk") (by decide) (by decide) fun q S _ _ H => ?_
    fail "sx"
    refine x_ite (fun _ => ?_) fun _ => ?_
    · fail "sx"
      refine roll_st H (by fail "pk") (by simp only [List.length_map]; omega) (by simp only [List.length_map]; omega) fun i S i0 i1 H => ?_
      obtain ⟨j, rfl⟩ := Int.eq_ofNat_of_zero_le i0
      have hj : j < p.asked.length := by simp only [List.length_map] at i1; omega
      refine sx_ixL H (by fail "pk") (atI_map (f := D.int) (List.getElem?_eq_getElem hj)) ?_
      have hside : p.asked[j] ∈ p.asked := List.getElem_mem _
      generalize p.asked[j] = side at hside
      fail "sx"
      refine thing_comes_st (H.ent (l' := houseAt ho (hv room s [(nm, p)] (List.replicate k none)) :: pt wl (.lst (p.who.map whD)) :: pt ol (.lst ((List.range k).map fun (i : Nat) => .int i)) :: dieAt d :: F) (by fail "ent")) hs (by decide) hk hside (h1 side (sub side hside)) lt all fun v' S hv' H => ?_
      fail "sx"
      exact ⟨v', _, hv', rfl, H.ent (by fail "ent")⟩
    · fail "sx"
      obtain ⟨s0, who, asked, noes⟩ := p
      simp only at en
      subst en
      refine noes_come_st (s0 := s0) (who := who) (asked := asked) (H.ent (l' := houseAt ho (hv room s [(nm, ⟨s0, who, asked, []⟩)] (List.replicate k none)) :: pt wl (.lst (who.map whD)) :: pt ol (.lst ((List.range k).map fun (i : Nat) => .int i)) :: intsAt al asked :: dieAt d :: F) (by fail "ent")) hk (by omega) (by omega) (by simp only at hw; omega) (by simp only at h4; omega) hne (fun x hx => h1 x (sub x hx)) lt all fun v' S hv' H => ?_
      fail "sx"
      exact ⟨v', _, hv', rfl, H.ent (by fail "ent")⟩
  · rintro L S ⟨v', b11, hv', rfl, H⟩
    fail "sx"
    refine waits_st H (fun q hq => by rw [hv'] at hq; cases hq) (by rw [hv']; decide) fun j ds S hds H => ?_
    rw [hv'] at hds
    have hds : ds = [] := List.length_eq_zero_iff.mp hds
    subst hds
    fail "sx"
    exact ⟨⟨_, rfl, rfl⟩, H.ent (by fail "ent")⟩
end MP

namespace MPH
open PySem PySem.Spec PyProof.Rows L2 MP
def dfs_0 : He.DefD := ⟨("is_number", none), "is_number", "is_number", defArgs st_is_number, defBody st_is_number, defScope st_is_number, [.non], []⟩
def dfs_1 : He.DefD := ⟨("need_number", none), "need_number", "need_number", defArgs st_need_number, defBody st_need_number, defScope st_need_number, [.non], []⟩
def dfs_2 : He.DefD := ⟨("Table", some "__len__"), "__len__", "Table.__len__", defArgs st_Table___len__, defBody st_Table___len__, defScope st_Table___len__, [], []⟩
def dfs_3 : He.DefD := ⟨("Keeps", some "__len__"), "__len__", "Keeps.__len__", defArgs st_Keeps___len__, defBody st_Keeps___len__, defScope st_Keeps___len__, [], []⟩
def dfs_4 : He.DefD := ⟨("is_part", none), "is_part", "is_part", defArgs st_is_part, defBody st_is_part, defScope st_is_part, [], []⟩
def dfs_5 : He.DefD := ⟨("is_beginning", none), "is_beginning", "is_beginning", defArgs st_is_beginning, defBody st_is_beginning, defScope st_is_beginning, [], []⟩
def dfs_6 : He.DefD := ⟨("is_name", none), "is_name", "is_name", defArgs st_is_name, defBody st_is_name, defScope st_is_name, [], []⟩
def dfs_7 : He.DefD := ⟨("need_beginning", none), "need_beginning", "need_beginning", defArgs st_need_beginning, defBody st_need_beginning, defScope st_need_beginning, [], []⟩
def dfs_8 : He.DefD := ⟨("need_name", none), "need_name", "need_name", defArgs st_need_name, defBody st_need_name, defScope st_need_name, [], []⟩
def dfs_9 : He.DefD := ⟨("is_side", none), "is_side", "is_side", defArgs st_is_side, defBody st_is_side, defScope st_is_side, [], []⟩
def dfs_10 : He.DefD := ⟨("need_sides", none), "need_sides", "need_sides", defArgs st_need_sides, defBody st_need_sides, defScope st_need_sides, [], []⟩
def dfs_11 : He.DefD := ⟨("Keeps", some "__init__"), "__init__", "Keeps.__init__", defArgs st_Keeps___init__, defBody st_Keeps___init__, defScope st_Keeps___init__, [], []⟩
def dfs_12 : He.DefD := ⟨("Keeps", some "take_out"), "take_out", "Keeps.take_out", defArgs st_Keeps_take_out, defBody st_Keeps_take_out, defScope st_Keeps_take_out, [], []⟩
def dfs_13 : He.DefD := ⟨("Keeps", some "keep"), "keep", "Keeps.keep", defArgs st_Keeps_keep, defBody st_Keeps_keep, defScope st_Keeps_keep, [], []⟩
def dfs_14 : He.DefD := ⟨("Keeps", some "put"), "put", "Keeps.put", defArgs st_Keeps_put, defBody st_Keeps_put, defScope st_Keeps_put, [], []⟩
def dfs_15 : He.DefD := ⟨("Keeps", some "find"), "find", "Keeps.find", defArgs st_Keeps_find, defBody st_Keeps_find, defScope st_Keeps_find, [], []⟩
def dfs_16 : He.DefD := ⟨("Keeps", some "rows"), "rows", "Keeps.rows", defArgs st_Keeps_rows, defBody st_Keeps_rows, defScope st_Keeps_rows, [], []⟩
def dfs_17 : He.DefD := ⟨("Table", some "__init__"), "__init__", "Table.__init__", defArgs st_Table___init__, defBody st_Table___init__, defScope st_Table___init__, [], []⟩
def dfs_18 : He.DefD := ⟨("Table", some "put"), "put", "Table.put", defArgs st_Table_put, defBody st_Table_put, defScope st_Table_put, [], []⟩
def dfs_19 : He.DefD := ⟨("Table", some "longest"), "longest", "Table.longest", defArgs st_Table_longest, defBody st_Table_longest, defScope st_Table_longest, [], []⟩
def dfs_20 : He.DefD := ⟨("Table", some "found"), "found", "Table.found", defArgs st_Table_found, defBody st_Table_found, defScope st_Table_found, [], []⟩
def dfs_21 : He.DefD := ⟨("Table", some "rows"), "rows", "Table.rows", defArgs st_Table_rows, defBody st_Table_rows, defScope st_Table_rows, [], []⟩
def dfs_22 : He.DefD := ⟨("is_letter", none), "is_letter", "is_letter", defArgs st_is_letter, defBody st_is_letter, defScope st_is_letter, [], []⟩
def dfs_23 : He.DefD := ⟨("Wait", some "__init__"), "__init__", "Wait.__init__", defArgs st_Wait___init__, defBody st_Wait___init__, defScope st_Wait___init__, [], []⟩
def dfs_24 : He.DefD := ⟨("House", some "__init__"), "__init__", "House.__init__", defArgs st_House___init__, defBody st_House___init__, defScope st_House___init__, [], [("room", .int 4), ("wait", .int 6)]⟩
def dfs_25 : He.DefD := ⟨("House", some "tell"), "tell", "House.tell", defArgs st_House_tell, defBody st_House_tell, defScope st_House_tell, [], []⟩
def dfs_26 : He.DefD := ⟨("House", some "tell_all"), "tell_all", "House.tell_all", defArgs st_House_tell_all, defBody st_House_tell_all, defScope st_House_tell_all, [], []⟩
def dfs_27 : He.DefD := ⟨("House", some "table_sides"), "table_sides", "House.table_sides", defArgs st_House_table_sides, defBody st_House_table_sides, defScope st_House_table_sides, [], []⟩
def dfs_28 : He.DefD := ⟨("House", some "joined"), "joined", "House.joined", defArgs st_House_joined, defBody st_House_joined, defScope st_House_joined, [], []⟩
def dfs_29 : He.DefD := ⟨("House", some "asked_by"), "asked_by", "House.asked_by", defArgs st_House_asked_by, defBody st_House_asked_by, defScope st_House_asked_by, [], []⟩
def dfs_30 : He.DefD := ⟨("House", some "thing_from"), "thing_from", "House.thing_from", defArgs st_House_thing_from, defBody st_House_thing_from, defScope st_House_thing_from, [], []⟩
def dfs_31 : He.DefD := ⟨("House", some "no_from"), "no_from", "House.no_from", defArgs st_House_no_from, defBody st_House_no_from, defScope st_House_no_from, [], []⟩
def dfs_32 : He.DefD := ⟨("House", some "ask"), "ask", "House.ask", defArgs st_House_ask, defBody st_House_ask, defScope st_House_ask, [], []⟩
def dfs_33 : He.DefD := ⟨("House", some "come"), "come", "House.come", defArgs st_House_come, defBody st_House_come, defScope st_House_come, [], []⟩
def dfs_34 : He.DefD := ⟨("House", some "teach"), "teach", "House.teach", defArgs st_House_teach, defBody st_House_teach, defScope st_House_teach, [], []⟩
def dfs_35 : He.DefD := ⟨("House", some "end"), "end", "House.end", defArgs st_House_end, defBody st_House_end, defScope st_House_end, [], []⟩
def dfs_36 : He.DefD := ⟨("House", some "waits"), "waits", "House.waits", defArgs st_House_waits, defBody st_House_waits, defScope st_House_waits, [], []⟩
def dfs_37 : He.DefD := ⟨("House", some "keeps"), "keeps", "House.keeps", defArgs st_House_keeps, defBody st_House_keeps, defScope st_House_keeps, [], []⟩
def dfs_38 : He.DefD := ⟨("_law_cell", none), "_law_cell", "_law_cell", defArgs st__law_cell, defBody st__law_cell, defScope st__law_cell, [], []⟩
def dfs_39 : He.DefD := ⟨("_law_drawn", none), "_law_drawn", "_law_drawn", defArgs st__law_drawn, defBody st__law_drawn, defScope st__law_drawn, [], []⟩
def dfs_40 : He.DefD := ⟨("_law_roll", none), "_law_roll", "_law_roll", defArgs st__law_roll, defBody st__law_roll, defScope st__law_roll, [], []⟩
def dfs_41 : He.DefD := ⟨("_law_rounds", none), "_law_rounds", "_law_rounds", defArgs st__law_rounds, defBody st__law_rounds, defScope st__law_rounds, [], []⟩
def dfs_42 : He.DefD := ⟨("_law_head", none), "_law_head", "_law_head", defArgs st__law_head, defBody st__law_head, defScope st__law_head, [], []⟩
def dfs_43 : He.DefD := ⟨("_law_any_name", none), "_law_any_name", "_law_any_name", defArgs st__law_any_name, defBody st__law_any_name, defScope st__law_any_name, [], []⟩
def dfs_44 : He.DefD := ⟨("_law_some_sides", none), "_law_some_sides", "_law_some_sides", defArgs st__law_some_sides, defBody st__law_some_sides, defScope st__law_some_sides, [], []⟩
def dfs_45 : He.DefD := ⟨("_law_thing_comes", none), "_law_thing_comes", "_law_thing_comes", defArgs st__law_thing_comes, defBody st__law_thing_comes, defScope st__law_thing_comes, [], []⟩
def dfs_46 : He.DefD := ⟨("_law_noes_come", none), "_law_noes_come", "_law_noes_come", defArgs st__law_noes_come, defBody st__law_noes_come, defScope st__law_noes_come, [], []⟩
def dfs_47 : He.DefD := ⟨("law", none), "law", "law", defArgs st_law, defBody st_law, defScope st_law, [], []⟩
def dfs : List He.DefD := ([dfs_0, dfs_1, dfs_2, dfs_3, dfs_4, dfs_5, dfs_6, dfs_7, dfs_8, dfs_9, dfs_10, dfs_11, dfs_12, dfs_13, dfs_14, dfs_15, dfs_16, dfs_17, dfs_18, dfs_19, dfs_20, dfs_21, dfs_22, dfs_23, dfs_24, dfs_25, dfs_26, dfs_27, dfs_28, dfs_29, dfs_30, dfs_31, dfs_32, dfs_33, dfs_34, dfs_35, dfs_36, dfs_37, dfs_38, dfs_39] : List He.DefD) ++ ([dfs_40, dfs_41, dfs_42, dfs_43, dfs_44, dfs_45, dfs_46, dfs_47] : List He.DefD)
def fas : List He.Fa := ([.free "isinstance", .free "int", .free "bool", .exc "BadNumber", .glo "BadNumber", .free "len", .cls "Table", .noat "Table" "lines", .cls "Keeps", .noat "Keeps" "lines", .free "str", .free "all", .str "SIGNS" "abcdefghijklmnopqrstuvwxyz0123456789", .free "tuple", .int "MOST_PARTS" 5, .exc "BadName", .glo "BadName", .int "HOUSES" 8, .free "list", .free "set", .exc "BadSides", .glo "BadSides", .noat "Keeps" "room", .int "MOST_VALUE" 999, .free "range", .free "sorted", .cls "Wait", .noat "Wait" "since", .noat "Wait" "who", .noat "Wait" "asked", .noat "Wait" "noes", .cls "House", .noat "House" "me", .noat "House" "near", .noat "House" "shelf", .noat "House" "most", .noat "House" "roads", .noat "House" "things", .noat "House" "pending", .noat "House" "fresh"] : List He.Fa) ++ ([.noat "House" "ends", .exc "NoWay", .glo "NoWay", .exc "BadLetter", .glo "BadLetter", .free "max", .free "min", .glo "is_number", .glo "need_number", .meth "Table" "__len__", .meth "Keeps" "__len__", .glo "is_part", .glo "is_beginning", .glo "is_name", .glo "need_beginning", .glo "need_name", .glo "is_side", .glo "need_sides", .glo "Keeps", .mkr "Keeps", .meth "Keeps" "take_out", .meth "Keeps" "keep", .meth "Keeps" "put", .meth "Keeps" "find", .meth "Keeps" "rows", .glo "Table", .mkr "Table", .meth "Table" "put", .meth "Table" "longest", .meth "Table" "found", .meth "Table" "rows", .glo "is_letter", .glo "Wait", .mkr "Wait", .glo "House", .mkr "House", .meth "House" "tell", .meth "House" "tell_all", .meth "House" "table_sides", .meth "House" "joined"] : List He.Fa) ++ ([.meth "House" "asked_by", .meth "House" "thing_from", .meth "House" "no_from", .meth "House" "ask", .meth "House" "come", .meth "House" "teach", .meth "House" "end", .meth "House" "waits", .meth "House" "keeps", .glo "_law_cell", .glo "_law_drawn", .glo "_law_roll", .glo "_law_rounds", .glo "_law_head", .glo "_law_any_name", .glo "_law_some_sides", .glo "_law_thing_comes", .glo "_law_noes_come", .glo "law"] : List He.Fa)
def loose : List PySem.Str := ([Str.ofString "_wall", Str.ofString "WantError", Str.ofString "BadName", Str.ofString "BadSides", Str.ofString "BadNumber", Str.ofString "BadLetter", Str.ofString "NoWay", Str.ofString "SIGNS", Str.ofString "MOST_PARTS", Str.ofString "HOUSES", Str.ofString "is_number", Str.ofString "need_number", Str.ofString "is_part", Str.ofString "is_beginning", Str.ofString "is_name", Str.ofString "need_beginning", Str.ofString "need_name", Str.ofString "is_side", Str.ofString "need_sides", Str.ofString "MOST_VALUE", Str.ofString "Keeps", Str.ofString "Table", Str.ofString "MOST_LIFE", Str.ofString "is_letter", Str.ofString "Wait", Str.ofString "House", Str.ofString "_law_cell", Str.ofString "_law_drawn", Str.ofString "_law_roll", Str.ofString "_law_rounds", Str.ofString "_law_head", Str.ofString "_law_any_name", Str.ofString "_law_some_sides", Str.ofString "_law_thing_comes", Str.ofString "_law_noes_come"] : List Str)
abbrev R : PySem.W.OpenRow := PySem.W.OpenLaw.row PySem.Challenge.rw_namewants_k41_whole_joined_asks
abbrev hk : PySem.W.Hook := He.hookD 5 fas dfs
def ob (s : PySem.W.SharedT) : He.AlD := He.obsDG 5 fas dfs (HandSHeadRun.getT s)
theorem ob_eq (s : PySem.W.SharedT) : ob s = hk.obs s.abs := He.obsDG_eq (HandSHeadRun.getT_eq s)
theorem run (w : World) : HandSHeadRun.RunEq R (PySem.W.view R.prog [41]) hk ob 20000 loose w := by
  intro os
  kernel_rfl
def mkG (P : Program) (w : World) (K : PySem.W.Frag) (mg : Str → Option Value) (base : Heap) : G := ⟨P, w, K, mg, base, fun i => He.ga K (clsN.getD i "object"), FN, FN_inj, fun i => He.ga K (excN.getD i "object"), []⟩
theorem facts {P : Program} {w : World} {K : PySem.W.Frag} {h : Heap} {mg : Str → Option Value} {base : Heap} (X : K.In h) (Gn : h.Ns mainGlobals mg) (c : He.SaysD fas dfs K) : Tx (mkG P w K mg base) :=
  ⟨rfl,
   He.free_ok X Gn (c.fact 0 (f := .free "isinstance") rfl),
   He.free_ok X Gn (c.fact 1 (f := .free "int") rfl),
   He.free_ok X Gn (c.fact 2 (f := .free "bool") rfl),
   ⟨He.glo_ok X Gn (c.fact 4 (f := .glo "BadNumber") rfl), (He.exc_ok (c.fact 3 (f := .exc "BadNumber") rfl)).1, (He.exc_ok (c.fact 3 (f := .exc "BadNumber") rfl)).2.1, (He.exc_ok (c.fact 3 (f := .exc "BadNumber") rfl)).2.2.1, (He.exc_ok (c.fact 3 (f := .exc "BadNumber") rfl)).2.2.2⟩,
   He.free_ok X Gn (c.fact 5 (f := .free "len") rfl),
   He.cls_ok (c.fact 6 (f := .cls "Table") rfl),
   He.noat_ok (c.fact 7 (f := .noat "Table" "lines") rfl),
   He.cls_ok (c.fact 8 (f := .cls "Keeps") rfl),
   He.noat_ok (c.fact 9 (f := .noat "Keeps" "lines") rfl),
   He.free_ok X Gn (c.fact 10 (f := .free "str") rfl),
   He.free_ok X Gn (c.fact 11 (f := .free "all") rfl),
   He.str_ok X Gn (c.fact 12 (f := .str "SIGNS" "abcdefghijklmnopqrstuvwxyz0123456789") rfl),
   He.free_ok X Gn (c.fact 13 (f := .free "tuple") rfl),
   He.int_ok X Gn (c.fact 14 (f := .int "MOST_PARTS" 5) rfl),
   ⟨He.glo_ok X Gn (c.fact 16 (f := .glo "BadName") rfl), (He.exc_ok (c.fact 15 (f := .exc "BadName") rfl)).1, (He.exc_ok (c.fact 15 (f := .exc "BadName") rfl)).2.1, (He.exc_ok (c.fact 15 (f := .exc "BadName") rfl)).2.2.1, (He.exc_ok (c.fact 15 (f := .exc "BadName") rfl)).2.2.2⟩,
   He.int_ok X Gn (c.fact 17 (f := .int "HOUSES" 8) rfl),
   He.free_ok X Gn (c.fact 18 (f := .free "list") rfl),
   He.free_ok X Gn (c.fact 19 (f := .free "set") rfl),
   ⟨He.glo_ok X Gn (c.fact 21 (f := .glo "BadSides") rfl), (He.exc_ok (c.fact 20 (f := .exc "BadSides") rfl)).1, (He.exc_ok (c.fact 20 (f := .exc "BadSides") rfl)).2.1, (He.exc_ok (c.fact 20 (f := .exc "BadSides") rfl)).2.2.1, (He.exc_ok (c.fact 20 (f := .exc "BadSides") rfl)).2.2.2⟩,
   He.noat_ok (c.fact 22 (f := .noat "Keeps" "room") rfl),
   He.int_ok X Gn (c.fact 23 (f := .int "MOST_VALUE" 999) rfl),
   He.free_ok X Gn (c.fact 24 (f := .free "range") rfl),
   He.free_ok X Gn (c.fact 25 (f := .free "sorted") rfl),
   He.cls_ok (c.fact 26 (f := .cls "Wait") rfl),
   He.noat_ok (c.fact 27 (f := .noat "Wait" "since") rfl),
   He.noat_ok (c.fact 28 (f := .noat "Wait" "who") rfl),
   He.noat_ok (c.fact 29 (f := .noat "Wait" "asked") rfl),
   He.noat_ok (c.fact 30 (f := .noat "Wait" "noes") rfl),
   He.cls_ok (c.fact 31 (f := .cls "House") rfl),
   He.noat_ok (c.fact 32 (f := .noat "House" "me") rfl),
   He.noat_ok (c.fact 33 (f := .noat "House" "near") rfl),
   He.noat_ok (c.fact 34 (f := .noat "House" "shelf") rfl),
   He.noat_ok (c.fact 35 (f := .noat "House" "most") rfl),
   He.noat_ok (c.fact 36 (f := .noat "House" "roads") rfl),
   He.noat_ok (c.fact 37 (f := .noat "House" "things") rfl),
   He.noat_ok (c.fact 38 (f := .noat "House" "pending") rfl),
   He.noat_ok (c.fact 39 (f := .noat "House" "fresh") rfl),
   He.noat_ok (c.fact 40 (f := .noat "House" "ends") rfl),
   ⟨He.glo_ok X Gn (c.fact 42 (f := .glo "NoWay") rfl), (He.exc_ok (c.fact 41 (f := .exc "NoWay") rfl)).1, (He.exc_ok (c.fact 41 (f := .exc "NoWay") rfl)).2.1, (He.exc_ok (c.fact 41 (f := .exc "NoWay") rfl)).2.2.1, (He.exc_ok (c.fact 41 (f := .exc "NoWay") rfl)).2.2.2⟩,
   ⟨He.glo_ok X Gn (c.fact 44 (f := .glo "BadLetter") rfl), (He.exc_ok (c.fact 43 (f := .exc "BadLetter") rfl)).1, (He.exc_ok (c.fact 43 (f := .exc "BadLetter") rfl)).2.1, (He.exc_ok (c.fact 43 (f := .exc "BadLetter") rfl)).2.2.1, (He.exc_ok (c.fact 43 (f := .exc "BadLetter") rfl)).2.2.2⟩,
   He.free_ok X Gn (c.fact 45 (f := .free "max") rfl),
   He.free_ok X Gn (c.fact 46 (f := .free "min") rfl),
   (let ⟨fd, F⟩ := c.def_ 0 (d := dfs_0) rfl; ⟨_, fd, F, He.glo_ok X Gn (c.fact 47 (f := .glo "is_number") rfl)⟩),
   (let ⟨fd, F⟩ := c.def_ 1 (d := dfs_1) rfl; ⟨_, fd, F, He.glo_ok X Gn (c.fact 48 (f := .glo "need_number") rfl)⟩),
   (let ⟨fd, F⟩ := c.def_ 2 (d := dfs_2) rfl; ⟨_, fd, F, He.cls_ok (c.fact 6 (f := .cls "Table") rfl), He.meth_ok (c.fact 49 (f := .meth "Table" "__len__") rfl)⟩),
   (let ⟨fd, F⟩ := c.def_ 3 (d := dfs_3) rfl; ⟨_, fd, F, He.cls_ok (c.fact 8 (f := .cls "Keeps") rfl), He.meth_ok (c.fact 50 (f := .meth "Keeps" "__len__") rfl)⟩),
   (let ⟨fd, F⟩ := c.def_ 4 (d := dfs_4) rfl; ⟨_, fd, F, He.glo_ok X Gn (c.fact 51 (f := .glo "is_part") rfl)⟩),
   (let ⟨fd, F⟩ := c.def_ 5 (d := dfs_5) rfl; ⟨_, fd, F, He.glo_ok X Gn (c.fact 52 (f := .glo "is_beginning") rfl)⟩),
   (let ⟨fd, F⟩ := c.def_ 6 (d := dfs_6) rfl; ⟨_, fd, F, He.glo_ok X Gn (c.fact 53 (f := .glo "is_name") rfl)⟩),
   (let ⟨fd, F⟩ := c.def_ 7 (d := dfs_7) rfl; ⟨_, fd, F, He.glo_ok X Gn (c.fact 54 (f := .glo "need_beginning") rfl)⟩),
   (let ⟨fd, F⟩ := c.def_ 8 (d := dfs_8) rfl; ⟨_, fd, F, He.glo_ok X Gn (c.fact 55 (f := .glo "need_name") rfl)⟩),
   (let ⟨fd, F⟩ := c.def_ 9 (d := dfs_9) rfl; ⟨_, fd, F, He.glo_ok X Gn (c.fact 56 (f := .glo "is_side") rfl)⟩),
   (let ⟨fd, F⟩ := c.def_ 10 (d := dfs_10) rfl; ⟨_, fd, F, He.glo_ok X Gn (c.fact 57 (f := .glo "need_sides") rfl)⟩),
   (let ⟨fd, F⟩ := c.def_ 11 (d := dfs_11) rfl; ⟨_, fd, F, He.glo_ok X Gn (c.fact 58 (f := .glo "Keeps") rfl), He.mkr_ok (c.fact 59 (f := .mkr "Keeps") rfl)⟩),
   (let ⟨fd, F⟩ := c.def_ 12 (d := dfs_12) rfl; ⟨_, fd, F, He.cls_ok (c.fact 8 (f := .cls "Keeps") rfl), He.meth_ok (c.fact 60 (f := .meth "Keeps" "take_out") rfl)⟩),
   (let ⟨fd, F⟩ := c.def_ 13 (d := dfs_13) rfl; ⟨_, fd, F, He.cls_ok (c.fact 8 (f := .cls "Keeps") rfl), He.meth_ok (c.fact 61 (f := .meth "Keeps" "keep") rfl)⟩),
   (let ⟨fd, F⟩ := c.def_ 14 (d := dfs_14) rfl; ⟨_, fd, F, He.cls_ok (c.fact 8 (f := .cls "Keeps") rfl), He.meth_ok (c.fact 62 (f := .meth "Keeps" "put") rfl)⟩),
   (let ⟨fd, F⟩ := c.def_ 15 (d := dfs_15) rfl; ⟨_, fd, F, He.cls_ok (c.fact 8 (f := .cls "Keeps") rfl), He.meth_ok (c.fact 63 (f := .meth "Keeps" "find") rfl)⟩),
   (let ⟨fd, F⟩ := c.def_ 16 (d := dfs_16) rfl; ⟨_, fd, F, He.cls_ok (c.fact 8 (f := .cls "Keeps") rfl), He.meth_ok (c.fact 64 (f := .meth "Keeps" "rows") rfl)⟩),
   (let ⟨fd, F⟩ := c.def_ 17 (d := dfs_17) rfl; ⟨_, fd, F, He.glo_ok X Gn (c.fact 65 (f := .glo "Table") rfl), He.mkr_ok (c.fact 66 (f := .mkr "Table") rfl)⟩),
   (let ⟨fd, F⟩ := c.def_ 18 (d := dfs_18) rfl; ⟨_, fd, F, He.cls_ok (c.fact 6 (f := .cls "Table") rfl), He.meth_ok (c.fact 67 (f := .meth "Table" "put") rfl)⟩),
   (let ⟨fd, F⟩ := c.def_ 19 (d := dfs_19) rfl; ⟨_, fd, F, He.cls_ok (c.fact 6 (f := .cls "Table") rfl), He.meth_ok (c.fact 68 (f := .meth "Table" "longest") rfl)⟩),
   (let ⟨fd, F⟩ := c.def_ 20 (d := dfs_20) rfl; ⟨_, fd, F, He.cls_ok (c.fact 6 (f := .cls "Table") rfl), He.meth_ok (c.fact 69 (f := .meth "Table" "found") rfl)⟩),
   (let ⟨fd, F⟩ := c.def_ 21 (d := dfs_21) rfl; ⟨_, fd, F, He.cls_ok (c.fact 6 (f := .cls "Table") rfl), He.meth_ok (c.fact 70 (f := .meth "Table" "rows") rfl)⟩),
   (let ⟨fd, F⟩ := c.def_ 22 (d := dfs_22) rfl; ⟨_, fd, F, He.glo_ok X Gn (c.fact 71 (f := .glo "is_letter") rfl)⟩),
   (let ⟨fd, F⟩ := c.def_ 23 (d := dfs_23) rfl; ⟨_, fd, F, He.glo_ok X Gn (c.fact 72 (f := .glo "Wait") rfl), He.mkr_ok (c.fact 73 (f := .mkr "Wait") rfl)⟩),
   (let ⟨fd, F⟩ := c.def_ 24 (d := dfs_24) rfl; ⟨_, fd, F, He.glo_ok X Gn (c.fact 74 (f := .glo "House") rfl), He.mkr_ok (c.fact 75 (f := .mkr "House") rfl)⟩),
   (let ⟨fd, F⟩ := c.def_ 25 (d := dfs_25) rfl; ⟨_, fd, F, He.cls_ok (c.fact 31 (f := .cls "House") rfl), He.meth_ok (c.fact 76 (f := .meth "House" "tell") rfl)⟩),
   (let ⟨fd, F⟩ := c.def_ 26 (d := dfs_26) rfl; ⟨_, fd, F, He.cls_ok (c.fact 31 (f := .cls "House") rfl), He.meth_ok (c.fact 77 (f := .meth "House" "tell_all") rfl)⟩),
   (let ⟨fd, F⟩ := c.def_ 27 (d := dfs_27) rfl; ⟨_, fd, F, He.cls_ok (c.fact 31 (f := .cls "House") rfl), He.meth_ok (c.fact 78 (f := .meth "House" "table_sides") rfl)⟩),
   (let ⟨fd, F⟩ := c.def_ 28 (d := dfs_28) rfl; ⟨_, fd, F, He.cls_ok (c.fact 31 (f := .cls "House") rfl), He.meth_ok (c.fact 79 (f := .meth "House" "joined") rfl)⟩),
   (let ⟨fd, F⟩ := c.def_ 29 (d := dfs_29) rfl; ⟨_, fd, F, He.cls_ok (c.fact 31 (f := .cls "House") rfl), He.meth_ok (c.fact 80 (f := .meth "House" "asked_by") rfl)⟩),
   (let ⟨fd, F⟩ := c.def_ 30 (d := dfs_30) rfl; ⟨_, fd, F, He.cls_ok (c.fact 31 (f := .cls "House") rfl), He.meth_ok (c.fact 81 (f := .meth "House" "thing_from") rfl)⟩),
   (let ⟨fd, F⟩ := c.def_ 31 (d := dfs_31) rfl; ⟨_, fd, F, He.cls_ok (c.fact 31 (f := .cls "House") rfl), He.meth_ok (c.fact 82 (f := .meth "House" "no_from") rfl)⟩),
   (let ⟨fd, F⟩ := c.def_ 32 (d := dfs_32) rfl; ⟨_, fd, F, He.cls_ok (c.fact 31 (f := .cls "House") rfl), He.meth_ok (c.fact 83 (f := .meth "House" "ask") rfl)⟩),
   (let ⟨fd, F⟩ := c.def_ 33 (d := dfs_33) rfl; ⟨_, fd, F, He.cls_ok (c.fact 31 (f := .cls "House") rfl), He.meth_ok (c.fact 84 (f := .meth "House" "come") rfl)⟩),
   (let ⟨fd, F⟩ := c.def_ 34 (d := dfs_34) rfl; ⟨_, fd, F, He.cls_ok (c.fact 31 (f := .cls "House") rfl), He.meth_ok (c.fact 85 (f := .meth "House" "teach") rfl)⟩),
   (let ⟨fd, F⟩ := c.def_ 35 (d := dfs_35) rfl; ⟨_, fd, F, He.cls_ok (c.fact 31 (f := .cls "House") rfl), He.meth_ok (c.fact 86 (f := .meth "House" "end") rfl)⟩),
   (let ⟨fd, F⟩ := c.def_ 36 (d := dfs_36) rfl; ⟨_, fd, F, He.cls_ok (c.fact 31 (f := .cls "House") rfl), He.meth_ok (c.fact 87 (f := .meth "House" "waits") rfl)⟩),
   (let ⟨fd, F⟩ := c.def_ 37 (d := dfs_37) rfl; ⟨_, fd, F, He.cls_ok (c.fact 31 (f := .cls "House") rfl), He.meth_ok (c.fact 88 (f := .meth "House" "keeps") rfl)⟩),
   (let ⟨fd, F⟩ := c.def_ 38 (d := dfs_38) rfl; ⟨_, fd, F, He.glo_ok X Gn (c.fact 89 (f := .glo "_law_cell") rfl)⟩),
   (let ⟨fd, F⟩ := c.def_ 39 (d := dfs_39) rfl; ⟨_, fd, F, He.glo_ok X Gn (c.fact 90 (f := .glo "_law_drawn") rfl)⟩),
   (let ⟨fd, F⟩ := c.def_ 40 (d := dfs_40) rfl; ⟨_, fd, F, He.glo_ok X Gn (c.fact 91 (f := .glo "_law_roll") rfl)⟩),
   (let ⟨fd, F⟩ := c.def_ 41 (d := dfs_41) rfl; ⟨_, fd, F, He.glo_ok X Gn (c.fact 92 (f := .glo "_law_rounds") rfl)⟩),
   (let ⟨fd, F⟩ := c.def_ 42 (d := dfs_42) rfl; ⟨_, fd, F, He.glo_ok X Gn (c.fact 93 (f := .glo "_law_head") rfl)⟩),
   (let ⟨fd, F⟩ := c.def_ 43 (d := dfs_43) rfl; ⟨_, fd, F, He.glo_ok X Gn (c.fact 94 (f := .glo "_law_any_name") rfl)⟩),
   (let ⟨fd, F⟩ := c.def_ 44 (d := dfs_44) rfl; ⟨_, fd, F, He.glo_ok X Gn (c.fact 95 (f := .glo "_law_some_sides") rfl)⟩),
   (let ⟨fd, F⟩ := c.def_ 45 (d := dfs_45) rfl; ⟨_, fd, F, He.glo_ok X Gn (c.fact 96 (f := .glo "_law_thing_comes") rfl)⟩),
   (let ⟨fd, F⟩ := c.def_ 46 (d := dfs_46) rfl; ⟨_, fd, F, He.glo_ok X Gn (c.fact 97 (f := .glo "_law_noes_come") rfl)⟩),
   (let ⟨fd, F⟩ := c.def_ 47 (d := dfs_47) rfl; ⟨_, fd, F, He.glo_ok X Gn (c.fact 98 (f := .glo "law") rfl)⟩)⟩
theorem says {P : Program} {w : World} {K : PySem.W.Frag} {h : Heap} {mg : Str → Option Value} {f : Addr} (X : K.In h) (Gn : h.Ns mainGlobals mg) (hfa : mg ("law" : Str) = some (.ref f)) (c : He.SaysD fas dfs K) :
    ∃ fd : FuncData, (∀ (s : Shared) (v : Value), BindsTo s fd ⟨[v], []⟩ [("_law_script", v)]) ∧ ∀ base : Heap, K.In base → base.Ns mainGlobals mg → FnOk P w K mg base (L2N.CX P w) 8 f fd ["_law_script"] (spL K []) := by
  obtain ⟨fd, F⟩ := c.def_ 47 (d := dfs_47) rfl
  have e := hfa.symm.trans (He.glo_ok X Gn (c.fact 98 (f := .glo "law") rfl))
  cases e
  have b := FunD.bindsA (ps := ["_law_script"]) F fun _ _ _ _ _ _ us hl => match us, hl with | [_], _ => rfl
  exact ⟨fd, fun s v => b s [v] rfl, fun base _ _ => FOk.law (fk_law (g := mkG P w K mg base) (facts X Gn c) F) law_k41⟩
end MPH
open PySem PySem.W PySem.Calls PyProof.Rows
theorem PySem.Challenge.cw_namewants_k41_whole_joined_asks_holds : PySem.Challenge.rw_namewants_k41_whole_joined_asks.Holds := by
  w_on; o_law
  refine HandSHeadRun.head_any (r := OpenLaw.row PySem.Challenge.rw_namewants_k41_whole_joined_asks) (q := view (OpenLaw.row PySem.Challenge.rw_namewants_k41_whole_joined_asks).prog [41]) (H := MPH.hk) (ob := MPH.ob) (M := 20000) (loose := MPH.loose) (d := HandSHeadRun.topDef (OpenLaw.row PySem.Challenge.rw_namewants_k41_whole_joined_asks).prog 41) (kwd := []) MPH.ob_eq
    (by kernel_rfl) (fun s => by kernel_rfl) MPH.run (by kernel_rfl) (by kernel_rfl) (by kernel_rfl) (by rfl) (by first | assumption | decide +kernel) (by decide +kernel) ⟨rfl, rfl, rfl, rfl, rfl, by decide +kernel⟩ ?hw ?hc
  case hw => w_witness2
  case hc =>
    refine LamX.walk_ofTsE (l := PySem.Challenge.rw_namewants_k41_whole_joined_asks) (n := 63) (k := 8) (x := "_law_script") (CX := fun w => L2N.CX PySem.Challenge.rw_namewants_k41_whole_joined_asks.prog w) rfl (by decide) (by kernel_rfl) ⟨rfl, by decide, by decide⟩ ?F (fun w => MP.cx_no)
    intro w mg fa h Y Gn hmg0
    obtain ⟨K, KX, c⟩ := Y
    have hmg : mg ("law" : PySem.Str) = some (.ref fa) := by
      have e : (HandSHeadRun.topDef (OpenLaw.row PySem.Challenge.rw_namewants_k41_whole_joined_asks).prog 41).name = ("law" : PySem.Str) := by kernel_rfl
      rw [← e]
      exact hmg0
    obtain ⟨fd, hb, hF⟩ := MPH.says (P := (PySem.Challenge.rw_namewants_k41_whole_joined_asks).prog) (w := w) KX Gn hmg c
    exact ⟨K, KX, fd, [], _, (fun _ hp => by cases hp), (fun _ hp => by cases hp), (fun _ hp => by cases hp), hb, fun H a ns hl _ _ hS => ⟨a, ns, rfl, hl, hS, (fun _ hp => by cases hp), fun _ => rfl⟩, fun base h1 h2 _ => hF base h1 h2⟩

