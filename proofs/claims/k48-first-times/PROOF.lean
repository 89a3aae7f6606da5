import PyProof.Rows.All
import Wide.All
import OpenK.AllK
import Wide.FinOn
import HandS.ForMost
import HandS.TupAny
import HandS.Deep
import HandS.IsInst
import HandS.Style
import HandS.Flow
import HandS.Walk
import HandS.Zip
import KE.GoesMore
import PySem.Challenge.RW_onlysums_k48_first_times
set_option Elab.async false
set_option linter.all false
set_option maxRecDepth 100000
set_option maxHeartbeats 1000000
namespace IR
open PySem

abbrev PV := PyData

def mutv : PV → Bool
  | .list _ => true
  | .dict _ => true
  | _ => false

/-- b: shared, read alone; o: owned by its slot; m: lent to be changed; l: lent to be read; s: the script; k: locked while a loop walks it -/
inductive Tag where
  | b | o | m | l | s | k (t : Tag)
  deriving DecidableEq

abbrev Env := List (Option (Tag × PV))

def isScr : Tag → Bool
  | .s => true
  | .k t => isScr t
  | _ => false
def peek (ρ : Env) (i : Nat) : Option PV :=
  match ρ[i]? with
  | some (some (t, v)) => if isScr t = true then none else some v
  | _ => none
/-- the script, too -/
def peekS (ρ : Env) (i : Nat) : Option PV :=
  match ρ[i]? with
  | some (some (_, v)) => some v
  | _ => none
def clean (ρ : Env) (i : Nat) : Option PV :=
  match ρ[i]? with
  | some (some (.b, v)) => some v
  | _ => none
def pinnedTag : Tag → Bool
  | .m => true
  | .k _ => true
  | _ => false
def storable (ρ : Env) (i : Nat) : Bool :=
  match ρ[i]? with
  | some (some (t, _)) => !pinnedTag t
  | some none => true
  | none => false

/-- the longest text, list, tuple -/
def line : Nat := 16777216

def truth : PV → Option Bool
  | .none => some false
  | .bool b => some b
  | .int i => some (i != 0)
  | .str s => if s.length ≤ line then some ((s.length : Int) != 0) else none
  | .list xs => some (!xs.isEmpty)
  | .tuple xs => some (!xs.isEmpty)
  | .dict kvs => some (!kvs.isEmpty)

/-! ### operations -/
inductive Ty where
  | tInt | tBool | tStr | tTuple | tList | tDict
  deriving DecidableEq

inductive Op where
  | add | sub | mul | fdiv | mod | pow | neg
  | eq | ne | lt | le | gt | ge | isC (c : PV) | nsC (c : PV) | isIn | nIn
  | ix | sl (lo hi : Bool) | len | int | abs | max | min | tuple | list | isTy (t : Ty)

def small64 (i : Int) : Bool := decide (-(2 ^ 64) < i) && decide (i < 2 ^ 64)

def opAdd : List PV → Option PV
  | [.int i, .int j] => some (.int (i + j))
  | [.tuple xs, .tuple ys] => if xs.length + ys.length ≤ line then some (.tuple (xs ++ ys)) else none
  | [.list xs, .list ys] => if xs.length + ys.length ≤ line then some (.list (xs ++ ys)) else none
  | _ => none
def opSub : List PV → Option PV
  | [.int i, .int j] => some (.int (i - j))
  | _ => none
def opMul : List PV → Option PV
  | [.int i, .int j] => if small64 i || small64 j then some (.int (i * j)) else none
  | _ => none
def opFdiv : List PV → Option PV
  | [.int i, .int j] => if decide (0 < j) && decide (j < 1073741824) then some (.int (i / j)) else none
  | _ => none
def opMod : List PV → Option PV
  | [.int i, .int j] => if 0 < j then some (.int (i % j)) else none
  | _ => none
def opPow : List PV → Option PV
  | [.int i, .int j] => if decide (0 ≤ j) && decide (j ≤ 1000000) && decide (i.natAbs < 2 ^ 64) then some (.int (i ^ j.toNat)) else none
  | _ => none
def opNeg : List PV → Option PV
  | [.int i] => some (.int (-i))
  | _ => none
def opEq : List PV → Option PV
  | [d, e] => if SeqAt.shaped d && SeqAt.shaped e then some (.bool (PyData.eqv d e)) else none
  | _ => none
def opNe : List PV → Option PV
  | [d, e] => if SeqAt.shaped d && SeqAt.shaped e then some (.bool (!PyData.eqv d e)) else none
  | _ => none
def opLt : List PV → Option PV
  | [.int i, .int j] => some (.bool (decide (i < j)))
  | _ => none
def opLe : List PV → Option PV
  | [.int i, .int j] => some (.bool (decide (i ≤ j)))
  | _ => none
def opGt : List PV → Option PV
  | [.int i, .int j] => some (.bool (decide (j < i)))
  | _ => none
def opGe : List PV → Option PV
  | [.int i, .int j] => some (.bool (decide (j ≤ i)))
  | _ => none
/-- is one of None, True, False -/
def same1 : PV → PV → Option Bool
  | .none, .none => some true
  | .bool a, .bool b => some (a == b)
  | .none, _ => some false
  | .bool _, _ => some false
  | _, _ => none
def opIs (c : PV) : List PV → Option PV
  | [v] => (same1 c v).map .bool
  | _ => none
def opNs (c : PV) : List PV → Option PV
  | [v] => (same1 c v).map fun b => .bool (!b)
  | _ => none
def seqOf : PV → Option (List PV)
  | .tuple xs => some xs
  | .list xs => some xs
  | _ => none
def inAny (d : PV) (xs : List PV) : Bool := xs.any fun z => PyData.eqv z d
def opIn : List PV → Option PV
  | [d, s] => (seqOf s).bind fun xs => if SeqAt.shaped d && SeqAt.shaped (.list xs) then some (.bool (inAny d xs)) else none
  | _ => none
def opNIn : List PV → Option PV
  | [d, s] => (seqOf s).bind fun xs => if SeqAt.shaped d && SeqAt.shaped (.list xs) then some (.bool (!inAny d xs)) else none
  | _ => none
def opIx : List PV → Option PV
  | [.tuple xs, .int i] => L2.atI xs i
  | [.list xs, .int i] => L2.atI xs i
  | _ => none
def cut (xs : List PV) (lo hi : Option Int) : List PV := (xs.drop (HT.sIx xs.length 0 lo)).take (HT.sIx xs.length xs.length hi - HT.sIx xs.length 0 lo)
def opSl (lo hi : Bool) (vs : List PV) : Option PV :=
  match lo, hi, vs with
  | true, true, [s, .int i, .int j] => cutOf s (some i) (some j)
  | true, false, [s, .int i] => cutOf s (some i) none
  | false, true, [s, .int j] => cutOf s none (some j)
  | false, false, [s] => cutOf s none none
  | _, _, _ => none
where
  cutOf (s : PV) (lo hi : Option Int) : Option PV :=
    match s with
    | .tuple xs => some (.tuple (cut xs lo hi))
    | .list xs => some (.list (cut xs lo hi))
    | _ => none
def opLen : List PV → Option PV
  | [.tuple xs] => some (.int xs.length)
  | [.list xs] => some (.int xs.length)
  | _ => none
def opInt : List PV → Option PV
  | [.int i] => some (.int i)
  | _ => none
def opAbs : List PV → Option PV
  | [.int i] => some (.int (if i < 0 then -i else i))
  | _ => none
def opMax : List PV → Option PV
  | [.int i, .int j] => some (.int (if j > i then j else i))
  | _ => none
def opMin : List PV → Option PV
  | [.int i, .int j] => some (.int (if j < i then j else i))
  | _ => none
def opTuple : List PV → Option PV
  | [.tuple xs] => some (.tuple xs)
  | [.list xs] => some (.tuple xs)
  | _ => none
def opList : List PV → Option PV
  | [.tuple xs] => some (.list xs)
  | [.list xs] => some (.list xs)
  | _ => none
def isTyB : Ty → PV → Bool
  | .tInt, .int _ => true
  | .tInt, .bool _ => true
  | .tBool, .bool _ => true
  | .tStr, .str _ => true
  | .tTuple, .tuple _ => true
  | .tList, .list _ => true
  | .tDict, .dict _ => true
  | _, _ => false
def opTy (t : Ty) : List PV → Option PV
  | [v] => some (.bool (isTyB t v))
  | _ => none

def evalOp (o : Op) (vs : List PV) : Option PV :=
  match o with
  | .add => opAdd vs | .sub => opSub vs | .mul => opMul vs | .fdiv => opFdiv vs | .mod => opMod vs | .pow => opPow vs | .neg => opNeg vs
  | .eq => opEq vs | .ne => opNe vs | .lt => opLt vs | .le => opLe vs | .gt => opGt vs | .ge => opGe vs
  | .isC c => opIs c vs | .nsC c => opNs c vs | .isIn => opIn vs | .nIn => opNIn vs
  | .ix => opIx vs | .sl lo hi => opSl lo hi vs | .len => opLen vs | .int => opInt vs | .abs => opAbs vs | .max => opMax vs | .min => opMin vs
  | .tuple => opTuple vs | .list => opList vs | .isTy t => opTy t vs

/-- a list that it gives is new -/
def Op.fresh : Op → Bool
  | .ix => false
  | _ => true

/-- it reads the script, too -/
def Op.kl : Op → Bool
  | .ix => true
  | .len => true
  | _ => false

/-! ### the language -/
inductive Tg where
  | nm (i : Nat) | tp (ts : List Tg)

mutual
inductive IE where
  | bad
  | con (v : PV)
  | var (i : Nat)
  | op (o : Op) (as : IAs)
  | mkT (es : IEs) | mkL (es : IEs)
  | ife (c a b : IE) | andE (a b : IE) | orE (a b : IE) | notE (a : IE)
  | chn (o1 o2 : Op) (a b c : IE)
  | call (f : Nat) (as : IAs)
  | callk (f : Nat) (as : IAs) (sel : List Nat)
  | lc (own : List Nat) (it : IT) (tg : Tg) (cond : IE) (elt : IE)
  | pop (j : Nat) (as : IAs)
inductive IEs where
  | nil | cons (e : IE) (r : IEs)
inductive IA where
  | sl (j : Nat) | ex (e : IE) | ifo (c : IE) (a b : IA)
inductive IAs where
  | nil | cons (a : IA) (r : IAs)
inductive IT where
  | lst (a : IA) | rng (as : IAs) | enm (a : IA) | zip (a b : IA)
end

mutual
inductive IS where
  | set (i : Nat) (e : IE)
  | un (ts : List Tg) (e : IE)
  | mv (i j : Nat)
  | par (is : List Nat) (as : IAs)
  | setIx (j : Nat) (k e : IE)
  | aug (i : Nat) (o : Op) (e : IE)
  | app (j : Nat) (e : IE)
  | exp (e : IE)
  | ife (c : IE) (a b : ISs)
  | for_ (it : IT) (tg : Tg) (body : ISs)
  | whl (c : IE) (body : ISs)
  | ret (e : IE) | retv (i : Nat) | retn
  | brk | cnt | pas | bad
inductive ISs where
  | nil | cons (s : IS) (r : ISs)
end

/-- the first parameter: read like the others; changed; the script -/
inductive Mode where
  | rd | io | scr
  deriving DecidableEq
/-- a def: how many parameters, the first one's mode, how many slots, the body -/
structure FD where
  np : Nat
  md : Mode
  ns : Nat
  body : ISs

def IE.fresh : IE → Bool
  | .con _ => true
  | .op o _ => o.fresh
  | .mkT _ => true
  | .mkL _ => true
  | .ife _ a b => a.fresh && b.fresh
  | .call _ _ => true
  | .callk _ _ _ => true
  | .lc _ _ _ _ _ => true
  | _ => false

/-- an operand: a slot, read when all operands stand; a value -/
inductive Dsc where
  | sl (j : Nat) | vl (v : PV)
def deref (ρ : Env) : Dsc → Option PV
  | .sl j => peek ρ j
  | .vl v => some v
def derefs (ρ : Env) : List Dsc → Option (List PV)
  | [] => some []
  | d :: ds => match deref ρ d, derefs ρ ds with
    | some v, some vs => some (v :: vs)
    | _, _ => none
def derefK (kl : Bool) (ρ : Env) : Dsc → Option PV
  | .sl j => if kl = true then peekS ρ j else peek ρ j
  | .vl v => some v
def derefsK (kl : Bool) (ρ : Env) : List Dsc → Option (List PV)
  | [] => some []
  | d :: ds => match derefK kl ρ d, derefsK kl ρ ds with
    | some v, some vs => some (v :: vs)
    | _, _ => none
def noSl (j : Nat) : List Dsc → Bool
  | [] => true
  | .sl i :: ds => (i != j) && noSl j ds
  | .vl _ :: ds => noSl j ds

abbrev Lk := List (Nat × Tag × PV)
def ownd (ρ : Env) (i : Nat) : Bool :=
  match ρ[i]? with
  | some (some (.o, _)) => true
  | some (some (.m, _)) => true
  | _ => false
def isOwn : Tag → Bool
  | .o => true
  | .m => true
  | .k t => isOwn t
  | _ => false
def lockD (ρ : Env) : Dsc → Lk × Env
  | .vl _ => ([], ρ)
  | .sl j => match ρ[j]? with
    | some (some (t, v)) => if isOwn t = true then ([(j, t, v)], ρ.set j (some (.k t, v))) else ([], ρ)
    | _ => ([], ρ)
def chk : Lk → Env → Prop
  | [], _ => True
  | (j, t, v) :: r, ρ => ρ[j]? = some (some (.k t, v)) ∧ chk r ρ
def unlock : Lk → Env → Env
  | [], ρ => ρ
  | (j, t, v) :: r, ρ => (unlock r ρ).set j (some (t, v))

def wipe : List Nat → Env → Env
  | [], ρ => ρ
  | i :: is, ρ => (wipe is ρ).set i none
def restore (ρ0 : Env) : List Nat → Env → Env
  | [], ρ => ρ
  | i :: is, ρ => (restore ρ0 is ρ).set i (ρ0[i]?.getD none)

/-- a call's promise: the function, its arguments, what is wanted of its value and of the changed first argument -/
abbrev CallP := Nat → List PV → (PV → Option PV → Prop) → Prop

structure Ends where
  nx : Env → Prop
  rt : PV → Env → Prop
  bk : Env → Prop
  ct : Env → Prop

mutual
def wpTg : Tg → PV → Env → (Env → Prop) → Prop
  | .nm i, v, ρ, Q => storable ρ i = true ∧ Q (ρ.set i (some (.b, v)))
  | .tp ts, v, ρ, Q => ∃ l, v = .tuple l ∧ l.length = ts.length ∧ wpTgs ts l ρ Q
def wpTgs : List Tg → List PV → Env → (Env → Prop) → Prop
  | [], l, ρ, Q => l = [] ∧ Q ρ
  | t :: ts, l, ρ, Q => ∃ v r, l = v :: r ∧ wpTg t v ρ fun ρ' => wpTgs ts r ρ' Q
end

def callD (P : Nat → Option FD) (C : CallP) (f : Nat) (ds : List Dsc) (ρ : Env) (Q : PV → Env → Prop) : Prop :=
  ∃ fd, P f = some fd ∧
    match fd.md with
    | .rd => ∃ vs, derefs ρ ds = some vs ∧ C f vs fun v _ => Q v ρ
    | .io => ∃ vs, derefs ρ ds = some vs ∧ ∃ j ds', ds = .sl j :: ds' ∧ noSl j ds' = true ∧ ∃ t w0, ρ[j]? = some (some (t, w0)) ∧ (t = .o ∨ t = .m) ∧
        C f vs fun v ov => ∃ w, ov = some w ∧ Q v (ρ.set j (some (t, w)))
    | .scr => ∃ j ds', ds = .sl j :: ds' ∧ ∃ w0, ρ[j]? = some (some (.s, w0)) ∧ ∃ vs, derefs ρ ds' = some vs ∧ C f (w0 :: vs) fun v _ => Q v ρ

def pick (ds : List Dsc) : List Nat → Option (List Dsc)
  | [] => some []
  | i :: is => match ds[i]?, pick ds is with
    | some d, some r => some (d :: r)
    | _, _ => none

def lcGo (body : PV → Env → (Option PV → Env → Prop) → Prop) (own : List Nat) (lk : Lk) : List PV → List PV → Env → (List PV → Env → Prop) → Prop
  | [], acc, ρ, Q => chk lk ρ ∧ Q acc ρ
  | x :: xs, acc, ρ, Q => chk lk ρ ∧ body x ρ fun r ρ' => match r with
    | some v => acc.length < line ∧ lcGo body own lk xs (acc ++ [v]) (wipe own ρ') Q
    | none => lcGo body own lk xs acc (wipe own ρ') Q

def rngOf : List PV → Option (List PV)
  | [.int j] => if decide (-(2 ^ 62) ≤ j) && decide (j < 2 ^ 62) then some ((List.range j.toNat).map fun (n : Nat) => PyData.int (n : Int)) else none
  | [.int i, .int j] => if decide (-(2 ^ 62) ≤ i) && decide (i < 2 ^ 62) && decide (-(2 ^ 62) ≤ j) && decide (j < 2 ^ 62) then some ((List.range (j - i).toNat).map fun (n : Nat) => PyData.int (i + (n : Int))) else none
  | _ => none
def enmOf (xs : List PV) : List PV := xs.mapIdx fun i x => .tuple [.int (i : Int), x]
def sameSl : Dsc → Dsc → Bool
  | .sl i, .sl j => i == j
  | _, _ => false
def zipK : PV → PV → Option (List PV × List PV)
  | .list xs, .list ys => some (xs, ys)
  | .tuple xs, .tuple ys => some (xs, ys)
  | _, _ => none
def zipOf (xs ys : List PV) : List PV := (xs.zip ys).map fun p => .tuple [p.1, p.2]

/-- x.pop(), x.pop(i) -/
def popV : List PV → List PV → Option (PV × List PV)
  | xs, [] => match xs[xs.length - 1]? with
    | some y => some (y, xs.dropLast)
    | none => none
  | xs, [.int i] => if decide (-(2 ^ 63) ≤ i) && decide (i < 2 ^ 63) then (match L2.ixN xs.length i with
      | some j => (match xs[j]? with
        | some y => some (y, xs.eraseIdx j)
        | none => none)
      | none => none) else none
  | _, _ => none

section
variable (P : Nat → Option FD) (C : CallP)
mutual
def wpE : IE → Env → (PV → Env → Prop) → Prop
  | .bad, _, _ => False
  | .con v, ρ, Q => Q v ρ
  | .var i, ρ, Q => ∃ v, clean ρ i = some v ∧ Q v ρ
  | .op o as, ρ, Q => wpAs as ρ fun ds ρ' => ∃ vs, derefsK o.kl ρ' ds = some vs ∧ ∃ v, evalOp o vs = some v ∧ Q v ρ'
  | .mkT es, ρ, Q => wpEs es ρ fun vs ρ' => vs.length ≤ line ∧ Q (.tuple vs) ρ'
  | .mkL es, ρ, Q => wpEs es ρ fun vs ρ' => vs.length ≤ line ∧ Q (.list vs) ρ'
  | .ife c a b, ρ, Q => wpE c ρ fun v ρ' => ∃ t, truth v = some t ∧ if t = true then wpE a ρ' Q else wpE b ρ' Q
  | .andE a b, ρ, Q => wpE a ρ fun v ρ' => ∃ t, truth v = some t ∧ if t = true then wpE b ρ' Q else Q v ρ'
  | .orE a b, ρ, Q => wpE a ρ fun v ρ' => ∃ t, truth v = some t ∧ if t = true then Q v ρ' else wpE b ρ' Q
  | .notE a, ρ, Q => wpE a ρ fun v ρ' => ∃ t, truth v = some t ∧ Q (.bool !t) ρ'
  | .chn o1 o2 a b c, ρ, Q => wpE a ρ fun x ρ1 => wpE b ρ1 fun y ρ2 => ∃ t, evalOp o1 [x, y] = some (.bool t) ∧
      if t = true then wpE c ρ2 fun z ρ3 => ∃ v, evalOp o2 [y, z] = some v ∧ Q v ρ3 else Q (.bool false) ρ2
  | .call f as, ρ, Q => wpAs as ρ fun ds ρ' => callD P C f ds ρ' Q
  | .callk f as sel, ρ, Q => wpAs as ρ fun ds ρ' => ∃ ds', pick ds sel = some ds' ∧ callD P C f ds' ρ' Q
  | .lc own it tg cond elt, ρ, Q => wpIt it ρ fun xs lk ρ1 => own.all (storable ρ1) = true ∧
      lcGo (fun x ρ R => wpTg tg x ρ fun ρ2 => wpE cond ρ2 fun c ρ3 => ∃ t, truth c = some t ∧ if t = true then wpE elt ρ3 fun v ρ4 => R (some v) ρ4 else R none ρ3)
        own lk xs [] (wipe own ρ1) fun acc ρ' => Q (.list acc) (unlock lk (restore ρ1 own ρ'))
  | .pop j as, ρ, Q => ownd ρ j = true ∧ wpAs as ρ fun ds ρ' => ∃ vs, derefs ρ' ds = some vs ∧ ∃ t xs, ρ'[j]? = some (some (t, .list xs)) ∧ (t = .o ∨ t = .m) ∧
      ∃ y ys, popV xs vs = some (y, ys) ∧ Q y (ρ'.set j (some (t, .list ys)))
def wpEs : IEs → Env → (List PV → Env → Prop) → Prop
  | .nil, ρ, Q => Q [] ρ
  | .cons e r, ρ, Q => wpE e ρ fun v ρ1 => wpEs r ρ1 fun vs ρ2 => Q (v :: vs) ρ2
def wpD : IA → Env → (Dsc → Env → Prop) → Prop
  | .sl j, ρ, Q => (∃ v, peekS ρ j = some v) ∧ Q (.sl j) ρ
  | .ex e, ρ, Q => wpE e ρ fun v ρ' => Q (.vl v) ρ'
  | .ifo c a b, ρ, Q => wpE c ρ fun v ρ' => ∃ t, truth v = some t ∧ if t = true then wpD a ρ' Q else wpD b ρ' Q
def wpAs : IAs → Env → (List Dsc → Env → Prop) → Prop
  | .nil, ρ, Q => Q [] ρ
  | .cons a r, ρ, Q => wpD a ρ fun d ρ1 => wpAs r ρ1 fun ds ρ2 => Q (d :: ds) ρ2
def wpIt : IT → Env → (List PV → Lk → Env → Prop) → Prop
  | .lst a, ρ, Q => wpD a ρ fun d ρ' => ∃ v, deref ρ' d = some v ∧ ∃ xs, seqOf v = some xs ∧ Q xs (lockD ρ' d).1 (lockD ρ' d).2
  | .rng as, ρ, Q => wpAs as ρ fun ds ρ' => ∃ vs, derefs ρ' ds = some vs ∧ ∃ xs, rngOf vs = some xs ∧ Q xs [] ρ'
  | .enm a, ρ, Q => wpD a ρ fun d ρ' => ∃ v, deref ρ' d = some v ∧ ∃ xs, seqOf v = some xs ∧ Q (enmOf xs) (lockD ρ' d).1 (lockD ρ' d).2
  | .zip a b, ρ, Q => wpD a ρ fun d ρ1 => wpD b ρ1 fun e ρ2 => ∃ v, deref ρ2 d = some v ∧ ∃ w, deref ρ2 e = some w ∧ ∃ xs ys, zipK v w = some (xs, ys) ∧ sameSl d e = false ∧
      Q (zipOf xs ys) ((lockD (lockD ρ2 d).2 e).1 ++ (lockD ρ2 d).1) (lockD (lockD ρ2 d).2 e).2
end

def setS (i : Nat) (fr : Bool) (v : PV) (ρ : Env) (Q : Env → Prop) : Prop := storable ρ i = true ∧ Q (ρ.set i (some (if fr && mutv v then .o else .b, v)))

def forGo (tg : Tg) (body : Env → Ends → Prop) (lk : Lk) (D : Ends) : List PV → Env → Prop
  | [], ρ => chk lk ρ ∧ D.nx (unlock lk ρ)
  | x :: xs, ρ => chk lk ρ ∧ wpTg tg x ρ fun ρ1 => body ρ1 { nx := forGo tg body lk D xs, ct := forGo tg body lk D xs, bk := fun ρ' => chk lk ρ' ∧ D.nx (unlock lk ρ'), rt := D.rt }

def whlGo (test : Env → (Bool → Env → Prop) → Prop) (body : Env → Ends → Prop) (D : Ends) : Nat → Env → Prop
  | 0, _ => False
  | n + 1, ρ => test ρ fun t ρ1 => if t = true then body ρ1 { nx := whlGo test body D n, ct := whlGo test body D n, bk := D.nx, rt := D.rt } else D.nx ρ1

def wpT (e : IE) (ρ : Env) (Q : Bool → Env → Prop) : Prop := wpE P C e ρ fun v ρ' => ∃ t, truth v = some t ∧ Q t ρ'

/-- several values for several names: a slot's own list is moved -/
def wpPar : IAs → Env → (List (Tag × PV) → Env → Prop) → Prop
  | .nil, ρ, Q => Q [] ρ
  | .cons (.ex e) r, ρ, Q => wpE P C e ρ fun v ρ1 => wpPar r ρ1 fun ts ρ2 => Q ((if e.fresh && mutv v then .o else .b, v) :: ts) ρ2
  | .cons (.sl j) r, ρ, Q => ∃ t v, ρ[j]? = some (some (t, v)) ∧ ((t = .b ∧ wpPar r ρ fun ts ρ2 => Q ((.b, v) :: ts) ρ2) ∨ (t = .o ∧ wpPar r (ρ.set j none) fun ts ρ2 => Q ((.o, v) :: ts) ρ2))
  | .cons (.ifo _ _ _) _, _, _ => False
def putAll : List Nat → List (Tag × PV) → Env → (Env → Prop) → Prop
  | [], [], ρ, Q => Q ρ
  | i :: is, y :: ts, ρ, Q => storable ρ i = true ∧ putAll is ts (ρ.set i (some y)) Q
  | _, _, _, _ => False
mutual
def wpS : IS → Env → Ends → Prop
  | .set i e, ρ, D => wpE P C e ρ fun v ρ' => setS i e.fresh v ρ' D.nx
  | .un ts e, ρ, D => wpE P C e ρ fun v ρ' => wpTg (.tp ts) v ρ' D.nx
  | .mv i j, ρ, D => ∃ t v, ρ[j]? = some (some (t, v)) ∧ storable ρ i = true ∧ ((t = .o ∧ D.nx ((ρ.set j none).set i (some (.o, v)))) ∨ (t = .b ∧ D.nx (ρ.set i (some (.b, v)))))
  | .par is as, ρ, D => wpPar P C as ρ fun ts ρ' => putAll is ts ρ' D.nx
  | .setIx j k e, ρ, D => wpE P C e ρ fun v ρ1 => ownd ρ1 j = true ∧ wpE P C k ρ1 fun i ρ2 => ∃ t xs, ρ2[j]? = some (some (t, .list xs)) ∧ (t = .o ∨ t = .m) ∧
      ∃ n, i = .int n ∧ ∃ p, L2.ixN xs.length n = some p ∧ D.nx (ρ2.set j (some (t, .list (xs.set p v))))
  | .aug i o e, ρ, D => ∃ a, clean ρ i = some (.int a) ∧ wpE P C e ρ fun v ρ1 => ∃ b, v = .int b ∧ ∃ r, evalOp o [.int a, .int b] = some r ∧ storable ρ1 i = true ∧ D.nx (ρ1.set i (some (.b, r)))
  | .app j e, ρ, D => ownd ρ j = true ∧ wpE P C e ρ fun v ρ1 => ∃ t xs, ρ1[j]? = some (some (t, .list xs)) ∧ (t = .o ∨ t = .m) ∧ xs.length < line ∧ D.nx (ρ1.set j (some (t, .list (xs ++ [v]))))
  | .exp e, ρ, D => wpE P C e ρ fun _ ρ' => D.nx ρ'
  | .ife c a b, ρ, D => wpT P C c ρ fun t ρ' => if t = true then wpSs a ρ' D else wpSs b ρ' D
  | .for_ it tg body, ρ, D => wpIt P C it ρ fun xs lk ρ1 => forGo tg (wpSs body) lk D xs ρ1
  | .whl c body, ρ, D => ∃ n, whlGo (wpT P C c) (wpSs body) D n ρ
  | .ret e, ρ, D => wpE P C e ρ fun v ρ' => (mutv v = true → e.fresh = true) ∧ D.rt v ρ'
  | .retv i, ρ, D => ∃ t v, ρ[i]? = some (some (t, v)) ∧ ((t = .o ∧ D.rt v (ρ.set i none)) ∨ (t = .b ∧ mutv v = false ∧ D.rt v ρ))
  | .retn, ρ, D => D.rt .none ρ
  | .brk, ρ, D => D.bk ρ
  | .cnt, ρ, D => D.ct ρ
  | .pas, ρ, D => D.nx ρ
  | .bad, _, _ => False
def wpSs : ISs → Env → Ends → Prop
  | .nil, ρ, D => D.nx ρ
  | .cons s r, ρ, D => wpS s ρ { D with nx := fun ρ' => wpSs r ρ' D }
end
end

def argSl (v : PV) : Option (Tag × PV) := some (if mutv v then .l else .b, v)
def initEnv (fd : FD) (vs : List PV) : Env :=
  (match fd.md, vs with
    | .io, v :: r => some (.m, v) :: r.map argSl
    | .scr, v :: r => some (.s, v) :: r.map argSl
    | _, _ => vs.map argSl) ++ List.replicate (fd.ns - vs.length) none
def ioVal (fd : FD) (ρ : Env) : Option PV := match fd.md with
  | .io => peek ρ 0
  | _ => none
def ioP (fd : FD) (ρ : Env) (Q : Option PV → Prop) : Prop := (fd.md = .io → ∃ w, ρ[0]? = some (some (.m, w))) ∧ Q (ioVal fd ρ)
def bodyP (P : Nat → Option FD) (C : CallP) (fd : FD) (vs : List PV) (Q : PV → Option PV → Prop) : Prop :=
  vs.length = fd.np ∧ fd.np ≤ fd.ns ∧ (fd.md ≠ .rd → ∃ v r, vs = v :: r ∧ mutv v = true) ∧ wpSs P C fd.body (initEnv fd vs) { nx := fun ρ => ioP fd ρ (Q .none), rt := fun v ρ => ioP fd ρ (Q v), bk := fun _ => False, ct := fun _ => False }
/-- calls, one in another at most d deep -/
def callN (P : Nat → Option FD) : Nat → CallP
  | 0, _, _, _ => False
  | d + 1, f, vs, Q => ∃ fd, P f = some fd ∧ bodyP P (callN P d) fd vs Q
end IR
namespace IR
open PySem

mutual
theorem wpTg_mono : ∀ (t : Tg) (v : PV) (ρ : Env) {Q Q' : Env → Prop}, (∀ ρ', Q ρ' → Q' ρ') → wpTg t v ρ Q → wpTg t v ρ Q'
  | .nm i, v, ρ, Q, Q', h, w => by
    unfold wpTg at w ⊢
    exact ⟨w.1, h _ w.2⟩
  | .tp ts, v, ρ, Q, Q', h, w => by
    unfold wpTg at w ⊢
    obtain ⟨l, e, e2, w⟩ := w
    exact ⟨l, e, e2, wpTgs_mono ts l ρ h w⟩
theorem wpTgs_mono : ∀ (ts : List Tg) (l : List PV) (ρ : Env) {Q Q' : Env → Prop}, (∀ ρ', Q ρ' → Q' ρ') → wpTgs ts l ρ Q → wpTgs ts l ρ Q'
  | [], l, ρ, Q, Q', h, w => by
    unfold wpTgs at w ⊢
    exact ⟨w.1, h _ w.2⟩
  | t :: ts, l, ρ, Q, Q', h, w => by
    unfold wpTgs at w ⊢
    obtain ⟨v, r, e, w⟩ := w
    exact ⟨v, r, e, wpTg_mono t v ρ (fun ρ' w' => wpTgs_mono ts r ρ' h w') w⟩
end

def MonoC (C : CallP) : Prop := ∀ f vs (Q Q' : PV → Option PV → Prop), (∀ v o, Q v o → Q' v o) → C f vs Q → C f vs Q'

theorem ite_mono {t : Bool} {A B A' B' : Prop} (ha : A → A') (hb : B → B') : (if t = true then A else B) → (if t = true then A' else B') := by
  cases t with
  | true => intro h; rw [if_pos rfl] at h ⊢; exact ha h
  | false => intro h; rw [if_neg Bool.false_ne_true] at h ⊢; exact hb h

section
variable {P : Nat → Option FD} {C : CallP}
theorem callD_mono (hC : MonoC C) {f : Nat} {ds : List Dsc} {ρ : Env} {Q Q' : PV → Env → Prop} (h : ∀ v ρ', Q v ρ' → Q' v ρ') : callD P C f ds ρ Q → callD P C f ds ρ Q' := by
  rintro ⟨fd, hf, w⟩
  refine ⟨fd, hf, ?_⟩
  cases e : fd.md with
  | rd =>
    rw [e] at w
    obtain ⟨vs, hv, w⟩ := w
    exact ⟨vs, hv, hC _ _ _ _ (fun v o q => h _ _ q) w⟩
  | io =>
    rw [e] at w
    obtain ⟨vs, hv, j, ds', h1, h2, t, w0, h3, h4, w⟩ := w
    exact ⟨vs, hv, j, ds', h1, h2, t, w0, h3, h4, hC _ _ _ _ (fun v o ⟨z, e1, q⟩ => ⟨z, e1, h _ _ q⟩) w⟩
  | scr =>
    rw [e] at w
    obtain ⟨j, ds', h1, w0, h2, vs, hv, w⟩ := w
    exact ⟨j, ds', h1, w0, h2, vs, hv, hC _ _ _ _ (fun v o q => h _ _ q) w⟩

theorem lcGo_mono {body body' : PV → Env → (Option PV → Env → Prop) → Prop} {own : List Nat} {lk : Lk}
    (hb : ∀ x ρ (R R' : Option PV → Env → Prop), (∀ r ρ', R r ρ' → R' r ρ') → body x ρ R → body' x ρ R') :
    ∀ (xs acc : List PV) (ρ : Env) {Q Q' : List PV → Env → Prop}, (∀ v ρ', Q v ρ' → Q' v ρ') → lcGo body own lk xs acc ρ Q → lcGo body' own lk xs acc ρ Q'
  | [], acc, ρ, Q, Q', h, w => by
    unfold lcGo at w ⊢
    exact ⟨w.1, h _ _ w.2⟩
  | x :: xs, acc, ρ, Q, Q', h, w => by
    unfold lcGo at w ⊢
    refine ⟨w.1, hb _ _ _ _ (fun r ρ' q => ?_) w.2⟩
    cases r with
    | none => exact lcGo_mono hb xs _ _ h q
    | some v => exact ⟨q.1, lcGo_mono hb xs _ _ h q.2⟩

mutual
theorem wpE_mono (hC : MonoC C) : ∀ (e : IE) (ρ : Env) {Q Q' : PV → Env → Prop}, (∀ v ρ', Q v ρ' → Q' v ρ') → wpE P C e ρ Q → wpE P C e ρ Q'
  | .bad, ρ, Q, Q', h, w => by unfold wpE at w; exact w.elim
  | .con v, ρ, Q, Q', h, w => by unfold wpE at w ⊢; exact h _ _ w
  | .var i, ρ, Q, Q', h, w => by unfold wpE at w ⊢; obtain ⟨v, e, w⟩ := w; exact ⟨v, e, h _ _ w⟩
  | .op o as, ρ, Q, Q', h, w => by
    unfold wpE at w ⊢
    exact wpAs_mono hC as ρ (fun ds ρ' ⟨vs, e1, v, e2, q⟩ => ⟨vs, e1, v, e2, h _ _ q⟩) w
  | .mkT es, ρ, Q, Q', h, w => by
    unfold wpE at w ⊢
    exact wpEs_mono hC es ρ (fun ds ρ' ⟨e1, q⟩ => ⟨e1, h _ _ q⟩) w
  | .mkL es, ρ, Q, Q', h, w => by
    unfold wpE at w ⊢
    exact wpEs_mono hC es ρ (fun ds ρ' ⟨e1, q⟩ => ⟨e1, h _ _ q⟩) w
  | .ife c a b, ρ, Q, Q', h, w => by
    unfold wpE at w ⊢
    exact wpE_mono hC c ρ (fun v ρ' ⟨t, e, q⟩ => ⟨t, e, ite_mono (wpE_mono hC a ρ' h) (wpE_mono hC b ρ' h) q⟩) w
  | .andE a b, ρ, Q, Q', h, w => by
    unfold wpE at w ⊢
    exact wpE_mono hC a ρ (fun v ρ' ⟨t, e, q⟩ => ⟨t, e, ite_mono (wpE_mono hC b ρ' h) (h _ _) q⟩) w
  | .orE a b, ρ, Q, Q', h, w => by
    unfold wpE at w ⊢
    exact wpE_mono hC a ρ (fun v ρ' ⟨t, e, q⟩ => ⟨t, e, ite_mono (h _ _) (wpE_mono hC b ρ' h) q⟩) w
  | .notE a, ρ, Q, Q', h, w => by
    unfold wpE at w ⊢
    exact wpE_mono hC a ρ (fun v ρ' ⟨t, e, q⟩ => ⟨t, e, h _ _ q⟩) w
  | .chn o1 o2 a b c, ρ, Q, Q', h, w => by
    unfold wpE at w ⊢
    exact wpE_mono hC a ρ (fun x ρ1 w1 => wpE_mono hC b ρ1 (fun y ρ2 ⟨t, e, q⟩ => ⟨t, e, ite_mono (wpE_mono hC c ρ2 fun z ρ3 ⟨v, e2, q2⟩ => ⟨v, e2, h _ _ q2⟩) (h _ _) q⟩) w1) w
  | .call f as, ρ, Q, Q', h, w => by
    unfold wpE at w ⊢
    exact wpAs_mono hC as ρ (fun ds ρ' q => callD_mono hC h q) w
  | .callk f as sel, ρ, Q, Q', h, w => by
    unfold wpE at w ⊢
    exact wpAs_mono hC as ρ (fun ds ρ' ⟨ds', e, q⟩ => ⟨ds', e, callD_mono hC h q⟩) w
  | .lc own it tg cond elt, ρ, Q, Q', h, w => by
    unfold wpE at w ⊢
    refine wpIt_mono hC it ρ (fun xs lk ρ1 q => ⟨q.1, ?_⟩) w
    refine lcGo_mono (fun x ρ R R' hR w2 => ?_) xs [] _ (fun v ρ' q2 => h _ _ q2) q.2
    exact wpTg_mono tg x ρ (fun ρ2 w3 => wpE_mono hC cond ρ2 (fun c ρ3 ⟨t, e, q3⟩ => ⟨t, e, ite_mono (wpE_mono hC elt ρ3 fun v ρ4 q4 => hR _ _ q4) (hR _ _) q3⟩) w3) w2
  | .pop j as, ρ, Q, Q', h, w => by
    unfold wpE at w ⊢
    exact ⟨w.1, wpAs_mono hC as ρ (fun ds ρ' ⟨vs, e1, t, xs, e2, e3, y, ys, e4, q⟩ => ⟨vs, e1, t, xs, e2, e3, y, ys, e4, h _ _ q⟩) w.2⟩
theorem wpEs_mono (hC : MonoC C) : ∀ (es : IEs) (ρ : Env) {Q Q' : List PV → Env → Prop}, (∀ v ρ', Q v ρ' → Q' v ρ') → wpEs P C es ρ Q → wpEs P C es ρ Q'
  | .nil, ρ, Q, Q', h, w => by unfold wpEs at w ⊢; exact h _ _ w
  | .cons e r, ρ, Q, Q', h, w => by
    unfold wpEs at w ⊢
    exact wpE_mono hC e ρ (fun v ρ1 w1 => wpEs_mono hC r ρ1 (fun vs ρ2 q => h _ _ q) w1) w
theorem wpD_mono (hC : MonoC C) : ∀ (a : IA) (ρ : Env) {Q Q' : Dsc → Env → Prop}, (∀ v ρ', Q v ρ' → Q' v ρ') → wpD P C a ρ Q → wpD P C a ρ Q'
  | .sl j, ρ, Q, Q', h, w => by unfold wpD at w ⊢; exact ⟨w.1, h _ _ w.2⟩
  | .ex e, ρ, Q, Q', h, w => by
    unfold wpD at w ⊢
    exact wpE_mono hC e ρ (fun v ρ' q => h _ _ q) w
  | .ifo c a b, ρ, Q, Q', h, w => by
    unfold wpD at w ⊢
    exact wpE_mono hC c ρ (fun v ρ' ⟨t, e, q⟩ => ⟨t, e, ite_mono (wpD_mono hC a ρ' h) (wpD_mono hC b ρ' h) q⟩) w
theorem wpAs_mono (hC : MonoC C) : ∀ (as : IAs) (ρ : Env) {Q Q' : List Dsc → Env → Prop}, (∀ v ρ', Q v ρ' → Q' v ρ') → wpAs P C as ρ Q → wpAs P C as ρ Q'
  | .nil, ρ, Q, Q', h, w => by unfold wpAs at w ⊢; exact h _ _ w
  | .cons a r, ρ, Q, Q', h, w => by
    unfold wpAs at w ⊢
    exact wpD_mono hC a ρ (fun v ρ1 w1 => wpAs_mono hC r ρ1 (fun vs ρ2 q => h _ _ q) w1) w
theorem wpIt_mono (hC : MonoC C) : ∀ (it : IT) (ρ : Env) {Q Q' : List PV → Lk → Env → Prop}, (∀ v lk ρ', Q v lk ρ' → Q' v lk ρ') → wpIt P C it ρ Q → wpIt P C it ρ Q'
  | .lst a, ρ, Q, Q', h, w => by
    unfold wpIt at w ⊢
    exact wpD_mono hC a ρ (fun d ρ' ⟨v, e1, xs, e2, q⟩ => ⟨v, e1, xs, e2, h _ _ _ q⟩) w
  | .rng as, ρ, Q, Q', h, w => by
    unfold wpIt at w ⊢
    exact wpAs_mono hC as ρ (fun d ρ' ⟨v, e1, xs, e2, q⟩ => ⟨v, e1, xs, e2, h _ _ _ q⟩) w
  | .enm a, ρ, Q, Q', h, w => by
    unfold wpIt at w ⊢
    exact wpD_mono hC a ρ (fun d ρ' ⟨v, e1, xs, e2, q⟩ => ⟨v, e1, xs, e2, h _ _ _ q⟩) w
  | .zip a b, ρ, Q, Q', h, w => by
    unfold wpIt at w ⊢
    exact wpD_mono hC a ρ (fun d ρ1 w1 => wpD_mono hC b ρ1 (fun e ρ2 ⟨v, e1, w, e2, xs, ys, e3, e4, q⟩ => ⟨v, e1, w, e2, xs, ys, e3, e4, h _ _ _ q⟩) w1) w
end

structure Ends.Le (D D' : Ends) : Prop where
  nx : ∀ ρ, D.nx ρ → D'.nx ρ
  rt : ∀ v ρ, D.rt v ρ → D'.rt v ρ
  bk : ∀ ρ, D.bk ρ → D'.bk ρ
  ct : ∀ ρ, D.ct ρ → D'.ct ρ

theorem forGo_mono {tg : Tg} {body body' : Env → Ends → Prop} {lk : Lk} {D D' : Ends} (hD : D.Le D') (hb : ∀ ρ E E', Ends.Le E E' → body ρ E → body' ρ E') :
    ∀ (xs : List PV) (ρ : Env), forGo tg body lk D xs ρ → forGo tg body' lk D' xs ρ
  | [], ρ, w => by
    unfold forGo at w ⊢
    exact ⟨w.1, hD.nx _ w.2⟩
  | x :: xs, ρ, w => by
    unfold forGo at w ⊢
    refine ⟨w.1, wpTg_mono tg x ρ (fun ρ1 w1 => hb _ _ _ ⟨?_, ?_, ?_, ?_⟩ w1) w.2⟩
    · exact fun ρ' q => forGo_mono hD hb xs ρ' q
    · exact fun v ρ' q => hD.rt _ _ q
    · exact fun ρ' q => ⟨q.1, hD.nx _ q.2⟩
    · exact fun ρ' q => forGo_mono hD hb xs ρ' q
theorem whlGo_mono {test test' : Env → (Bool → Env → Prop) → Prop} {body body' : Env → Ends → Prop} {D D' : Ends} (hD : D.Le D') (ht : ∀ ρ (Q Q' : Bool → Env → Prop), (∀ t ρ', Q t ρ' → Q' t ρ') → test ρ Q → test' ρ Q') (hb : ∀ ρ E E', Ends.Le E E' → body ρ E → body' ρ E') :
    ∀ (n : Nat) (ρ : Env), whlGo test body D n ρ → whlGo test' body' D' n ρ
  | 0, ρ, w => by unfold whlGo at w; exact w.elim
  | n + 1, ρ, w => by
    unfold whlGo at w ⊢
    refine ht _ _ _ (fun t ρ1 q => ite_mono (fun q => hb _ _ _ ⟨?_, ?_, ?_, ?_⟩ q) (hD.nx _) q) w
    · exact fun ρ' q => whlGo_mono hD ht hb n ρ' q
    · exact fun v ρ' q => hD.rt _ _ q
    · exact fun ρ' q => hD.nx _ q
    · exact fun ρ' q => whlGo_mono hD ht hb n ρ' q
theorem wpT_mono (hC : MonoC C) (e : IE) (ρ : Env) {Q Q' : Bool → Env → Prop} (h : ∀ v ρ', Q v ρ' → Q' v ρ') : wpT P C e ρ Q → wpT P C e ρ Q' :=
  wpE_mono hC e ρ fun v ρ' ⟨t, e, q⟩ => ⟨t, e, h _ _ q⟩
theorem setS_mono {i : Nat} {fr : Bool} {v : PV} {ρ : Env} {Q Q' : Env → Prop} (h : ∀ ρ', Q ρ' → Q' ρ') : setS i fr v ρ Q → setS i fr v ρ Q' := fun ⟨a, b⟩ => ⟨a, h _ b⟩

theorem wpPar_mono (hC : MonoC C) : ∀ (as : IAs) (ρ : Env) {Q Q' : List (Tag × PV) → Env → Prop}, (∀ v ρ', Q v ρ' → Q' v ρ') → wpPar P C as ρ Q → wpPar P C as ρ Q'
  | .nil, ρ, Q, Q', h, w => by unfold wpPar at w ⊢; exact h _ _ w
  | .cons (.ex e) r, ρ, Q, Q', h, w => by
    unfold wpPar at w ⊢
    exact wpE_mono hC e ρ (fun v ρ1 w1 => wpPar_mono hC r ρ1 (fun ts ρ2 q => h _ _ q) w1) w
  | .cons (.sl j) r, ρ, Q, Q', h, w => by
    unfold wpPar at w ⊢
    obtain ⟨t, v, e, w⟩ := w
    exact ⟨t, v, e, w.imp (fun w => ⟨w.1, wpPar_mono hC r _ (fun ts ρ2 q => h _ _ q) w.2⟩) fun w => ⟨w.1, wpPar_mono hC r _ (fun ts ρ2 q => h _ _ q) w.2⟩⟩
  | .cons (.ifo _ _ _) _, ρ, Q, Q', h, w => by unfold wpPar at w; exact w.elim
theorem putAll_mono : ∀ (is : List Nat) (ts : List (Tag × PV)) (ρ : Env) {Q Q' : Env → Prop}, (∀ ρ', Q ρ' → Q' ρ') → putAll is ts ρ Q → putAll is ts ρ Q'
  | [], [], ρ, Q, Q', h, w => by unfold putAll at w ⊢; exact h _ w
  | i :: is, y :: ts, ρ, Q, Q', h, w => by
    unfold putAll at w ⊢
    exact ⟨w.1, putAll_mono is ts _ h w.2⟩
  | [], _ :: _, ρ, Q, Q', h, w => by unfold putAll at w; exact w.elim
  | _ :: _, [], ρ, Q, Q', h, w => by unfold putAll at w; exact w.elim
mutual
theorem wpS_mono (hC : MonoC C) : ∀ (s : IS) (ρ : Env) {D D' : Ends}, D.Le D' → wpS P C s ρ D → wpS P C s ρ D'
  | .set i e, ρ, D, D', h, w => by
    unfold wpS at w ⊢
    exact wpE_mono hC e ρ (fun v ρ' q => setS_mono h.nx q) w
  | .un ts e, ρ, D, D', h, w => by
    unfold wpS at w ⊢
    exact wpE_mono hC e ρ (fun v ρ' q => wpTg_mono _ _ _ h.nx q) w
  | .mv i j, ρ, D, D', h, w => by
    unfold wpS at w ⊢
    obtain ⟨t, v, e1, e2, q⟩ := w
    exact ⟨t, v, e1, e2, q.imp (fun q => ⟨q.1, h.nx _ q.2⟩) fun q => ⟨q.1, h.nx _ q.2⟩⟩
  | .par is as, ρ, D, D', h, w => by
    unfold wpS at w ⊢
    exact wpPar_mono hC as ρ (fun ts ρ' q => putAll_mono is ts ρ' h.nx q) w
  | .setIx j k e, ρ, D, D', h, w => by
    unfold wpS at w ⊢
    exact wpE_mono hC e ρ (fun v ρ1 w1 => ⟨w1.1, wpE_mono hC k ρ1 (fun i ρ2 ⟨t, xs, e1, e2, n, e3, p, e4, q⟩ => ⟨t, xs, e1, e2, n, e3, p, e4, h.nx _ q⟩) w1.2⟩) w
  | .aug i o e, ρ, D, D', h, w => by
    unfold wpS at w ⊢
    obtain ⟨a, e1, w⟩ := w
    exact ⟨a, e1, wpE_mono hC e ρ (fun v ρ1 ⟨b, e2, r, e3, e4, q⟩ => ⟨b, e2, r, e3, e4, h.nx _ q⟩) w⟩
  | .app j e, ρ, D, D', h, w => by
    unfold wpS at w ⊢
    exact ⟨w.1, wpE_mono hC e ρ (fun v ρ1 ⟨t, xs, e1, e2, e3, q⟩ => ⟨t, xs, e1, e2, e3, h.nx _ q⟩) w.2⟩
  | .exp e, ρ, D, D', h, w => by
    unfold wpS at w ⊢
    exact wpE_mono hC e ρ (fun v ρ1 q => h.nx _ q) w
  | .ife c a b, ρ, D, D', h, w => by
    unfold wpS at w ⊢
    exact wpT_mono hC c ρ (fun t ρ' q => ite_mono (wpSs_mono hC a ρ' h) (wpSs_mono hC b ρ' h) q) w
  | .for_ it tg body, ρ, D, D', h, w => by
    unfold wpS at w ⊢
    exact wpIt_mono hC it ρ (fun xs lk ρ1 q => forGo_mono h (fun ρ E E' hE w => wpSs_mono hC body ρ hE w) xs ρ1 q) w
  | .whl c body, ρ, D, D', h, w => by
    unfold wpS at w ⊢
    obtain ⟨n, w⟩ := w
    exact ⟨n, whlGo_mono h (fun ρ Q Q' hQ w => wpT_mono hC c ρ hQ w) (fun ρ E E' hE w => wpSs_mono hC body ρ hE w) n ρ w⟩
  | .ret e, ρ, D, D', h, w => by
    unfold wpS at w ⊢
    exact wpE_mono hC e ρ (fun v ρ1 q => ⟨q.1, h.rt _ _ q.2⟩) w
  | .retv i, ρ, D, D', h, w => by
    unfold wpS at w ⊢
    obtain ⟨t, v, e1, q⟩ := w
    exact ⟨t, v, e1, q.imp (fun q => ⟨q.1, h.rt _ _ q.2⟩) fun q => ⟨q.1, q.2.1, h.rt _ _ q.2.2⟩⟩
  | .retn, ρ, D, D', h, w => by unfold wpS at w ⊢; exact h.rt _ _ w
  | .brk, ρ, D, D', h, w => by unfold wpS at w ⊢; exact h.bk _ w
  | .cnt, ρ, D, D', h, w => by unfold wpS at w ⊢; exact h.ct _ w
  | .pas, ρ, D, D', h, w => by unfold wpS at w ⊢; exact h.nx _ w
  | .bad, ρ, D, D', h, w => by unfold wpS at w; exact w.elim
theorem wpSs_mono (hC : MonoC C) : ∀ (s : ISs) (ρ : Env) {D D' : Ends}, D.Le D' → wpSs P C s ρ D → wpSs P C s ρ D'
  | .nil, ρ, D, D', h, w => by unfold wpSs at w ⊢; exact h.nx _ w
  | .cons s r, ρ, D, D', h, w => by
    unfold wpSs at w ⊢
    refine wpS_mono hC s ρ ?_ w
    exact ⟨fun ρ' q => wpSs_mono hC r ρ' h q, h.rt, h.bk, h.ct⟩
end
end

theorem bodyP_mono {P : Nat → Option FD} {C : CallP} (hC : MonoC C) {fd : FD} {vs : List PV} {Q Q' : PV → Option PV → Prop} (h : ∀ v o, Q v o → Q' v o) : bodyP P C fd vs Q → bodyP P C fd vs Q' :=
  fun ⟨e1, e2, e3, w⟩ => by
    refine ⟨e1, e2, e3, wpSs_mono hC _ _ ?_ w⟩
    exact ⟨fun ρ q => ⟨q.1, h _ _ q.2⟩, fun v ρ q => ⟨q.1, h _ _ q.2⟩, fun _ q => q, fun _ q => q⟩
theorem callN_mono (P : Nat → Option FD) : ∀ d, MonoC (callN P d)
  | 0 => fun _ _ _ _ _ w => by unfold callN at w; exact w.elim
  | d + 1 => fun f vs Q Q' h w => by
    unfold callN at w ⊢
    obtain ⟨fd, e, w⟩ := w
    exact ⟨fd, e, bodyP_mono (callN_mono P d) h w⟩
end IR
namespace IR
open PySem PySem.Spec L2

abbrev AS := Addr → Prop

mutual
inductive RV (K : PySem.W.Frag) (H : Hp) (A : AS) : PV → V → Prop
  | non : RV K H A .none .non
  | bl (b : Bool) : RV K H A (.bool b) (.bl b)
  | int (i : Int) : RV K H A (.int i) (.int i)
  | str (s : Str) : RV K H A (.str s) (.str s)
  | tup {a : Addr} {vs : List V} {l : List PV} : SqT K H a vs → RVs K H A l vs → RV K H A (.tuple l) (.ref a)
  | lst {a : Addr} {vs : List V} {l : List PV} : ¬ A a → Rd H a (.lst vs) → RVs K H A l vs → RV K H A (.list l) (.ref a)
inductive RVs (K : PySem.W.Frag) (H : Hp) (A : AS) : List PV → List V → Prop
  | nil : RVs K H A [] []
  | cons {d : PV} {x : V} {l : List PV} {vs : List V} : RV K H A d x → RVs K H A l vs → RVs K H A (d :: l) (x :: vs)
end

section
variable {K : PySem.W.Frag} {H H' : Hp} {A A' W : AS}
theorem RVs.length : ∀ {l : List PV} {vs : List V}, RVs K H A l vs → l.length = vs.length
  | _, _, .nil => rfl
  | _, _, .cons _ t => congrArg Nat.succ t.length
theorem RVs.get : ∀ {l : List PV} {vs : List V} {i : Nat} {d : PV}, RVs K H A l vs → l[i]? = some d → ∃ x, vs[i]? = some x ∧ RV K H A d x
  | _, _, _, _, .nil, e => by simp at e
  | _, _, 0, _, .cons r _, e => by simp at e; subst e; exact ⟨_, rfl, r⟩
  | _, _, i + 1, d, .cons _ t, e => by
    obtain ⟨x, h1, h2⟩ := RVs.get (i := i) (d := d) t (by simpa using e)
    exact ⟨x, by simpa using h1, h2⟩
theorem RVs.get' : ∀ {l : List PV} {vs : List V} {i : Nat} {x : V}, RVs K H A l vs → vs[i]? = some x → ∃ d, l[i]? = some d ∧ RV K H A d x
  | _, _, _, _, .nil, e => by simp at e
  | _, _, 0, _, .cons r _, e => by simp at e; subst e; exact ⟨_, rfl, r⟩
  | _, _, i + 1, x, .cons _ t, e => by
    obtain ⟨d, h1, h2⟩ := RVs.get' (i := i) (x := x) t (by simpa using e)
    exact ⟨d, by simpa using h1, h2⟩
theorem RVs.append : ∀ {l l' : List PV} {vs ws : List V}, RVs K H A l vs → RVs K H A l' ws → RVs K H A (l ++ l') (vs ++ ws)
  | _, _, _, _, .nil, s => s
  | _, _, _, _, .cons r t, s => .cons r (RVs.append t s)
theorem RVs.take : ∀ {l : List PV} {vs : List V} (n : Nat), RVs K H A l vs → RVs K H A (l.take n) (vs.take n)
  | _, _, 0, _ => .nil
  | _, _, _ + 1, .nil => .nil
  | _, _, n + 1, .cons r t => .cons r (RVs.take n t)
theorem RVs.drop : ∀ {l : List PV} {vs : List V} (n : Nat), RVs K H A l vs → RVs K H A (l.drop n) (vs.drop n)
  | _, _, 0, r => r
  | _, _, _ + 1, .nil => .nil
  | _, _, n + 1, .cons _ t => RVs.drop n t
theorem RVs.set {d : PV} {x : V} (r : RV K H A d x) : ∀ {l : List PV} {vs : List V} (i : Nat), RVs K H A l vs → RVs K H A (l.set i d) (vs.set i x)
  | _, _, _, .nil => .nil
  | _, _, 0, .cons _ t => .cons r t
  | _, _, i + 1, .cons q t => .cons q (RVs.set r i t)
theorem RVs.dropLast {l : List PV} {vs : List V} (h : RVs K H A l vs) : RVs K H A l.dropLast vs.dropLast := by
  rw [List.dropLast_eq_take, List.dropLast_eq_take, h.length]
  exact h.take _
theorem RVs.eraseIdx : ∀ {l : List PV} {vs : List V} (i : Nat), RVs K H A l vs → RVs K H A (l.eraseIdx i) (vs.eraseIdx i)
  | _, _, _, .nil => .nil
  | _, _, 0, .cons _ t => t
  | _, _, i + 1, .cons q t => .cons q (RVs.eraseIdx i t)
theorem RVs.one {d : PV} {vs : List V} (h : RVs K H A [d] vs) : ∃ x, vs = [x] ∧ RV K H A d x := by
  cases h with
  | cons r t => cases t; exact ⟨_, rfl, r⟩

/-- what may change between two heaps: W alone, and nothing that is told passes through it -/
structure Kp (W A A' : AS) (H H' : Hp) : Prop where
  keep : ∀ b o, H b = some o → ¬ W b → H' b = some o
  sub : ∀ b, W b → A b
  tup : ∀ b xs, W b → ¬ Rd H b (.tup xs)
  av : ∀ b, A' b → A b ∨ H b = none
theorem rd_some {H : Hp} {a : Addr} {u : HO} (r : Rd H a u) : ∃ o, H a = some o := by
  rcases r with r | ⟨o, r⟩
  · exact ⟨_, r⟩
  · exact ⟨_, r⟩
theorem Kp.rd (k : Kp W A A' H H') {a : Addr} {u : HO} (r : Rd H a u) (h : ¬ W a) : Rd H' a u := by
  rcases r with r | ⟨o, r⟩
  · exact .inl (k.keep _ _ r h)
  · exact .inr ⟨o, k.keep _ _ r h⟩
theorem Kp.sqT (k : Kp W A A' H H') {a : Addr} {xs : List V} (r : SqT K H a xs) : SqT K H' a xs := by
  rcases r with r | r
  · exact .inl (k.rd r fun w => k.tup _ _ w r)
  · exact .inr r
mutual
theorem RV.kp (k : Kp W A A' H H') : ∀ {v : PV} {x : V}, RV K H A v x → RV K H' A' v x
  | _, _, .non => .non
  | _, _, .bl b => .bl b
  | _, _, .int i => .int i
  | _, _, .str s => .str s
  | _, _, .tup h r => .tup (k.sqT h) (RVs.kp k r)
  | _, _, .lst n h r => .lst (fun z => (k.av _ z).elim n fun e => by obtain ⟨o, q⟩ := rd_some h; rw [q] at e; cases e) (k.rd h fun w => n (k.sub _ w)) (RVs.kp k r)
theorem RVs.kp (k : Kp W A A' H H') : ∀ {l : List PV} {vs : List V}, RVs K H A l vs → RVs K H' A' l vs
  | _, _, .nil => .nil
  | _, _, .cons r t => .cons (RV.kp k r) (RVs.kp k t)
end

-- a value's data, for ==
mutual
theorem RV.dp : ∀ {v : PV} {x : V}, RV K H A v x → Dp K H x v
  | _, _, .non => .non
  | _, _, .bl b => .bl b
  | _, _, .int i => .int i
  | _, _, .str s => .str s
  | _, _, .tup h r => .tup h (RVs.dp r)
  | _, _, .lst _ h r => .lst (.inl h) (RVs.dp r)
theorem RVs.dp : ∀ {l : List PV} {vs : List V}, RVs K H A l vs → DpAll K H vs l
  | _, _, .nil => .nil
  | _, _, .cons r t => .cons (RV.dp r) (RVs.dp t)
end
end

/-! ### slots -/
def baseT : Tag → Tag
  | .k t => baseT t
  | t => t
/-- pinned slots, addresses that the outside holds, addresses that are lent -/
structure Fm where
  L : List (Nat × Addr)
  O : AS
  B : AS
def Fm.add (F : Fm) (a : Addr) : Fm := { F with O := fun b => F.O b ∨ b = a }
abbrev Own := Nat → Option Addr
def Av (F : Fm) (own : Own) : AS := fun a => F.O a ∨ ∃ i, own i = some a
def setO (own : Own) (i : Nat) (a : Option Addr) : Own := fun j => if j = i then a else own j
theorem setO_same {own : Own} {i : Nat} {a : Option Addr} : setO own i a i = a := if_pos rfl
theorem setO_ne {own : Own} {i j : Nat} {a : Option Addr} (h : j ≠ i) : setO own i a j = own j := if_neg h

section
variable (K : PySem.W.Frag)
def MutAt (H : Hp) (A : AS) (a : Addr) (v : PV) : Prop :=
  match v with
  | .list l => ∃ vs, H a = some (.lst vs) ∧ RVs K H A l vs
  | _ => False
def LentAt (F : Fm) (own : Own) (H : Hp) (a : Addr) (v : PV) : Prop :=
  match v with
  | .list l => ∃ vs, Rd H a (.lst vs) ∧ F.B a ∧ RVs K H (Av F own) l vs
  | _ => False
def ScrAt (H : Hp) (a : Addr) (ns : List Int) : Prop :=
  (∃ o, H a = some (.frz o (.lst (ns.map V.int)))) ∨
    ∃ (o : Obj) (its : Array Value) (n : Nat), K.lookup a = some o ∧ o.cls = .type "list" ∧ o.dict = none ∧ o.data = .seq its n ∧ its.size ≤ sizeLine ∧ Vals (ns.map V.int) its.toList
def SlotR (F : Fm) (own : Own) (H : Hp) (i : Nat) (t : Tag) (v : PV) (x : V) : Prop :=
  match baseT t with
  | .b => RV K H (Av F own) v x
  | .o => ∃ a, own i = some a ∧ x = .ref a ∧ MutAt K H (Av F own) a v
  | .m => ∃ a, own i = some a ∧ x = .ref a ∧ MutAt K H (Av F own) a v
  | .l => ∃ a, x = .ref a ∧ LentAt K F own H a v
  | .s => ∃ a ns, x = .ref a ∧ v = .list (ns.map PyData.int) ∧ ScrAt K H a ns
  | .k _ => False
structure Rel (F : Fm) (own : Own) (ρ : Env) (σ : St) (H : Hp) : Prop where
  len : ρ.length = σ.length
  slot : ∀ i t v, ρ[i]? = some (some (t, v)) → ∃ x, σ[i]? = some (some x) ∧ SlotR K F own H i t v x
  dom : ∀ a, F.O a → H a ≠ none
  domB : ∀ a, F.B a → H a ≠ none
  ownB : ∀ i a, own i = some a → ¬ F.B a
  inj : ∀ i j a, own i = some a → own j = some a → i = j
  ownS : ∀ i a, own i = some a → ∃ t v, ρ[i]? = some (some (t, v)) ∧ isOwn t = true
  pin : ∀ p ∈ F.L, σ[p.1]? = some (some (.ref p.2)) ∧ ∃ t v, ρ[p.1]? = some (some (t, v)) ∧ pinnedTag t = true
end

section
variable {K : PySem.W.Frag} {F F' : Fm} {own own' : Own} {ρ ρ' : Env} {σ σ' : St} {H H' : Hp} {A : AS} {i j : Nat} {a : Addr} {v : PV} {x : V} {t : Tag}
theorem baseT_own : ∀ {t : Tag}, isOwn t = true → baseT t = .o ∨ baseT t = .m
  | .o, _ => .inl rfl
  | .m, _ => .inr rfl
  | .k t, h => baseT_own (t := t) h
  | .b, h => by cases h
  | .l, h => by cases h
  | .s, h => by cases h
theorem own_baseT : ∀ {t : Tag}, baseT t = .o ∨ baseT t = .m → isOwn t = true
  | .o, _ => rfl
  | .m, _ => rfl
  | .k t, h => own_baseT (t := t) h
  | .b, h => by rcases h with h | h <;> cases h
  | .l, h => by rcases h with h | h <;> cases h
  | .s, h => by rcases h with h | h <;> cases h
theorem baseT_nk : ∀ (t u : Tag), baseT t ≠ .k u
  | .k t, u => baseT_nk t u
  | .b, _ => by intro h; cases h
  | .o, _ => by intro h; cases h
  | .m, _ => by intro h; cases h
  | .l, _ => by intro h; cases h
  | .s, _ => by intro h; cases h
theorem SlotR.own_at (h : SlotR K F own H i t v x) (ho : isOwn t = true) : ∃ a, own i = some a ∧ x = .ref a ∧ MutAt K H (Av F own) a v := by
  unfold SlotR at h
  rcases baseT_own ho with e | e <;> rw [e] at h <;> exact h
theorem SlotR.of_own (ho : isOwn t = true) (h : ∃ a, own i = some a ∧ x = .ref a ∧ MutAt K H (Av F own) a v) : SlotR K F own H i t v x := by
  unfold SlotR
  rcases baseT_own ho with e | e <;> rw [e] <;> exact h
theorem MutAt.shape (h : MutAt K H A a v) : ∃ l vs, v = .list l ∧ H a = some (.lst vs) ∧ RVs K H A l vs := by
  cases v with
  | list l => obtain ⟨vs, e, r⟩ := h; exact ⟨l, vs, rfl, e, r⟩
  | _ => exact h.elim
theorem LentAt.shape (h : LentAt K F own H a v) : ∃ l vs, v = .list l ∧ Rd H a (.lst vs) ∧ F.B a ∧ RVs K H (Av F own) l vs := by
  cases v with
  | list l => obtain ⟨vs, e, r⟩ := h; exact ⟨l, vs, rfl, e, r⟩
  | _ => exact h.elim
theorem Rel.at_own (R : Rel K F own ρ σ H) (h : own i = some a) : ∃ t v, ρ[i]? = some (some (t, v)) ∧ isOwn t = true ∧ σ[i]? = some (some (.ref a)) ∧ MutAt K H (Av F own) a v := by
  obtain ⟨t, v, e, ho⟩ := R.ownS i a h
  obtain ⟨x, ex, s⟩ := R.slot i t v e
  obtain ⟨b, eb, rfl, m⟩ := s.own_at ho
  rw [h] at eb; cases eb
  exact ⟨t, v, e, ho, ex, m⟩
theorem Rel.own_lst (R : Rel K F own ρ σ H) (h : own i = some a) : ∃ vs, H a = some (.lst vs) := by
  obtain ⟨t, v, _, _, _, m⟩ := R.at_own h
  obtain ⟨l, vs, _, e, _⟩ := m.shape
  exact ⟨vs, e⟩
theorem Rel.av_dom (R : Rel K F own ρ σ H) : ∀ b, Av F own b → H b ≠ none := fun b h => by
  rcases h with h | ⟨i, h⟩
  · exact R.dom b h
  · obtain ⟨vs, e⟩ := R.own_lst h
    rw [e]; exact fun z => by cases z
/-- the changes that a frame's code may make -/
def Fr (own : Own) (H H' : Hp) : Prop := ∀ b o, H b = some o → (∀ i, own i ≠ some b) → H' b = some o
theorem Fr.refl (own : Own) (H : Hp) : Fr own H H := fun _ _ e _ => e
theorem Fr.trans {H1 H2 : Hp} (a : Fr own H H1) (b : Fr own H1 H2) : Fr own H H2 := fun c o e n => b c o (a c o e n) n
theorem Fr.of_same {H1 : Hp} (h : Same H H1) : Fr own H H1 := fun b o e _ => h b o e
theorem Rel.kp (R : Rel K F own ρ σ H) (fr : Fr own H H') (hA : ∀ b, A b → Av F own b ∨ H b = none) : Kp (fun b => ∃ i, own i = some b) (Av F own) A H H' where
  keep := fun b o e n => fr b o e fun i z => n ⟨i, z⟩
  sub := fun b h => .inr h
  tup := fun b xs ⟨i, h⟩ r => by
    obtain ⟨vs, e⟩ := R.own_lst h
    rcases r with r | ⟨o, r⟩ <;> rw [e] at r <;> cases r
  av := hA
theorem Kp.same (h : Same H H') (hA : ∀ b, A b → Av F own b ∨ H b = none) : Kp (fun _ => False) (Av F own) A H H' where
  keep := fun b o e _ => h b o e
  sub := fun _ z => z.elim
  tup := fun _ _ z => z.elim
  av := hA
theorem Same.rd {u : HO} (h : Same H H') (r : Rd H a u) : Rd H' a u := by
  rcases r with r | ⟨o, r⟩
  · exact .inl (h _ _ r)
  · exact .inr ⟨o, h _ _ r⟩
theorem Same.scr {ns : List Int} (h : Same H H') (r : ScrAt K H a ns) : ScrAt K H' a ns := by
  rcases r with ⟨o, r⟩ | r
  · exact .inl ⟨o, h _ _ r⟩
  · exact .inr r

/-- (1) the heap has grown; the outside may hold new addresses -/
theorem Rel.same (R : Rel K F own ρ σ H) (h : Same H H') (hL : F'.L = F.L) (hB : F'.B = F.B) (hO : ∀ b, F'.O b → F.O b ∨ H b = none) (hd : ∀ b, F'.O b → H' b ≠ none) : Rel K F' own ρ σ H' := by
  have hA : ∀ b, Av F' own b → Av F own b ∨ H b = none := fun b q => by
    rcases q with q | q
    · rcases hO b q with z | z
      · exact .inl (.inl z)
      · exact .inr z
    · exact .inl (.inr q)
  have k := Kp.same (F := F) (own := own) (A := Av F' own) h hA
  refine ⟨R.len, fun i t v e => ?_, hd, fun b q => ?_, fun i b e q => R.ownB i b e (by rw [← hB]; exact q), R.inj, R.ownS, fun p hp => R.pin p (by rw [← hL]; exact hp)⟩
  · obtain ⟨x, ex, s⟩ := R.slot i t v e
    refine ⟨x, ex, ?_⟩
    unfold SlotR at s ⊢
    cases eb : baseT t with
    | b => rw [eb] at s; exact s.kp k
    | o =>
      rw [eb] at s
      obtain ⟨a, h1, h2, m⟩ := s
      obtain ⟨l, vs, rfl, e1, r⟩ := m.shape
      exact ⟨a, h1, h2, vs, h _ _ e1, r.kp k⟩
    | m =>
      rw [eb] at s
      obtain ⟨a, h1, h2, m⟩ := s
      obtain ⟨l, vs, rfl, e1, r⟩ := m.shape
      exact ⟨a, h1, h2, vs, h _ _ e1, r.kp k⟩
    | l =>
      rw [eb] at s
      obtain ⟨a, h2, m⟩ := s
      obtain ⟨l, vs, rfl, e1, hb, r⟩ := m.shape
      exact ⟨a, h2, vs, Same.rd h e1, by rw [hB]; exact hb, r.kp k⟩
    | s =>
      rw [eb] at s
      obtain ⟨a, ns, h1, h2, m⟩ := s
      exact ⟨a, ns, h1, h2, Same.scr h m⟩
    | k u => exact absurd eb (baseT_nk t u)
  · have z := R.domB b (by rw [← hB]; exact q)
    cases e : H b with
    | none => exact absurd e z
    | some o => rw [h b o e]; exact fun z => by cases z
theorem Rel.same' (R : Rel K F own ρ σ H) (h : Same H H') : Rel K F own ρ σ H' :=
  R.same h rfl rfl (fun _ z => .inl z) fun b z => by
    cases e : H b with
    | none => exact absurd e (R.dom b z)
    | some o => rw [h b o e]; exact fun z => by cases z
theorem Rel.same_add (R : Rel K F own ρ σ H) (h : Same H H') (hn : H a = none) (ha : H' a ≠ none) : Rel K (F.add a) own ρ σ H' :=
  R.same (F' := F.add a) h rfl rfl (fun b z => z.elim .inl fun e => .inr (by rw [e]; exact hn)) fun b z => by
    rcases z with z | z
    · cases e : H b with
      | none => exact absurd e (R.dom b z)
      | some o => rw [h b o e]; exact fun z => by cases z
    · rw [z]; exact ha
/-- the outside's hold is loosened -/
theorem Rel.loose (R : Rel K F own ρ σ H) (hL : F'.L = F.L) (hB : F'.B = F.B) (hO : ∀ b, F'.O b → F.O b) : Rel K F' own ρ σ H :=
  R.same (Same.refl H) hL hB (fun b z => .inl (hO b z)) fun b z => R.dom b (hO b z)
theorem Rel.unadd (R : Rel K (F.add a) own ρ σ H) : Rel K F own ρ σ H := R.loose rfl rfl fun _ z => .inl z
theorem upd_same_of {o : HO} (h : H a = none) : Same H (upd H a o) := fun b u e => by
  rw [upd_ne (ne_of_none e h)]
  exact e
theorem RV.same (R : Rel K F own ρ σ H) (h : Same H H') (r : RV K H (Av F own) v x) : RV K H' (Av F own) v x := r.kp (Kp.same h fun _ z => .inl z)
theorem RV.fr (R : Rel K F own ρ σ H) (h : Fr own H H') (r : RV K H (Av F own) v x) : RV K H' (Av F own) v x := r.kp (R.kp h fun _ z => .inl z)
theorem RVs.fr {l : List PV} {vs : List V} (R : Rel K F own ρ σ H) (h : Fr own H H') (r : RVs K H (Av F own) l vs) : RVs K H' (Av F own) l vs := r.kp (R.kp h fun _ z => .inl z)
theorem Av_add (b : Addr) : Av (F.add a) own b ↔ Av F own b ∨ b = a := by
  unfold Av Fm.add
  constructor
  · rintro ((h | h) | h)
    · exact .inl (.inl h)
    · exact .inr h
    · exact .inl (.inr h)
  · rintro ((h | h) | h)
    · exact .inl (.inl h)
    · exact .inr h
    · exact .inl (.inr h)

/-- the slots' relation under another frame over the same heap -/
theorem SlotR.imp (s : SlotR K F own H i t v x) (hA : ∀ b, Av F' own' b → Av F own b) (ho : isOwn t = true → own' i = own i) (hB : F'.B = F.B) : SlotR K F' own' H i t v x := by
  have k : Kp (fun _ => False) (Av F own) (Av F' own') H H := Kp.same (Same.refl H) fun b z => .inl (hA b z)
  unfold SlotR at s ⊢
  cases eb : baseT t with
  | b => rw [eb] at s; exact s.kp k
  | o =>
    rw [eb] at s
    obtain ⟨a, h1, h2, m⟩ := s
    obtain ⟨l, vs, rfl, e1, r⟩ := m.shape
    exact ⟨a, by rw [ho (own_baseT (.inl eb))]; exact h1, h2, vs, e1, r.kp k⟩
  | m =>
    rw [eb] at s
    obtain ⟨a, h1, h2, m⟩ := s
    obtain ⟨l, vs, rfl, e1, r⟩ := m.shape
    exact ⟨a, by rw [ho (own_baseT (.inr eb))]; exact h1, h2, vs, e1, r.kp k⟩
  | l =>
    rw [eb] at s
    obtain ⟨a, h2, m⟩ := s
    obtain ⟨l, vs, rfl, e1, hb, r⟩ := m.shape
    exact ⟨a, h2, vs, e1, by rw [hB]; exact hb, r.kp k⟩
  | s => rw [eb] at s; exact s
  | k u => exact absurd eb (baseT_nk t u)

theorem storable_lt (h : storable ρ i = true) : i < ρ.length := by
  unfold storable at h
  cases e : ρ[i]? with
  | none => rw [e] at h; cases h
  | some y => exact (List.getElem?_eq_some_iff.mp e).1
theorem storable_np (h : storable ρ i = true) (e : ρ[i]? = some (some (t, v))) : pinnedTag t = false := by
  unfold storable at h
  rw [e] at h
  simpa using h
theorem Rel.pin_ne (R : Rel K F own ρ σ H) (h : storable ρ i = true) : ∀ p ∈ F.L, p.1 ≠ i := fun p hp e => by
  obtain ⟨_, t, v, e1, e2⟩ := R.pin p hp
  rw [e] at e1
  rw [storable_np h e1] at e2
  cases e2
theorem Av_setO (b : Addr) (h : Av F (setO own i none) b) : Av F own b := by
  rcases h with h | ⟨j, h⟩
  · exact .inl h
  · by_cases e : j = i
    · subst e; rw [setO_same] at h; cases h
    · rw [setO_ne e] at h; exact .inr ⟨j, h⟩
theorem setO_none {b : Addr} (h : setO own i none j = some b) : j ≠ i ∧ own j = some b := by
  by_cases e : j = i
  · subst e; rw [setO_same] at h; cases h
  · rw [setO_ne e] at h; exact ⟨e, h⟩
/-- (3) a shared value is stored -/
theorem Rel.assign (R : Rel K F own ρ σ H) (hs : storable ρ i = true) (r : RV K H (Av F own) v x) : Rel K F (setO own i none) (ρ.set i (some (.b, v))) (σ.set i (some x)) H := by
  have hi := storable_lt hs
  have hiσ : i < σ.length := by rw [← R.len]; exact hi
  refine ⟨by simpa using R.len, fun j u w e => ?_, R.dom, R.domB, fun j b h => R.ownB j b (setO_none h).2, fun j k b h1 h2 => R.inj j k b (setO_none h1).2 (setO_none h2).2, fun j b h => ?_, fun p hp => ?_⟩
  · by_cases hj : j = i
    · subst hj
      rw [List.getElem?_set_self hi] at e
      cases e
      refine ⟨x, List.getElem?_set_self hiσ, ?_⟩
      show RV K H _ v x
      exact r.kp (Kp.same (Same.refl H) fun b z => .inl (Av_setO b z))
    · rw [List.getElem?_set_ne (Ne.symm hj)] at e
      obtain ⟨y, ey, s⟩ := R.slot j u w e
      refine ⟨y, by rw [List.getElem?_set_ne (Ne.symm hj)]; exact ey, s.imp (fun b z => Av_setO b z) (fun _ => setO_ne hj) rfl⟩
  · obtain ⟨hj, h'⟩ := setO_none h
    obtain ⟨u, w, e, o⟩ := R.ownS j b h'
    exact ⟨u, w, by rw [List.getElem?_set_ne (Ne.symm hj)]; exact e, o⟩
  · have hne := R.pin_ne hs p hp
    obtain ⟨e1, u, w, e2, e3⟩ := R.pin p hp
    exact ⟨by rw [List.getElem?_set_ne (Ne.symm hne)]; exact e1, u, w, by rw [List.getElem?_set_ne (Ne.symm hne)]; exact e2, e3⟩
/-- (4) a new list is stored: its slot owns it -/
theorem Rel.assignO (R : Rel K (F.add a) own ρ σ H) (hs : storable ρ i = true) (m : MutAt K H (Av (F.add a) own) a v) (ha : ∀ j, own j ≠ some a) (hb : ¬ F.B a) :
    Rel K F (setO own i (some a)) (ρ.set i (some (.o, v))) (σ.set i (some (.ref a))) H := by
  have hi := storable_lt hs
  have hiσ : i < σ.length := by rw [← R.len]; exact hi
  have hA : ∀ b, Av F (setO own i (some a)) b → Av (F.add a) own b := fun b h => by
    rw [Av_add]
    rcases h with h | ⟨j, h⟩
    · exact .inl (.inl h)
    · by_cases e : j = i
      · subst e; rw [setO_same] at h; cases h; exact .inr rfl
      · rw [setO_ne e] at h; exact .inl (.inr ⟨j, h⟩)
  refine ⟨by simpa using R.len, fun j u w e => ?_, fun b h => R.dom b (.inl h), R.domB, fun j b h z => ?_, fun j k b h1 h2 => ?_, fun j b h => ?_, fun p hp => ?_⟩
  · by_cases hj : j = i
    · subst hj
      rw [List.getElem?_set_self hi] at e
      cases e
      refine ⟨.ref a, List.getElem?_set_self hiσ, ?_⟩
      obtain ⟨l, vs, rfl, e1, r⟩ := m.shape
      exact ⟨a, setO_same, rfl, vs, e1, r.kp (Kp.same (Same.refl H) fun b z => .inl (hA b z))⟩
    · rw [List.getElem?_set_ne (Ne.symm hj)] at e
      obtain ⟨y, ey, s⟩ := R.slot j u w e
      refine ⟨y, by rw [List.getElem?_set_ne (Ne.symm hj)]; exact ey, s.imp hA (fun _ => setO_ne hj) rfl⟩
  · by_cases hj : j = i
    · subst hj; rw [setO_same] at h; cases h; exact hb z
    · rw [setO_ne hj] at h; exact R.ownB j b h z
  · by_cases hj : j = i
    · by_cases hk : k = i
      · rw [hj, hk]
      · subst hj
        rw [setO_same] at h1; cases h1
        rw [setO_ne hk] at h2
        exact absurd h2 (ha k)
    · by_cases hk : k = i
      · subst hk
        rw [setO_same] at h2; cases h2
        rw [setO_ne hj] at h1
        exact absurd h1 (ha j)
      · rw [setO_ne hj] at h1
        rw [setO_ne hk] at h2
        exact R.inj j k b h1 h2
  · by_cases hj : j = i
    · subst hj
      exact ⟨.o, v, List.getElem?_set_self hi, rfl⟩
    · rw [setO_ne hj] at h
      obtain ⟨u, w, e, o⟩ := R.ownS j b h
      exact ⟨u, w, by rw [List.getElem?_set_ne (Ne.symm hj)]; exact e, o⟩
  · have hne := R.pin_ne hs p hp
    obtain ⟨e1, u, w, e2, e3⟩ := R.pin p hp
    exact ⟨by rw [List.getElem?_set_ne (Ne.symm hne)]; exact e1, u, w, by rw [List.getElem?_set_ne (Ne.symm hne)]; exact e2, e3⟩
/-- (2) an owned list is changed in place; new objects may have come, the outside may hold some of them -/
theorem Rel.write' {l' : List PV} {ws : List V} (R : Rel K F own ρ σ H) (e : ρ[i]? = some (some (t, v))) (ho : isOwn t = true) (h : own i = some a) (hL : F'.L = F.L) (hB : F'.B = F.B) (hO : ∀ b, F'.O b → F.O b ∨ H b = none) (hd : ∀ b, F'.O b → H' b ≠ none)
    (keep : ∀ b o, H b = some o → b ≠ a → H' b = some o) (hw : H' a = some (.lst ws)) (r : RVs K H' (Av F' own) l' ws) :
    Rel K F' own (ρ.set i (some (t, .list l'))) σ H' := by
  have hi : i < ρ.length := (List.getElem?_eq_some_iff.mp e).1
  obtain ⟨t0, v0, e0, _, ex, m⟩ := R.at_own h
  rw [e] at e0; cases e0
  obtain ⟨l0, vs0, rfl, eH, _⟩ := m.shape
  have hA : ∀ b, Av F' own b → Av F own b ∨ H b = none := fun b q => by
    rcases q with q | q
    · rcases hO b q with z | z
      · exact .inl (.inl z)
      · exact .inr z
    · exact .inl (.inr q)
  have k : Kp (fun b => b = a) (Av F own) (Av F' own) H H' := {
    keep := fun b o q n => keep b o q n
    sub := fun b q => .inr ⟨i, by rw [q]; exact h⟩
    tup := fun b xs q z => by
      rw [q] at z
      rcases z with z | ⟨o, z⟩ <;> rw [eH] at z <;> cases z
    av := hA }
  have dm : ∀ b, H b ≠ none → H' b ≠ none := fun b n => by
    by_cases q : b = a
    · rw [q, hw]; exact fun z => by cases z
    · cases z : H b with
      | none => exact absurd z n
      | some o => rw [keep b o z q]; exact fun z => by cases z
  refine ⟨by simpa using R.len, fun j s w q => ?_, hd, fun b z => dm b (R.domB b (by rw [← hB]; exact z)), fun j b z z2 => R.ownB j b z (by rw [← hB]; exact z2), R.inj, fun j b z => ?_, fun p hp => ?_⟩
  · by_cases hj : j = i
    · subst hj
      rw [List.getElem?_set_self hi] at q
      cases q
      exact ⟨.ref a, ex, .of_own ho ⟨a, h, rfl, ws, hw, r⟩⟩
    · rw [List.getElem?_set_ne (Ne.symm hj)] at q
      obtain ⟨y, ey, sl⟩ := R.slot j s w q
      refine ⟨y, ey, ?_⟩
      have own_j : ∀ {b}, own j = some b → b ≠ a := fun {b} z z2 => hj (R.inj j i a (by rw [← z2]; exact z) h)
      unfold SlotR at sl ⊢
      cases eb : baseT s with
      | b => rw [eb] at sl; exact sl.kp k
      | o =>
        rw [eb] at sl
        obtain ⟨b, h1, h2, m⟩ := sl
        obtain ⟨l, vs, rfl, e1, r⟩ := m.shape
        exact ⟨b, h1, h2, vs, keep _ _ e1 (own_j h1), r.kp k⟩
      | m =>
        rw [eb] at sl
        obtain ⟨b, h1, h2, m⟩ := sl
        obtain ⟨l, vs, rfl, e1, r⟩ := m.shape
        exact ⟨b, h1, h2, vs, keep _ _ e1 (own_j h1), r.kp k⟩
      | l =>
        rw [eb] at sl
        obtain ⟨b, h2, m⟩ := sl
        obtain ⟨l, vs, rfl, e1, hB', r⟩ := m.shape
        exact ⟨b, h2, vs, k.rd e1 (fun z => R.ownB i a h (by rw [← z]; exact hB')), by rw [hB]; exact hB', r.kp k⟩
      | s =>
        rw [eb] at sl
        obtain ⟨b, ns, h1, h2, m⟩ := sl
        refine ⟨b, ns, h1, h2, ?_⟩
        rcases m with ⟨o, m⟩ | m
        · exact .inl ⟨o, keep _ _ m (fun z => by rw [z, eH] at m; cases m)⟩
        · exact .inr m
      | k u => exact absurd eb (baseT_nk s u)
  · obtain ⟨s, w, q, o⟩ := R.ownS j b z
    by_cases hj : j = i
    · subst hj
      exact ⟨t, _, List.getElem?_set_self hi, ho⟩
    · exact ⟨s, w, by rw [List.getElem?_set_ne (Ne.symm hj)]; exact q, o⟩
  · obtain ⟨e1, s, w, e2, e3⟩ := R.pin p (by rw [← hL]; exact hp)
    refine ⟨e1, ?_⟩
    by_cases hj : p.1 = i
    · rw [hj] at e2 ⊢
      rw [e] at e2; cases e2
      exact ⟨t, _, List.getElem?_set_self hi, e3⟩
    · exact ⟨s, w, by rw [List.getElem?_set_ne (Ne.symm hj)]; exact e2, e3⟩
theorem Rel.write {l' : List PV} {ws : List V} (R : Rel K F own ρ σ H) (e : ρ[i]? = some (some (t, v))) (ho : isOwn t = true) (h : own i = some a) (r : RVs K H (Av F own) l' ws) :
    Rel K F own (ρ.set i (some (t, .list l'))) σ (upd H a (.lst ws)) := by
  obtain ⟨vs0, eH⟩ := R.own_lst h
  have k : Kp (fun b => b = a) (Av F own) (Av F own) H (upd H a (.lst ws)) := {
    keep := fun b o q n => by rw [upd_ne n]; exact q
    sub := fun b q => .inr ⟨i, by rw [q]; exact h⟩
    tup := fun b xs q z => by
      rw [q] at z
      rcases z with z | ⟨o, z⟩ <;> rw [eH] at z <;> cases z
    av := fun b z => .inl z }
  refine R.write' e ho h rfl rfl (fun _ z => .inl z) (fun b z => ?_) (fun b o q n => by rw [upd_ne n]; exact q) upd_same (r.kp k)
  by_cases q : b = a
  · rw [q, upd_same]; exact fun z => by cases z
  · rw [upd_ne q]; exact R.dom b z
/-- (5) a slot lets go its list -/
theorem Rel.kill (R : Rel K F own ρ σ H) (e : ρ[i]? = some (some (.o, v))) (h : own i = some a) : Rel K (F.add a) (setO own i none) (ρ.set i none) σ H ∧ MutAt K H (Av (F.add a) (setO own i none)) a v := by
  have hi : i < ρ.length := (List.getElem?_eq_some_iff.mp e).1
  obtain ⟨t0, v0, e0, _, ex, m⟩ := R.at_own h
  rw [e] at e0; cases e0
  obtain ⟨l0, vs0, rfl, eH, r0⟩ := m.shape
  have hA : ∀ b, Av (F.add a) (setO own i none) b → Av F own b := fun b z => by
    rw [Av_add] at z
    rcases z with z | z
    · exact Av_setO b z
    · exact .inr ⟨i, by rw [z]; exact h⟩
  refine ⟨⟨by simpa using R.len, fun j u w q => ?_, fun b z => ?_, R.domB, fun j b z => R.ownB j b (setO_none z).2, fun j k b h1 h2 => R.inj j k b (setO_none h1).2 (setO_none h2).2, fun j b z => ?_, fun p hp => ?_⟩, ?_⟩
  · by_cases hj : j = i
    · subst hj
      rw [List.getElem?_set_self hi] at q
      cases q
    · rw [List.getElem?_set_ne (Ne.symm hj)] at q
      obtain ⟨y, ey, s⟩ := R.slot j u w q
      exact ⟨y, ey, s.imp hA (fun _ => setO_ne hj) rfl⟩
  · rcases z with z | z
    · exact R.dom b z
    · rw [z, eH]; exact fun z => by cases z
  · obtain ⟨hj, z'⟩ := setO_none z
    obtain ⟨u, w, q, o⟩ := R.ownS j b z'
    exact ⟨u, w, by rw [List.getElem?_set_ne (Ne.symm hj)]; exact q, o⟩
  · obtain ⟨e1, u, w, e2, e3⟩ := R.pin p hp
    have hne : p.1 ≠ i := fun z => by
      rw [z, e] at e2; cases e2; cases e3
    exact ⟨e1, u, w, by rw [List.getElem?_set_ne (Ne.symm hne)]; exact e2, e3⟩
  · exact ⟨vs0, eH, r0.kp (Kp.same (Same.refl H) fun b z => .inl (hA b z))⟩
end
end IR
namespace IR
open PySem PySem.Spec L2 PyProof.Rows

def RTk (K : PySem.W.Frag) (kl : Bool) (H : Hp) (A : AS) (v : PV) (x : V) : Prop :=
  RV K H A v x ∨ (∃ a l vs, v = .list l ∧ x = .ref a ∧ Rd H a (.lst vs) ∧ RVs K H A l vs) ∨ (kl = true ∧ ∃ a ns, v = .list (ns.map PyData.int) ∧ x = .ref a ∧ ScrAt K H a ns)
inductive RTs (K : PySem.W.Frag) (kl : Bool) (H : Hp) (A : AS) : List PV → List V → Prop
  | nil : RTs K kl H A [] []
  | cons {d : PV} {x : V} {l : List PV} {vs : List V} : RTk K kl H A d x → RTs K kl H A l vs → RTs K kl H A (d :: l) (x :: vs)

structure PostOp (K : PySem.W.Frag) (H H' : Hp) (A : AS) (fr : Bool) (v : PV) (z : V) : Prop where
  same : Same H H'
  val : RV K H' A v z
  new : fr = true → mutv v = true → ∃ a, z = .ref a ∧ H a = none ∧ MutAt K H' (fun b => A b ∨ b = a) a v

def opN (K : PySem.W.Frag) (o : Op) : List V → Hp → VK → Prop := fun xs H Q =>
  ∃ (A : AS) (vs : List PV) (v : PV), (∀ b, A b → H b ≠ none) ∧ RTs K o.kl H A vs xs ∧ evalOp o vs = some v ∧ ∀ z H', PostOp K H H' A o.fresh v z → Q z H'

section
variable {K : PySem.W.Frag} {H H' : Hp} {A : AS} {kl fr : Bool} {v w : PV} {x y z : V} {a : Addr}
theorem RTk.int {i : Int} (h : RTk K kl H A (.int i) x) : x = .int i := by
  rcases h with h | ⟨a, l, vs, e, _⟩ | ⟨_, a, ns, e, _⟩
  · cases h; rfl
  · cases e
  · cases e
theorem RTk.tup {l : List PV} (h : RTk K kl H A (.tuple l) x) : ∃ a vs, x = .ref a ∧ SqT K H a vs ∧ RVs K H A l vs := by
  rcases h with h | ⟨a, l, vs, e, _⟩ | ⟨_, a, ns, e, _⟩
  · cases h with
    | tup h r => exact ⟨_, _, rfl, h, r⟩
  · cases e
  · cases e
theorem RTk.lst {l : List PV} (h : RTk K false H A (.list l) x) : ∃ a vs, x = .ref a ∧ Rd H a (.lst vs) ∧ RVs K H A l vs := by
  rcases h with h | ⟨a, l', vs, e, e2, h, r⟩ | ⟨e, _⟩
  · cases h with
    | lst _ h r => exact ⟨_, _, rfl, h, r⟩
  · cases e; exact ⟨a, vs, e2, h, r⟩
  · cases e
theorem RVs.ints : ∀ ns : List Int, RVs K H A (ns.map PyData.int) (ns.map V.int)
  | [] => .nil
  | n :: ns => .cons (.int n) (RVs.ints ns)
theorem RTk.sqL {l : List PV} (h : RTk K kl H A (.list l) x) : ∃ a vs, x = .ref a ∧ SqL K H a vs ∧ RVs K H A l vs := by
  rcases h with h | ⟨a, l', vs, e, e2, h, r⟩ | ⟨_, a, ns, e, e2, h⟩
  · cases h with
    | lst _ h r => exact ⟨_, _, rfl, .inl h, r⟩
  · cases e; exact ⟨a, vs, e2, .inl h, r⟩
  · cases e
    refine ⟨a, ns.map V.int, e2, ?_, RVs.ints ns⟩
    rcases h with ⟨o, h⟩ | h
    · exact .inl (.inr ⟨o, h⟩)
    · exact .inr h
theorem RTk.dp (h : RTk K false H A v x) : Dp K H x v := by
  rcases h with h | ⟨a, l', vs, e, e2, h, r⟩ | ⟨e, _⟩
  · exact h.dp
  · subst e; subst e2; exact .lst (.inl h) r.dp
  · cases e
theorem RTs.two {vs : List PV} (h : RTs K kl H A vs [x, y]) : ∃ v w, vs = [v, w] ∧ RTk K kl H A v x ∧ RTk K kl H A w y := by
  cases h with
  | cons r t =>
    cases t with
    | cons r2 t2 => cases t2; exact ⟨_, _, rfl, r, r2⟩
theorem RTs.one {vs : List PV} (h : RTs K kl H A vs [x]) : ∃ v, vs = [v] ∧ RTk K kl H A v x := by
  cases h with
  | cons r t => cases t; exact ⟨_, rfl, r⟩

/-- the ways in which an operation ends -/
theorem PostOp.pure (r : RV K H A v z) (hv : mutv v = false) : PostOp K H H A fr v z :=
  ⟨Same.refl H, r, fun _ h => by rw [hv] at h; cases h⟩
theorem kpN (h : H a = none) {o : HO} {A' : AS} (hA : ∀ b, A' b → A b ∨ b = a) : Kp (fun _ => False) A A' H (upd H a o) where
  keep := fun b u e _ => by rw [upd_ne (ne_of_none e h)]; exact e
  sub := fun _ z => z.elim
  tup := fun _ _ z => z.elim
  av := fun b z => (hA b z).imp id fun e => by rw [e]; exact h
theorem PostOp.newT {l : List PV} {vs : List V} (r : RVs K H A l vs) (h : H a = none) : PostOp K H (upd H a (.tup vs)) A fr (.tuple l) (.ref a) :=
  ⟨upd_same_of h, .tup (SqT.of upd_same) (r.kp (kpN h fun _ z => .inl z)), fun _ h => by cases h⟩
theorem PostOp.newL {l : List PV} {vs : List V} (hd : ∀ b, A b → H b ≠ none) (r : RVs K H A l vs) (h : H a = none) : PostOp K H (upd H a (.lst vs)) A fr (.list l) (.ref a) :=
  ⟨upd_same_of h, .lst (fun z => hd _ z h) (Rd.of upd_same) (r.kp (kpN h fun _ z => .inl z)), fun _ _ => ⟨a, rfl, h, vs, upd_same, r.kp (kpN h fun _ z => z)⟩⟩
end

section
variable {X : Cx}
theorem rd_lstM {pins : List (Addr × Obj)} {σ : L2.St} {H : Hp} {s : Shared} {l : Addr} {xs : List V} (I : Inv X pins σ H s) (hH : Rd H l (.lst xs)) :
    xs.length ≤ sizeLine ∧ ∃ (its : List Value) (n : Nat), Vals xs its ∧ xs.length = its.length ∧ s.heap.get? l = some { cls := .type "list", data := .seq its.toArray n } := by
  obtain ⟨z, its, n, r, e⟩ := hH.ok I.hok
  exact ⟨z, its, n, r, r.length, e⟩
def rCatR : R2 := fun x y H Q => ∃ l b xs zs, x = .ref l ∧ y = .ref b ∧ Rd H l (.lst xs) ∧ Rd H b (.lst zs) ∧ xs.length + zs.length ≤ sizeLine ∧ ∀ p, H p = none → Q (.ref p) (upd H p (.lst (xs ++ zs)))
theorem op_catR : OpR X (binaryOp .Add) rCatR := by
  intro pins s σ H x y v u Q I rx ry h
  obtain ⟨l, b, xs, zs, rfl, rfl, hH, hB, hz, q⟩ := h
  cases rx
  cases ry
  obtain ⟨z, its, n, r, hl, e⟩ := rd_lstM I hH
  obtain ⟨z2, its2, n2, r2, hl2, e2⟩ := rd_lstM I hB
  refine PySem.P.add_list e e2 ?_ (by rw [List.size_toArray, List.size_toArray]; omega)
  have ea : its.toArray ++ its2.toArray = (its ++ its2).toArray := by simp
  rw [ea]
  exact ⟨.ref _, _, I.lnew (t' := s.toks) (r.append r2) (by rw [List.length_append]; omega), rfl, q _ I.fresh⟩

theorem line_eq : line = sizeLine := by rw [sizeLine_eq]; rfl

theorem ok_add : OpR X (binaryOp .Add) (fun x y H Q => opN X.K .add [x, y] H Q) := by
  intro pins s σ H x y u w Q I rx ry h
  obtain ⟨A, vs, v, hd, ht, e, q⟩ := h
  obtain ⟨v1, v2, rfl, t1, t2⟩ := ht.two
  unfold evalOp opAdd at e
  simp only at e
  split at e
  · rename_i i j he
    cases he
    cases e
    exact op_add pins s σ H x y u w Q I rx ry ⟨i, j, t1.int, t2.int, q _ _ (.pure (.int _) rfl)⟩
  · rename_i l1 l2 he
    cases he
    split at e
    · rename_i hl
      cases e
      obtain ⟨a, xs, rfl, h1, r1⟩ := t1.tup
      obtain ⟨b, ys, rfl, h2, r2⟩ := t2.tup
      have e1 := r1.length
      have e2 := r2.length
      rw [line_eq] at hl
      refine op_catA pins s σ H _ _ u w Q I rx ry ⟨a, b, xs, ys, rfl, rfl, h1, h2, by omega, fun z => ?_, fun _ z => ?_, fun _ _ p hp => ?_⟩
      · subst z
        cases r1
        exact q _ _ (.pure (.tup h2 r2) rfl)
      · subst z
        cases r2
        rw [List.append_nil] at q
        exact q _ _ (.pure (.tup h1 r1) rfl)
      · exact q _ _ (.newT (r1.append r2) hp)
    · cases e
  · rename_i l1 l2 he
    cases he
    split at e
    · rename_i hl
      cases e
      obtain ⟨a, xs, rfl, h1, r1⟩ := t1.lst
      obtain ⟨b, ys, rfl, h2, r2⟩ := t2.lst
      have e1 := r1.length
      have e2 := r2.length
      rw [line_eq] at hl
      exact op_catR pins s σ H _ _ u w Q I rx ry ⟨a, b, xs, ys, rfl, rfl, h1, h2, by omega, fun p hp => q _ _ (.newL hd (r1.append r2) hp)⟩
    · cases e
  · cases e
theorem small64_ok {i : Int} (h : small64 i = true) : -(2 ^ 64) < i ∧ i < 2 ^ 64 := by
  unfold small64 at h
  simpa using h
/-- an operation of two ints -/
theorem ok_ints {f : Value → Value → Sem Value} {o : Op} {C : Int → Int → Prop} {g : Int → Int → Int} (ho : OpR X f (rI C fun i j => .int (g i j)))
    (he : ∀ vs v, evalOp o vs = some v → ∃ i j, vs = [.int i, .int j] ∧ C i j ∧ v = .int (g i j)) : OpR X f (fun x y H Q => opN X.K o [x, y] H Q) := by
  intro pins s σ H x y u w Q I rx ry h
  obtain ⟨A, vs, v, hd, ht, e, q⟩ := h
  obtain ⟨v1, v2, rfl, t1, t2⟩ := ht.two
  obtain ⟨i, j, e1, hc, rfl⟩ := he _ _ e
  cases e1
  exact ho pins s σ H x y u w Q I rx ry ⟨i, j, t1.int, t2.int, hc, q _ _ (.pure (.int _) rfl)⟩
theorem rI_of0 {f : Value → Value → Sem Value} {g : Int → Int → V} (h : OpR X f (rI0 g)) : OpR X f (rI (fun _ _ => True) g) :=
  fun pins s σ H x y u w Q I rx ry ⟨i, j, e1, e2, _, q⟩ => h pins s σ H x y u w Q I rx ry ⟨i, j, e1, e2, q⟩
theorem ok_sub : OpR X (binaryOp .Sub) (fun x y H Q => opN X.K .sub [x, y] H Q) := ok_ints (rI_of0 op_sub) fun vs v e => by
  unfold evalOp opSub at e
  simp only at e
  split at e
  · cases e; exact ⟨_, _, rfl, trivial, rfl⟩
  · cases e
theorem ok_mul : OpR X (binaryOp .Mult) (fun x y H Q => opN X.K .mul [x, y] H Q) := ok_ints op_mul fun vs v e => by
  unfold evalOp opMul at e
  simp only at e
  split at e
  · split at e
    · rename_i h
      cases e
      refine ⟨_, _, rfl, ?_, rfl⟩
      rcases Bool.or_eq_true _ _ ▸ h with h | h
      · exact .inl (small64_ok h)
      · exact .inr (small64_ok h)
    · cases e
  · cases e
theorem ok_fdiv : OpR X (binaryOp .FloorDiv) (fun x y H Q => opN X.K .fdiv [x, y] H Q) := ok_ints op_fdiv fun vs v e => by
  unfold evalOp opFdiv at e
  simp only at e
  split at e
  · split at e
    · rename_i h
      cases e
      simp only [Bool.and_eq_true, decide_eq_true_eq] at h
      exact ⟨_, _, rfl, h, rfl⟩
    · cases e
  · cases e
theorem ok_mod : OpR X (binaryOp .Mod) (fun x y H Q => opN X.K .mod [x, y] H Q) := ok_ints op_mod fun vs v e => by
  unfold evalOp opMod at e
  simp only at e
  split at e
  · split at e
    · rename_i h
      cases e
      exact ⟨_, _, rfl, h, rfl⟩
    · cases e
  · cases e
theorem ok_pow : OpR X (binaryOp .Pow) (fun x y H Q => opN X.K .pow [x, y] H Q) := ok_ints op_pow fun vs v e => by
  unfold evalOp opPow at e
  simp only at e
  split at e
  · split at e
    · rename_i h
      cases e
      simp only [Bool.and_eq_true, decide_eq_true_eq] at h
      exact ⟨_, _, rfl, ⟨h.1.1, h.1.2, h.2⟩, rfl⟩
    · cases e
  · cases e
theorem ok_neg : UnR X (unaryOp .USub) (fun x H Q => opN X.K .neg [x] H Q) := by
  intro pins s σ H x u Q I rx h
  obtain ⟨A, vs, v, hd, ht, e, q⟩ := h
  obtain ⟨v1, rfl, t1⟩ := ht.one
  unfold evalOp opNeg at e
  simp only at e
  split at e
  · rename_i i he
    cases he
    cases e
    exact un_neg pins s σ H x u Q I rx ⟨i, t1.int, q _ _ (.pure (.int _) rfl)⟩
  · cases e
/-- a comparison of two ints -/
theorem ok_cmpI {f : Value → Value → Sem Value} {o : Op} {g : Int → Int → Bool} (ho : OpR X f (rI0 fun i j => .bl (g i j)))
    (he : ∀ vs v, evalOp o vs = some v → ∃ i j, vs = [.int i, .int j] ∧ v = .bool (g i j)) : OpR X f (fun x y H Q => opN X.K o [x, y] H Q) := by
  intro pins s σ H x y u w Q I rx ry h
  obtain ⟨A, vs, v, hd, ht, e, q⟩ := h
  obtain ⟨v1, v2, rfl, t1, t2⟩ := ht.two
  obtain ⟨i, j, e1, rfl⟩ := he _ _ e
  cases e1
  exact ho pins s σ H x y u w Q I rx ry ⟨i, j, t1.int, t2.int, q _ _ (.pure (.bl _) rfl)⟩
theorem ok_lt : OpR X (compareOp .Lt) (fun x y H Q => opN X.K .lt [x, y] H Q) := ok_cmpI op_lt fun vs v e => by
  unfold evalOp opLt at e
  simp only at e
  split at e
  · cases e; exact ⟨_, _, rfl, rfl⟩
  · cases e
theorem ok_le : OpR X (compareOp .LtE) (fun x y H Q => opN X.K .le [x, y] H Q) := ok_cmpI op_le fun vs v e => by
  unfold evalOp opLe at e
  simp only at e
  split at e
  · cases e; exact ⟨_, _, rfl, rfl⟩
  · cases e
theorem ok_gt : OpR X (compareOp .Gt) (fun x y H Q => opN X.K .gt [x, y] H Q) := ok_cmpI op_gt fun vs v e => by
  unfold evalOp opGt at e
  simp only at e
  split at e
  · cases e; exact ⟨_, _, rfl, rfl⟩
  · cases e
theorem ok_ge : OpR X (compareOp .GtE) (fun x y H Q => opN X.K .ge [x, y] H Q) := ok_cmpI op_ge fun vs v e => by
  unfold evalOp opGe at e
  simp only at e
  split at e
  · cases e; exact ⟨_, _, rfl, rfl⟩
  · cases e
theorem ok_eq (hu : X.A.units + 64 < cLine) : OpR X (compareOp .Eq) (fun x y H Q => opN X.K .eq [x, y] H Q) := by
  intro pins s σ H x y u w Q I rx ry h
  obtain ⟨A, vs, v, hd, ht, e, q⟩ := h
  obtain ⟨v1, v2, rfl, t1, t2⟩ := ht.two
  unfold evalOp opEq at e
  simp only at e
  split at e
  · rename_i hs
    cases e
    simp only [Bool.and_eq_true] at hs
    exact op_eqD hu pins s σ H x y u w Q I rx ry ⟨v1, v2, t1.dp, t2.dp, hs.1, hs.2, q _ _ (.pure (.bl _) rfl)⟩
  · cases e
theorem ok_ne (hu : X.A.units + 64 < cLine) : OpR X (compareOp .NotEq) (fun x y H Q => opN X.K .ne [x, y] H Q) := by
  intro pins s σ H x y u w Q I rx ry h
  obtain ⟨A, vs, v, hd, ht, e, q⟩ := h
  obtain ⟨v1, v2, rfl, t1, t2⟩ := ht.two
  unfold evalOp opNe at e
  simp only at e
  split at e
  · rename_i hs
    cases e
    simp only [Bool.and_eq_true] at hs
    exact op_neD hu pins s σ H x y u w Q I rx ry ⟨v1, v2, t1.dp, t2.dp, hs.1, hs.2, q _ _ (.pure (.bl _) rfl)⟩
  · cases e
theorem room_in {A : Around} {xs : List PyData} {d : PyData} (hd : SeqAt.shaped d = true) (hu : A.units + 65 < cLine) : A.units + 1 + min (PyData.depthAll xs) d.depth < cLine := room_in_shaped hd hu
theorem canAll {xs : List PyData} (h : SeqAt.shaped (.list xs) = true) : PyData.canLayAll0 xs = true := SeqAt.canLay_of_shaped h
theorem ok_in (hu : X.A.units + 65 < cLine) : OpR X (compareOp .In) (fun x y H Q => opN X.K .isIn [x, y] H Q) := by
  intro pins s σ H x y u w Q I rx ry h
  obtain ⟨A, vs, v, hd, ht, e, q⟩ := h
  obtain ⟨v1, v2, rfl, t1, t2⟩ := ht.two
  unfold evalOp opIn at e
  simp only [Option.bind_eq_some_iff] at e
  obtain ⟨xs, e0, e⟩ := e
  split at e
  · rename_i hs
    cases e
    simp only [Bool.and_eq_true] at hs
    unfold seqOf at e0
    split at e0
    · cases e0
      obtain ⟨as, r1⟩ := Dp.reads I v1 x u t1.dp rx
      obtain ⟨bs, r2⟩ := Dp.reads I (.tuple xs) y w t2.dp ry
      exact SeqAt.in_tuple_reads r2 r1 (canAll hs.2) (SeqAt.canLay_of_shaped hs.1) (room_in hs.1 hu) ⟨.bl _, H, I, rfl, q _ _ (.pure (.bl _) rfl)⟩
    · cases e0
      exact op_inD hu pins s σ H x y u w Q I rx ry ⟨v1, xs, t1.dp, t2.dp, hs.1, hs.2, q _ _ (.pure (.bl _) rfl)⟩
    · cases e0
  · cases e
theorem ok_nin (hu : X.A.units + 65 < cLine) : OpR X (compareOp .NotIn) (fun x y H Q => opN X.K .nIn [x, y] H Q) := by
  intro pins s σ H x y u w Q I rx ry h
  obtain ⟨A, vs, v, hd, ht, e, q⟩ := h
  obtain ⟨v1, v2, rfl, t1, t2⟩ := ht.two
  unfold evalOp opNIn at e
  simp only [Option.bind_eq_some_iff] at e
  obtain ⟨xs, e0, e⟩ := e
  split at e
  · rename_i hs
    cases e
    simp only [Bool.and_eq_true] at hs
    unfold seqOf at e0
    split at e0
    · cases e0
      obtain ⟨as, r1⟩ := Dp.reads I v1 x u t1.dp rx
      obtain ⟨bs, r2⟩ := Dp.reads I (.tuple xs) y w t2.dp ry
      exact SeqAt.notIn_tuple_reads r2 r1 (canAll hs.2) (SeqAt.canLay_of_shaped hs.1) (room_in hs.1 hu) ⟨.bl _, H, I, rfl, q _ _ (.pure (.bl _) rfl)⟩
    · cases e0
      exact op_notInD hu pins s σ H x y u w Q I rx ry ⟨v1, xs, t1.dp, t2.dp, hs.1, hs.2, q _ _ (.pure (.bl _) rfl)⟩
    · cases e0
  · cases e
theorem is_bool_gen {M : Model} {A : Around} {E : Value → Shared → Prop} {s : Shared} {Q : Value → Shared → Prop} {x : V} {v : Value} {b : Bool} (r : RelV x v) (h : Q (.bool (v == .bool b)) s) : wpAny M A (compareOp .Is v (.bool b)) Q E s := by
  cases x with
  | non => cases (show v = Value.none from r); exact wpAny_pure h
  | bl c => cases (show v = Value.bool c from r); exact wpAny_pure h
  | int i => obtain ⟨t, rfl⟩ := (show ∃ t, v = Value.int i t from r); exact wpAny_pure h
  | str i => obtain ⟨t, rfl⟩ := (show ∃ t, v = Value.str i t from r); exact wpAny_pure h
  | byt i => obtain ⟨t, rfl⟩ := (show ∃ t, v = Value.bytes i t from r); exact wpAny_pure h
  | flt i => obtain ⟨t, rfl⟩ := (show ∃ t, v = Value.float i t from r); exact wpAny_pure h
  | ref a => cases (show v = Value.ref a from r); exact wpAny_pure h
  | ty n => cases (show v = Value.type n from r); exact wpAny_pure h
theorem isnot_bool_gen {M : Model} {A : Around} {E : Value → Shared → Prop} {s : Shared} {Q : Value → Shared → Prop} {x : V} {v : Value} {b : Bool} (r : RelV x v) (h : Q (.bool (!(v == .bool b))) s) : wpAny M A (compareOp .IsNot v (.bool b)) Q E s := by
  cases x with
  | non => cases (show v = Value.none from r); exact wpAny_pure h
  | bl c => cases (show v = Value.bool c from r); exact wpAny_pure h
  | int i => obtain ⟨t, rfl⟩ := (show ∃ t, v = Value.int i t from r); exact wpAny_pure h
  | str i => obtain ⟨t, rfl⟩ := (show ∃ t, v = Value.str i t from r); exact wpAny_pure h
  | byt i => obtain ⟨t, rfl⟩ := (show ∃ t, v = Value.bytes i t from r); exact wpAny_pure h
  | flt i => obtain ⟨t, rfl⟩ := (show ∃ t, v = Value.float i t from r); exact wpAny_pure h
  | ref a => cases (show v = Value.ref a from r); exact wpAny_pure h
  | ty n => cases (show v = Value.type n from r); exact wpAny_pure h
/-- None, True, False as values -/
def vC : PV → Option V
  | .none => some .non
  | .bool b => some (.bl b)
  | _ => none
theorem RTk.scal {K : PySem.W.Frag} {kl : Bool} {H : Hp} {A : AS} {v : PV} {x : V} (h : RTk K kl H A v x) : (∃ c, v = .none ∧ c = x ∧ x = .non) ∨ (∃ b, v = .bool b ∧ x = .bl b) ∨ (v ≠ .none ∧ (∀ b, v ≠ .bool b) ∧ x ≠ .non ∧ ∀ b, x ≠ .bl b) := by
  rcases h with h | ⟨a, l', vs, rfl, rfl, h, r⟩ | ⟨_, a, ns, rfl, rfl, _⟩
  · cases h with
    | non => exact .inl ⟨_, rfl, rfl, rfl⟩
    | bl b => exact .inr (.inl ⟨b, rfl, rfl⟩)
    | _ => exact .inr (.inr ⟨(by intro z; cases z), (by intro _ z; cases z), (by intro z; cases z), (by intro _ z; cases z)⟩)
  · exact .inr (.inr ⟨(by intro z; cases z), (by intro _ z; cases z), (by intro z; cases z), (by intro _ z; cases z)⟩)
  · exact .inr (.inr ⟨(by intro z; cases z), (by intro _ z; cases z), (by intro z; cases z), (by intro _ z; cases z)⟩)
theorem relV_none {x : V} {u : Value} (r : RelV x u) : (u == Value.none) = decide (x = .non) := r.none_iff
theorem relV_bool {x : V} {u : Value} {b : Bool} (r : RelV x u) : (u == Value.bool b) = decide (x = .bl b) := by
  cases x with
  | non => cases (show u = Value.none from r); rfl
  | bl c => cases (show u = Value.bool c from r); cases c <;> cases b <;> rfl
  | int i => obtain ⟨t, rfl⟩ := (show ∃ t, u = Value.int i t from r); rfl
  | str i => obtain ⟨t, rfl⟩ := (show ∃ t, u = Value.str i t from r); rfl
  | byt i => obtain ⟨t, rfl⟩ := (show ∃ t, u = Value.bytes i t from r); rfl
  | flt i => obtain ⟨t, rfl⟩ := (show ∃ t, u = Value.float i t from r); rfl
  | ref a => cases (show u = Value.ref a from r); rfl
  | ty n => cases (show u = Value.type n from r); rfl
theorem same1_ok {K : PySem.W.Frag} {kl : Bool} {H : Hp} {A : AS} {c v : PV} {x cv : V} {b : Bool} (hc : vC c = some cv) (h : RTk K kl H A v x) (e : same1 c v = some b) : b = decide (x = cv) := by
  cases c with
  | none =>
    cases hc
    rcases h.scal with ⟨_, rfl, _, rfl⟩ | ⟨d, rfl, rfl⟩ | ⟨h1, h2, h3, h4⟩
    · cases e; rfl
    · cases e; rfl
    · rw [decide_eq_false h3]
      cases v <;> first | exact absurd rfl h1 | (cases e; rfl)
  | bool c =>
    cases hc
    rcases h.scal with ⟨_, rfl, _, rfl⟩ | ⟨d, rfl, rfl⟩ | ⟨h1, h2, h3, h4⟩
    · cases e; rfl
    · cases e; cases c <;> cases d <;> rfl
    · rw [decide_eq_false (h4 c)]
      cases v <;> first | exact absurd rfl (h2 _) | (cases e; rfl)
  | _ => cases hc
theorem ok_is {c : PV} {cv : V} (hc : vC c = some cv) : OpR X (compareOp .Is) (fun x y H Q => y = cv ∧ opN X.K (.isC c) [x] H Q) := by
  intro pins s σ H x y u w Q I rx ry h
  obtain ⟨rfl, A, vs, v, hd, ht, e, q⟩ := h
  obtain ⟨v1, rfl, t1⟩ := ht.one
  unfold evalOp opIs at e
  simp only [Option.map_eq_some_iff] at e
  obtain ⟨b, e1, rfl⟩ := e
  have eb := same1_ok hc t1 e1
  cases c with
  | none =>
    cases hc
    cases (show w = Value.none from ry)
    refine is_none_gen ⟨.bl b, H, I, ?_, q _ _ (.pure (.bl _) rfl)⟩
    show Value.bool _ = Value.bool _
    rw [relV_none rx, eb]
  | bool c =>
    cases hc
    cases (show w = Value.bool c from ry)
    refine is_bool_gen rx ⟨.bl b, H, I, ?_, q _ _ (.pure (.bl _) rfl)⟩
    show Value.bool _ = Value.bool _
    rw [relV_bool rx, eb]
  | _ => cases hc
theorem ok_ns {c : PV} {cv : V} (hc : vC c = some cv) : OpR X (compareOp .IsNot) (fun x y H Q => y = cv ∧ opN X.K (.nsC c) [x] H Q) := by
  intro pins s σ H x y u w Q I rx ry h
  obtain ⟨rfl, A, vs, v, hd, ht, e, q⟩ := h
  obtain ⟨v1, rfl, t1⟩ := ht.one
  unfold evalOp opNs at e
  simp only [Option.map_eq_some_iff] at e
  obtain ⟨b, e1, rfl⟩ := e
  have eb := same1_ok hc t1 e1
  cases c with
  | none =>
    cases hc
    cases (show w = Value.none from ry)
    refine isnot_none_gen ⟨.bl (!b), H, I, ?_, q _ _ (.pure (.bl _) rfl)⟩
    show Value.bool _ = Value.bool _
    rw [relV_none rx, eb]
  | bool c =>
    cases hc
    cases (show w = Value.bool c from ry)
    refine isnot_bool_gen rx ⟨.bl (!b), H, I, ?_, q _ _ (.pure (.bl _) rfl)⟩
    show Value.bool _ = Value.bool _
    rw [relV_bool rx, eb]
  | _ => cases hc
theorem atI_rel {K : PySem.W.Frag} {H : Hp} {A : AS} {l : List PV} {vs : List V} {i : Int} {v : PV} (r : RVs K H A l vs) (e : atI l i = some v) : ∃ x, atI vs i = some x ∧ RV K H A v x := by
  unfold atI at e ⊢
  rw [← r.length]
  cases h : ixN l.length i with
  | none => rw [h] at e; cases e
  | some j =>
    rw [h] at e
    exact r.get (show l[j]? = some v from e)
theorem ok_ix : IxR X (fun x y H Q => opN X.K .ix [x, y] H Q) := by
  intro ve se pins s σ H x y u w Q I rx ry h hsub
  obtain ⟨A, vs, v, hd, ht, e, q⟩ := h
  obtain ⟨v1, v2, rfl, t1, t2⟩ := ht.two
  unfold evalOp opIx at e
  simp only at e
  split at e
  · rename_i l i he
    cases he
    obtain ⟨a, ws, rfl, h1, r1⟩ := t1.tup
    obtain ⟨z, hz, rz⟩ := atI_rel r1 e
    refine ix_tup ve se pins s σ H _ y u w Q I rx ry ⟨a, ws, i, z, rfl, t2.int, h1, hz, q _ _ ⟨Same.refl H, rz, fun hf => by cases hf⟩⟩ hsub
  · rename_i l i he
    cases he
    obtain ⟨a, ws, rfl, h1, r1⟩ := t1.sqL
    obtain ⟨z, hz, rz⟩ := atI_rel r1 e
    refine ix_list ve se pins s σ H _ y u w Q I rx ry ⟨a, ws, i, z, rfl, t2.int, h1, hz, q _ _ ⟨Same.refl H, rz, fun hf => by cases hf⟩⟩ hsub
  · cases e
theorem cut_rel {K : PySem.W.Frag} {H : Hp} {A : AS} {l : List PV} {vs : List V} {lo hi : Option Int} (r : RVs K H A l vs) : RVs K H A (cut l lo hi) (cutV vs lo hi) := by
  unfold cut cutV
  rw [r.length]
  exact (r.drop _).take _
theorem cut_whole {l : List PV} {lo hi : Option Int} (h : HT.sIx l.length 0 lo = 0 ∧ HT.sIx l.length l.length hi = l.length) : cut l lo hi = l := by
  unfold cut
  rw [h.1, h.2, Nat.sub_zero, List.drop_zero, List.take_length]
/-- s[lo:hi], the parts known -/
def slN (K : PySem.W.Frag) : V → Option Int → Option Int → Hp → VK → Prop := fun x lo hi H Q =>
  ∃ (A : AS) (w v : PV), (∀ b, A b → H b ≠ none) ∧ RTk K false H A w x ∧ opSl.cutOf w lo hi = some v ∧ ∀ z H', PostOp K H H' A true v z → Q z H'
theorem ok_sl : SlR X (slN X.K) := by
  intro pins s σ H x u vl vu lo hi sl Q I rx hs pl pu h
  obtain ⟨A, w, v, hd, t1, e, q⟩ := h
  unfold opSl.cutOf at e
  split at e
  · rename_i l
    cases e
    obtain ⟨a, ws, rfl, h1, r1⟩ := t1.tup
    refine sl_tupA pins s σ H _ u vl vu lo hi sl Q I rx hs pl pu ⟨a, ws, rfl, h1, fun hw => ?_, fun hw p hp => ?_⟩
    · rw [cut_whole (by rw [r1.length]; exact hw)] at q
      exact q _ _ (.pure (.tup h1 r1) rfl)
    · exact q _ _ (.newT (cut_rel r1) hp)
  · rename_i l
    cases e
    obtain ⟨a, ws, rfl, h1, r1⟩ := t1.lst
    exact sl_list pins s σ H _ u vl vu lo hi sl Q I rx hs pl pu ⟨a, ws, rfl, .inl h1, fun p hp => q _ _ (.newL hd (cut_rel r1) hp)⟩
  · cases e
theorem ok_len : CallR X (.builtin "len") (opN X.K .len) := by
  intro pins s σ H xs us Q I rx h
  obtain ⟨A, vs, v, hd, ht, e, q⟩ := h
  unfold evalOp opLen at e
  simp only at e
  split at e
  · rename_i l
    cases e
    cases ht with
    | cons t1 t2 =>
      cases t2
      obtain ⟨a, ws, rfl, h1, r1⟩ := t1.tup
      refine call_len_seq pins s σ H _ us Q I rx ⟨a, ws, rfl, .inr h1, ?_⟩
      rw [← r1.length]
      exact q _ _ (.pure (.int _) rfl)
  · rename_i l
    cases e
    cases ht with
    | cons t1 t2 =>
      cases t2
      obtain ⟨a, ws, rfl, h1, r1⟩ := t1.sqL
      refine call_len_seq pins s σ H _ us Q I rx ⟨a, ws, rfl, .inl h1, ?_⟩
      rw [← r1.length]
      exact q _ _ (.pure (.int _) rfl)
  · cases e
theorem ok_int : CallR X (.type "int") (opN X.K .int) := by
  intro pins s σ H xs us Q I rx h
  obtain ⟨A, vs, v, hd, ht, e, q⟩ := h
  unfold evalOp opInt at e
  simp only at e
  split at e
  · rename_i i
    cases e
    cases ht with
    | cons t1 t2 =>
      cases t2
      exact call_int1 pins s σ H _ us Q I rx (.inl ⟨i, by rw [t1.int], q _ _ (.pure (.int _) rfl)⟩)
  · cases e
theorem ok_abs : CallR X (.builtin "abs") (opN X.K .abs) := by
  intro pins s σ H xs us Q I rx h
  obtain ⟨A, vs, v, hd, ht, e, q⟩ := h
  unfold evalOp opAbs at e
  simp only at e
  split at e
  · rename_i i
    cases e
    cases ht with
    | cons t1 t2 =>
      cases t2
      exact call_abs pins s σ H _ us Q I rx ⟨i, by rw [t1.int], q _ _ (.pure (.int _) rfl)⟩
  · cases e
theorem ok_max (hc : X.calm = true) : CallR X (.builtin "max") (opN X.K .max) := by
  intro pins s σ H xs us Q I rx h
  obtain ⟨A, vs, v, hd, ht, e, q⟩ := h
  unfold evalOp opMax at e
  simp only at e
  split at e
  · rename_i i j
    cases e
    cases ht with
    | cons t1 t2 =>
      cases t2 with
      | cons t2 t3 =>
        cases t3
        exact call_max2 hc pins s σ H _ us Q I rx ⟨i, j, by rw [t1.int, t2.int], q _ _ (.pure (.int _) rfl)⟩
  · cases e
theorem ok_min (hc : X.calm = true) : CallR X (.builtin "min") (opN X.K .min) := by
  intro pins s σ H xs us Q I rx h
  obtain ⟨A, vs, v, hd, ht, e, q⟩ := h
  unfold evalOp opMin at e
  simp only at e
  split at e
  · rename_i i j
    cases e
    cases ht with
    | cons t1 t2 =>
      cases t2 with
      | cons t2 t3 =>
        cases t3
        exact call_min2 hc pins s σ H _ us Q I rx ⟨i, j, by rw [t1.int, t2.int], q _ _ (.pure (.int _) rfl)⟩
  · cases e
theorem ok_tuple : CallR X (.type "tuple") (opN X.K .tuple) := by
  intro pins s σ H xs us Q I rx h
  obtain ⟨A, vs, v, hd, ht, e, q⟩ := h
  unfold evalOp opTuple at e
  simp only at e
  split at e
  · rename_i l
    cases e
    cases ht with
    | cons t1 t2 =>
      cases t2
      obtain ⟨a, ws, rfl, h1, r1⟩ := t1.tup
      exact call_tuple_of pins s σ H _ us Q I rx ⟨a, ws, rfl, .inr ⟨h1, q _ _ (.pure (.tup h1 r1) rfl)⟩⟩
  · rename_i l
    cases e
    cases ht with
    | cons t1 t2 =>
      cases t2
      obtain ⟨a, ws, rfl, h1, r1⟩ := t1.lst
      exact call_tuple_of pins s σ H _ us Q I rx ⟨a, ws, rfl, .inl ⟨.inl h1, fun p hp => q _ _ (.newT r1 hp)⟩⟩
  · cases e
theorem ok_list : CallR X (.type "list") (opN X.K .list) := by
  intro pins s σ H xs us Q I rx h
  obtain ⟨A, vs, v, hd, ht, e, q⟩ := h
  unfold evalOp opList at e
  simp only at e
  split at e
  · rename_i l
    cases e
    cases ht with
    | cons t1 t2 =>
      cases t2
      obtain ⟨a, ws, rfl, h1, r1⟩ := t1.tup
      exact call_list_of pins s σ H _ us Q I rx ⟨a, ws, rfl, .inr h1, fun p hp => q _ _ (.newL hd r1 hp)⟩
  · rename_i l
    cases e
    cases ht with
    | cons t1 t2 =>
      cases t2
      obtain ⟨a, ws, rfl, h1, r1⟩ := t1.lst
      exact call_list_of pins s σ H _ us Q I rx ⟨a, ws, rfl, .inl (.inl h1), fun p hp => q _ _ (.newL hd r1 hp)⟩
  · cases e
/-! isinstance -/
def tyN : Ty → String
  | .tInt => "int" | .tBool => "bool" | .tStr => "str" | .tTuple => "tuple" | .tList => "list" | .tDict => "dict"
def tyOfV : PV → String
  | .none => "NoneType" | .bool _ => "bool" | .int _ => "int" | .str _ => "str" | .tuple _ => "tuple" | .list _ => "list" | .dict _ => "dict"
theorem RTk.tyX {K : PySem.W.Frag} {H : Hp} {A : AS} {v : PV} {x : V} (h : RTk K false H A v x) : TyX K H x (.type (tyOfV v)) := by
  have lst : ∀ {a vs}, Rd H a (.lst vs) → TyX K H (.ref a) (.type "list") := fun {a vs} r => by
    rcases r with r | ⟨o, r⟩
    · exact .base (.lst r)
    · exact .base (.frz r)
  rcases h with h | ⟨a, l', vs, rfl, rfl, h, r⟩ | ⟨e, _⟩
  · cases h with
    | non => exact .base .non
    | bl b => exact .base (.bl b)
    | int i => exact .base (.int i)
    | str s => exact .base (.str s)
    | tup h r =>
      rcases h with (h | ⟨o, h⟩) | ⟨o, its, n, h1, h2, _⟩
      · exact .base (.tup h)
      · exact .fTuple h
      · exact .kTuple h1 h2
    | lst _ h r => exact lst h
  · exact lst h
  · cases e
theorem kit_tys : ∀ (t : Ty) (v : PV), kitB (tyOfV v) (tyN t) = some (isTyB t v)
  | t, .none => by cases t <;> decide +kernel
  | t, .bool _ => by cases t <;> (simp only [tyOfV, tyN, isTyB]; decide +kernel)
  | t, .int _ => by cases t <;> (simp only [tyOfV, tyN, isTyB]; decide +kernel)
  | t, .str _ => by cases t <;> (simp only [tyOfV, tyN, isTyB]; decide +kernel)
  | t, .tuple _ => by cases t <;> (simp only [tyOfV, tyN, isTyB]; decide +kernel)
  | t, .list _ => by cases t <;> (simp only [tyOfV, tyN, isTyB]; decide +kernel)
  | t, .dict _ => by cases t <;> (simp only [tyOfV, tyN, isTyB]; decide +kernel)
theorem ok_isi {t : Ty} : CallR X (.builtin "isinstance") (fun xs H Q => ∃ x, xs = [x, .ty (tyN t)] ∧ opN X.K (.isTy t) [x] H Q) := by
  intro pins s σ H xs us Q I rx h
  obtain ⟨x, rfl, A, vs, v, hd, ht, e, q⟩ := h
  obtain ⟨v1, rfl, t1⟩ := ht.one
  unfold evalOp opTy at e
  simp only at e
  cases e
  exact call_isi pins s σ H _ us Q I rx ⟨x, .ty (tyN t), _, _, _, rfl, .ty _, t1.tyX, kit_ty (kit_tys t v1), q _ _ (.pure (.bl _) rfl)⟩
end
end IR
namespace IR
open PySem PySem.Spec L2 PyProof.Rows

theorem PE.imp {X : Cx} {e : Expr} {t t' : TE} (h : PE X e t) (hi : ∀ σ H Q, t' σ H Q → t σ H Q) : PE X e t' :=
  ⟨fun pins s σ H Q I q => h.run pins s σ H Q I (hi σ H Q q)⟩
theorem PT.imp {X : Cx} {e : Expr} {t t' : TT} (h : PT X e t) (hi : ∀ σ H Q, t' σ H Q → t σ H Q) : PT X e t' :=
  ⟨fun pins s σ H Q I q => h.run pins s σ H Q I (hi σ H Q q)⟩
theorem PW.imp {X : Cx} {e : Expr} {t t' : TT} (h : PW X e t) (hi : ∀ σ H Q, t' σ H Q → t σ H Q) : PW X e t' :=
  ⟨fun wh pins s σ H Q I q => h.run wh pins s σ H Q I (hi σ H Q q)⟩
theorem PA.imp {X : Cx} {e : List Expr} {t t' : TA} (h : PA X e t) (hi : ∀ σ H Q, t' σ H Q → t σ H Q) : PA X e t' :=
  ⟨fun pos pins s σ H Q I q => h.run pos pins s σ H Q I (hi σ H Q q)⟩
theorem PS.imp {X : Cx} {e : Stmt} {t t' : TS} (h : PS X e t) (hi : ∀ D σ H, t' D σ H → t D σ H) : PS X e t' :=
  ⟨fun pins s σ H D I q => h.run pins s σ H D I (hi D σ H q)⟩
theorem PSs.imp {X : Cx} {e : List Stmt} {t t' : TS} (h : PSs X e t) (hi : ∀ D σ H, t' D σ H → t D σ H) : PSs X e t' :=
  ⟨fun pins s σ H D I q => h.run pins s σ H D I (hi D σ H q)⟩

/-! ### what stands behind an expression -/
structure PostE (K : PySem.W.Frag) (F : Fm) (own : Own) (H : Hp) (ρ' : Env) (σ : L2.St) (fr : Bool) (v : PV) (x : V) (H' : Hp) : Prop where
  keep : Fr own H H'
  rel : Rel K F own ρ' σ H'
  val : RV K H' (Av F own) v x
  new : fr = true → mutv v = true → ∃ a, x = .ref a ∧ H a = none ∧ Rel K (F.add a) own ρ' σ H' ∧ MutAt K H' (Av (F.add a) own) a v
def DscR (K : PySem.W.Frag) (H : Hp) (A : AS) (σ : L2.St) (d : Dsc) (x : V) : Prop :=
  match d with
  | .sl j => σ[j]? = some (some x)
  | .vl v => RV K H A v x
inductive DscRs (K : PySem.W.Frag) (H : Hp) (A : AS) (σ : L2.St) : List Dsc → List V → Prop
  | nil : DscRs K H A σ [] []
  | cons {d : Dsc} {x : V} {ds : List Dsc} {xs : List V} : DscR K H A σ d x → DscRs K H A σ ds xs → DscRs K H A σ (d :: ds) (x :: xs)
structure PostD (K : PySem.W.Frag) (F : Fm) (own : Own) (H : Hp) (ρ' : Env) (σ : L2.St) (d : Dsc) (x : V) (H' : Hp) : Prop where
  keep : Fr own H H'
  rel : Rel K F own ρ' σ H'
  dsc : DscR K H' (Av F own) σ d x
structure PostAs (K : PySem.W.Frag) (F : Fm) (own : Own) (H : Hp) (ρ' : Env) (σ : L2.St) (ds : List Dsc) (xs : List V) (H' : Hp) : Prop where
  keep : Fr own H H'
  rel : Rel K F own ρ' σ H'
  dscs : DscRs K H' (Av F own) σ ds xs
structure PostEs (K : PySem.W.Frag) (F : Fm) (own : Own) (H : Hp) (ρ' : Env) (σ : L2.St) (vs : List PV) (xs : List V) (H' : Hp) : Prop where
  keep : Fr own H H'
  rel : Rel K F own ρ' σ H'
  vals : RVs K H' (Av F own) vs xs
structure PostT (K : PySem.W.Frag) (F : Fm) (own : Own) (H : Hp) (ρ' : Env) (σ : L2.St) (H' : Hp) : Prop where
  keep : Fr own H H'
  rel : Rel K F own ρ' σ H'

section
variable (P : Nat → Option FD) (C : CallP) (K : PySem.W.Frag)
def rdE (ie : IE) : TE := fun σ H Q => ∃ F own ρ, Rel K F own ρ σ H ∧ wpE P C ie ρ fun v ρ' => ∀ x H', PostE K F own H ρ' σ ie.fresh v x H' → Q x H'
def rdD (ia : IA) : TE := fun σ H Q => ∃ F own ρ, Rel K F own ρ σ H ∧ wpD P C ia ρ fun d ρ' => ∀ x H', PostD K F own H ρ' σ d x H' → Q x H'
def rdAs (as : IAs) : TA := fun σ H Q => ∃ F own ρ, Rel K F own ρ σ H ∧ wpAs P C as ρ fun ds ρ' => ∀ xs H', PostAs K F own H ρ' σ ds xs H' → Q xs H'
def rdEs (es : IEs) : TA := fun σ H Q => ∃ F own ρ, Rel K F own ρ σ H ∧ wpEs P C es ρ fun vs ρ' => ∀ xs H', PostEs K F own H ρ' σ vs xs H' → Q xs H'
def rdT (ie : IE) : TT := fun σ H Q => ∃ F own ρ, Rel K F own ρ σ H ∧ wpT P C ie ρ fun t ρ' => ∀ H', PostT K F own H ρ' σ H' → Q t H'
end

section
variable {K : PySem.W.Frag} {F : Fm} {own : Own} {ρ ρ' : Env} {σ : L2.St} {H H' H1 : Hp} {A : AS} {v : PV} {x : V} {d : Dsc}
theorem DscR.keeps (R : Rel K F own ρ σ H) (h : Fr own H H') (r : DscR K H (Av F own) σ d x) : DscR K H' (Av F own) σ d x := by
  cases d with
  | sl j => exact r
  | vl v => exact RV.fr R h r
theorem SlotR.rt {i : Nat} {t : Tag} (s : SlotR K F own H i t v x) (hs : baseT t ≠ .s) (kl : Bool) : RTk K kl H (Av F own) v x := by
  unfold SlotR at s
  cases eb : baseT t with
  | b => rw [eb] at s; exact .inl s
  | o =>
    rw [eb] at s
    obtain ⟨a, _, rfl, m⟩ := s
    obtain ⟨l, vs, rfl, e, r⟩ := m.shape
    exact .inr (.inl ⟨a, l, vs, rfl, rfl, .inl e, r⟩)
  | m =>
    rw [eb] at s
    obtain ⟨a, _, rfl, m⟩ := s
    obtain ⟨l, vs, rfl, e, r⟩ := m.shape
    exact .inr (.inl ⟨a, l, vs, rfl, rfl, .inl e, r⟩)
  | l =>
    rw [eb] at s
    obtain ⟨a, rfl, m⟩ := s
    obtain ⟨l, vs, rfl, e, _, r⟩ := m.shape
    exact .inr (.inl ⟨a, l, vs, rfl, rfl, e, r⟩)
  | s => exact absurd eb hs
  | k u => exact absurd eb (baseT_nk t u)
theorem SlotR.rtS {i : Nat} {t : Tag} (s : SlotR K F own H i t v x) : RTk K true H (Av F own) v x := by
  cases eb : baseT t with
  | s =>
    unfold SlotR at s
    rw [eb] at s
    obtain ⟨a, ns, rfl, rfl, h⟩ := s
    exact .inr (.inr ⟨rfl, a, ns, rfl, rfl, h⟩)
  | b => exact s.rt (by rw [eb]; intro z; cases z) _
  | o => exact s.rt (by rw [eb]; intro z; cases z) _
  | m => exact s.rt (by rw [eb]; intro z; cases z) _
  | l => exact s.rt (by rw [eb]; intro z; cases z) _
  | k u => exact absurd eb (baseT_nk t u)
theorem scr_base : ∀ {t : Tag}, isScr t = false → baseT t ≠ .s
  | .s, h, _ => by cases h
  | .k t, h, e => scr_base (t := t) h e
  | .b, _, e => by cases e
  | .o, _, e => by cases e
  | .m, _, e => by cases e
  | .l, _, e => by cases e
theorem peek_slot {j : Nat} (h : peek ρ j = some v) : ∃ t, ρ[j]? = some (some (t, v)) ∧ isScr t = false := by
  unfold peek at h
  split at h
  · rename_i t w e
    split at h
    · cases h
    · rename_i hs
      cases h
      exact ⟨t, e, by simpa using hs⟩
  · cases h
theorem peekS_slot {j : Nat} (h : peekS ρ j = some v) : ∃ t, ρ[j]? = some (some (t, v)) := by
  unfold peekS at h
  split at h
  · rename_i t w e
    cases h
    exact ⟨t, e⟩
  · cases h
theorem clean_slot {j : Nat} (h : clean ρ j = some v) : ρ[j]? = some (some (.b, v)) := by
  unfold clean at h
  split at h
  · rename_i w e
    cases h
    exact e
  · cases h
/-- an operand, when all stand -/
theorem DscR.rtk (R : Rel K F own ρ σ H) (r : DscR K H (Av F own) σ d x) {kl : Bool} (h : derefK kl ρ d = some v) : RTk K kl H (Av F own) v x := by
  cases d with
  | vl w => cases h; exact .inl r
  | sl j =>
    cases kl with
    | true =>
      obtain ⟨t, e⟩ := peekS_slot (show peekS ρ j = some v from h)
      obtain ⟨y, ey, s⟩ := R.slot j t v e
      have : y = x := by
        have r' : σ[j]? = some (some x) := r
        rw [ey] at r'; cases r'; rfl
      subst this
      exact s.rtS
    | false =>
      obtain ⟨t, e, hs⟩ := peek_slot (show peek ρ j = some v from h)
      obtain ⟨y, ey, s⟩ := R.slot j t v e
      have : y = x := by
        have r' : σ[j]? = some (some x) := r
        rw [ey] at r'; cases r'; rfl
      subst this
      exact s.rt (scr_base hs) _
theorem DscRs.rts {kl : Bool} (R : Rel K F own ρ σ H) : ∀ {ds : List Dsc} {xs : List V} {vs : List PV}, DscRs K H (Av F own) σ ds xs → derefsK kl ρ ds = some vs → RTs K kl H (Av F own) vs xs
  | _, _, _, .nil, e => by cases e; exact .nil
  | _, _, vs, .cons r t, e => by
    unfold derefsK at e
    split at e
    · rename_i w ws e1 e2
      cases e
      exact .cons (r.rtk R e1) (DscRs.rts R t e2)
    · cases e
theorem derefs_K : ∀ (ds : List Dsc), derefs ρ ds = derefsK false ρ ds
  | [] => rfl
  | d :: ds => by
    unfold derefs derefsK
    rw [derefs_K ds]
    cases d with
    | sl j => rfl
    | vl v => rfl
theorem deref_K (d : Dsc) : deref ρ d = derefK false ρ d := by
  cases d with
  | sl j => rfl
  | vl v => rfl
/-- a value that an operation gives -/
theorem PostOp.post {z : V} {fr : Bool} (R : Rel K F own ρ' σ H1) (k : Fr own H H1) (mono : ∀ b, H b ≠ none → H1 b ≠ none) (p : PostOp K H1 H' (Av F own) fr v z) : PostE K F own H ρ' σ fr v z H' := by
  refine ⟨k.trans (Fr.of_same p.same), R.same' p.same, p.val, fun h1 h2 => ?_⟩
  obtain ⟨a, e, hn, m⟩ := p.new h1 h2
  obtain ⟨l, vs, rfl, eH, r⟩ := m.shape
  refine ⟨a, e, ?_, R.same_add p.same hn (by rw [eH]; exact fun z => by cases z), vs, eH, r.kp (Kp.mk (W := fun _ => False) (fun _ _ q _ => q) (fun _ z => z.elim) (fun _ _ z => z.elim) fun b z => .inl ((Av_add b).mp z))⟩
  cases q : H a with
  | none => rfl
  | some o => exact absurd hn (mono a (by rw [q]; exact fun z => by cases z))
theorem Fr.dom (R : Rel K F own ρ σ H) (h : Fr own H H') (R' : Rel K F own ρ' σ H') : ∀ b, H b ≠ none → H' b ≠ none := fun b n => by
  by_cases z : ∃ i, own i = some b
  · obtain ⟨i, e⟩ := z
    obtain ⟨vs, e2⟩ := R'.own_lst e
    rw [e2]; exact fun z => by cases z
  · cases e : H b with
    | none => exact absurd e n
    | some o =>
      rw [h b o e fun i q => z ⟨i, q⟩]; exact fun z => by cases z
end

/-! ### the forms of expressions -/
section
variable {X : Cx} {P : Nat → Option FD} {C : CallP} {e a b c : Expr} {es : List Expr} {pos : Pos}
theorem se_bad : PE X e (rdE P C X.K .bad) := ⟨fun pins s σ H Q I h => by
  obtain ⟨F, own, ρ, _, w⟩ := h
  unfold wpE at w
  exact w.elim⟩
theorem post_pure {K : PySem.W.Frag} {F : Fm} {own : Own} {ρ : Env} {σ : L2.St} {H : Hp} {v : PV} {x : V} {fr : Bool} (R : Rel K F own ρ σ H) (r : RV K H (Av F own) v x) (h : fr = false ∨ mutv v = false) : PostE K F own H ρ σ fr v x H :=
  ⟨Fr.refl _ _, R, r, fun h1 h2 => by
    rcases h with h | h
    · rw [h] at h1; cases h1
    · rw [h] at h2; cases h2⟩
theorem se_int {i : Int} {j : Nat} : PE X (.Constant (.int i) j pos) (rdE P C X.K (.con (.int i))) := PE.imp pe_int fun σ H Q h => by
  obtain ⟨F, own, ρ, R, w⟩ := h
  unfold wpE at w
  exact w _ _ (post_pure R (.int i) (.inr rfl))
theorem se_bool {i : Bool} {j : Nat} : PE X (.Constant (.bool i) j pos) (rdE P C X.K (.con (.bool i))) := PE.imp pe_bl fun σ H Q h => by
  obtain ⟨F, own, ρ, R, w⟩ := h
  unfold wpE at w
  exact w _ _ (post_pure R (.bl i) (.inr rfl))
theorem se_none {j : Nat} : PE X (.Constant .none j pos) (rdE P C X.K (.con .none)) := PE.imp pe_non fun σ H Q h => by
  obtain ⟨F, own, ρ, R, w⟩ := h
  unfold wpE at w
  exact w _ _ (post_pure R .non (.inr rfl))
theorem se_str {i : Str} {j : Nat} : PE X (.Constant (.str i) j pos) (rdE P C X.K (.con (.str i))) := PE.imp pe_str fun σ H Q h => by
  obtain ⟨F, own, ρ, R, w⟩ := h
  unfold wpE at w
  exact w _ _ (post_pure R (.str i) (.inr rfl))
theorem se_var {i : Nat} {x : Str} (hN : X.N[i]? = some x) (hv : Vis X.env.scope x) (hd : (x == ("__debug__" : Str)) = false) (hcd : (x == ("__classdict__" : Str)) = false) : PE X (.Name x pos) (rdE P C X.K (.var i)) :=
  PE.imp (pe_var hN hv hd hcd) fun σ H Q h => by
    obtain ⟨F, own, ρ, R, w⟩ := h
    unfold wpE at w
    obtain ⟨v, hv, q⟩ := w
    obtain ⟨y, ey, s⟩ := R.slot i .b v (clean_slot hv)
    exact ⟨y, ey, q _ _ (post_pure R s (.inl rfl))⟩
/-- operands -/
theorem sd_slot {i : Nat} {x : Str} (hN : X.N[i]? = some x) (hv : Vis X.env.scope x) (hd : (x == ("__debug__" : Str)) = false) (hcd : (x == ("__classdict__" : Str)) = false) : PE X (.Name x pos) (rdD P C X.K (.sl i)) :=
  PE.imp (pe_var hN hv hd hcd) fun σ H Q h => by
    obtain ⟨F, own, ρ, R, w⟩ := h
    unfold wpD at w
    obtain ⟨⟨v, hv⟩, q⟩ := w
    obtain ⟨t, e⟩ := peekS_slot hv
    obtain ⟨y, ey, s⟩ := R.slot i t v e
    exact ⟨y, ey, q _ _ ⟨Fr.refl _ _, R, ey⟩⟩
theorem sd_ex {ie : IE} (hC : MonoC C) (h : PE X e (rdE P C X.K ie)) : PE X e (rdD P C X.K (.ex ie)) := PE.imp h fun σ H Q h => by
  obtain ⟨F, own, ρ, R, w⟩ := h
  unfold wpD at w
  exact ⟨F, own, ρ, R, wpE_mono hC ie ρ (fun v ρ' q x H' p => q x H' ⟨p.keep, p.rel, p.val⟩) w⟩
theorem sd_ifo {ic : IE} {x y : IA} (hC : MonoC C) (hc : PT X c (rdT P C X.K ic)) (ha : PE X a (rdD P C X.K x)) (hb : PE X b (rdD P C X.K y)) : PE X (.IfExp c a b pos) (rdD P C X.K (.ifo ic x y)) :=
  PE.imp (pe_ifExp hc ha hb) fun σ H Q h => by
    obtain ⟨F, own, ρ, R, w⟩ := h
    unfold wpD at w
    refine ⟨F, own, ρ, R, wpE_mono hC ic ρ (fun v ρ1 ⟨t, e, q⟩ => ⟨t, e, fun H1 p => ?_⟩) w⟩
    have step : ∀ (z : IA), wpD P C z ρ1 (fun d ρ' => ∀ x H', PostD X.K F own H ρ' σ d x H' → Q x H') → rdD P C X.K z σ H1 Q := fun z w =>
      ⟨F, own, ρ1, p.rel, wpD_mono hC z ρ1 (fun d ρ' q x H' r => q x H' ⟨p.keep.trans r.keep, r.rel, r.dsc⟩) w⟩
    cases t with
    | true => exact step x q
    | false => exact step y q
theorem sas_nil : PA X [] (rdAs P C X.K .nil) := PA.imp pa_nil fun σ H Q h => by
  obtain ⟨F, own, ρ, R, w⟩ := h
  unfold wpAs at w
  exact w _ _ ⟨Fr.refl _ _, R, .nil⟩
theorem sas_cons {x : IA} {xs : IAs} (hC : MonoC C) (ha : PE X e (rdD P C X.K x)) (hr : PA X es (rdAs P C X.K xs)) (hs : starEach (e :: es) X.env = (false, eval e X.env) :: starEach es X.env) : PA X (e :: es) (rdAs P C X.K (.cons x xs)) :=
  PA.imp (pa_cons ha hr hs) fun σ H Q h => by
    obtain ⟨F, own, ρ, R, w⟩ := h
    unfold wpAs at w
    refine ⟨F, own, ρ, R, wpD_mono hC x ρ (fun d ρ1 w1 y H1 p => ?_) w⟩
    refine ⟨F, own, ρ1, p.rel, wpAs_mono hC xs ρ1 (fun ds ρ2 q ys H2 p2 => ?_) w1⟩
    exact q _ _ ⟨p.keep.trans p2.keep, p2.rel, .cons (p.dsc.keeps p.rel p2.keep) p2.dscs⟩
theorem ses_nil : PA X [] (rdEs P C X.K .nil) := PA.imp pa_nil fun σ H Q h => by
  obtain ⟨F, own, ρ, R, w⟩ := h
  unfold wpEs at w
  exact w _ _ ⟨Fr.refl _ _, R, .nil⟩
theorem ses_cons {x : IE} {xs : IEs} (hC : MonoC C) (ha : PE X e (rdE P C X.K x)) (hr : PA X es (rdEs P C X.K xs)) (hs : starEach (e :: es) X.env = (false, eval e X.env) :: starEach es X.env) : PA X (e :: es) (rdEs P C X.K (.cons x xs)) :=
  PA.imp (pa_cons ha hr hs) fun σ H Q h => by
    obtain ⟨F, own, ρ, R, w⟩ := h
    unfold wpEs at w
    refine ⟨F, own, ρ, R, wpE_mono hC x ρ (fun d ρ1 w1 y H1 p => ?_) w⟩
    refine ⟨F, own, ρ1, p.rel, wpEs_mono hC xs ρ1 (fun ds ρ2 q ys H2 p2 => ?_) w1⟩
    exact q _ _ ⟨p.keep.trans p2.keep, p2.rel, .cons (RV.fr p.rel p2.keep p.val) p2.vals⟩
/-- an operation over an argument list -/
theorem op_args {as : IAs} {o : Op} (hC : MonoC C) {σ : L2.St} {H : Hp} {Q : VK} (h : rdE P C X.K (.op o as) σ H Q) : rdAs P C X.K as σ H (fun xs H' => opN X.K o xs H' Q) := by
  obtain ⟨F, own, ρ, R, w⟩ := h
  unfold wpE at w
  refine ⟨F, own, ρ, R, wpAs_mono hC as ρ (fun ds ρ' ⟨vs, e1, v, e2, q⟩ xs H' p => ?_) w⟩
  refine ⟨Av F own, vs, v, p.rel.av_dom, p.dscs.rts p.rel e1, e2, fun z H2 po => q _ _ ?_⟩
  exact po.post p.rel p.keep (Fr.dom R p.keep p.rel)
/-- an argument list of one, of two, as its expressions -/
theorem rdAs_cons {x : IA} {xs : IAs} (hC : MonoC C) {K : PySem.W.Frag} {σ : L2.St} {H : Hp} {Q : List V → Hp → Prop} (h : rdAs P C K (.cons x xs) σ H Q) : rdD P C K x σ H fun y H1 => rdAs P C K xs σ H1 fun ys H2 => Q (y :: ys) H2 := by
  obtain ⟨F, own, ρ, R, w⟩ := h
  unfold wpAs at w
  refine ⟨F, own, ρ, R, wpD_mono hC x ρ (fun d ρ1 w1 y H1 p => ?_) w⟩
  refine ⟨F, own, ρ1, p.rel, wpAs_mono hC xs ρ1 (fun ds ρ2 q ys H2 p2 => ?_) w1⟩
  exact q _ _ ⟨p.keep.trans p2.keep, p2.rel, .cons (p.dsc.keeps p.rel p2.keep) p2.dscs⟩
theorem rdAs_nil {K : PySem.W.Frag} {σ : L2.St} {H : Hp} {Q : List V → Hp → Prop} (h : rdAs P C K .nil σ H Q) : Q [] H := by
  obtain ⟨F, own, ρ, R, w⟩ := h
  unfold wpAs at w
  exact w _ _ ⟨Fr.refl _ _, R, .nil⟩
theorem rdD_mono {x : IA} (hC : MonoC C) {K : PySem.W.Frag} {σ : L2.St} {H : Hp} {Q Q' : VK} (hq : ∀ v H, Q v H → Q' v H) (h : rdD P C K x σ H Q) : rdD P C K x σ H Q' := by
  obtain ⟨F, own, ρ, R, w⟩ := h
  exact ⟨F, own, ρ, R, wpD_mono hC x ρ (fun d ρ1 q y H1 p => hq _ _ (q y H1 p)) w⟩
theorem se_op2 {op : Operator} {o : Op} {x y : IA} (hC : MonoC C) (ho : OpR X (binaryOp op) (fun x y H Q => opN X.K o [x, y] H Q)) (ha : PE X a (rdD P C X.K x)) (hb : PE X b (rdD P C X.K y)) :
    PE X (.BinOp a op b pos) (rdE P C X.K (.op o (.cons x (.cons y .nil)))) :=
  PE.imp (pe_op ho ha hb) fun σ H Q h => rdD_mono hC (fun v H1 h1 => rdD_mono hC (fun u H2 h2 => rdAs_nil h2) (rdAs_cons hC h1)) (rdAs_cons hC (op_args hC h))
theorem se_cmp2 {op : CmpOp} {o : Op} {x y : IA} (hC : MonoC C) (ho : OpR X (compareOp op) (fun x y H Q => opN X.K o [x, y] H Q)) (ha : PE X a (rdD P C X.K x)) (hb : PE X b (rdD P C X.K y)) (hm : behindInMarks op b = false) :
    PE X (.Compare a [op] [b] pos) (rdE P C X.K (.op o (.cons x (.cons y .nil)))) :=
  PE.imp (pe_cmpR ho ha hb hm) fun σ H Q h => rdD_mono hC (fun v H1 h1 => rdD_mono hC (fun u H2 h2 => rdAs_nil h2) (rdAs_cons hC h1)) (rdAs_cons hC (op_args hC h))

theorem se_neg {x : IA} (hC : MonoC C) (ha : PE X a (rdD P C X.K x)) : PE X (.UnaryOp .USub a pos) (rdE P C X.K (.op .neg (.cons x .nil))) :=
  PE.imp (pe_un ok_neg ha) fun σ H Q h => rdD_mono hC (fun v H1 h1 => rdAs_nil h1) (rdAs_cons hC (op_args hC h))
/-- x is None, x is True .. -/
theorem se_is {c : PV} {cv : V} {x : IA} (hC : MonoC C) (hc : vC c = some cv) (ha : PE X a (rdD P C X.K x)) (hb : PE X b (tC cv)) (hm : behindInMarks .Is b = false) : PE X (.Compare a [.Is] [b] pos) (rdE P C X.K (.op (.isC c) (.cons x .nil))) :=
  PE.imp (pe_cmpR (ok_is hc) ha hb hm) fun σ H Q h => rdD_mono hC (fun v H1 h1 => ⟨rfl, rdAs_nil h1⟩) (rdAs_cons hC (op_args hC h))
theorem se_ns {c : PV} {cv : V} {x : IA} (hC : MonoC C) (hc : vC c = some cv) (ha : PE X a (rdD P C X.K x)) (hb : PE X b (tC cv)) (hm : behindInMarks .IsNot b = false) : PE X (.Compare a [.IsNot] [b] pos) (rdE P C X.K (.op (.nsC c) (.cons x .nil))) :=
  PE.imp (pe_cmpR (ok_ns hc) ha hb hm) fun σ H Q h => rdD_mono hC (fun v H1 h1 => ⟨rfl, rdAs_nil h1⟩) (rdAs_cons hC (op_args hC h))
theorem se_ix {x y : IA} (hC : MonoC C) (ha : PE X a (rdD P C X.K x)) (hb : PE X b (rdD P C X.K y)) (hs : PlainIx b) : PE X (.Subscript a b pos) (rdE P C X.K (.op .ix (.cons x (.cons y .nil)))) :=
  PE.imp (pe_ix ok_ix ha hb hs) fun σ H Q h => rdD_mono hC (fun v H1 h1 => rdD_mono hC (fun u H2 h2 => rdAs_nil h2) (rdAs_cons hC h1)) (rdAs_cons hC (op_args hC h))
/-- the parts of a slice -/
theorem sl_args {lo hi : Bool} {as : IAs} (hC : MonoC C) {σ : L2.St} {H : Hp} {Q : VK} (h : rdE P C X.K (.op (.sl lo hi) as) σ H Q) :
    rdAs P C X.K as σ H (fun xs H' => ∃ (A : AS) (vs : List PV) (v : PV), (∀ b, A b → H' b ≠ none) ∧ RTs X.K false H' A vs xs ∧ opSl lo hi vs = some v ∧ ∀ z H2, PostOp X.K H' H2 A true v z → Q z H2) := op_args hC h
theorem se_sl00 {x : IA} {p2 : Pos} (hC : MonoC C) (ha : PE X a (rdD P C X.K x)) : PE X (.Subscript a (.Slice none none none p2) pos) (rdE P C X.K (.op (.sl false false) (.cons x .nil))) :=
  PE.imp (pe_slice ok_sl ha po_none po_none) fun σ H Q h => rdD_mono hC (fun v H1 h1 => by
    obtain ⟨A, vs, w, hd, ht, e, q⟩ := rdAs_nil h1
    obtain ⟨v1, rfl, t1⟩ := ht.one
    exact ⟨A, v1, w, hd, t1, e, q⟩) (rdAs_cons hC (sl_args hC h))
theorem opSl_tf {v1 v2 w : PV} (h : opSl true false [v1, v2] = some w) : ∃ i, v2 = .int i ∧ opSl.cutOf v1 (some i) none = some w := by
  cases v2 with
  | int i => exact ⟨i, rfl, h⟩
  | _ => cases h
theorem opSl_ft {v1 v2 w : PV} (h : opSl false true [v1, v2] = some w) : ∃ i, v2 = .int i ∧ opSl.cutOf v1 none (some i) = some w := by
  cases v2 with
  | int i => exact ⟨i, rfl, h⟩
  | _ => cases h
theorem opSl_tt {v1 v2 v3 w : PV} (h : opSl true true [v1, v2, v3] = some w) : ∃ i j, v2 = .int i ∧ v3 = .int j ∧ opSl.cutOf v1 (some i) (some j) = some w := by
  cases v2 with
  | int i =>
    cases v3 with
    | int j => exact ⟨i, j, rfl, rfl, h⟩
    | _ => cases h
  | _ => cases h
theorem se_sl10 {x y : IA} {p2 : Pos} (hC : MonoC C) (ha : PE X a (rdD P C X.K x)) (hb : PE X b (rdD P C X.K y)) : PE X (.Subscript a (.Slice (some b) none none p2) pos) (rdE P C X.K (.op (.sl true false) (.cons x (.cons y .nil)))) :=
  PE.imp (pe_slice ok_sl ha (po_some hb) po_none) fun σ H Q h => rdD_mono hC (fun v H1 h1 => rdD_mono hC (fun u H2 h2 => by
    obtain ⟨A, vs, w, hd, ht, e, q⟩ := rdAs_nil h2
    obtain ⟨v1, v2, rfl, t1, t2⟩ := ht.two
    obtain ⟨i, rfl, e⟩ := opSl_tf e
    exact ⟨i, t2.int, A, v1, w, hd, t1, e, q⟩) (rdAs_cons hC h1)) (rdAs_cons hC (sl_args hC h))
theorem se_sl01 {x y : IA} {p2 : Pos} (hC : MonoC C) (ha : PE X a (rdD P C X.K x)) (hb : PE X b (rdD P C X.K y)) : PE X (.Subscript a (.Slice none (some b) none p2) pos) (rdE P C X.K (.op (.sl false true) (.cons x (.cons y .nil)))) :=
  PE.imp (pe_slice ok_sl ha po_none (po_some hb)) fun σ H Q h => rdD_mono hC (fun v H1 h1 => rdD_mono hC (fun u H2 h2 => by
    obtain ⟨A, vs, w, hd, ht, e, q⟩ := rdAs_nil h2
    obtain ⟨v1, v2, rfl, t1, t2⟩ := ht.two
    obtain ⟨i, rfl, e⟩ := opSl_ft e
    exact ⟨i, t2.int, A, v1, w, hd, t1, e, q⟩) (rdAs_cons hC h1)) (rdAs_cons hC (sl_args hC h))

/-- a built-in by its name -/
theorem se_callB {id : String} {x : Str} {p : Pos} {o : Op} {as : IAs} (hC : MonoC C) (hc : CallR X (.builtin id) (opN X.K o)) (hg : Gl X x) (hm : X.mg x = none) (hv : bootBuiltins x = some (.builtin id)) (ha : PA X (e :: es) (rdAs P C X.K as)) (hn : x ≠ "__name__") (hdb : (x == ("__debug__" : Str)) = false)
    (he : starEach (e :: es) X.env = (false, eval e X.env) :: starEach es X.env) (hpl : (backTo pos (starEach es X.env)).any (·.1) = false) : PE X (.Call (.Name x p) (e :: es) [] pos) (rdE P C X.K (.op o as)) :=
  PE.imp (pe_callB hc hg hm hv ha hn hdb he hpl) fun σ H Q h => op_args hC h
theorem se_callTy {T : String} {x : Str} {p : Pos} {o : Op} {as : IAs} (hC : MonoC C) (hc : CallR X (.type T) (opN X.K o)) (hg : Gl X x) (hm : X.mg x = none) (hv : bootBuiltins x = some (.type T)) (ha : PA X (e :: es) (rdAs P C X.K as)) (hn : x ≠ "__name__") (hdb : (x == ("__debug__" : Str)) = false)
    (he : starEach (e :: es) X.env = (false, eval e X.env) :: starEach es X.env) (hpl : (backTo pos (starEach es X.env)).any (·.1) = false) : PE X (.Call (.Name x p) (e :: es) [] pos) (rdE P C X.K (.op o as)) :=
  PE.imp (pe_callTy hc hg hm hv ha hn hdb he hpl) fun σ H Q h => op_args hC h
theorem se_isi {t : Ty} {x : Str} {p : Pos} {y : IA} (hC : MonoC C) (hg : Gl X x) (hm : X.mg x = none) (hv : bootBuiltins x = some (.builtin "isinstance")) (ha : PE X a (rdD P C X.K y)) (hb : PE X b (tC (.ty (tyN t)))) (hn : x ≠ "__name__") (hdb : (x == ("__debug__" : Str)) = false)
    (he : starEach [a, b] X.env = (false, eval a X.env) :: starEach [b] X.env) (he2 : starEach [b] X.env = (false, eval b X.env) :: starEach [] X.env) (hpl : (backTo pos (starEach [b] X.env)).any (·.1) = false) : PE X (.Call (.Name x p) [a, b] [] pos) (rdE P C X.K (.op (.isTy t) (.cons y .nil))) :=
  PE.imp (pe_callB (ok_isi (t := t)) hg hm hv (pa_cons ha (pa_cons hb pa_nil he2) he) hn hdb he hpl) fun σ H Q h =>
    show rdD P C X.K y σ H _ from rdD_mono hC (fun v H1 h1 => ⟨v, rfl, rdAs_nil h1⟩) (rdAs_cons hC (op_args hC h))
/-- displays -/
theorem Av_dom_add {K : PySem.W.Frag} {F : Fm} {own : Own} {ρ : Env} {σ : L2.St} {H : Hp} (R : Rel K F own ρ σ H) {p : Addr} (hp : H p = none) : ¬ Av F own p := fun z => R.av_dom p z hp
theorem new_list {K : PySem.W.Frag} {F : Fm} {own : Own} {ρ' : Env} {σ : L2.St} {H H1 : Hp} {l : List PV} {xs : List V} {p : Addr} {fr : Bool} (R0 : ∀ b, H b ≠ none → H1 b ≠ none) (k : Fr own H H1) (R : Rel K F own ρ' σ H1) (r : RVs K H1 (Av F own) l xs) (hp : H1 p = none) :
    PostE K F own H ρ' σ fr (.list l) (.ref p) (upd H1 p (.lst xs)) :=
  PostOp.post R k R0 (.newL R.av_dom r hp)
theorem se_tup {es' : IEs} {x1 : Nat} (hC : MonoC C) (h : PA X es (rdEs P C X.K es')) : PE X (.Tuple es x1 pos) (rdE P C X.K (.mkT es')) :=
  PE.imp (pe_tup h) fun σ H Q h => by
    obtain ⟨F, own, ρ, R, w⟩ := h
    unfold wpE at w
    refine ⟨F, own, ρ, R, wpEs_mono hC es' ρ (fun vs ρ' ⟨hl, q⟩ xs H1 p => ⟨?_, fun a ha => q _ _ ?_⟩) w⟩
    · rw [← p.vals.length, ← line_eq]; exact hl
    · exact PostOp.post p.rel p.keep (Fr.dom R p.keep p.rel) (.newT p.vals ha)
theorem se_lst {es' : IEs} (hC : MonoC C) (h : PA X es (rdEs P C X.K es')) : PE X (.List es pos) (rdE P C X.K (.mkL es')) :=
  PE.imp (pe_lst h) fun σ H Q h => by
    obtain ⟨F, own, ρ, R, w⟩ := h
    unfold wpE at w
    refine ⟨F, own, ρ, R, wpEs_mono hC es' ρ (fun vs ρ' ⟨hl, q⟩ xs H1 p => ⟨?_, fun a ha => q _ _ ?_⟩) w⟩
    · rw [← p.vals.length, ← line_eq]; exact hl
    · exact new_list (Fr.dom R p.keep p.rel) p.keep p.rel p.vals ha

/-! ### truth, tests -/
theorem truth_ok {K : PySem.W.Frag} {H : Hp} {A : AS} {v : PV} {x : V} {t : Bool} (r : RV K H A v x) (h : truth v = some t) : TruV K x H t := by
  cases r with
  | non => cases h; rfl
  | bl b => cases h; rfl
  | int i => cases h; rfl
  | str s =>
    unfold truth at h
    simp only at h
    split at h
    · rename_i hl
      cases h
      exact ⟨by rw [← line_eq]; exact hl, rfl⟩
    · cases h
  | tup hs r =>
    cases h
    refine .inr (.inl ⟨_, hs, ?_⟩)
    cases r <;> rfl
  | lst _ hs r =>
    cases h
    refine .inl ⟨_, .inl hs, ?_⟩
    cases r <;> rfl
theorem postT_of {K : PySem.W.Frag} {F : Fm} {own : Own} {H : Hp} {ρ : Env} {σ : L2.St} {fr : Bool} {v : PV} {x : V} {H' : Hp} (p : PostE K F own H ρ σ fr v x H') : PostT K F own H ρ σ H' := ⟨p.keep, p.rel⟩
/-- a test whose value's truth is asked -/
theorem st_plain {ie : IE} (hC : MonoC C) (h : PE X e (rdE P C X.K ie)) (hp : ∀ whole, isTrue e X.env whole = (do let v ← whole; standAt e.pos; holding [v] (truthy v))) : PT X e (rdT P C X.K ie) :=
  PT.imp (pt_truth h hp) fun σ H Q h => by
    obtain ⟨F, own, ρ, R, w⟩ := h
    refine ⟨F, own, ρ, R, wpE_mono hC ie ρ (fun v ρ' ⟨t, e, q⟩ x H' p => ?_) w⟩
    exact ⟨t, truth_ok p.val e, q _ (postT_of p)⟩
/-- the operations that give True or False -/
def Op.isB : Op → Bool
  | .eq | .ne | .lt | .le | .gt | .ge | .isC _ | .nsC _ | .isIn | .nIn | .isTy _ => true
  | _ => false
theorem isB_bool {o : Op} {vs : List PV} {v : PV} (hb : o.isB = true) (h : evalOp o vs = some v) : ∃ b, v = .bool b := by
  cases o with
  | eq => unfold evalOp opEq at h; simp only at h; split at h <;> first | (split at h <;> first | (cases h; exact ⟨_, rfl⟩) | cases h) | cases h
  | ne => unfold evalOp opNe at h; simp only at h; split at h <;> first | (split at h <;> first | (cases h; exact ⟨_, rfl⟩) | cases h) | cases h
  | lt => unfold evalOp opLt at h; simp only at h; split at h <;> first | (cases h; exact ⟨_, rfl⟩) | cases h
  | le => unfold evalOp opLe at h; simp only at h; split at h <;> first | (cases h; exact ⟨_, rfl⟩) | cases h
  | gt => unfold evalOp opGt at h; simp only at h; split at h <;> first | (cases h; exact ⟨_, rfl⟩) | cases h
  | ge => unfold evalOp opGe at h; simp only at h; split at h <;> first | (cases h; exact ⟨_, rfl⟩) | cases h
  | isC c => unfold evalOp opIs at h; simp only at h; split at h <;> first | (obtain ⟨b, _, e⟩ := Option.map_eq_some_iff.mp h; exact ⟨_, e.symm⟩) | cases h
  | nsC c => unfold evalOp opNs at h; simp only at h; split at h <;> first | (obtain ⟨b, _, e⟩ := Option.map_eq_some_iff.mp h; exact ⟨_, e.symm⟩) | cases h
  | isIn => unfold evalOp opIn at h; simp only at h; split at h <;> first | (obtain ⟨b, _, e⟩ := Option.bind_eq_some_iff.mp h; split at e <;> first | (cases e; exact ⟨_, rfl⟩) | cases e) | cases h
  | nIn => unfold evalOp opNIn at h; simp only at h; split at h <;> first | (obtain ⟨b, _, e⟩ := Option.bind_eq_some_iff.mp h; split at e <;> first | (cases e; exact ⟨_, rfl⟩) | cases e) | cases h
  | isTy t => unfold evalOp opTy at h; simp only at h; split at h <;> first | (cases h; exact ⟨_, rfl⟩) | cases h
  | _ => cases hb
theorem opN_test {o : Op} {K : PySem.W.Frag} {xs : List V} {H : Hp} {Q : Bool → Hp → Prop} (hb : o.isB = true) (h : opN K o xs H fun z H' => ∀ t, z = .bl t → Q t H') : opN K o xs H fun z H' => ∃ t, z = .bl t ∧ Q t H' := by
  obtain ⟨A, vs, v, hd, ht, e, q⟩ := h
  obtain ⟨b, rfl⟩ := isB_bool hb e
  refine ⟨A, vs, _, hd, ht, e, fun z H' p => ?_⟩
  have hz : z = .bl b := by
    have r := p.val
    cases r; rfl
  exact ⟨b, hz, q z H' p b hz⟩
/-- an operation's reading as a test -/
theorem op_argsT {as : IAs} {o : Op} (hC : MonoC C) (hb : o.isB = true) {σ : L2.St} {H : Hp} {Q : Bool → Hp → Prop} (h : rdT P C X.K (.op o as) σ H Q) : rdAs P C X.K as σ H (fun xs H' => opN X.K o xs H' fun z H2 => ∃ t, z = .bl t ∧ Q t H2) := by
  obtain ⟨F, own, ρ, R, w⟩ := h
  unfold wpT wpE at w
  refine ⟨F, own, ρ, R, wpAs_mono hC as ρ (fun ds ρ' ⟨vs, e1, v, e2, q⟩ xs H' p => ?_) w⟩
  obtain ⟨b, rfl⟩ := isB_bool hb e2
  obtain ⟨t, et, q⟩ := q
  cases et
  refine ⟨Av F own, vs, _, p.rel.av_dom, p.dscs.rts p.rel e1, e2, fun z H2 po => ⟨b, ?_, q _ ?_⟩⟩
  · have r := po.val
    cases r; rfl
  · exact postT_of (po.post p.rel p.keep (Fr.dom R p.keep p.rel))
theorem st_cmp2 {op : CmpOp} {o : Op} {x y : IA} (hC : MonoC C) (hb' : o.isB = true) (ho : OpR X (compareOp op) (fun x y H Q => opN X.K o [x, y] H Q)) (ha : PE X a (rdD P C X.K x)) (hb : PE X b (rdD P C X.K y)) (hm : behindInMarks op b = false) :
    PT X (.Compare a [op] [b] pos) (rdT P C X.K (.op o (.cons x (.cons y .nil)))) :=
  PT.imp (pt_cmpR ho ha hb hm) fun σ H Q h => rdD_mono hC (fun v H1 h1 => rdD_mono hC (fun u H2 h2 => rdAs_nil h2) (rdAs_cons hC h1)) (rdAs_cons hC (op_argsT hC hb' h))
theorem st_is {c : PV} {cv : V} {x : IA} (hC : MonoC C) (hc : vC c = some cv) (ha : PE X a (rdD P C X.K x)) (hb : PE X b (tC cv)) (hm : behindInMarks .Is b = false) : PT X (.Compare a [.Is] [b] pos) (rdT P C X.K (.op (.isC c) (.cons x .nil))) :=
  PT.imp (pt_cmpR (ok_is hc) ha hb hm) fun σ H Q h => rdD_mono hC (fun v H1 h1 => ⟨rfl, rdAs_nil h1⟩) (rdAs_cons hC (op_argsT hC rfl h))
theorem st_ns {c : PV} {cv : V} {x : IA} (hC : MonoC C) (hc : vC c = some cv) (ha : PE X a (rdD P C X.K x)) (hb : PE X b (tC cv)) (hm : behindInMarks .IsNot b = false) : PT X (.Compare a [.IsNot] [b] pos) (rdT P C X.K (.op (.nsC c) (.cons x .nil))) :=
  PT.imp (pt_cmpR (ok_ns hc) ha hb hm) fun σ H Q h => rdD_mono hC (fun v H1 h1 => ⟨rfl, rdAs_nil h1⟩) (rdAs_cons hC (op_argsT hC rfl h))
theorem st_not {ie : IE} (hC : MonoC C) (ha : PT X a (rdT P C X.K ie)) : PT X (.UnaryOp .Not a pos) (rdT P C X.K (.notE ie)) :=
  PT.imp (pt_not ha) fun σ H Q h => by
    obtain ⟨F, own, ρ, R, w⟩ := h
    unfold wpT wpE at w
    refine ⟨F, own, ρ, R, wpE_mono hC ie ρ (fun v ρ' ⟨t, e, t2, e2, q⟩ => ⟨t, e, fun H' p => ?_⟩) w⟩
    cases e2
    exact q _ p
theorem rdT_step {K : PySem.W.Frag} {F : Fm} {own : Own} {ρ1 : Env} {σ : L2.St} {H H1 : Hp} {ie : IE} {Q : Bool → Hp → Prop} (hC : MonoC C) (p : PostT K F own H ρ1 σ H1) (w : wpT P C ie ρ1 fun t ρ' => ∀ H', PostT K F own H ρ' σ H' → Q t H') : rdT P C K ie σ H1 Q :=
  ⟨F, own, ρ1, p.rel, wpT_mono hC ie ρ1 (fun t ρ' q H' r => q H' ⟨p.keep.trans r.keep, r.rel⟩) w⟩
theorem rdE_step {K : PySem.W.Frag} {F : Fm} {own : Own} {ρ1 : Env} {σ : L2.St} {H H1 : Hp} {ie : IE} {Q : VK} {fr : Bool} (hC : MonoC C) (R : Rel K F own ρ1 σ H1) (k : Fr own H H1) (mono : ∀ b, H b ≠ none → H1 b ≠ none) (hf : fr = true → ie.fresh = true) (w : wpE P C ie ρ1 fun t ρ' => ∀ x H', PostE K F own H ρ' σ fr t x H' → Q x H') : rdE P C K ie σ H1 Q := by
  refine ⟨F, own, ρ1, R, wpE_mono hC ie ρ1 (fun t ρ' q x H' r => q x H' ⟨k.trans r.keep, r.rel, r.val, fun h1 h2 => ?_⟩) w⟩
  obtain ⟨a, e, hn, r⟩ := r.new (hf h1) h2
  refine ⟨a, e, ?_, r⟩
  cases q : H a with
  | none => rfl
  | some o => exact absurd hn (mono a (by rw [q]; exact fun z => by cases z))
theorem st_and {x y : IE} {rest : List Expr} (hC : MonoC C) (ha : PT X a (rdT P C X.K x)) (hb : PW X (.BoolOp .And (b :: rest) pos) (rdT P C X.K y)) : PW X (.BoolOp .And (a :: b :: rest) pos) (rdT P C X.K (.andE x y)) :=
  PW.imp (pw_and ha hb) fun σ H Q h => by
    obtain ⟨F, own, ρ, R, w⟩ := h
    unfold wpT wpE at w
    refine ⟨F, own, ρ, R, wpE_mono hC x ρ (fun v ρ1 ⟨t, e, q⟩ => ⟨t, e, fun H1 p => ?_⟩) w⟩
    cases t with
    | true =>
      rw [if_pos rfl] at q ⊢
      exact rdT_step hC p q
    | false =>
      rw [if_neg Bool.false_ne_true] at q ⊢
      obtain ⟨t, e2, q⟩ := q
      rw [e] at e2; cases e2
      exact q _ p
theorem st_or {x y : IE} {rest : List Expr} (hC : MonoC C) (ha : PT X a (rdT P C X.K x)) (hb : PW X (.BoolOp .Or (b :: rest) pos) (rdT P C X.K y)) : PW X (.BoolOp .Or (a :: b :: rest) pos) (rdT P C X.K (.orE x y)) :=
  PW.imp (pw_or ha hb) fun σ H Q h => by
    obtain ⟨F, own, ρ, R, w⟩ := h
    unfold wpT wpE at w
    refine ⟨F, own, ρ, R, wpE_mono hC x ρ (fun v ρ1 ⟨t, e, q⟩ => ⟨t, e, fun H1 p => ?_⟩) w⟩
    cases t with
    | true =>
      rw [if_pos rfl] at q ⊢
      obtain ⟨t, e2, q⟩ := q
      rw [e] at e2; cases e2
      exact q _ p
    | false =>
      rw [if_neg Bool.false_ne_true] at q ⊢
      exact rdT_step hC p q
theorem st_and1 {x : IE} (ha : PT X a (rdT P C X.K x)) : PW X (.BoolOp .And [a] pos) (rdT P C X.K x) := pw_and1 ha
theorem st_or1 {x : IE} (ha : PT X a (rdT P C X.K x)) : PW X (.BoolOp .Or [a] pos) (rdT P C X.K x) := pw_or1 ha
/-! ### a if c else b; and, or, not as values -/
theorem se_ife {ic x y : IE} (hC : MonoC C) (hc : PT X c (rdT P C X.K ic)) (ha : PE X a (rdE P C X.K x)) (hb : PE X b (rdE P C X.K y)) : PE X (.IfExp c a b pos) (rdE P C X.K (.ife ic x y)) :=
  PE.imp (pe_ifExp hc ha hb) fun σ H Q h => by
    obtain ⟨F, own, ρ, R, w⟩ := h
    unfold wpE at w
    refine ⟨F, own, ρ, R, wpE_mono hC ic ρ (fun v ρ1 ⟨t, e, q⟩ => ⟨t, e, fun H1 p => ?_⟩) w⟩
    have hf : (IE.ife ic x y).fresh = true → x.fresh = true ∧ y.fresh = true := fun h => by
      unfold IE.fresh at h
      simpa using h
    cases t with
    | true => exact rdE_step hC p.rel p.keep (Fr.dom R p.keep p.rel) (fun h => (hf h).1) q
    | false => exact rdE_step hC p.rel p.keep (Fr.dom R p.keep p.rel) (fun h => (hf h).2) q
theorem se_and {x y : IE} {rest : List Expr} (hC : MonoC C) (ha : PE X a (rdE P C X.K x)) (hb : PE X (.BoolOp .And (b :: rest) pos) (rdE P C X.K y)) : PE X (.BoolOp .And (a :: b :: rest) pos) (rdE P C X.K (.andE x y)) :=
  PE.imp (pe_andT ha hb) fun σ H Q h => by
    obtain ⟨F, own, ρ, R, w⟩ := h
    unfold wpE at w
    refine ⟨F, own, ρ, R, wpE_mono hC x ρ (fun v ρ1 ⟨t, e, q⟩ z H1 p => ⟨t, truth_ok p.val e, ?_⟩) w⟩
    cases t with
    | true => exact rdE_step hC p.rel p.keep (Fr.dom R p.keep p.rel) (fun h => by cases h) q
    | false => exact q _ _ ⟨p.keep, p.rel, p.val, fun h => by cases h⟩
theorem se_or {x y : IE} {rest : List Expr} (hC : MonoC C) (ha : PE X a (rdE P C X.K x)) (hb : PE X (.BoolOp .Or (b :: rest) pos) (rdE P C X.K y)) : PE X (.BoolOp .Or (a :: b :: rest) pos) (rdE P C X.K (.orE x y)) :=
  PE.imp (pe_orT ha hb) fun σ H Q h => by
    obtain ⟨F, own, ρ, R, w⟩ := h
    unfold wpE at w
    refine ⟨F, own, ρ, R, wpE_mono hC x ρ (fun v ρ1 ⟨t, e, q⟩ z H1 p => ⟨t, truth_ok p.val e, ?_⟩) w⟩
    cases t with
    | true => exact q _ _ ⟨p.keep, p.rel, p.val, fun h => by cases h⟩
    | false => exact rdE_step hC p.rel p.keep (Fr.dom R p.keep p.rel) (fun h => by cases h) q
theorem se_one {op : BoolOp} {x : IE} (ha : PE X a (rdE P C X.K x)) : PE X (.BoolOp op [a] pos) (rdE P C X.K x) := pe_one ha
theorem se_not {x : IE} (hC : MonoC C) (ha : PE X a (rdE P C X.K x)) : PE X (.UnaryOp .Not a pos) (rdE P C X.K (.notE x)) :=
  PE.imp (pe_notT ha) fun σ H Q h => by
    obtain ⟨F, own, ρ, R, w⟩ := h
    unfold wpE at w
    refine ⟨F, own, ρ, R, wpE_mono hC x ρ (fun v ρ1 ⟨t, e, q⟩ z H1 p => ⟨t, truth_ok p.val e, ?_⟩) w⟩
    exact q _ _ ⟨p.keep, p.rel, .bl _, fun _ h => by cases h⟩
/-! ### chains -/
theorem opN_of {o : Op} {K : PySem.W.Frag} {F : Fm} {own : Own} {ρ : Env} {σ : L2.St} {H : Hp} {Q : VK} {v : PV} {vs : List PV} {xs : List V} (R : Rel K F own ρ σ H) (r : RVs K H (Av F own) vs xs) (e : evalOp o vs = some v) (q : ∀ z H', PostOp K H H' (Av F own) o.fresh v z → Q z H') : opN K o xs H Q := by
  have rts : ∀ {vs : List PV} {xs : List V}, RVs K H (Av F own) vs xs → RTs K o.kl H (Av F own) vs xs := by
    intro vs xs r
    induction vs generalizing xs with
    | nil => cases r; exact .nil
    | cons v vs ih =>
      cases r with
      | cons r t => exact .cons (.inl r) (ih t)
  exact ⟨Av F own, vs, v, R.av_dom, rts r, e, q⟩
theorem se_chn {op op' : CmpOp} {o o' : Op} {x y z : IE} (hC : MonoC C) (hb' : o'.isB = true) (ho : OpR X (compareOp op) (fun x y H Q => opN X.K o [x, y] H Q)) (ho' : OpR X (compareOp op') (fun x y H Q => opN X.K o' [x, y] H Q))
    (ha : PE X a (rdE P C X.K x)) (hb : PE X b (rdE P C X.K y)) (hc : PE X c (rdE P C X.K z)) (hm : lastMarks [op, op'] [b, c] = false) : PE X (.Compare a [op, op'] [b, c] pos) (rdE P C X.K (.chn o o' x y z)) :=
  PE.imp (pe_chain ho ho' ha hb hc hm) fun σ H Q h => by
    obtain ⟨F, own, ρ, R, w⟩ := h
    unfold wpE at w
    refine ⟨F, own, ρ, R, wpE_mono hC x ρ (fun v ρ1 w1 u H1 p1 => ?_) w⟩
    refine ⟨F, own, ρ1, p1.rel, wpE_mono hC y ρ1 (fun v2 ρ2 ⟨t, e, q⟩ u2 H2 p2 => ?_) w1⟩
    refine opN_of p2.rel (.cons (RV.fr p1.rel p2.keep p1.val) (.cons p2.val .nil)) e fun k H3 po => ?_
    have r := po.val
    cases r
    refine ⟨t, rfl, ?_⟩
    have k3 : Fr own H H3 := (p1.keep.trans p2.keep).trans (Fr.of_same po.same)
    have R3 : Rel X.K F own ρ2 σ H3 := p2.rel.same' po.same
    cases t with
    | false => exact q _ _ ⟨k3, R3, .bl _, fun h => by cases h⟩
    | true =>
      refine ⟨F, own, ρ2, R3, wpE_mono hC z ρ2 (fun v3 ρ3 ⟨v4, e2, q2⟩ u3 H4 p4 => ?_) q⟩
      refine opN_of p4.rel (.cons (RV.fr R3 p4.keep (RV.same p2.rel po.same p2.val)) (.cons p4.val .nil)) e2 fun k2 H5 po2 => ?_
      refine q2 _ _ ⟨(k3.trans p4.keep).trans (Fr.of_same po2.same), p4.rel.same' po2.same, po2.val, fun h => by cases h⟩
theorem st_chn {op op' : CmpOp} {o o' : Op} {x y z : IE} (hC : MonoC C) (hb' : o'.isB = true) (ho : OpR X (compareOp op) (fun x y H Q => opN X.K o [x, y] H Q)) (ho' : OpR X (compareOp op') (fun x y H Q => opN X.K o' [x, y] H Q))
    (ha : PE X a (rdE P C X.K x)) (hb : PE X b (rdE P C X.K y)) (hc : PE X c (rdE P C X.K z)) (hm : lastMarks [op, op'] [b, c] = false) : PT X (.Compare a [op, op'] [b, c] pos) (rdT P C X.K (.chn o o' x y z)) :=
  PT.imp (pt_chain ho ho' ha hb hc hm) fun σ H Q h => by
    obtain ⟨F, own, ρ, R, w⟩ := h
    unfold wpT wpE at w
    refine ⟨F, own, ρ, R, wpE_mono hC x ρ (fun v ρ1 w1 u H1 p1 => ?_) w⟩
    refine ⟨F, own, ρ1, p1.rel, wpE_mono hC y ρ1 (fun v2 ρ2 ⟨t, e, q⟩ u2 H2 p2 => ?_) w1⟩
    refine opN_of p2.rel (.cons (RV.fr p1.rel p2.keep p1.val) (.cons p2.val .nil)) e fun k H3 po => ?_
    have r := po.val
    cases r
    refine ⟨t, rfl, ?_⟩
    have k3 : Fr own H H3 := (p1.keep.trans p2.keep).trans (Fr.of_same po.same)
    have R3 : Rel X.K F own ρ2 σ H3 := p2.rel.same' po.same
    cases t with
    | false =>
      rw [if_neg Bool.false_ne_true] at q ⊢
      obtain ⟨t, et, q⟩ := q
      cases et
      exact ⟨false, rfl, q _ ⟨k3, R3⟩⟩
    | true =>
      refine ⟨F, own, ρ2, R3, wpE_mono hC z ρ2 (fun v3 ρ3 ⟨v4, e2, t, et, q2⟩ u3 H4 p4 => ?_) q⟩
      obtain ⟨bb, rfl⟩ := isB_bool hb' e2
      cases et
      refine opN_of p4.rel (.cons (RV.fr R3 p4.keep (RV.same p2.rel po.same p2.val)) (.cons p4.val .nil)) e2 fun k2 H5 po2 => ?_
      have r2 := po2.val
      cases r2
      exact ⟨_, rfl, q2 _ ⟨(k3.trans p4.keep).trans (Fr.of_same po2.same), p4.rel.same' po2.same⟩⟩
end
end IR
namespace IR
open PySem PySem.Spec L2 PyProof.Rows
open AutoSeq1 (wpAny_loadPart')

/-! ### enumerate(tuple) -/
theorem meets_enumerate_newT (l : Addr) (items : Array Value) (n : Nat) (dct : Option Addr) (sl : Array (Option Value)) :
    Meets (Builtin.«enumerate.__new__» ⟨[.type "enumerate", .ref l], []⟩) (fun _ R s => s.heap.get? l = some { cls := .type "tuple", dict := dct, data := .seq items n, slots := sl } ∧
      R (.ok (.ret (.ref (s.heap.push { cls := .type "tuple_iterator", data := .fields #[.ref l, .int 0 0] }).objs.size)))
        { s with heap := (s.heap.push { cls := .type "tuple_iterator", data := .fields #[.ref l, .int 0 0] }).push { cls := .type "enumerate", data := .fields #[.none, .bool false, .ref s.heap.objs.size, rawInt 0, .none, .none] } }) :=
  .of_wp fun prog w A R s h => by
    obtain ⟨hp, g, d, tk, os⟩ := s; obtain ⟨hl, h⟩ := h
    have hsub := sub_enumerate
    have hL : Heap.IsTuple (Shared.heap ⟨hp, g, d, tk, os⟩) l items := ⟨_, hl, rfl, n, rfl⟩
    wp_walk using wpAny_loadPart' hl
    refine wpAny_stack_any fun st => wpAny_pure ?_
    split
    · rename_i c _ _ _ _ _
      cases (c == Value.type "enumerate")
      · wp_walk using wpAny_loadPart' hl, wpAny_pyIter_tuple hL
        exact ⟨_, rfl, h⟩
      · wp_walk using wpAny_loadPart' hl, wpAny_pyIter_tuple hL
        exact ⟨_, rfl, h⟩
    · wp_walk using wpAny_loadPart' hl, wpAny_pyIter_tuple hL
      exact ⟨_, rfl, h⟩
section
variable {prog : Program} {w : World} {A : Around} {E : Value → Shared → Prop} {s : Shared}
theorem call_enumerate_tuple {l : Addr} {items : Array Value} {Q : Value → Shared → Prop} (hL : s.heap.IsTuple l items)
    (h : ∀ h', IsEnum h' (s.heap.objs.size + 1) s.heap.objs.size 0 .none → h'.IsTupleIter s.heap.objs.size l 0 → h'.objs.size = s.heap.objs.size + 2 →
      (∀ b o, s.heap.get? b = some o → h'.get? b = some o) → Q (.ref (s.heap.objs.size + 1)) { s with heap := h' }) :
    wpAny (model prog w) A (call (.type "enumerate") [.ref l]) Q E s := by
  obtain ⟨⟨c, dct, dt, sl⟩, hl, hc, n, hd⟩ := hL
  replace hc : c = .type "tuple" := hc
  replace hd : dt = .seq items n := hd
  subst hc hd
  refine callType_new F.called_enumerate (by decide) (F.typeCall_enumerate_1 _) (F.newCall_enumerate_1 _) (fun obj => F.args_object_init_2 obj _) F.entry_enumerate_new
    (meets_enumerate_newT l items n dct sl) ⟨hl, ?_⟩
  have hz : (s.heap.push { cls := .type "tuple_iterator", data := .fields #[.ref l, .int 0 0] }).objs.size = s.heap.objs.size + 1 := Heap.size_push ..
  show _ ∧ _
  rw [hz]
  have he : IsEnum ((s.heap.push { cls := .type "tuple_iterator", data := .fields #[.ref l, .int 0 0] }).push
      { cls := .type "enumerate", data := .fields #[.none, .bool false, .ref s.heap.objs.size, rawInt 0, .none, .none] }) (s.heap.objs.size + 1) s.heap.objs.size 0 .none := by
    have := Heap.get?_push_size (s.heap.push { cls := .type "tuple_iterator", data := .fields #[.ref l, .int 0 0] })
      (o := { cls := .type "enumerate", data := .fields #[.none, .bool false, .ref s.heap.objs.size, rawInt 0, .none, .none] }) rfl
    rw [hz] at this; exact this
  refine ⟨⟨_, he, rfl⟩, h _ he ⟨_, Heap.get?_push_of_some _ (Heap.get?_push_size _ rfl), rfl, rfl⟩ (by rw [Heap.size_push, hz]) fun b o x => Heap.get?_push_of_some _ (Heap.get?_push_of_some _ x)⟩
end
/-- the tuple at a, each item in a new pair -/
def IteT (K : PySem.W.Frag) (a : Addr) : It :=
  ⟨fun i H => ∃ (xs : List V) (x : V), SqT K H a xs ∧ xs[i]? = some x, fun i H v H' => ∃ T x, v = .ref T ∧ H T = none ∧ H' = upd H T (.tup [.int (i : Nat), x]) ∧ ∀ xs, SqT K H a xs → xs[i]? = some x, fun i H => ∃ xs : List V, SqT K H a xs ∧ xs.length = i⟩
theorem turn_enumT {P : Program} {w : World} {K : PySem.W.Frag} {elts : List Expr} {kk : Nat} {tpos : Pos} (a e it : Addr) (hai : a ≠ it) (hae : a ≠ e) :
    Turn P w K (.Tuple elts kk tpos) (IteT K a) [e, it] e (fun i h => (∃ old, IsEnum h e it ((i : Nat) : Int) old) ∧ h.IsTupleIter it a i ∧ e ≠ it) where
  mem := by simp
  obj := fun i h st b hb => by
    obtain ⟨⟨old, he⟩, ⟨o, ho, hc, hd⟩, _⟩ := st
    have e' : b = e ∨ b = it := by simpa using hb
    rcases e' with z | z
    · rw [z]; exact ⟨_, he, fun v q => nomatch q⟩
    · rw [z]; exact ⟨o, ho, fun v q => by rw [hd] at q; cases q⟩
  keep := fun i h h' st k => let ⟨⟨old, he⟩, hi, hne⟩ := st; ⟨⟨old, k e (by simp) _ he⟩, hi.at fun o q => k it (by simp) o q, hne⟩
  item := by
    intro X hP hw hK hc i pins s σ H E I hf st hg
    subst hP hw hK
    obtain ⟨⟨old, he⟩, hit, hne⟩ := st
    obtain ⟨xs, x, hq, hx⟩ := hg
    obtain ⟨its, rv, p, hz⟩ := I.tuple hq
    obtain ⟨u, hu, ru⟩ := rv.get hx
    have hel : e < s.heap.objs.size := Heap.lt_size he
    have hil : it < s.heap.objs.size := by obtain ⟨_, q, _⟩ := hit; exact Heap.lt_size q
    have hlt : i < its.toArray.size := by
      obtain ⟨h1, _⟩ := List.getElem?_eq_some_iff.mp hu
      simpa using h1
    have hT0 : s.heap.IsTuple a its.toArray := p
    have hen : e ∉ [it, a] := by
      intro z
      have z' : e = it ∨ e = a := by simpa using z
      rcases z' with z | z
      · exact hne z
      · exact hae z.symm
    refine wpAny_pyNext_enum_itemD (Draws.tuple (A := X.A.in1) (I.ok.hd hc) it a hai its.toArray) he ⟨hit, hT0⟩ hlt hne hen fun y h' tk hy ho hst hT hsz hk => ?_
    have ey : y = u := by
      have h1 : its.toArray[i]? = some y := hy
      have h2 : its.toArray[i]? = some u := by simpa using hu
      rw [h1] at h2; cases h2; rfl
    subst ey
    obtain ⟨hit', _⟩ := hst
    refine ⟨_, rfl, wpAny_letOwnedTupleGo_enum (s := { s with heap := h', toks := tk + 1 }) ho fun h'' he' sb => ?_⟩
    have hT2 : h''.get? s.heap.objs.size = some { cls := .type "tuple", data := .seq #[.int i tk, y] } := (sb.2 _ (Nat.ne_of_gt hel)).trans hT
    have new : ObjOk X.prog X.w (upd H s.heap.objs.size (.tup [.int (i : Nat), x])) h'' s.heap.objs.size (.tup [.int (i : Nat), x]) :=
      ⟨by show 2 ≤ sizeLine; decide, [.int i tk, y], .cons ⟨_, rfl⟩ (.cons ru .nil), ⟨_, hT2, rfl, _, rfl⟩⟩
    have I1 : Inv X pins σ (upd H s.heap.objs.size (.tup [.int (i : Nat), x])) { s with heap := h'', toks := tk + 1 } :=
      I.turnedNew (ch := [e, it]) (fun b ob hb q => (sb.2 b (fun z => hb (by simp [z]))).trans (hk b ob (fun z => hb (by simp [z])) (fun z => hb (by simp [z])) q)) hf (Nat.le_refl _) new
    refine ⟨.ref s.heap.objs.size, _, I1, rfl, ⟨_, x, rfl, I.hok.fresh (Nat.le_refl _), rfl, fun ys hy => by rw [I.tuple_inj hy hq]; exact hx⟩, ⟨⟨y, ?_⟩, hit'.at fun o q => (sb.2 it (Ne.symm hne)).trans q, hne⟩, fun b hb => ?_⟩
    · have e1 : ((i + 1 : Nat) : Int) = (i : Int) + 1 := by omega
      rw [e1]; exact he'
    · have hb' : b < s.heap.objs.size := by
        have e' : b = e ∨ b = it := by simpa using hb
        rcases e' with z | z
        · rw [z]; exact hel
        · rw [z]; exact hil
      rw [upd_ne (Nat.ne_of_lt hb')]
      exact (hf b hb).1
  done := by
    intro X hP hw hK hc i pins s σ H E I hf st hg
    subst hP hw hK
    obtain ⟨⟨old, he⟩, hit, hne⟩ := st
    obtain ⟨xs, hq, hx⟩ := hg
    obtain ⟨its, rv, p, hz⟩ := I.tuple hq
    obtain ⟨f0, f1, f2, f3, f4, f5⟩ := hf it (by simp)
    have hl := rv.length
    have hT0 : s.heap.IsTuple a its.toArray := p
    have e1 : i = its.toArray.size := by simp only [List.size_toArray]; omega
    have D := Draws.tuple (prog := X.prog) (w := X.w) (A := X.A.in1) (I.ok.hd hc) it a hai its.toArray
    rw [← e1] at D
    exact wpAny_pyNext_enum_endD D he ⟨hit, hT0⟩ fun h' eb => ⟨rfl, I.turned (t' := s.toks) (fun b o hb q => eb b o hb q) f0 f1 f3 f4 f5⟩
  self := fun A i s Q E st h => let ⟨⟨_, he⟩, _⟩ := st; wpAny_pyIter_enum he h

/-! ### a list or a tuple, enumerate of either -/
section
variable {X : Cx} {tg : Expr}
def iSeq (K : PySem.W.Frag) (tl : TE) : TI := fun σ H R => tl σ H fun x H1 => ∃ a, x = .ref a ∧ (((∃ xs, SqL K H1 a xs) ∧ R (Itl K a) H1) ∨ ((∃ xs, SqT K H1 a xs) ∧ R (Itt K a) H1))
theorem pi_seq {l : Expr} {tl : TE} (hl : PE X l tl) : PI X tg l (iSeq X.K tl) := by
  refine ⟨fun pins s σ H R I h => ?_⟩
  refine thn (hl.run pins s σ H _ I h) fun v s1 ⟨x, H1, I1, r1, q1⟩ => ?_
  obtain ⟨a, e, q⟩ := q1
  subst e
  cases r1
  rcases q with ⟨⟨xs, hq⟩, q⟩ | ⟨⟨xs, hq⟩, q⟩
  · obtain ⟨its, rv, p, hz⟩ := I1.list hq
    refine wpAny_pyIter_list p.isList ?_
    refine ⟨s1.heap.objs.size, [s1.heap.objs.size], _, _, H1, rfl, I1.kept (t' := s1.toks) fun b o e => Heap.get?_push_of_some _ e, turn_list a _, ⟨_, Heap.get?_push_size _ rfl, rfl, rfl⟩, fun b hb => ?_, q⟩
    have e : b = s1.heap.objs.size := by simpa using hb
    subst e
    exact I1.fpOk (Nat.le_refl _) (I1.hok.fresh (Nat.le_refl _))
  · obtain ⟨its, rv, p, hz⟩ := I1.tuple hq
    refine wpAny_pyIter_tuple (show s1.heap.IsTuple a its.toArray from p) ?_
    refine ⟨s1.heap.objs.size, [s1.heap.objs.size], _, _, H1, rfl, I1.kept (t' := s1.toks) fun b o e => Heap.get?_push_of_some _ e, turn_tuple a _, ⟨_, Heap.get?_push_size _ rfl, rfl, rfl⟩, fun b hb => ?_, q⟩
    have e : b = s1.heap.objs.size := by simpa using hb
    subst e
    exact I1.fpOk (Nat.le_refl _) (I1.hok.fresh (Nat.le_refl _))
def iEnumA (K : PySem.W.Frag) (ta : TA) : TI := fun σ H R => ta σ H fun vs H1 => ∃ a xs, vs = [.ref a] ∧ ((SqL K H1 a xs ∧ R (Ite K a) H1) ∨ (SqT K H1 a xs ∧ R (IteT K a) H1))
theorem pi_enumA {e : Expr} {ta : TA} {p pos tpos : Pos} {elts : List Expr} {kk : Nat} (hg : Gl X "enumerate") (hm : X.mg "enumerate" = none) (ha : PA X [e] ta) (hs : starEach [e] X.env = [(false, eval e X.env)]) :
    PI X (.Tuple elts kk tpos) (.Call (.Name "enumerate" p) [e] [] pos) (iEnumA X.K ta) := by
  refine ⟨fun pins s σ H R I h => ?_⟩
  refine Call_ (ld_blt I hg hm boot_enumerate (PyProof.Rows.callWith_type1 (thn (ha.run pos pins s σ H _ I h) fun us s1 ⟨vs, H1, I1, r1, q1⟩ => ?_) hs rfl))
  obtain ⟨a, xs, ex, q⟩ := q1
  subst ex
  cases r1 with
  | cons r rr =>
    cases rr
    cases r
    have fpo : ∀ b ∈ [s1.heap.objs.size + 1, s1.heap.objs.size], FpOk X pins H1 b := fun b hb => by
      have e' : b = s1.heap.objs.size + 1 ∨ b = s1.heap.objs.size := by simpa using hb
      have hle : s1.heap.objs.size ≤ b := by
        rcases e' with z | z
        · rw [z]; exact Nat.le_add_right _ _
        · rw [z]; exact Nat.le_refl _
      exact I1.fpOk hle (I1.hok.fresh hle)
    rcases q with ⟨hq, q⟩ | ⟨hq, q⟩
    · obtain ⟨its, rv, p', hz⟩ := I1.list hq
      refine call_enumerate_list p'.isList fun h' he hit hsz hk => wpAny_pyIter_enum he ?_
      have I2 : Inv X pins σ H1 { s1 with heap := h' } := I1.kept (t' := s1.toks) hk
      exact ⟨s1.heap.objs.size + 1, [s1.heap.objs.size + 1, s1.heap.objs.size], _, _, H1, rfl, I2, turn_enum a (s1.heap.objs.size + 1) s1.heap.objs.size, ⟨⟨.none, he⟩, hit, Nat.succ_ne_self _⟩, fpo, q⟩
    · obtain ⟨its, rv, p', hz⟩ := I1.tuple hq
      have hlt : a < s1.heap.objs.size := p'.lt
      refine call_enumerate_tuple (show s1.heap.IsTuple a its.toArray from p') fun h' he hit hsz hk => wpAny_pyIter_enum he ?_
      have I2 : Inv X pins σ H1 { s1 with heap := h' } := I1.kept (t' := s1.toks) hk
      exact ⟨s1.heap.objs.size + 1, [s1.heap.objs.size + 1, s1.heap.objs.size], _, _, H1, rfl, I2, turn_enumT a (s1.heap.objs.size + 1) s1.heap.objs.size (Nat.ne_of_lt hlt) (Nat.ne_of_lt (Nat.lt_succ_of_lt hlt)), ⟨⟨.none, he⟩, hit, Nat.succ_ne_self _⟩, fpo, q⟩
end
end IR
namespace IR
open PySem PySem.Spec L2 PyProof.Rows

/-- a state that comes later in one frame -/
structure Later (own : Own) (H : Hp) (own' : Own) (H' : Hp) : Prop where
  keep : Fr own H H'
  sub : ∀ i a, own' i = some a → (∃ j, own j = some a) ∨ H a = none
  dom : ∀ a, H a ≠ none → H' a ≠ none

section
variable {K : PySem.W.Frag} {F F' F1 F2 : Fm} {own own' own1 own2 : Own} {ρ ρ' ρ1 ρ2 : Env} {σ σ' σ2 : L2.St} {H H' H1 H2 : Hp} {a b : Addr} {v : PV} {x : V} {t : Tag} {d : Dsc} {lk : Lk}
theorem Later.refl : Later own H own H := ⟨Fr.refl _ _, fun i a h => .inl ⟨i, h⟩, fun _ h => h⟩
theorem Later.trans (x : Later own H own1 H1) (y : Later own1 H1 own2 H2) : Later own H own2 H2 := by
  refine ⟨fun b o e n => ?_, fun i a h => ?_, fun a h => y.dom a (x.dom a h)⟩
  · refine y.keep b o (x.keep b o e n) fun i z => ?_
    rcases x.sub i b z with ⟨j, q⟩ | q
    · exact n j q
    · rw [e] at q; cases q
  · rcases y.sub i a h with ⟨j, q⟩ | q
    · exact x.sub j a q
    · right
      cases e : H a with
      | none => rfl
      | some o => exact absurd q (x.dom a (by rw [e]; exact fun z => by cases z))
theorem Later.of_fr (R : Rel K F own ρ σ H) (k : Fr own H H') (R' : Rel K F' own ρ' σ' H') : Later own H own H' := ⟨k, fun i a h => .inl ⟨i, h⟩, fun b n => by
  by_cases z : ∃ i, own i = some b
  · obtain ⟨i, e⟩ := z
    obtain ⟨vs, e2⟩ := R'.own_lst e
    rw [e2]; exact fun z => by cases z
  · cases e : H b with
    | none => exact absurd e n
    | some o => rw [k b o e fun i q => z ⟨i, q⟩]; exact fun z => by cases z⟩
/-- what is told at one state holds at a later one -/
theorem Rel.kpL (R : Rel K F1 own1 ρ1 σ H1) (l : Later own1 H1 own2 H2) (hA : ∀ b, Av F2 own2 b → Av F1 own1 b ∨ H1 b = none) : Kp (fun b => ∃ i, own1 i = some b) (Av F1 own1) (Av F2 own2) H1 H2 := R.kp l.keep hA
theorem Later.av (l : Later own1 H1 own2 H2) (hO : ∀ b, F2.O b → F1.O b ∨ H1 b = none) : ∀ b, Av F2 own2 b → Av F1 own1 b ∨ H1 b = none := fun b h => by
  rcases h with h | ⟨i, h⟩
  · rcases hO b h with z | z
    · exact .inl (.inl z)
    · exact .inr z
  · rcases l.sub i b h with z | z
    · exact .inl (.inr z)
    · exact .inr z

/-! ### locks -/
def pins (own : Own) (lk : Lk) : List (Nat × Addr) := lk.filterMap fun p => (own p.1).map fun a => (p.1, a)
structure LkOk (F : Fm) (lk : Lk) : Prop where
  nd : (lk.map (·.1)).Nodup
  tg : ∀ p ∈ lk, isOwn p.2.1 = true ∧ (pinnedTag p.2.1 = false → ∀ q ∈ F.L, q.1 ≠ p.1)
theorem chk_mem : ∀ {lk : Lk} {ρ : Env}, chk lk ρ → ∀ p ∈ lk, ρ[p.1]? = some (some (.k p.2.1, p.2.2))
  | [], _, _, p, hp => by cases hp
  | q :: r, ρ, h, p, hp => by
    obtain ⟨j, t, v⟩ := q
    unfold chk at h
    rcases List.mem_cons.mp hp with e | hp
    · subst e; exact h.1
    · exact chk_mem h.2 p hp
theorem chk_congr : ∀ {lk : Lk} {ρ ρ' : Env}, (∀ p ∈ lk, ρ'[p.1]? = ρ[p.1]?) → chk lk ρ → chk lk ρ'
  | [], _, _, _, _ => True.intro
  | (j, t, v) :: r, ρ, ρ', e, h => ⟨(e _ (List.mem_cons_self ..)).trans h.1, chk_congr (fun p hp => e p (List.mem_cons_of_mem _ hp)) h.2⟩
/-- a slot's tag is changed to one of the same base -/
theorem Rel.setTag {i : Nat} {u : Tag} (R : Rel K F own ρ σ H) (e : ρ[i]? = some (some (t, v))) (hb : baseT u = baseT t) (hp : (∃ p ∈ F.L, p.1 = i) → pinnedTag u = true) : Rel K F own (ρ.set i (some (u, v))) σ H := by
  have hi : i < ρ.length := (List.getElem?_eq_some_iff.mp e).1
  refine ⟨by simpa using R.len, fun j s w q => ?_, R.dom, R.domB, R.ownB, R.inj, fun j b z => ?_, fun p hp' => ?_⟩
  · by_cases hj : j = i
    · subst hj
      rw [List.getElem?_set_self hi] at q
      cases q
      obtain ⟨y, ey, s⟩ := R.slot j t v e
      refine ⟨y, ey, ?_⟩
      unfold SlotR at s ⊢
      rw [hb]
      exact s
    · rw [List.getElem?_set_ne (Ne.symm hj)] at q
      exact R.slot j s w q
  · obtain ⟨s, w, q, o⟩ := R.ownS j b z
    by_cases hj : j = i
    · subst hj
      rw [e] at q; cases q
      exact ⟨u, v, List.getElem?_set_self hi, own_baseT (by rw [hb]; exact baseT_own o)⟩
    · exact ⟨s, w, by rw [List.getElem?_set_ne (Ne.symm hj)]; exact q, o⟩
  · obtain ⟨e1, s, w, e2, e3⟩ := R.pin p hp'
    refine ⟨e1, ?_⟩
    by_cases hj : p.1 = i
    · rw [hj]
      exact ⟨u, v, List.getElem?_set_self hi, hp ⟨p, hp', hj⟩⟩
    · exact ⟨s, w, by rw [List.getElem?_set_ne (Ne.symm hj)]; exact e2, e3⟩
/-- pins are added, pins are dropped -/
theorem Rel.pinned {L' : List (Nat × Addr)} (R : Rel K F own ρ σ H) (h : ∀ p ∈ L', σ[p.1]? = some (some (.ref p.2)) ∧ ∃ t v, ρ[p.1]? = some (some (t, v)) ∧ pinnedTag t = true) : Rel K { F with L := L' } own ρ σ H := by
  refine ⟨R.len, fun i t v e => ?_, R.dom, R.domB, R.ownB, R.inj, R.ownS, h⟩
  obtain ⟨x, ex, s⟩ := R.slot i t v e
  exact ⟨x, ex, s.imp (fun _ z => z) (fun _ => rfl) rfl⟩
theorem Rel.unpin {L' : List (Nat × Addr)} (R : Rel K F own ρ σ H) (h : ∀ p ∈ L', p ∈ F.L) : Rel K { F with L := L' } own ρ σ H := R.pinned fun p hp => R.pin p (h p hp)
theorem unlock_ne : ∀ {lk : Lk} {ρ : Env} {j : Nat}, j ∉ lk.map (·.1) → (unlock lk ρ)[j]? = ρ[j]?
  | [], _, _, _ => rfl
  | p :: r, ρ, j, h => by
    obtain ⟨i, t, v⟩ := p
    unfold unlock
    rw [List.map_cons, List.mem_cons, not_or] at h
    rw [List.getElem?_set_ne (fun e => h.1 e.symm)]
    exact unlock_ne h.2
theorem Rel.unlock_go : ∀ {lk : Lk}, LkOk F lk → Rel K F own ρ σ H → chk lk ρ → Rel K F own (unlock lk ρ) σ H
  | [], _, R, _ => R
  | (j, t, v) :: r, ok, R, h => by
    unfold chk at h
    have nd := ok.nd
    rw [List.map_cons, List.nodup_cons] at nd
    have R1 := Rel.unlock_go (lk := r) ⟨nd.2, fun p hp => ok.tg p (List.mem_cons_of_mem _ hp)⟩ R h.2
    obtain ⟨h1, h2⟩ := ok.tg (j, t, v) (List.mem_cons_self ..)
    unfold unlock
    refine R1.setTag (t := .k t) (by rw [unlock_ne nd.1]; exact h.1) rfl fun ⟨p, hp, e⟩ => ?_
    cases e1 : pinnedTag t with
    | true => rfl
    | false => exact absurd e (h2 e1 p hp)
theorem Rel.unlock {L' : List (Nat × Addr)} (ok : LkOk F lk) (R : Rel K { F with L := L' } own ρ σ H) (hL : ∀ p ∈ F.L, p ∈ L') (h : chk lk ρ) : Rel K F own (unlock lk ρ) σ H :=
  Rel.unlock_go ok (R.unpin (F := { F with L := L' }) (L' := F.L) hL) h

/-- where the walked things stand -/
def SrcOk (K : PySem.W.Frag) (F1 : Fm) (own1 : Own) (H1 : Hp) (ls : Bool) (a : Addr) (xs : List PV) (lk : Lk) : Prop :=
  ∀ (F2 : Fm) (own2 : Own) (ρ2 : Env) (σ2 : L2.St) (H2 : Hp), Rel K F2 own2 ρ2 σ2 H2 → Later own1 H1 own2 H2 → (∀ b, Av F2 own2 b → Av F1 own1 b ∨ H1 b = none) → (∀ p ∈ pins own1 lk, p ∈ F2.L) → chk lk ρ2 →
    ∃ vs, (if ls = true then SqL K H2 a vs else SqT K H2 a vs) ∧ RVs K H2 (Av F2 own2) xs vs
def TurnOk (K : PySem.W.Frag) (F1 : Fm) (own1 : Own) (H1 : Hp) (J : It) (xs : List PV) (lk : Lk) : Prop :=
  ∀ (F2 : Fm) (own2 : Own) (ρ2 : Env) (σ2 : L2.St) (H2 : Hp), Rel K F2 own2 ρ2 σ2 H2 → Later own1 H1 own2 H2 → (∀ b, Av F2 own2 b → Av F1 own1 b ∨ H1 b = none) → (∀ p ∈ pins own1 lk, p ∈ F2.L) → chk lk ρ2 →
    (∀ i, i < xs.length → J.go i H2) ∧ J.stop xs.length H2 ∧ ∀ i x H3, i < xs.length → J.yld i H2 x H3 → ∃ v, xs[i]? = some v ∧ Same H2 H3 ∧ RV K H3 (Av F2 own2) v x
structure PostI (K : PySem.W.Frag) (F : Fm) (own : Own) (H : Hp) (ρ' : Env) (σ : L2.St) (xs : List PV) (lk : Lk) (J : It) (H' : Hp) : Prop where
  keep : Fr own H H'
  rel : Rel K { F with L := pins own lk ++ F.L } own ρ' σ H'
  ok : LkOk F lk
  turn : TurnOk K F own H' J xs lk
def rdI (P : Nat → Option FD) (C : CallP) (K : PySem.W.Frag) (it : IT) : TI := fun σ H R => ∃ F own ρ, Rel K F own ρ σ H ∧ wpIt P C it ρ fun xs lk ρ' => ∀ J H', PostI K F own H ρ' σ xs lk J H' → R J H'

theorem seqOf_shape {xs : List PV} (h : seqOf v = some xs) : v = .tuple xs ∨ v = .list xs := by
  unfold seqOf at h
  split at h
  · cases h; exact .inl rfl
  · cases h; exact .inr rfl
  · cases h
/-- an operand that will be walked, locked -/
theorem lock_src {xs : List PV} (R : Rel K F own ρ σ H) (r : DscR K H (Av F own) σ d x) (e : deref ρ d = some v) (hs : v = .tuple xs ∨ v = .list xs) :
    Rel K { F with L := pins own (lockD ρ d).1 ++ F.L } own (lockD ρ d).2 σ H ∧ LkOk F (lockD ρ d).1 ∧ ∃ a ls, x = .ref a ∧ (ls = true ↔ v = .list xs) ∧ SrcOk K F own H ls a xs (lockD ρ d).1 := by
  -- a value that no slot owns
  have free : ∀ {w : PV} {a : Addr}, RV K H (Av F own) w (.ref a) → w = .tuple xs ∨ w = .list xs → ∃ ls, (ls = true ↔ w = .list xs) ∧ SrcOk K F own H ls a xs [] := fun {w a} r hs => by
    cases r with
    | tup hq rr =>
      rcases hs with hs | hs
      · cases hs
        refine ⟨false, ⟨fun z => (by cases z), fun z => (by cases z)⟩, fun F2 own2 ρ2 σ2 H2 R2 l hA _ _ => ⟨_, ?_, rr.kp (R.kpL l hA)⟩⟩
        rw [if_neg Bool.false_ne_true]
        exact (R.kpL l hA).sqT hq
      · cases hs
    | lst n hq rr =>
      rcases hs with hs | hs
      · cases hs
      · cases hs
        refine ⟨true, ⟨fun _ => rfl, fun _ => rfl⟩, fun F2 own2 ρ2 σ2 H2 R2 l hA _ _ => ⟨_, ?_, rr.kp (R.kpL l hA)⟩⟩
        rw [if_pos rfl]
        exact .inl ((R.kpL l hA).rd hq fun ⟨i, z⟩ => n (.inr ⟨i, z⟩))
  have refOf : ∀ {w : PV} {y : V}, RV K H (Av F own) w y → w = .tuple xs ∨ w = .list xs → ∃ a, y = .ref a := fun {w y} r hs => by
    cases r with
    | tup _ _ => exact ⟨_, rfl⟩
    | lst _ _ _ => exact ⟨_, rfl⟩
    | _ => rcases hs with hs | hs <;> cases hs
  have nolk : ∀ {a : Addr} {w : PV}, x = .ref a → RV K H (Av F own) w (.ref a) → w = v → lockD ρ d = ([], ρ) → Rel K { F with L := pins own (lockD ρ d).1 ++ F.L } own (lockD ρ d).2 σ H ∧ LkOk F (lockD ρ d).1 ∧ ∃ a ls, x = .ref a ∧ (ls = true ↔ v = .list xs) ∧ SrcOk K F own H ls a xs (lockD ρ d).1 := fun {a w} ex r ew el => by
    rw [el]
    subst ew
    obtain ⟨ls, h1, h2⟩ := free r hs
    exact ⟨R.pinned R.pin, ⟨List.nodup_nil, fun p hp => by cases hp⟩, a, ls, ex, h1, h2⟩
  cases d with
  | vl w =>
    cases e
    obtain ⟨a, rfl⟩ := refOf r hs
    exact nolk rfl r rfl rfl
  | sl j =>
    obtain ⟨t, ej, hsc⟩ := peek_slot (show peek ρ j = some v from e)
    obtain ⟨y, ey, s⟩ := R.slot j t v ej
    have hy : y = x := by
      have r' : σ[j]? = some (some x) := r
      rw [ey] at r'; cases r'; rfl
    subst hy
    have hb := scr_base hsc
    cases ho : isOwn t with
    | true =>
      have el : lockD ρ (.sl j) = ([(j, t, v)], ρ.set j (some (.k t, v))) := by simp only [lockD, ej, ho, if_true]
      rw [el]
      obtain ⟨a, ea, rfl, m⟩ := s.own_at ho
      obtain ⟨l, vs, rfl, eH, rr⟩ := m.shape
      have exs : xs = l := by
        rcases hs with z | z
        · cases z
        · cases z; rfl
      subst exs
      have epins : pins own [(j, t, PyData.list xs)] = [(j, a)] := by
        unfold pins
        rw [List.filterMap_cons]
        simp only [ea, Option.map_some, List.filterMap_nil]
      have R1 : Rel K F own (ρ.set j (some (.k t, PyData.list xs))) σ H := R.setTag ej rfl fun _ => rfl
      have hj : j < ρ.length := (List.getElem?_eq_some_iff.mp ej).1
      refine ⟨R1.pinned fun p hp => ?_, ⟨List.nodup_cons.mpr ⟨by simp, List.nodup_nil⟩, fun p hp => ?_⟩, a, true, rfl, ⟨fun _ => rfl, fun _ => rfl⟩, fun F2 own2 ρ2 σ2 H2 R2 l hA hp hc => ?_⟩
      · rcases List.mem_append.mp hp with hp | hp
        · have hp' : p ∈ pins own [(j, t, PyData.list xs)] := hp
          rw [epins] at hp'
          have e1 : p = (j, a) := by simpa using hp'
          subst e1
          exact ⟨ey, .k t, _, List.getElem?_set_self hj, rfl⟩
        · exact R1.pin p hp
      · have e1 : p = (j, t, PyData.list xs) := by simpa using hp
        subst e1
        refine ⟨ho, fun hu' q hq z => ?_⟩
        obtain ⟨_, s', w', e2, e3⟩ := R.pin q hq
        rw [z] at e2
        have z' : some (some (t, PyData.list xs)) = some (some (s', w')) := ej.symm.trans e2
        cases z'
        have hu'' : pinnedTag t = false := hu'
        rw [hu''] at e3
        cases e3
      · have e1 := chk_mem hc (j, t, PyData.list xs) (List.mem_cons_self ..)
        have e2 := (R2.pin (j, a) (hp _ (by show (j, a) ∈ pins own [(j, t, PyData.list xs)]; rw [epins]; exact List.mem_cons_self ..))).1
        obtain ⟨y2, ey2, s2⟩ := R2.slot j (.k t) (.list xs) e1
        obtain ⟨a2, _, rfl, m2⟩ := s2.own_at (show isOwn (.k t) = true from ho)
        have e2' : σ2[j]? = some (some (V.ref a)) := e2
        rw [ey2] at e2'
        cases e2'
        obtain ⟨l2, vs2, el2, eH2, rr2⟩ := m2.shape
        cases el2
        exact ⟨vs2, by rw [if_pos rfl]; exact .inl (.inl eH2), rr2⟩
    | false =>
      have el : lockD ρ (.sl j) = ([], ρ) := by simp only [lockD, ej, ho, Bool.false_eq_true, if_false]
      unfold SlotR at s
      cases eb : baseT t with
      | b =>
        rw [eb] at s
        obtain ⟨a, rfl⟩ := refOf s hs
        exact nolk rfl s rfl el
      | o => rw [own_baseT (.inl eb)] at ho; cases ho
      | m => rw [own_baseT (.inr eb)] at ho; cases ho
      | s => exact absurd eb hb
      | k u => exact absurd eb (baseT_nk t u)
      | l =>
        rw [eb] at s
        obtain ⟨a, rfl, m⟩ := s
        obtain ⟨l, vs, rfl, eH, hB, rr⟩ := m.shape
        have exs : xs = l := by
          rcases hs with z | z
          · cases z
          · cases z; rfl
        subst exs
        rw [el]
        refine ⟨R.pinned R.pin, ⟨List.nodup_nil, fun p hp => by cases hp⟩, a, true, rfl, ⟨fun _ => rfl, fun _ => rfl⟩, fun F2 own2 ρ2 σ2 H2 R2 l hA _ _ => ⟨vs, ?_, rr.kp (R.kpL l hA)⟩⟩
        rw [if_pos rfl]
        exact .inl ((R.kpL l hA).rd eH fun ⟨i, z⟩ => R.ownB i a z hB)

theorem sq_get {ls : Bool} {vs : List V} {xs : List PV} {A : AS} {i : Nat} (r : RVs K H A xs vs) (h : i < xs.length) : ∃ x v, vs[i]? = some x ∧ xs[i]? = some v ∧ RV K H A v x := by
  obtain ⟨x, hx, rx⟩ := r.get (List.getElem?_eq_getElem h)
  exact ⟨x, _, hx, List.getElem?_eq_getElem h, rx⟩
theorem turn_lst {xs : List PV} (h : SrcOk K F own H true a xs lk) : TurnOk K F own H (Itl K a) xs lk := fun F2 own2 ρ2 σ2 H2 R l hA hp hc => by
  obtain ⟨vs, hq, r⟩ := h F2 own2 ρ2 σ2 H2 R l hA hp hc
  rw [if_pos rfl] at hq
  refine ⟨fun i hi => ?_, ⟨vs, hq, by rw [r.length]; exact Nat.le_refl _⟩, fun i x H3 hi hy => ?_⟩
  · obtain ⟨x, v, hx, _, _⟩ := sq_get (ls := true) r hi
    exact ⟨vs, x, hq, hx⟩
  · obtain ⟨z, v, hz, hv, rz⟩ := sq_get (ls := true) r hi
    obtain ⟨rfl, hy⟩ := hy
    have e := hy vs hq
    rw [hz] at e; cases e
    exact ⟨v, hv, Same.refl _, rz⟩
theorem turn_tup {xs : List PV} (h : SrcOk K F own H false a xs lk) : TurnOk K F own H (Itt K a) xs lk := fun F2 own2 ρ2 σ2 H2 R l hA hp hc => by
  obtain ⟨vs, hq, r⟩ := h F2 own2 ρ2 σ2 H2 R l hA hp hc
  rw [if_neg Bool.false_ne_true] at hq
  refine ⟨fun i hi => ?_, ⟨vs, hq, by rw [r.length]; exact Nat.le_refl _⟩, fun i x H3 hi hy => ?_⟩
  · obtain ⟨x, v, hx, _, _⟩ := sq_get (ls := true) r hi
    exact ⟨vs, x, hq, hx⟩
  · obtain ⟨z, v, hz, hv, rz⟩ := sq_get (ls := true) r hi
    obtain ⟨rfl, hy⟩ := hy
    have e := hy vs hq
    rw [hz] at e; cases e
    exact ⟨v, hv, Same.refl _, rz⟩
theorem enmOf_get {xs : List PV} {i : Nat} {v : PV} (h : xs[i]? = some v) : (enmOf xs)[i]? = some (.tuple [.int (i : Int), v]) := by
  unfold enmOf
  rw [List.getElem?_mapIdx, h]
  rfl
theorem enmOf_len {xs : List PV} : (enmOf xs).length = xs.length := by unfold enmOf; exact List.length_mapIdx
theorem pair_rv {T : Addr} {d e : PV} {x y : V} {A : AS} (h1 : RV K H A d x) (h2 : RV K H A e y) (hT : H T = none) : Same H (upd H T (.tup [x, y])) ∧ RV K (upd H T (.tup [x, y])) A (.tuple [d, e]) (.ref T) := by
  have k : Kp (fun _ => False) A A H (upd H T (.tup [x, y])) := kpN hT fun b z => .inl z
  exact ⟨upd_same_of hT, .tup (SqT.of upd_same) (.cons (h1.kp k) (.cons (h2.kp k) .nil))⟩
theorem turn_enmL {xs : List PV} (h : SrcOk K F own H true a xs lk) : TurnOk K F own H (Ite K a) (enmOf xs) lk := fun F2 own2 ρ2 σ2 H2 R l hA hp hc => by
  obtain ⟨vs, hq, r⟩ := h F2 own2 ρ2 σ2 H2 R l hA hp hc
  rw [if_pos rfl] at hq
  rw [enmOf_len]
  refine ⟨fun i hi => ?_, ⟨vs, hq, by rw [r.length]; exact Nat.le_refl _⟩, fun i x H3 hi hy => ?_⟩
  · obtain ⟨x, v, hx, _, _⟩ := sq_get (ls := true) r hi
    exact ⟨vs, x, hq, hx⟩
  · obtain ⟨z, v, hz, hv, rz⟩ := sq_get (ls := true) r hi
    obtain ⟨T, y, rfl, hT, rfl, hy⟩ := hy
    have e := hy vs hq
    rw [hz] at e; cases e
    obtain ⟨h1, h2⟩ := pair_rv (.int (i : Int)) rz hT
    exact ⟨_, enmOf_get hv, h1, h2⟩
theorem turn_enmT {xs : List PV} (h : SrcOk K F own H false a xs lk) : TurnOk K F own H (IteT K a) (enmOf xs) lk := fun F2 own2 ρ2 σ2 H2 R l hA hp hc => by
  obtain ⟨vs, hq, r⟩ := h F2 own2 ρ2 σ2 H2 R l hA hp hc
  rw [if_neg Bool.false_ne_true] at hq
  rw [enmOf_len]
  refine ⟨fun i hi => ?_, ⟨vs, hq, by rw [r.length]⟩, fun i x H3 hi hy => ?_⟩
  · obtain ⟨x, v, hx, _, _⟩ := sq_get (ls := true) r hi
    exact ⟨vs, x, hq, hx⟩
  · obtain ⟨z, v, hz, hv, rz⟩ := sq_get (ls := true) r hi
    obtain ⟨T, y, rfl, hT, rfl, hy⟩ := hy
    have e := hy vs hq
    rw [hz] at e; cases e
    obtain ⟨h1, h2⟩ := pair_rv (.int (i : Int)) rz hT
    exact ⟨_, enmOf_get hv, h1, h2⟩
theorem zipOf_len {xs ys : List PV} : (zipOf xs ys).length = min xs.length ys.length := by unfold zipOf; rw [List.length_map, List.length_zip]
theorem zipOf_get {xs ys : List PV} {i : Nat} {v w : PV} (h : xs[i]? = some v) (h2 : ys[i]? = some w) : (zipOf xs ys)[i]? = some (.tuple [v, w]) := by
  unfold zipOf
  rw [List.getElem?_map, (List.getElem?_zip_eq_some (z := (v, w))).mpr ⟨h, h2⟩]
  rfl
theorem turn_zipL {xs ys : List PV} (h : SrcOk K F own H true a xs lk) (h' : SrcOk K F own H true b ys lk) : TurnOk K F own H (Itz K a b) (zipOf xs ys) lk := fun F2 own2 ρ2 σ2 H2 R l hA hp hc => by
  obtain ⟨vs, hq, r⟩ := h F2 own2 ρ2 σ2 H2 R l hA hp hc
  obtain ⟨ws, hq', r'⟩ := h' F2 own2 ρ2 σ2 H2 R l hA hp hc
  rw [if_pos rfl] at hq hq'
  rw [zipOf_len]
  refine ⟨fun i hi => ?_, ⟨vs, ws, hq, hq', by rw [← r.length, ← r'.length]; omega⟩, fun i x H3 hi hy => ?_⟩
  · obtain ⟨x, v, hx, _, _⟩ := sq_get (ls := true) r (i := i) (by omega)
    obtain ⟨y, w, hy, _, _⟩ := sq_get (ls := true) r' (i := i) (by omega)
    exact ⟨vs, ws, x, y, hq, hq', hx, hy⟩
  · obtain ⟨z, v, hz, hv, rz⟩ := sq_get (ls := true) r (i := i) (by omega)
    obtain ⟨z', w, hz', hw, rz'⟩ := sq_get (ls := true) r' (i := i) (by omega)
    obtain ⟨T, y, y', rfl, hT, rfl, hy, hy'⟩ := hy
    have e := hy vs hq
    rw [hz] at e; cases e
    have e := hy' ws hq'
    rw [hz'] at e; cases e
    obtain ⟨h1, h2⟩ := pair_rv rz rz' hT
    exact ⟨_, zipOf_get hv hw, h1, h2⟩
theorem turn_zipTu {xs ys : List PV} (h : SrcOk K F own H false a xs lk) (h' : SrcOk K F own H false b ys lk) : TurnOk K F own H (RZ.ItzT K a b) (zipOf xs ys) lk := fun F2 own2 ρ2 σ2 H2 R l hA hp hc => by
  obtain ⟨vs, hq, r⟩ := h F2 own2 ρ2 σ2 H2 R l hA hp hc
  obtain ⟨ws, hq', r'⟩ := h' F2 own2 ρ2 σ2 H2 R l hA hp hc
  rw [if_neg Bool.false_ne_true] at hq hq'
  rw [zipOf_len]
  refine ⟨fun i hi => ?_, ⟨vs, ws, hq, hq', by rw [← r.length, ← r'.length]; omega⟩, fun i x H3 hi hy => ?_⟩
  · obtain ⟨x, v, hx, _, _⟩ := sq_get (ls := true) r (i := i) (by omega)
    obtain ⟨y, w, hy, _, _⟩ := sq_get (ls := true) r' (i := i) (by omega)
    exact ⟨vs, ws, x, y, hq, hq', hx, hy⟩
  · obtain ⟨z, v, hz, hv, rz⟩ := sq_get (ls := true) r (i := i) (by omega)
    obtain ⟨z', w, hz', hw, rz'⟩ := sq_get (ls := true) r' (i := i) (by omega)
    obtain ⟨T, y, y', rfl, hT, rfl, hy, hy'⟩ := hy
    have e := hy vs hq
    rw [hz] at e; cases e
    have e := hy' ws hq'
    rw [hz'] at e; cases e
    obtain ⟨h1, h2⟩ := pair_rv rz rz' hT
    exact ⟨_, zipOf_get hv hw, h1, h2⟩
theorem turn_rng {xs : List PV} {lo : Int} {n : Nat} (hx : xs = (List.range n).map fun (k : Nat) => PyData.int (lo + (k : Int))) : TurnOk K F own H (Itr lo n) xs [] := fun F2 own2 ρ2 σ2 H2 R l hA hp hc => by
  subst hx
  rw [List.length_map, List.length_range]
  refine ⟨fun i hi => hi, Nat.le_refl _, fun i x H3 hi hy => ?_⟩
  obtain ⟨rfl, rfl⟩ := hy
  refine ⟨.int (lo + (i : Int)), ?_, Same.refl _, .int _⟩
  rw [List.getElem?_map, List.getElem?_range hi]
  rfl
end

/-! ### the iterators' readings -/
section
variable {X : Cx} {P : Nat → Option FD} {C : CallP} {e e2 : Expr} {pos p : Pos} {tg : Expr}
theorem PI.imp {X : Cx} {tg e : Expr} {t t' : TI} (h : PI X tg e t) (hi : ∀ σ H Q, t' σ H Q → t σ H Q) : PI X tg e t' :=
  ⟨fun pins s σ H Q I q => h.run pins s σ H Q I (hi σ H Q q)⟩
theorem si_lst {x : IA} (hC : MonoC C) (h : PE X e (rdD P C X.K x)) : PI X tg e (rdI P C X.K (.lst x)) := PI.imp (pi_seq h) fun σ H R h => by
  obtain ⟨F, own, ρ, Rl, w⟩ := h
  unfold wpIt at w
  refine ⟨F, own, ρ, Rl, wpD_mono hC x ρ (fun d ρ1 ⟨v, e1, xs, e2, q⟩ y H1 pd => ?_) w⟩
  obtain ⟨r1, ok, a, ls, rfl, hls, src⟩ := lock_src pd.rel pd.dsc e1 (seqOf_shape e2)
  refine ⟨a, rfl, ?_⟩
  have here := src _ _ _ _ _ r1 Later.refl (fun b z => .inl z) (fun p hp => List.mem_append_left _ hp)
  have hchk : chk (lockD ρ1 d).1 (lockD ρ1 d).2 := by
    cases d with
    | vl w => exact True.intro
    | sl j =>
      simp only [lockD]
      split
      · rename_i t w ej
        split
        · exact ⟨List.getElem?_set_self (List.getElem?_eq_some_iff.mp ej).1, True.intro⟩
        · exact True.intro
      · exact True.intro
  obtain ⟨vs, hq, _⟩ := here hchk
  cases ls with
  | true =>
    rw [if_pos rfl] at hq
    exact .inl ⟨⟨vs, hq⟩, q _ _ ⟨pd.keep, r1, ok, turn_lst src⟩⟩
  | false =>
    rw [if_neg Bool.false_ne_true] at hq
    exact .inr ⟨⟨vs, hq⟩, q _ _ ⟨pd.keep, r1, ok, turn_tup src⟩⟩
theorem chk_lockD {ρ : Env} {d : Dsc} : chk (lockD ρ d).1 (lockD ρ d).2 := by
  cases d with
  | vl w => exact True.intro
  | sl j =>
    simp only [lockD]
    split
    · rename_i t w ej
      split
      · exact ⟨List.getElem?_set_self (List.getElem?_eq_some_iff.mp ej).1, True.intro⟩
      · exact True.intro
    · exact True.intro
theorem si_enm {x : IA} {elts : List Expr} {kk : Nat} {tpos : Pos} (hC : MonoC C) (hg : Gl X "enumerate") (hm : X.mg "enumerate" = none) (h : PE X e (rdD P C X.K x)) (hs : starEach [e] X.env = (false, eval e X.env) :: starEach [] X.env) :
    PI X (.Tuple elts kk tpos) (.Call (.Name "enumerate" p) [e] [] pos) (rdI P C X.K (.enm x)) := PI.imp (pi_enumA hg hm (pa_cons h pa_nil hs) hs) fun σ H R h => by
  obtain ⟨F, own, ρ, Rl, w⟩ := h
  unfold wpIt at w
  refine ⟨F, own, ρ, Rl, wpD_mono hC x ρ (fun d ρ1 ⟨v, e1, xs, e2, q⟩ y H1 pd => ?_) w⟩
  obtain ⟨r1, ok, a, ls, rfl, hls, src⟩ := lock_src pd.rel pd.dsc e1 (seqOf_shape e2)
  obtain ⟨vs, hq, _⟩ := src _ _ _ _ _ r1 Later.refl (fun b z => .inl z) (fun p hp => List.mem_append_left _ hp) chk_lockD
  refine ⟨a, vs, rfl, ?_⟩
  cases ls with
  | true =>
    rw [if_pos rfl] at hq
    exact .inl ⟨hq, q _ _ ⟨pd.keep, r1, ok, turn_enmL src⟩⟩
  | false =>
    rw [if_neg Bool.false_ne_true] at hq
    exact .inr ⟨hq, q _ _ ⟨pd.keep, r1, ok, turn_enmT src⟩⟩
theorem derefs_one {ρ : Env} {d : Dsc} {vs : List PV} (h : derefs ρ [d] = some vs) : ∃ v, deref ρ d = some v ∧ vs = [v] := by
  unfold derefs derefs at h
  split at h
  · rename_i v w e1 e2
    cases e2; cases h
    exact ⟨v, e1, rfl⟩
  · cases h
theorem derefs_two {ρ : Env} {d e : Dsc} {vs : List PV} (h : derefs ρ [d, e] = some vs) : ∃ v w, deref ρ d = some v ∧ deref ρ e = some w ∧ vs = [v, w] := by
  unfold derefs at h
  split at h
  · rename_i v w e1 e2
    obtain ⟨u, e3, rfl⟩ := derefs_one e2
    cases h
    exact ⟨v, u, e1, e3, rfl⟩
  · cases h
theorem DscR.rt1 {K : PySem.W.Frag} {F : Fm} {own : Own} {ρ : Env} {σ : L2.St} {H : Hp} {d : Dsc} {v : PV} {x : V} (R : Rel K F own ρ σ H) (r : DscR K H (Av F own) σ d x) (h : deref ρ d = some v) : RTk K false H (Av F own) v x := r.rtk R (by rw [← deref_K]; exact h)
theorem si_rng1 {x : IA} (hC : MonoC C) (hg : Gl X "range") (hm : X.mg "range" = none) (h : PE X e (rdD P C X.K x)) (hs : starEach [e] X.env = (false, eval e X.env) :: starEach [] X.env) :
    PI X tg (.Call (.Name "range" p) [e] [] pos) (rdI P C X.K (.rng (.cons x .nil))) := PI.imp (pi_range1 hg hm (pa_cons h pa_nil hs) hs) fun σ H R h => by
  obtain ⟨F, own, ρ, Rl, w⟩ := h
  unfold wpIt wpAs wpAs at w
  refine ⟨F, own, ρ, Rl, wpD_mono hC _ ρ (fun d ρ1 ⟨vs, e1, xs, e2, q⟩ y H1 pd => ?_) w⟩
  obtain ⟨v, ev, rfl⟩ := derefs_one e1
  have rt := pd.dsc.rt1 pd.rel ev
  cases v with
  | int j =>
    unfold rngOf at e2
    simp only at e2
    split at e2
    · rename_i hj
      cases e2
      simp only [Bool.and_eq_true, decide_eq_true_eq] at hj
      refine ⟨j, by rw [rt.int], hj.1, hj.2, q _ _ ⟨pd.keep, pd.rel.pinned pd.rel.pin, ⟨List.nodup_nil, fun p hp => by cases hp⟩, turn_rng ?_⟩⟩
      simp
    · cases e2
  | _ => cases e2
theorem si_rng2 {x y : IA} (hC : MonoC C) (hg : Gl X "range") (hm : X.mg "range" = none) (h : PE X e (rdD P C X.K x)) (h2 : PE X e2 (rdD P C X.K y)) (hs : starEach [e, e2] X.env = (false, eval e X.env) :: starEach [e2] X.env) (hs2 : starEach [e2] X.env = (false, eval e2 X.env) :: starEach [] X.env) :
    PI X tg (.Call (.Name "range" p) [e, e2] [] pos) (rdI P C X.K (.rng (.cons x (.cons y .nil)))) := PI.imp (pi_range2 hg hm (pa_cons h (pa_cons h2 pa_nil hs2) hs) (by rw [hs, hs2]; rfl) (by rw [hs2]; rfl)) fun σ H R h => by
  obtain ⟨F, own, ρ, Rl, w⟩ := h
  unfold wpIt wpAs wpAs wpAs at w
  refine ⟨F, own, ρ, Rl, wpD_mono hC _ ρ (fun d ρ1 w1 y1 H1 pd => ?_) w⟩
  refine ⟨F, own, ρ1, pd.rel, wpD_mono hC _ ρ1 (fun d2 ρ2 ⟨vs, e1, xs, e2, q⟩ y2 H2 pd2 => ?_) w1⟩
  obtain ⟨v, u, ev, eu, rfl⟩ := derefs_two e1
  have rt := (pd.dsc.keeps pd.rel pd2.keep).rt1 pd2.rel ev
  have rt2 := pd2.dsc.rt1 pd2.rel eu
  cases v with
  | int i =>
    cases u with
    | int j =>
      unfold rngOf at e2
      simp only at e2
      split at e2
      · rename_i hj
        cases e2
        simp only [Bool.and_eq_true, decide_eq_true_eq] at hj
        refine ⟨i, j, by rw [rt.int, rt2.int], ⟨hj.1.1.1, hj.1.1.2, hj.1.2, hj.2⟩, q _ _ ⟨pd.keep.trans pd2.keep, pd2.rel.pinned pd2.rel.pin, ⟨List.nodup_nil, fun p hp => by cases hp⟩, turn_rng rfl⟩⟩
      · cases e2
    | _ => cases e2
  | _ => cases e2
theorem si_zip {x y : IA} {elts : List Expr} {kk : Nat} {tpos : Pos} (hC : MonoC C) (hg : Gl X "zip") (hm : X.mg "zip" = none) (h : PE X e (rdD P C X.K x)) (h2 : PE X e2 (rdD P C X.K y)) (hs : starEach [e, e2] X.env = (false, eval e X.env) :: starEach [e2] X.env) (hs2 : starEach [e2] X.env = (false, eval e2 X.env) :: starEach [] X.env) (hpl : (backTo pos (starEach [e2] X.env)).any (·.1) = false) :
    PI X (.Tuple elts kk tpos) (.Call (.Name "zip" p) [e, e2] [] pos) (rdI P C X.K (.zip x y)) := PI.imp (RZ.pi_zipA hg hm (pa_cons h (pa_cons h2 pa_nil hs2) hs) hs hpl) fun σ H R h => by
  obtain ⟨F, own, ρ, Rl, w⟩ := h
  unfold wpIt at w
  refine ⟨F, own, ρ, Rl, wpD_mono hC _ ρ (fun d ρ1 w1 y1 H1 pd => ?_) w⟩
  refine ⟨F, own, ρ1, pd.rel, wpD_mono hC _ ρ1 (fun d2 ρ2 ⟨v, ev, u, eu, xs, ys, e3, hne, q⟩ y2 H2 pd2 => ?_) w1⟩
  have dk := pd.dsc.keeps pd.rel pd2.keep
  have hs12 : (v = .tuple xs ∨ v = .list xs) ∧ (u = .tuple ys ∨ u = .list ys) ∧ (v = .list xs ↔ u = .list ys) := by
    unfold zipK at e3
    split at e3
    · cases e3; exact ⟨.inr rfl, .inr rfl, ⟨fun _ => rfl, fun _ => rfl⟩⟩
    · cases e3; exact ⟨.inl rfl, .inl rfl, ⟨fun z => (by cases z), fun z => (by cases z)⟩⟩
    · cases e3
  obtain ⟨r1, ok1, a, ls1, rfl, hls1, src1⟩ := lock_src pd2.rel dk ev hs12.1
  have eu' : deref (lockD ρ2 d).2 d2 = some u := by
    cases d2 with
    | vl w => exact eu
    | sl j =>
      cases d with
      | vl w => exact eu
      | sl i =>
        simp only [lockD]
        split
        · rename_i t w ei
          split
          · have eu2 : peek ρ2 j = some u := eu
            show peek (ρ2.set i (some (.k t, w))) j = some u
            unfold peek at eu2 ⊢
            by_cases hij : i = j
            · subst hij
              rw [List.getElem?_set_self (List.getElem?_eq_some_iff.mp ei).1]
              rw [ei] at eu2
              exact eu2
            · rw [List.getElem?_set_ne hij]
              exact eu2
          · exact eu
        · exact eu
  have dk2 : DscR X.K H2 (Av { F with L := pins own (lockD ρ2 d).1 ++ F.L } own) σ d2 y2 := pd2.dsc
  obtain ⟨r2, ok2, b, ls2, rfl, hls2, src2⟩ := lock_src r1 dk2 eu' hs12.2.1
  have lk_pins : ∀ (l1 l2 : Lk), pins own (l1 ++ l2) = pins own l1 ++ pins own l2 := fun l1 l2 => by unfold pins; exact List.filterMap_append ..
  have chk_app : ∀ (l1 l2 : Lk) (ρ : Env), chk (l1 ++ l2) ρ → chk l1 ρ ∧ chk l2 ρ := fun l1 l2 ρ h => by
    induction l1 with
    | nil => exact ⟨True.intro, h⟩
    | cons p r ih =>
      obtain ⟨j, t, v⟩ := p
      have h' : ρ[j]? = some (some (.k t, v)) ∧ chk (r ++ l2) ρ := h
      exact ⟨⟨h'.1, (ih h'.2).1⟩, (ih h'.2).2⟩
  have lk_sl : ∀ {ρ : Env} {d : Dsc} {p : Nat × Tag × PV}, p ∈ (lockD ρ d).1 → d = .sl p.1 := fun {ρ d p} h => by
    cases d with
    | vl w => cases h
    | sl j =>
      simp only [lockD] at h
      split at h
      · split at h
        · have e : p = _ := List.mem_singleton.mp h
          rw [e]
        · cases h
      · cases h
  have ok : LkOk F ((lockD (lockD ρ2 d).2 d2).1 ++ (lockD ρ2 d).1) := by
    refine ⟨?_, fun p hp => ?_⟩
    · rw [List.map_append, List.nodup_append]
      refine ⟨ok2.nd, ok1.nd, fun i hi j hj z => ?_⟩
      obtain ⟨p1, hp1, rfl⟩ := List.mem_map.mp hi
      obtain ⟨p2, hp2, e⟩ := List.mem_map.mp hj
      have z1 := lk_sl hp1
      have z2 := lk_sl hp2
      rw [z1, z2, e, z] at hne
      unfold sameSl at hne
      simp at hne
    · rcases List.mem_append.mp hp with hp | hp
      · exact ⟨(ok2.tg p hp).1, fun z q hq => (ok2.tg p hp).2 z q (List.mem_append_right _ hq)⟩
      · exact ok1.tg p hp
  have rel : Rel X.K { F with L := pins own ((lockD (lockD ρ2 d).2 d2).1 ++ (lockD ρ2 d).1) ++ F.L } own (lockD (lockD ρ2 d).2 d2).2 σ H2 := by
    rw [lk_pins, List.append_assoc]
    exact r2
  have s1 : SrcOk X.K F own H2 ls1 a xs ((lockD (lockD ρ2 d).2 d2).1 ++ (lockD ρ2 d).1) := fun F2 own2 ρ3 σ2 H3 R l hA hp hc =>
    src1 F2 own2 ρ3 σ2 H3 R l hA (fun p hp' => hp p (by rw [lk_pins]; exact List.mem_append_right _ hp')) (chk_app _ _ _ hc).2
  have s2 : SrcOk X.K F own H2 ls2 b ys ((lockD (lockD ρ2 d).2 d2).1 ++ (lockD ρ2 d).1) := fun F2 own2 ρ3 σ2 H3 R l hA hp hc =>
    src2 F2 own2 ρ3 σ2 H3 R l hA (fun p hp' => hp p (by rw [lk_pins]; exact List.mem_append_left _ hp')) (chk_app _ _ _ hc).1
  have hchk : chk ((lockD (lockD ρ2 d).2 d2).1 ++ (lockD ρ2 d).1) (lockD (lockD ρ2 d).2 d2).2 := by
    have c2 : chk (lockD (lockD ρ2 d).2 d2).1 (lockD (lockD ρ2 d).2 d2).2 := chk_lockD
    have c1 : chk (lockD ρ2 d).1 (lockD (lockD ρ2 d).2 d2).2 := by
      have c0 : chk (lockD ρ2 d).1 (lockD ρ2 d).2 := chk_lockD
      cases d2 with
      | vl w => exact c0
      | sl j =>
        cases d with
        | vl w => exact True.intro
        | sl i =>
          have hij : i ≠ j := by
            intro z
            rw [z] at hne
            unfold sameSl at hne
            simp at hne
          cases e0 : (lockD ρ2 (.sl i)).1 with
          | nil => exact True.intro
          | cons p r =>
            rw [e0] at c0
            obtain ⟨i', t, w⟩ := p
            have ei : i' = i := by
              have z := lk_sl (show (i', t, w) ∈ (lockD ρ2 (.sl i)).1 by rw [e0]; exact List.mem_cons_self ..)
              cases z; rfl
            subst ei
            have er : r = [] := by
              simp only [lockD] at e0
              split at e0
              · split at e0
                · cases e0; rfl
                · cases e0
              · cases e0
            subst er
            refine ⟨?_, True.intro⟩
            have c00 : (lockD ρ2 (.sl i')).2[i']? = some (some (.k t, w)) := c0.1
            generalize (lockD ρ2 (.sl i')).2 = ρ3 at c00 ⊢
            simp only [lockD]
            split
            · split
              · rw [List.getElem?_set_ne (Ne.symm hij)]; exact c00
              · exact c00
            · exact c00
    have app : ∀ (l1 l2 : Lk) (ρ : Env), chk l1 ρ → chk l2 ρ → chk (l1 ++ l2) ρ := fun l1 l2 ρ h1 h2 => by
      induction l1 with
      | nil => exact h2
      | cons p r ih =>
        obtain ⟨j, t, v⟩ := p
        exact ⟨h1.1, ih h1.2⟩
    exact app _ _ _ c2 c1
  obtain ⟨vs1, q1, _⟩ := s1 _ _ _ _ _ rel Later.refl (fun b z => .inl z) (fun p hp => List.mem_append_left _ hp) hchk
  obtain ⟨vs2, q2, _⟩ := s2 _ _ _ _ _ rel Later.refl (fun b z => .inl z) (fun p hp => List.mem_append_left _ hp) hchk
  have els : ls1 = ls2 := by
    cases ls1 <;> cases ls2 <;> first | rfl | skip
    · exact absurd (hls1.mpr (hs12.2.2.mpr (hls2.mp rfl))) Bool.false_ne_true
    · exact absurd (hls2.mpr (hs12.2.2.mp (hls1.mp rfl))) Bool.false_ne_true
  subst els
  refine ⟨a, b, vs1, vs2, rfl, ?_⟩
  cases ls1 with
  | true =>
    rw [if_pos rfl] at q1 q2
    exact .inl ⟨q1, q2, q _ _ ⟨pd.keep.trans pd2.keep, rel, ok, turn_zipL s1 s2⟩⟩
  | false =>
    rw [if_neg Bool.false_ne_true] at q1 q2
    exact .inr ⟨q1, q2, q _ _ ⟨pd.keep.trans pd2.keep, rel, ok, turn_zipTu s1 s2⟩⟩
end
end IR
namespace IR
open PySem PySem.Spec L2 PyProof.Rows

/-! ### targets -/
mutual
def tgSlots : Tg → List Nat
  | .nm i => [i]
  | .tp ts => tgsSlots ts
def tgsSlots : List Tg → List Nat
  | [] => []
  | t :: ts => tgSlots t ++ tgsSlots ts
end
def OnlyAt (S : List Nat) (σ σ' : L2.St) : Prop := σ'.length = σ.length ∧ ∀ j, j ∉ S → σ'[j]? = σ[j]?
def OwnAt (S : List Nat) (own own' : Own) : Prop := ∀ i, own' i = own i ∨ (i ∈ S ∧ own' i = none)
section
variable (K : PySem.W.Frag)
def rdG (tg : Tg) : TG := fun v σ H Q => ∃ F own ρ d, Rel K F own ρ σ H ∧ RV K H (Av F own) d v ∧ wpTg tg d ρ fun ρ' => ∀ own' σ', Rel K F own' ρ' σ' H → OwnAt (tgSlots tg) own own' → OnlyAt (tgSlots tg) σ σ' → Q σ' H
def rdGs (ts : List Tg) : TGs := fun vs σ H Q => ∃ F own ρ ds, Rel K F own ρ σ H ∧ RVs K H (Av F own) ds vs ∧ wpTgs ts ds ρ fun ρ' => ∀ own' σ', Rel K F own' ρ' σ' H → OwnAt (tgsSlots ts) own own' → OnlyAt (tgsSlots ts) σ σ' → Q σ' H
end
theorem PG.imp {X : Cx} {e : Expr} {t t' : TG} (h : PG X e t) (hi : ∀ v σ H Q, t' v σ H Q → t v σ H Q) : PG X e t' :=
  ⟨fun pins s σ H v u Q I r q => h.run pins s σ H v u Q I r (hi v σ H Q q)⟩
theorem PGs.imp {X : Cx} {e : List Expr} {t t' : TGs} (h : PGs X e t) (hi : ∀ v σ H Q, t' v σ H Q → t v σ H Q) : PGs X e t' :=
  ⟨fun pins s σ H v u Q I r q => h.run pins s σ H v u Q I r (hi v σ H Q q)⟩
theorem Av_own {F : Fm} {own own' : Own} {S : List Nat} (h : OwnAt S own own') : ∀ b, Av F own' b → Av F own b := fun b z => by
  rcases z with z | ⟨i, z⟩
  · exact .inl z
  · rcases h i with e | ⟨_, e⟩
    · exact .inr ⟨i, by rw [← e]; exact z⟩
    · rw [e] at z; cases z
theorem OwnAt.trans {S T : List Nat} {o1 o2 o3 : Own} (a : OwnAt S o1 o2) (b : OwnAt T o2 o3) : OwnAt (S ++ T) o1 o3 := fun i => by
  rcases b i with e | ⟨m, e⟩
  · rcases a i with e' | ⟨m', e'⟩
    · exact .inl (e.trans e')
    · exact .inr ⟨List.mem_append_left _ m', e.trans e'⟩
  · exact .inr ⟨List.mem_append_right _ m, e⟩
theorem OnlyAt.trans {S T : List Nat} {o1 o2 o3 : L2.St} (a : OnlyAt S o1 o2) (b : OnlyAt T o2 o3) : OnlyAt (S ++ T) o1 o3 :=
  ⟨b.1.trans a.1, fun j h => by
    rw [List.mem_append, not_or] at h
    exact (b.2 j h.2).trans (a.2 j h.1)⟩
section
variable {X : Cx} {pos : Pos}
theorem sg_name {i : Nat} {x : Str} (hN : X.N.Nodup) (hi : X.N[i]? = some x) (hx : Loc X.env.scope x) (hf : X.fn x = true ∨ X.env.scope.names.lookup x = some .local) : PG X (.Name x pos) (rdG X.K (.nm i)) :=
  PG.imp (pg_name hN hi hx hf) fun v σ H Q h => by
    obtain ⟨F, own, ρ, d, R, r, w⟩ := h
    unfold wpTg at w
    refine w.2 _ _ (R.assign w.1 r) (fun j => ?_) ⟨by simp, fun j hj => ?_⟩
    · by_cases e : j = i
      · subst e; exact .inr ⟨by unfold tgSlots; simp, setO_same⟩
      · exact .inl (setO_ne e)
    · unfold tgSlots at hj
      rw [List.getElem?_set_ne (fun z => hj (by simp [z]))]
theorem sgs_nil : PGs X [] (rdGs X.K []) := PGs.imp pgs_nil fun v σ H Q h => by
  obtain ⟨F, own, ρ, d, R, r, w⟩ := h
  unfold wpTgs at w
  obtain ⟨rfl, w⟩ := w
  cases r
  exact ⟨rfl, w _ _ R (fun j => .inl rfl) ⟨rfl, fun _ _ => rfl⟩⟩
theorem sgs_cons {e : Expr} {es : List Expr} {t : Tg} {ts : List Tg} (h1 : PG X e (rdG X.K t)) (h2 : PGs X es (rdGs X.K ts)) (hs : (assignEach (e :: es) X.env).map (·.2) = assign e X.env :: (assignEach es X.env).map (·.2)) : PGs X (e :: es) (rdGs X.K (t :: ts)) :=
  PGs.imp (pgs_cons h1 h2 hs) fun v σ H Q h => by
    obtain ⟨F, own, ρ, ds, R, r, w⟩ := h
    unfold wpTgs at w
    obtain ⟨d, dr, rfl, w⟩ := w
    cases r with
    | cons r rr =>
      refine ⟨_, _, rfl, F, own, ρ, d, R, r, wpTg_mono t d ρ (fun ρ1 w1 own1 σ1 R1 o1 s1 => ?_) w⟩
      refine ⟨F, own1, ρ1, dr, R1, rr.kp (Kp.same (Same.refl H) fun b z => .inl (Av_own o1 b z)), wpTgs_mono ts dr ρ1 (fun ρ2 w2 own2 σ2 R2 o2 s2 => ?_) w1⟩
      refine w2 own2 σ2 R2 ?_ ?_
      · have := o1.trans o2
        unfold tgsSlots
        exact this
      · have := s1.trans s2
        unfold tgsSlots
        exact this
theorem sg_tup {es : List Expr} {k : Nat} {ts : List Tg} (hc : X.calm = true) (h : PGs X es (rdGs X.K ts)) (hn : (assignEach es X.env).length = ts.length) (hst : (assignEach es X.env).findIdx? (·.1) = none) : PG X (.Tuple es k pos) (rdG X.K (.tp ts)) :=
  PG.imp (pg_tup (n := ts.length) hc h hn hst) fun v σ H Q h => by
    obtain ⟨F, own, ρ, d, R, r, w⟩ := h
    unfold wpTg at w
    obtain ⟨l, rfl, hl, w⟩ := w
    cases r with
    | tup hq rr =>
      refine ⟨_, _, rfl, hq, by rw [← rr.length]; exact hl, F, own, ρ, l, R, rr, ?_⟩
      refine wpTgs_mono ts l ρ (fun ρ1 q own1 σ1 R1 o1 s1 => q own1 σ1 R1 ?_ ?_) w
      · unfold tgSlots; exact o1
      · unfold tgSlots; exact s1
end

/-! ### wiped slots -/
theorem wipe_len : ∀ (vs : List Nat) (ρ : Env), (wipe vs ρ).length = ρ.length
  | [], _ => rfl
  | v :: vs, ρ => by unfold wipe; rw [List.length_set, wipe_len vs ρ]
theorem wipe_in : ∀ {vs : List Nat} {ρ : Env} {i : Nat}, i ∈ vs → ∀ y, (wipe vs ρ)[i]? = some y → y = none
  | v :: vs, ρ, i, h, y, e => by
    unfold wipe at e
    by_cases hv : v = i
    · subst hv
      have hl : v < (wipe vs ρ).length := by
        have := (List.getElem?_eq_some_iff.mp e).1
        simpa using this
      rw [List.getElem?_set_self hl] at e
      cases e; rfl
    · rw [List.getElem?_set_ne hv] at e
      rcases List.mem_cons.mp h with z | z
      · exact absurd z.symm hv
      · exact wipe_in z y e
theorem wipe_ni : ∀ {vs : List Nat} {ρ : Env} {i : Nat}, i ∉ vs → (wipe vs ρ)[i]? = ρ[i]?
  | [], _, _, _ => rfl
  | v :: vs, ρ, i, h => by
    rw [List.mem_cons, not_or] at h
    unfold wipe
    rw [List.getElem?_set_ne (fun e => h.1 e.symm)]
    exact wipe_ni h.2
theorem wipeS_ni : ∀ {vs : List Nat} {σ : L2.St} {i : Nat}, i ∉ vs → (L2.wipe σ vs)[i]? = σ[i]? := fun h => L2.wipe_out h
theorem wipeS_in : ∀ {vs : List Nat} {σ : L2.St} {i : Nat}, i ∈ vs → i < σ.length → (L2.wipe σ vs)[i]? = some none
  | v :: vs, σ, i, h, hl => by
    unfold L2.wipe
    by_cases hv : v = i
    · subst hv
      exact List.getElem?_set_self (by rw [L2.wipe_length]; exact hl)
    · rw [List.getElem?_set_ne hv]
      rcases List.mem_cons.mp h with z | z
      · exact absurd z.symm hv
      · exact wipeS_in z hl
theorem wipeS_eq {vs S : List Nat} {σ σ2 : L2.St} (h : OnlyAt S (L2.wipe σ vs) σ2) (hS : ∀ i ∈ S, i ∈ vs) : L2.wipe σ2 vs = L2.wipe σ vs := by
  have hl : σ2.length = σ.length := by rw [h.1, L2.wipe_length]
  refine List.ext_getElem? fun i => ?_
  by_cases hi : i ∈ vs
  · by_cases hl' : i < σ.length
    · rw [wipeS_in hi hl', wipeS_in hi (by rw [hl]; exact hl')]
    · rw [List.getElem?_eq_none (by rw [L2.wipe_length]; omega), List.getElem?_eq_none (by rw [L2.wipe_length]; omega)]
  · rw [wipeS_ni hi, h.2 i fun z => hi (hS i z), wipeS_ni hi]
theorem restore_len : ∀ (ρ0 : Env) (vs : List Nat) (ρ : Env), (restore ρ0 vs ρ).length = ρ.length
  | _, [], _ => rfl
  | ρ0, v :: vs, ρ => by unfold restore; rw [List.length_set, restore_len ρ0 vs ρ]
theorem restore_ni : ∀ {ρ0 : Env} {vs : List Nat} {ρ : Env} {i : Nat}, i ∉ vs → (restore ρ0 vs ρ)[i]? = ρ[i]?
  | _, [], _, _, _ => rfl
  | ρ0, v :: vs, ρ, i, h => by
    rw [List.mem_cons, not_or] at h
    unfold restore
    rw [List.getElem?_set_ne (fun e => h.1 e.symm)]
    exact restore_ni h.2
theorem restore_in : ∀ {ρ0 : Env} {vs : List Nat} {ρ : Env} {i : Nat}, i ∈ vs → i < ρ.length → (restore ρ0 vs ρ)[i]? = some (ρ0[i]?.getD none)
  | ρ0, v :: vs, ρ, i, h, hl => by
    unfold restore
    by_cases hv : v = i
    · subst hv
      exact List.getElem?_set_self (by rw [restore_len]; exact hl)
    · rw [List.getElem?_set_ne hv]
      rcases List.mem_cons.mp h with z | z
      · exact absurd z.symm hv
      · exact restore_in z hl
def ownW (own : Own) (vs : List Nat) : Own := fun i => if i ∈ vs then none else own i
theorem ownW_some {own : Own} {vs : List Nat} {i : Nat} {a : Addr} (h : ownW own vs i = some a) : i ∉ vs ∧ own i = some a := by
  unfold ownW at h
  by_cases hi : i ∈ vs
  · rw [if_pos hi] at h; cases h
  · rw [if_neg hi] at h; exact ⟨hi, h⟩
theorem ownW_ni {own : Own} {vs : List Nat} {i : Nat} (h : i ∉ vs) : ownW own vs i = own i := if_neg h
theorem ownW_at {own own' : Own} {vs S : List Nat} (h : OwnAt S (ownW own vs) own') (hS : ∀ i ∈ S, i ∈ vs) : own' = ownW own vs := by
  funext i
  rcases h i with e | ⟨m, e⟩
  · exact e
  · rw [e]
    unfold ownW
    rw [if_pos (hS i m)]
theorem ownW_idem {own : Own} {vs : List Nat} : ownW (ownW own vs) vs = ownW own vs := by
  funext i
  unfold ownW
  by_cases hi : i ∈ vs
  · rw [if_pos hi, if_pos hi]
  · rw [if_neg hi]

section
variable {K : PySem.W.Frag} {F F' : Fm} {own : Own} {ρ ρ1 ρ2 : Env} {σ : L2.St} {H H1 H2 : Hp} {vs : List Nat} {D : Addr}
/-- the frame of a block: the outside holds what the other slots own, and the new list -/
def Fm.blk (F : Fm) (own : Own) (D : Addr) : Fm := { F with O := fun b => Av F own b ∨ b = D }
theorem Rel.wipeAll (R : Rel K F own ρ σ H) (hv : ∀ p ∈ F.L, p.1 ∉ vs) : Rel K { F with O := Av F own } (ownW own vs) (wipe vs ρ) (L2.wipe σ vs) H := by
  refine ⟨by rw [wipe_len, L2.wipe_length]; exact R.len, fun i t v e => ?_, R.av_dom, R.domB, fun i a h => R.ownB i a (ownW_some h).2, fun i j a h1 h2 => R.inj i j a (ownW_some h1).2 (ownW_some h2).2, fun i a h => ?_, fun p hp => ?_⟩
  · have hi : i ∉ vs := fun z => by cases wipe_in z _ e
    rw [wipe_ni hi] at e
    obtain ⟨x, ex, s⟩ := R.slot i t v e
    exact ⟨x, by rw [wipeS_ni hi]; exact ex, s.imp (fun b z => z.elim id fun ⟨j, z⟩ => .inr ⟨j, (ownW_some z).2⟩) (fun _ => ownW_ni hi) rfl⟩
  · obtain ⟨hi, h'⟩ := ownW_some h
    obtain ⟨t, v, e, o⟩ := R.ownS i a h'
    exact ⟨t, v, by rw [wipe_ni hi]; exact e, o⟩
  · obtain ⟨e1, t, v, e2, e3⟩ := R.pin p hp
    exact ⟨by rw [wipeS_ni (hv p hp)]; exact e1, t, v, by rw [wipe_ni (hv p hp)]; exact e2, e3⟩
/-- a protected list that no slot reaches is changed -/
theorem Rel.updP {ws : List V} (R : Rel K F own ρ σ H) (hO : F.O D) (hB : ¬ F.B D) (hD : ∃ vs, H D = some (.lst vs)) (ho : ∀ i, own i ≠ some D) : Rel K F own ρ σ (upd H D (.lst ws)) := by
  obtain ⟨vs0, eH⟩ := hD
  have k : Kp (fun b => b = D) (Av F own) (Av F own) H (upd H D (.lst ws)) := {
    keep := fun b o q n => by rw [upd_ne n]; exact q
    sub := fun b q => .inl (by rw [q]; exact hO)
    tup := fun b xs q z => by
      rw [q] at z
      rcases z with z | ⟨o, z⟩ <;> rw [eH] at z <;> cases z
    av := fun b z => .inl z }
  have dm : ∀ b, H b ≠ none → upd H D (.lst ws) b ≠ none := fun b n => by
    by_cases q : b = D
    · rw [q, upd_same]; exact fun z => by cases z
    · rw [upd_ne q]; exact n
  refine ⟨R.len, fun i t v e => ?_, fun b z => dm b (R.dom b z), fun b z => dm b (R.domB b z), R.ownB, R.inj, R.ownS, R.pin⟩
  obtain ⟨x, ex, s⟩ := R.slot i t v e
  refine ⟨x, ex, ?_⟩
  unfold SlotR at s ⊢
  cases eb : baseT t with
  | b => rw [eb] at s; exact s.kp k
  | o =>
    rw [eb] at s
    obtain ⟨a, h1, h2, m⟩ := s
    obtain ⟨l, vs, rfl, e1, r⟩ := m.shape
    exact ⟨a, h1, h2, vs, by rw [upd_ne (fun z => ho i (by rw [← z]; exact h1))]; exact e1, r.kp k⟩
  | m =>
    rw [eb] at s
    obtain ⟨a, h1, h2, m⟩ := s
    obtain ⟨l, vs, rfl, e1, r⟩ := m.shape
    exact ⟨a, h1, h2, vs, by rw [upd_ne (fun z => ho i (by rw [← z]; exact h1))]; exact e1, r.kp k⟩
  | l =>
    rw [eb] at s
    obtain ⟨a, h2, m⟩ := s
    obtain ⟨l, vs, rfl, e1, hb, r⟩ := m.shape
    exact ⟨a, h2, vs, k.rd e1 (fun z => hB (by rw [← z]; exact hb)), hb, r.kp k⟩
  | s =>
    rw [eb] at s
    obtain ⟨a, ns, h1, h2, m⟩ := s
    refine ⟨a, ns, h1, h2, ?_⟩
    rcases m with ⟨o, m⟩ | m
    · exact .inl ⟨o, by rw [upd_ne (fun z => by rw [z, eH] at m; cases m)]; exact m⟩
    · exact .inr m
  | k u => exact absurd eb (baseT_nk t u)
theorem Av_blk (b : Addr) : Av (F.blk own D) (ownW own vs) b ↔ Av (F.add D) own b := by
  rw [Av_add]
  unfold Av Fm.blk
  constructor
  · rintro ((h | h) | ⟨i, h⟩)
    · exact .inl h
    · exact .inr h
    · exact .inl (.inr ⟨i, (ownW_some h).2⟩)
  · rintro (h | h)
    · exact .inl (.inl h)
    · exact .inl (.inr h)
/-- the block's end: the block's own slots are as they were -/
theorem Rel.restored (R1 : Rel K F own ρ1 σ H1) (Rb : Rel K (F.blk own D) (ownW own vs) ρ2 (L2.wipe σ vs) H2) (keep : ∀ b o, H1 b = some o → (∀ i, ownW own vs i ≠ some b) → H2 b = some o) (hD : H1 D = none) :
    Rel K (F.add D) own (restore ρ1 vs ρ2) σ H2 := by
  have hl : ρ2.length = σ.length := by rw [Rb.len, L2.wipe_length]
  have hA : ∀ b, Av (F.add D) own b → Av F own b ∨ H1 b = none := fun b z => by
    rw [Av_add] at z
    exact z.imp id fun e => by rw [e]; exact hD
  have k : Kp (fun b => ∃ i, ownW own vs i = some b) (Av F own) (Av (F.add D) own) H1 H2 := {
    keep := fun b o e n => keep b o e fun i z => n ⟨i, z⟩
    sub := fun b ⟨i, h⟩ => .inr ⟨i, (ownW_some h).2⟩
    tup := fun b xs ⟨i, h⟩ r => by
      obtain ⟨vs', e⟩ := R1.own_lst (ownW_some h).2
      rcases r with r | ⟨o, r⟩ <;> rw [e] at r <;> cases r
    av := hA }
  have apart : ∀ {i a}, i ∈ vs → own i = some a → ∀ j, ownW own vs j ≠ some a := fun {i a} hi h j z => by
    obtain ⟨hj, h'⟩ := ownW_some z
    exact hj (by rw [R1.inj j i a h' h]; exact hi)
  refine ⟨by rw [restore_len]; exact hl, fun i t v e => ?_, fun b z => Rb.dom b (z.imp .inl id), Rb.domB, R1.ownB, R1.inj, fun i a h => ?_, fun p hp => ?_⟩
  · by_cases hi : i ∈ vs
    · have hlt : i < ρ2.length := by
        have := (List.getElem?_eq_some_iff.mp e).1
        rw [restore_len] at this; exact this
      rw [restore_in hi hlt] at e
      have e1 : ρ1[i]? = some (some (t, v)) := by
        cases q : ρ1[i]? with
        | none => rw [q] at e; cases e
        | some y => rw [q] at e; exact e
      obtain ⟨x, ex, s⟩ := R1.slot i t v e1
      refine ⟨x, ex, ?_⟩
      unfold SlotR at s ⊢
      cases eb : baseT t with
      | b => rw [eb] at s; exact s.kp k
      | o =>
        rw [eb] at s
        obtain ⟨a, h1, h2, m⟩ := s
        obtain ⟨l, ws, rfl, e1, r⟩ := m.shape
        exact ⟨a, h1, h2, ws, keep _ _ e1 (apart hi h1), r.kp k⟩
      | m =>
        rw [eb] at s
        obtain ⟨a, h1, h2, m⟩ := s
        obtain ⟨l, ws, rfl, e1, r⟩ := m.shape
        exact ⟨a, h1, h2, ws, keep _ _ e1 (apart hi h1), r.kp k⟩
      | l =>
        rw [eb] at s
        obtain ⟨a, h2, m⟩ := s
        obtain ⟨l, ws, rfl, e1, hb, r⟩ := m.shape
        exact ⟨a, h2, ws, k.rd e1 (fun ⟨j, z⟩ => R1.ownB j a (ownW_some z).2 hb), hb, r.kp k⟩
      | s =>
        rw [eb] at s
        obtain ⟨a, ns, h1, h2, m⟩ := s
        refine ⟨a, ns, h1, h2, ?_⟩
        rcases m with ⟨o, m⟩ | m
        · refine .inl ⟨o, keep _ _ m fun j z => ?_⟩
          obtain ⟨ws, e⟩ := R1.own_lst (ownW_some z).2
          rw [e] at m; cases m
        · exact .inr m
      | k u => exact absurd eb (baseT_nk t u)
    · rw [restore_ni hi] at e
      obtain ⟨x, ex, s⟩ := Rb.slot i t v e
      rw [wipeS_ni hi] at ex
      exact ⟨x, ex, s.imp (fun b z => (Av_blk b).mpr z) (fun _ => (ownW_ni hi).symm) rfl⟩
  · by_cases hi : i ∈ vs
    · obtain ⟨t, v, e, o⟩ := R1.ownS i a h
      have hlt : i < ρ2.length := by
        rw [hl, ← R1.len]; exact (List.getElem?_eq_some_iff.mp e).1
      exact ⟨t, v, by rw [restore_in hi hlt, e]; rfl, o⟩
    · obtain ⟨t, v, e, o⟩ := Rb.ownS i a (by rw [ownW_ni hi]; exact h)
      exact ⟨t, v, by rw [restore_ni hi]; exact e, o⟩
  · obtain ⟨e1, t, v, e2, e3⟩ := R1.pin p hp
    obtain ⟨e1', t', v', e2', e3'⟩ := Rb.pin p hp
    by_cases hi : p.1 ∈ vs
    · have hlt : p.1 < ρ2.length := by
        rw [hl, ← R1.len]; exact (List.getElem?_eq_some_iff.mp e2).1
      exact ⟨e1, t, v, by rw [restore_in hi hlt, e2]; rfl, e3⟩
    · exact ⟨e1, t', v', by rw [restore_ni hi]; exact e2', e3'⟩
end

/-! ### [elt for tg in iter if cond] -/
def rdTs (P : Nat → Option FD) (C : CallP) (K : PySem.W.Frag) (c : IE) : TT := rdT P C K c
theorem PTs.imp {X : Cx} {e : List Expr} {t t' : TT} (h : PTs X e t) (hi : ∀ σ H Q, t' σ H Q → t σ H Q) : PTs X e t' :=
  ⟨fun pins s σ H Q I q => h.run pins s σ H Q I (hi σ H Q q)⟩
theorem sts_nil {X : Cx} {P : Nat → Option FD} {C : CallP} : PTs X [] (rdT P C X.K (.con (.bool true))) := PTs.imp pts_nil fun σ H Q h => by
  obtain ⟨F, own, ρ, R, w⟩ := h
  unfold wpT wpE at w
  obtain ⟨t, e, w⟩ := w
  cases e
  exact w _ ⟨Fr.refl _ _, R⟩
theorem sts_one {X : Cx} {P : Nat → Option FD} {C : CallP} {c : Expr} {ic : IE} (h : PT X c (rdT P C X.K ic)) : PTs X [c] (rdT P C X.K ic) := pts_one h

theorem lc_reading {P : Nat → Option FD} {C : CallP} {K : PySem.W.Frag} {it : IT} {tg : Tg} {cond elt : IE} {vs : List Nat} (hC : MonoC C) (htg : ∀ i ∈ tgSlots tg, i ∈ vs) {σ : L2.St} {H : Hp} {Q : VK}
    (h : rdE P C K (.lc vs it tg cond elt) σ H Q) : tLc (rdI P C K it) (rdG K tg) (rdT P C K cond) (rdE P C K elt) vs σ H Q := by
  obtain ⟨F, own, ρ, R, w⟩ := h
  unfold wpE at w
  refine ⟨F, own, ρ, R, wpIt_mono hC it ρ (fun xs lk ρ1 ⟨hst, w⟩ J H1 pi D hD => ?_) w⟩
  -- the frame with its locks; no pinned slot is the block's own
  have R1 := pi.rel
  generalize hF1 : ({ F with L := pins own lk ++ F.L } : Fm) = F1 at R1
  have hpv : ∀ p ∈ F1.L, p.1 ∉ vs := fun p hp z => R1.pin_ne (List.all_eq_true.mp hst _ z) p hp rfl
  have hO1 : F1.O = F.O := by rw [← hF1]
  have hB1 : F1.B = F.B := by rw [← hF1]
  have hAv1 : ∀ b, Av F1 own b ↔ Av F own b := fun b => by unfold Av; rw [hO1]
  have notO : ∀ i, ownW own vs i ≠ some D := fun i z => by
    obtain ⟨ws, e⟩ := R1.own_lst (ownW_some z).2
    rw [hD] at e; cases e
  have notB : ¬ F1.B D := fun z => R1.domB D z hD
  let body : PV → Env → (Option PV → Env → Prop) → Prop := fun x ρ R => wpTg tg x ρ fun ρ2 => wpE P C cond ρ2 fun c ρ3 => ∃ t, truth c = some t ∧ if t = true then wpE P C elt ρ3 fun v ρ4 => R (some v) ρ4 else R none ρ3
  let Qf : List PV → Env → Prop := fun acc ρ' => ∀ x H', PostE K F own H (unlock lk (restore ρ1 vs ρ')) σ true (.list acc) x H' → Q x H'
  have w' : lcGo body vs lk xs [] (wipe vs ρ1) Qf := w
  refine ⟨fun i m H' => m = xs.length - i ∧ i ≤ xs.length ∧ ∃ ρ' acc accV, Rel K (F1.blk own D) (ownW own vs) ρ' (L2.wipe σ vs) H' ∧ (∀ b o, H1 b = some o → (∀ i, ownW own vs i ≠ some b) → H' b = some o) ∧ (∀ b, H1 b ≠ none → H' b ≠ none) ∧
      H' D = some (.lst accV) ∧ RVs K H' (Av (F1.blk own D) (ownW own vs)) acc accV ∧ lcGo body vs lk (xs.drop i) acc ρ' Qf, ⟨xs.length, rfl, Nat.zero_le _, ?_⟩, ?_⟩
  · refine ⟨wipe vs ρ1, [], [], ?_, fun b o e _ => by rw [upd_ne (ne_of_none e hD)]; exact e, fun b n => ?_, upd_same, .nil, by rw [List.drop_zero]; exact w'⟩
    · have h1 := R1.wipeAll hpv
      exact h1.same_add (upd_same_of hD) hD (by rw [upd_same]; exact fun z => by cases z)
    · by_cases q : b = D
      · rw [q, upd_same]; exact fun z => by cases z
      · rw [upd_ne q]; exact n
  · rintro i m H' ⟨rfl, hi, ρ', acc, accV, Rb, kb, db, eD, racc, wg⟩
    have lat : Later own H1 (ownW own vs) H' := ⟨fun b o e n => kb b o e fun i z => n i (ownW_some z).2, fun i a z => .inl ⟨i, (ownW_some z).2⟩, db⟩
    have hAv : ∀ b, Av (F1.blk own D) (ownW own vs) b → Av F own b ∨ H1 b = none := fun b z => by
      rw [Av_blk, Av_add] at z
      rcases z with z | z
      · exact .inl ((hAv1 b).mp z)
      · exact .inr (by rw [z]; exact hD)
    have hpins : ∀ p ∈ pins own lk, p ∈ (F1.blk own D).L := fun p hp => by
      show p ∈ F1.L
      rw [← hF1]
      exact List.mem_append_left _ hp
    have hDO : (F1.blk own D).O D := .inr rfl
    by_cases hlt : i < xs.length
    · right
      have ed : xs.drop i = xs[i] :: xs.drop (i + 1) := List.drop_eq_getElem_cons hlt
      rw [ed] at wg
      unfold lcGo at wg
      obtain ⟨hchk, wb⟩ := wg
      obtain ⟨tgo, _, tyld⟩ := pi.turn (F1.blk own D) (ownW own vs) ρ' (L2.wipe σ vs) H' Rb lat hAv hpins hchk
      refine ⟨tgo i hlt, fun H2 => i + 1 ≤ xs.length ∧ ∃ ρ2 acc2 accV2, Rel K (F1.blk own D) (ownW own vs) ρ2 (L2.wipe σ vs) H2 ∧ (∀ b o, H1 b = some o → (∀ i, ownW own vs i ≠ some b) → H2 b = some o) ∧ (∀ b, H1 b ≠ none → H2 b ≠ none) ∧
        H2 D = some (.lst accV2) ∧ RVs K H2 (Av (F1.blk own D) (ownW own vs)) acc2 accV2 ∧ lcGo body vs lk (xs.drop (i + 1)) acc2 ρ2 Qf, fun H2 h2 => ⟨xs.length - (i + 1), by omega, rfl, h2⟩, fun x H3 hy => ?_⟩
      obtain ⟨d, hd, sm, rd⟩ := tyld i x H3 hlt hy
      rw [List.getElem?_eq_getElem hlt] at hd
      cases hd
      have R3 := Rb.same' sm
      refine ⟨F1.blk own D, ownW own vs, ρ', _, R3, rd, wpTg_mono tg _ ρ' (fun ρ2 wc own2 σ2 R2 o2 s2 => ?_) wb⟩
      have e2 := ownW_at o2 htg
      subst e2
      have eσ := wipeS_eq s2 htg
      -- the heap so far
      have k3 : ∀ b o, H' b = some o → H3 b = some o := sm
      have step : ∀ {ρ5 : Env} {H5 : Hp}, Fr (ownW own vs) H3 H5 → Rel K (F1.blk own D) (ownW own vs) ρ5 σ2 H5 → (∀ b o, H1 b = some o → (∀ i, ownW own vs i ≠ some b) → H5 b = some o) ∧ (∀ b, H1 b ≠ none → H5 b ≠ none) ∧ H5 D = some (.lst accV) ∧ RVs K H5 (Av (F1.blk own D) (ownW own vs)) acc accV ∧
          Rel K (F1.blk own D) (ownW own vs) (wipe vs ρ5) (L2.wipe σ vs) H5 := fun {ρ5 H5} fr R5 => by
        refine ⟨fun b o e n => fr b o (k3 b o (kb b o e n)) n, fun b n => ?_, fr D _ (k3 D _ eD) notO, ?_, ?_⟩
        · have h3 : H3 b ≠ none := by
            cases q : H' b with
            | none => exact absurd q (db b n)
            | some o => rw [k3 b o q]; exact fun z => by cases z
          exact (Later.of_fr R2 fr R5).dom b h3
        · exact (racc.kp (Kp.same sm fun b z => .inl z)).kp (R2.kp fr fun b z => .inl z)
        · have h6 := R5.wipeAll (vs := vs) hpv
          rw [ownW_idem, eσ] at h6
          refine h6.loose (F' := F1.blk own D) rfl rfl fun b z => .inl z
      refine ⟨eσ, F1.blk own D, ownW own vs, ρ2, R2, wpE_mono hC cond ρ2 (fun c ρ3 ⟨t, et, q⟩ => ⟨t, et, fun H4 p4 => ?_⟩) wc⟩
      cases t with
      | false =>
        rw [if_neg Bool.false_ne_true] at q ⊢
        obtain ⟨s1, s2', s3, s4, s5⟩ := step p4.keep p4.rel
        exact ⟨hlt, wipe vs ρ3, acc, accV, s5, s1, s2', s3, s4, q⟩
      | true =>
        rw [if_pos rfl] at q ⊢
        refine ⟨F1.blk own D, ownW own vs, ρ3, p4.rel, wpE_mono hC elt ρ3 (fun v ρ4 ⟨hlen, q⟩ y H5 p5 => ?_) q⟩
        obtain ⟨s1, s2', s3, s4, s5⟩ := step (p4.keep.trans p5.keep) p5.rel
        have hne : ∀ b o, H1 b = some o → b ≠ D := fun b o e z => by rw [z, hD] at e; cases e
        refine ⟨accV, s3, by rw [← s4.length, ← line_eq]; exact hlen, hlt, wipe vs ρ4, acc ++ [v], accV ++ [y], s5.updP hDO notB ⟨_, s3⟩ notO, fun b o e n => ?_, fun b n => ?_, upd_same, ?_, q⟩
        · rw [upd_ne (hne b o e)]; exact s1 b o e n
        · by_cases z : b = D
          · rw [z, upd_same]; exact fun z => by cases z
          · rw [upd_ne z]; exact s2' b n
        · have k : Kp (fun b => b = D) (Av (F1.blk own D) (ownW own vs)) (Av (F1.blk own D) (ownW own vs)) H5 (upd H5 D (.lst (accV ++ [y]))) := {
            keep := fun b o q n => by rw [upd_ne n]; exact q
            sub := fun b q => .inl (by rw [q]; exact hDO)
            tup := fun b xs q z => by
              rw [q] at z
              rcases z with z | ⟨o, z⟩ <;> rw [s3] at z <;> cases z
            av := fun b z => .inl z }
          exact (s4.append (.cons p5.val .nil)).kp k
    · left
      have ei : i = xs.length := by omega
      subst ei
      rw [List.drop_length] at wg
      unfold lcGo at wg
      obtain ⟨hchk, wq⟩ := wg
      obtain ⟨_, tst, _⟩ := pi.turn (F1.blk own D) (ownW own vs) ρ' (L2.wipe σ vs) H' Rb lat hAv hpins hchk
      refine ⟨tst, wq _ _ ?_⟩
      -- the block's end
      have hst' : ∀ p ∈ lk, p.1 ∉ vs := fun p hp z => by
        have e1 := chk_mem hchk p hp
        obtain ⟨x, ex, _⟩ := Rb.slot _ _ _ e1
        have hl : p.1 < σ.length := by
          have := (List.getElem?_eq_some_iff.mp ex).1
          rw [L2.wipe_length] at this; exact this
        rw [wipeS_in z hl] at ex
        cases ex
      have Rr := R1.restored Rb kb hD
      have hc2 : chk lk (restore ρ1 vs ρ') := chk_congr (fun p hp => restore_ni (hst' p hp)) hchk
      have Ru : Rel K (F.add D) own (unlock lk (restore ρ1 vs ρ')) σ H' := by
        refine Rel.unlock (F := F.add D) (L' := F1.L) ⟨pi.ok.nd, pi.ok.tg⟩ ?_ (fun p hp => ?_) hc2
        · have e : (F1.add D) = ({ F.add D with L := F1.L } : Fm) := by rw [← hF1]; rfl
          rw [← e]; exact Rr
        · rw [← hF1]; exact List.mem_append_right _ hp
      have rv : RVs K H' (Av (F.add D) own) acc accV := racc.kp (Kp.same (Same.refl H') fun b z => .inl ((Av_blk b).mpr (by rw [Av_add] at z ⊢; exact z.imp (hAv1 b).mpr id)))
      have hDn : ¬ Av F own D := fun z => R1.av_dom D ((hAv1 D).mpr z) hD
      refine ⟨pi.keep.trans lat.keep, Ru.unadd, .lst hDn (.inl eD) (rv.kp (Kp.same (Same.refl H') fun b z => .inl ((Av_add b).mpr (.inl z)))), fun _ _ => ⟨D, rfl, ?_, Ru, accV, eD, rv⟩⟩
      cases q : H D with
      | none => rfl
      | some o =>
        have := (Later.of_fr R pi.keep R1).dom D (by rw [q]; exact fun z => by cases z)
        exact absurd hD this
end IR
namespace IR
open PySem PySem.Spec L2 PyProof.Rows

/-! ### a def's promise -/
/-- an argument: a value; a list that is lent (not at ex) -/
def ArgR (K : PySem.W.Frag) (H : Hp) (O : AS) (ex : AS) (v : PV) (x : V) : Prop :=
  RV K H O v x ∨ ∃ a l vs, v = .list l ∧ x = .ref a ∧ ¬ ex a ∧ Rd H a (.lst vs) ∧ RVs K H O l vs
inductive ArgRs (K : PySem.W.Frag) (H : Hp) (O : AS) (ex : AS) : List PV → List V → Prop
  | nil : ArgRs K H O ex [] []
  | cons {v : PV} {x : V} {l : List PV} {xs : List V} : ArgR K H O ex v x → ArgRs K H O ex l xs → ArgRs K H O ex (v :: l) (x :: xs)
theorem ArgRs.length {K : PySem.W.Frag} {H : Hp} {O ex : AS} : ∀ {l : List PV} {xs : List V}, ArgRs K H O ex l xs → l.length = xs.length
  | _, _, .nil => rfl
  | _, _, .cons _ t => congrArg Nat.succ t.length
def ArgsR (K : PySem.W.Frag) (md : Mode) (H : Hp) (O : AS) (pvs : List PV) (vs : List V) : Prop :=
  match md with
  | .rd => ArgRs K H O (fun _ => False) pvs vs
  | .io => ∃ a l ws r vr, pvs = .list l :: r ∧ vs = .ref a :: vr ∧ O a ∧ H a = some (.lst ws) ∧ RVs K H O l ws ∧ ArgRs K H O (fun b => b = a) r vr
  | .scr => ∃ a ns r vr, pvs = .list (ns.map PyData.int) :: r ∧ vs = .ref a :: vr ∧ ScrAt K H a ns ∧ ArgRs K H O (fun _ => False) r vr
/-- the address that a def may change -/
def ioA (md : Mode) (vs : List V) : AS := fun b => md = .io ∧ ∃ r, vs = .ref b :: r
def IoR (K : PySem.W.Frag) (md : Mode) (O : AS) (H' : Hp) (vs : List V) (ov : Option PV) : Prop :=
  md = .io → ∃ a r l ws, vs = .ref a :: r ∧ ov = some (.list l) ∧ H' a = some (.lst ws) ∧ RVs K H' O l ws
structure PostC (K : PySem.W.Frag) (md : Mode) (O : AS) (H H' : Hp) (vs : List V) (v : PV) (ov : Option PV) (x : V) : Prop where
  keep : ∀ b o, H b = some o → ¬ ioA md vs b → H' b = some o
  val : RV K H' O v x
  io : IoR K md O H' vs ov
  new : mutv v = true → ∃ a, x = .ref a ∧ H a = none ∧ MutAt K H' (fun b => O b ∨ b = a) a v ∧ IoR K md (fun b => O b ∨ b = a) H' vs ov
def spF (P : Nat → Option FD) (d : Nat) (id : Nat) (K : PySem.W.Frag) : Sp := fun vs H Q _ =>
  ∃ (O : AS) (fd : FD) (pvs : List PV), P id = some fd ∧ (∀ b, O b → H b ≠ none) ∧ ArgsR K fd.md H O pvs vs ∧ pvs.length = fd.np ∧ vs.length = fd.np ∧
    callN P d id pvs fun v ov => ∀ x H', PostC K fd.md O H H' vs v ov x → Q x H'

/-! ### what a def's text is in the program -/
/-- a def of the text: its name, its number, its parameters -/
structure DefI where
  name : Str
  id : Nat
  ps : List Str
/-- a way to call it: how many by position, which by keyword, where each parameter is found -/
structure KwI where
  id : Nat
  n : Nat
  ks : List Str
  sel : List Nat
def selL {α : Type} (xs : List α) (sel : List Nat) : List α := sel.filterMap fun i => xs[i]?
/-- the facts of one def in the written part -/
structure FnFacts (P : Nat → Option FD) (prog : Program) (w : World) (K : PySem.W.Frag) (mg : Str → Option Value) (base : Heap) (kws : List KwI) (d : Nat) (D : DefI) : Prop where
  np : ∀ fd, P D.id = some fd → fd.np = D.ps.length
  ex : ∃ (f : Addr) (fd : FuncData), mg D.name = some (.ref f) ∧ PySem.W.keepIn K (.ref f) = true ∧ FnOk prog w K mg base CX0 d f fd D.ps (spF P d D.id K) ∧ Binds K fd D.ps [] ∧
    ∀ k ∈ kws, k.id = D.id → ∀ (s : Shared) (us ws : List Value), K.In s.heap → us.length = k.n → ws.length = k.ks.length → BindsTo s fd ⟨us, k.ks.zip ws⟩ (D.ps.zip (selL (us ++ ws) k.sel))

section
variable {K : PySem.W.Frag} {F : Fm} {own : Own} {ρ ρ' : Env} {σ : L2.St} {H H' H1 : Hp} {v : PV} {x : V} {d : Dsc}
/-- the addresses that the callee holds -/
theorem RTk.arg {A : AS} (h : RTk K false H A v x) : ArgR K H A (fun _ => False) v x := by
  rcases h with h | ⟨a, l, vs, e1, e2, h, r⟩ | ⟨z, _⟩
  · exact .inl h
  · exact .inr ⟨a, l, vs, e1, e2, fun z => z, h, r⟩
  · cases z
theorem DscR.arg (R : Rel K F own ρ σ H) (r : DscR K H (Av F own) σ d x) (h : deref ρ d = some v) : ArgR K H (Av F own) (fun _ => False) v x := (r.rt1 R h).arg
/-- .. apart from a slot that is another one -/
theorem DscR.argEx {j : Nat} {a : Addr} (R : Rel K F own ρ σ H) (r : DscR K H (Av F own) σ d x) (h : deref ρ d = some v) (ho : own j = some a) (hne : d ≠ .sl j) : ArgR K H (Av F own) (fun b => b = a) v x := by
  cases d with
  | vl w => cases h; exact .inl r
  | sl i =>
    obtain ⟨t, e, hsc⟩ := peek_slot (show peek ρ i = some v from h)
    obtain ⟨y, ey, s⟩ := R.slot i t v e
    have hy : y = x := by
      have r' : σ[i]? = some (some x) := r
      rw [ey] at r'; cases r'; rfl
    subst hy
    have hij : i ≠ j := fun z => hne (by rw [z])
    unfold SlotR at s
    cases eb : baseT t with
    | b => rw [eb] at s; exact .inl s
    | o =>
      rw [eb] at s
      obtain ⟨b, h1, rfl, m⟩ := s
      obtain ⟨l, vs, rfl, e1, r⟩ := m.shape
      exact .inr ⟨b, l, vs, rfl, rfl, fun z => hij (R.inj i j a (by rw [← z]; exact h1) ho), .inl e1, r⟩
    | m =>
      rw [eb] at s
      obtain ⟨b, h1, rfl, m⟩ := s
      obtain ⟨l, vs, rfl, e1, r⟩ := m.shape
      exact .inr ⟨b, l, vs, rfl, rfl, fun z => hij (R.inj i j a (by rw [← z]; exact h1) ho), .inl e1, r⟩
    | l =>
      rw [eb] at s
      obtain ⟨b, rfl, m⟩ := s
      obtain ⟨l, vs, rfl, e1, hB, r⟩ := m.shape
      exact .inr ⟨b, l, vs, rfl, rfl, fun z => R.ownB j a ho (by rw [← z]; exact hB), e1, r⟩
    | s => exact absurd eb (scr_base hsc)
    | k u => exact absurd eb (baseT_nk t u)
theorem DscRs.args (R : Rel K F own ρ σ H) : ∀ {ds : List Dsc} {xs : List V} {vs : List PV}, DscRs K H (Av F own) σ ds xs → derefs ρ ds = some vs → ArgRs K H (Av F own) (fun _ => False) vs xs
  | _, _, _, .nil, e => by cases e; exact .nil
  | _, _, vs, .cons r t, e => by
    unfold derefs at e
    split at e
    · rename_i w ws e1 e2
      cases e
      exact .cons (r.arg R e1) (DscRs.args R t e2)
    · cases e
theorem DscRs.argsEx {j : Nat} {a : Addr} (R : Rel K F own ρ σ H) (ho : own j = some a) : ∀ {ds : List Dsc} {xs : List V} {vs : List PV}, noSl j ds = true → DscRs K H (Av F own) σ ds xs → derefs ρ ds = some vs → ArgRs K H (Av F own) (fun b => b = a) vs xs
  | _, _, _, _, .nil, e => by cases e; exact .nil
  | d :: ds, _, vs, hn, .cons r t, e => by
    unfold derefs at e
    have h2 : noSl j ds = true ∧ d ≠ .sl j := by
      cases d with
      | vl w => exact ⟨hn, fun z => by cases z⟩
      | sl i =>
        unfold noSl at hn
        rw [Bool.and_eq_true] at hn
        refine ⟨hn.2, fun z => ?_⟩
        cases z
        simp at hn
    split at e
    · rename_i w ws e1 e2
      cases e
      exact .cons (r.argEx R e1 ho h2.2) (DscRs.argsEx R ho h2.1 t e2)
    · cases e
theorem DscRs.length {A : AS} : ∀ {ds : List Dsc} {xs : List V}, DscRs K H A σ ds xs → ds.length = xs.length
  | _, _, .nil => rfl
  | _, _, .cons _ t => congrArg Nat.succ t.length
theorem DscRs.get {A : AS} : ∀ {ds : List Dsc} {xs : List V} {i : Nat} {d : Dsc}, DscRs K H A σ ds xs → ds[i]? = some d → ∃ x, xs[i]? = some x ∧ DscR K H A σ d x
  | _, _, _, _, .nil, e => by simp at e
  | _, _, 0, _, .cons r _, e => by simp at e; subst e; exact ⟨_, rfl, r⟩
  | _, _, i + 1, d, .cons _ t, e => by
    obtain ⟨x, h1, h2⟩ := DscRs.get (i := i) (d := d) t (by simpa using e)
    exact ⟨x, by simpa using h1, h2⟩
theorem DscRs.pick {A : AS} {ds : List Dsc} {xs : List V} (h : DscRs K H A σ ds xs) : ∀ {sel : List Nat} {ds' : List Dsc}, pick ds sel = some ds' → DscRs K H A σ ds' (selL xs sel)
  | [], _, e => by cases e; exact .nil
  | i :: is, ds', e => by
    unfold IR.pick at e
    split at e
    · rename_i d r e1 e2
      cases e
      obtain ⟨x, hx, rx⟩ := h.get e1
      unfold selL
      rw [List.filterMap_cons, hx]
      exact .cons rx (DscRs.pick h e2)
    · cases e

/-- a call: the callee's promise is asked; what it hands back is told -/
theorem call_reading {P : Nat → Option FD} {dp : Nat} {f : Nat} {ds : List Dsc} {xs : List V} {Q : VK} {E : XK} (mono : ∀ b, H b ≠ none → H1 b ≠ none) (k : Fr own H H1) (R : Rel K F own ρ σ H1) (r : DscRs K H1 (Av F own) σ ds xs)
    (np : ∀ fd, P f = some fd → ds.length = fd.np) (w : callD P (callN P dp) f ds ρ fun v ρ' => ∀ x H', PostE K F own H ρ' σ true v x H' → Q x H') : spF P dp f K xs H1 Q E := by
  obtain ⟨fd, hf, w⟩ := w
  have hlen : xs.length = fd.np := by rw [← r.length]; exact np fd hf
  have fin : ∀ {a : Addr}, H1 a = none → H a = none := fun {a} hn => by
    cases q : H a with
    | none => rfl
    | some o => exact absurd hn (mono a (by rw [q]; exact fun z => by cases z))
  cases hm : fd.md with
  | rd =>
    rw [hm] at w
    obtain ⟨pvs, hp, w⟩ := w
    have ar := r.args R hp
    refine ⟨Av F own, fd, pvs, hf, R.av_dom, by rw [hm]; exact ar, by rw [ar.length]; exact hlen, hlen, callN_mono P dp _ _ _ _ (fun v ov q x H' pc => q x H' ?_) w⟩
    have sm : Same H1 H' := fun b o e => pc.keep b o e fun z => by rw [hm] at z; cases z.1
    refine ⟨k.trans (Fr.of_same sm), R.same' sm, pc.val, fun _ hv => ?_⟩
    obtain ⟨a, e, hn, m, _⟩ := pc.new hv
    obtain ⟨l, vs, rfl, eH, rr⟩ := m.shape
    exact ⟨a, e, fin hn, R.same_add sm hn (by rw [eH]; exact fun z => by cases z), vs, eH, rr.kp (Kp.mk (W := fun _ => False) (fun _ _ q _ => q) (fun _ z => z.elim) (fun _ _ z => z.elim) fun b z => .inl ((Av_add b).mp z))⟩
  | scr =>
    rw [hm] at w
    obtain ⟨j, ds', rfl, w0, hj, pvs, hp, w⟩ := w
    cases r with
    | cons r1 r2 =>
      rename_i x0 xr
      obtain ⟨y, ey, s⟩ := R.slot j .s w0 hj
      have hy : y = x0 := by
        have r' : σ[j]? = some (some x0) := r1
        rw [ey] at r'; cases r'; rfl
      subst hy
      obtain ⟨a, ns, rfl, rfl, sc⟩ := s
      have ar := r2.args R hp
      refine ⟨Av F own, fd, _, hf, R.av_dom, by rw [hm]; exact ⟨a, ns, pvs, xr, rfl, rfl, sc, ar⟩, ?_, hlen, callN_mono P dp _ _ _ _ (fun v ov q x H' pc => q x H' ?_) w⟩
      · rw [List.length_cons, ar.length]; exact hlen
      · have sm : Same H1 H' := fun b o e => pc.keep b o e fun z => by rw [hm] at z; cases z.1
        refine ⟨k.trans (Fr.of_same sm), R.same' sm, pc.val, fun _ hv => ?_⟩
        obtain ⟨a, e, hn, m, _⟩ := pc.new hv
        obtain ⟨l, vs, rfl, eH, rr⟩ := m.shape
        exact ⟨a, e, fin hn, R.same_add sm hn (by rw [eH]; exact fun z => by cases z), vs, eH, rr.kp (Kp.mk (W := fun _ => False) (fun _ _ q _ => q) (fun _ z => z.elim) (fun _ _ z => z.elim) fun b z => .inl ((Av_add b).mp z))⟩
  | io =>
    rw [hm] at w
    obtain ⟨pvs, hp, j, ds', rfl, hn, t, w0, hj, ht, w⟩ := w
    cases r with
    | cons r1 r2 =>
      rename_i x0 xr
      obtain ⟨y, ey, s⟩ := R.slot j t w0 hj
      have hy : y = x0 := by
        have r' : σ[j]? = some (some x0) := r1
        rw [ey] at r'; cases r'; rfl
      subst hy
      have ho : isOwn t = true := by rcases ht with z | z <;> rw [z] <;> rfl
      obtain ⟨a, ea, rfl, m⟩ := s.own_at ho
      obtain ⟨l, ws, rfl, eH, rr⟩ := m.shape
      unfold derefs at hp
      split at hp
      · rename_i v1 vr e1 e2
        cases hp
        have ev : v1 = .list l := by
          obtain ⟨t', e', _⟩ := peek_slot (show peek ρ j = some v1 from e1)
          rw [hj] at e'; cases e'; rfl
        subst ev
        have ar := r2.argsEx R ea hn e2
        have Oa : Av F own a := .inr ⟨j, ea⟩
        refine ⟨Av F own, fd, _, hf, R.av_dom, by rw [hm]; exact ⟨a, l, ws, vr, xr, rfl, rfl, Oa, eH, rr, ar⟩, ?_, hlen, callN_mono P dp _ _ _ _ (fun v ov ⟨w', eo, q⟩ x H' pc => q x H' ?_) w⟩
        · rw [List.length_cons, ar.length]; exact hlen
        · have kp : ∀ b o, H1 b = some o → b ≠ a → H' b = some o := fun b o e n => pc.keep b o e fun ⟨_, r, z⟩ => n (by cases z; rfl)
          obtain ⟨a1, r1', l', ws', z1, z2, e3, rr'⟩ := pc.io hm
          cases z1
          rw [eo] at z2; cases z2
          have keep' : Fr own H H' := fun b o e n => kp b o (k b o e n) fun z => n j (by rw [z]; exact ea)
          have dm : ∀ b, H1 b ≠ none → H' b ≠ none := fun b n => by
            by_cases z : b = a
            · rw [z, e3]; exact fun z => by cases z
            · cases q : H1 b with
              | none => exact absurd q n
              | some o => rw [kp b o q z]; exact fun z => by cases z
          refine ⟨keep', R.write' hj ho ea rfl rfl (fun _ z => .inl z) (fun b z => dm b (R.dom b z)) kp e3 rr', pc.val, fun _ hv => ?_⟩
          obtain ⟨b, e, hnb, m, io⟩ := pc.new hv
          obtain ⟨l2, vs2, rfl, eH2, rr2⟩ := m.shape
          obtain ⟨a2, r2', l3, ws3, z1, z2, e4, rr3⟩ := io hm
          cases z1
          rw [eo] at z2; cases z2
          rw [e3] at e4; cases e4
          have toA : ∀ {l : List PV} {vs : List V}, RVs K H' (fun c => Av F own c ∨ c = b) l vs → RVs K H' (Av (F.add b) own) l vs := fun r => r.kp (Kp.mk (W := fun _ => False) (fun _ _ q _ => q) (fun _ z => z.elim) (fun _ _ z => z.elim) fun c z => .inl ((Av_add c).mp z))
          refine ⟨b, e, fin hnb, R.write' (F' := F.add b) hj ho ea rfl rfl (fun c z => z.elim .inl fun z => .inr (by rw [z]; exact hnb)) (fun c z => ?_) kp e3 (toA rr3), vs2, eH2, toA rr2⟩
          rcases z with z | z
          · exact dm c (R.dom c z)
          · rw [z, eH2]; exact fun z => by cases z
      · cases hp
end
section
variable {X : Cx} {P : Nat → Option FD} {dp : Nat} {e : Expr} {es : List Expr} {kws : List Keyword} {pos p : Pos} {x : Str}
theorem selL_len {α : Type} {xs : List α} : ∀ {sel : List Nat}, (∀ i ∈ sel, i < xs.length) → (selL xs sel).length = sel.length
  | [], _ => rfl
  | i :: is, h => by
    unfold selL
    have hi : i < xs.length := h i (List.mem_cons_self ..)
    have h1 : xs[i]? = some (xs[i]'hi) := List.getElem?_eq_getElem hi
    rw [List.filterMap_cons, h1]
    show (selL xs is).length + 1 = _
    rw [selL_len fun j hj => h j (List.mem_cons_of_mem _ hj)]
    rfl
def IAs.len : IAs → Nat
  | .nil => 0
  | .cons _ r => r.len + 1
theorem wpAs_len {P : Nat → Option FD} {C : CallP} (hC : MonoC C) : ∀ (as : IAs) (ρ : Env) {Q : List Dsc → Env → Prop}, wpAs P C as ρ Q → wpAs P C as ρ fun ds ρ' => ds.length = as.len ∧ Q ds ρ'
  | .nil, ρ, Q, w => by unfold wpAs at w ⊢; exact ⟨rfl, w⟩
  | .cons a r, ρ, Q, w => by
    unfold wpAs at w ⊢
    exact wpD_mono hC a ρ (fun d ρ1 w1 => wpAs_mono hC r ρ1 (fun ds ρ2 ⟨e, q⟩ => ⟨congrArg Nat.succ e, q⟩) (wpAs_len hC r ρ1 w1)) w
theorem Vals.sel {xs : List V} {us : List Value} (r : Vals xs us) : ∀ (sel : List Nat), Vals (selL xs sel) (selL us sel)
  | [] => .nil
  | i :: is => by
    unfold selL
    rw [List.filterMap_cons, List.filterMap_cons]
    cases q : xs[i]? with
    | none =>
      rw [r.none_of q]
      exact Vals.sel r is
    | some x =>
      obtain ⟨u, hu, ru⟩ := r.get q
      rw [hu]
      exact .cons ru (Vals.sel r is)
/-- f(e, ..), all by position -/
theorem se_call {D : DefI} {kw : List KwI} {as : IAs} (FF : FnFacts P X.prog X.w X.K X.mg X.base kw dp D) (hr : Room dp X.A) (hg : Gl X D.name) (ha : PA X (e :: es) (rdAs P (callN P dp) X.K as)) (hl : as.len = D.ps.length)
    (hdb : (D.name == ("__debug__" : Str)) = false) (he : starEach (e :: es) X.env = (false, eval e X.env) :: starEach es X.env) (hpl : (backTo pos (starEach es X.env)).any (·.1) = false) :
    PE X (.Call (.Name D.name p) (e :: es) [] pos) (rdE P (callN P dp) X.K (.call D.id as)) := by
  obtain ⟨f, fd, hm, hk, FO, hb, _⟩ := FF.ex
  refine PE.imp (pe_call FO hr hg hm hk hb .nil pass0 ha hdb he hpl) fun σ H Q h => ?_
  have h2 : rdAs P (callN P dp) X.K as σ H fun xs H' => spF P dp D.id X.K xs H' Q E0 := by
    obtain ⟨F, own, ρ, R, w⟩ := h
    unfold wpE at w
    refine ⟨F, own, ρ, R, wpAs_mono (callN_mono P dp) as ρ (fun ds ρ' ⟨el, q⟩ xs H1 pa => ?_) (wpAs_len (callN_mono P dp) as ρ w)⟩
    exact call_reading (Fr.dom R pa.keep pa.rel) pa.keep pa.rel pa.dscs (fun fd' hf => by rw [el, hl, FF.np fd' hf]) q
  show rdAs P (callN P dp) X.K as σ H fun vs H1 => spF P dp D.id X.K (vs ++ []) H1 Q E0
  simp only [List.append_nil]
  exact h2
/-- keyword arguments are evaluated as the others -/
theorem pk_rd {as : IAs} (hC : MonoC (callN P dp)) : True := trivial
theorem sk_nil : PK X [] (rdAs P (callN P dp) X.K .nil) := ⟨fun pos pins s σ H Q I h => pk_nil.run pos pins s σ H Q I (rdAs_nil h)⟩
theorem sk_cons {nm : Option Str} {kpos : Pos} {a : IA} {as : IAs} (ha : PE X e (rdD P (callN P dp) X.K a)) (hr : PK X kws (rdAs P (callN P dp) X.K as)) : PK X (⟨nm, e, kpos⟩ :: kws) (rdAs P (callN P dp) X.K (.cons a as)) :=
  ⟨fun pos pins s σ H Q I h => (pk_cons ha hr).run pos pins s σ H Q I (rdAs_cons (callN_mono P dp) h)⟩
def IAs.app : IAs → IAs → IAs
  | .nil, b => b
  | .cons a r, b => .cons a (r.app b)
theorem wpAs_app {C : CallP} : ∀ (as bs : IAs) (ρ : Env) {Q : List Dsc → Env → Prop} (hC : MonoC C), wpAs P C (as.app bs) ρ Q → wpAs P C as ρ fun ds ρ1 => wpAs P C bs ρ1 fun es ρ2 => Q (ds ++ es) ρ2
  | .nil, bs, ρ, Q, hC, w => by unfold wpAs; exact w
  | .cons a r, bs, ρ, Q, hC, w => by
    unfold IAs.app wpAs at w
    unfold wpAs
    exact wpD_mono hC a ρ (fun d ρ1 w1 => wpAs_app r bs ρ1 hC w1) w
theorem DscRs.app {K : PySem.W.Frag} {H : Hp} {A : AS} {σ : L2.St} : ∀ {ds es : List Dsc} {xs ys : List V}, DscRs K H A σ ds xs → DscRs K H A σ es ys → DscRs K H A σ (ds ++ es) (xs ++ ys)
  | _, _, _, _, .nil, s => s
  | _, _, _, _, .cons r t, s => .cons r (DscRs.app t s)
theorem DscRs.keeps {K : PySem.W.Frag} {F : Fm} {own : Own} {ρ : Env} {σ : L2.St} {H H' : Hp} (R : Rel K F own ρ σ H) (h : Fr own H H') : ∀ {ds : List Dsc} {xs : List V}, DscRs K H (Av F own) σ ds xs → DscRs K H' (Av F own) σ ds xs
  | _, _, .nil => .nil
  | _, _, .cons r t => .cons (r.keeps R h) (DscRs.keeps R h t)
theorem pick_len {ds : List Dsc} : ∀ {sel : List Nat} {ds' : List Dsc}, pick ds sel = some ds' → ds'.length = sel.length
  | [], _, e => by cases e; rfl
  | i :: is, _, e => by
    unfold pick at e
    split at e
    · rename_i d r e1 e2
      cases e
      exact congrArg Nat.succ (pick_len e2)
    · cases e
/-- f(e, .., k = v, ..) -/
theorem kw_reading {as bs : IAs} {k : KwI} {D : DefI} {kw : List KwI} {σ : L2.St} {H : Hp} {Q : VK} (FF : FnFacts P X.prog X.w X.K X.mg X.base kw dp D) (hsel : k.sel.length = D.ps.length) (h : rdE P (callN P dp) X.K (.callk D.id (as.app bs) k.sel) σ H Q) :
    rdAs P (callN P dp) X.K as σ H fun xs H1 => rdAs P (callN P dp) X.K bs σ H1 fun ys H2 => xs.length = as.len ∧ ys.length = bs.len ∧ spF P dp D.id X.K (selL (xs ++ ys) k.sel) H2 Q E0 := by
  obtain ⟨F, own, ρ, R, w⟩ := h
  unfold wpE at w
  have w' := wpAs_len (callN_mono P dp) as ρ (wpAs_app as bs ρ (callN_mono P dp) w)
  refine ⟨F, own, ρ, R, wpAs_mono (callN_mono P dp) as ρ (fun ds ρ1 ⟨l1, w1⟩ xs H1 pa => ?_) w'⟩
  refine ⟨F, own, ρ1, pa.rel, wpAs_mono (callN_mono P dp) bs ρ1 (fun es ρ2 ⟨l2, ds', ep, q⟩ ys H2 pb => ?_) (wpAs_len (callN_mono P dp) bs ρ1 w1)⟩
  refine ⟨by rw [← pa.dscs.length]; exact l1, by rw [← pb.dscs.length]; exact l2, ?_⟩
  have all := (DscRs.keeps pa.rel pb.keep pa.dscs).app pb.dscs
  have kk := pa.keep.trans pb.keep
  exact call_reading (Fr.dom R kk pb.rel) kk pb.rel (all.pick ep) (fun fd' hf => by rw [pick_len ep, hsel, FF.np fd' hf]) q
theorem se_callk {D : DefI} {kw : List KwI} {k : KwI} {as bs : IAs} (FF : FnFacts P X.prog X.w X.K X.mg X.base kw dp D) (hkw : k ∈ kw) (hid : k.id = D.id) (hr : Room dp X.A) (hg : Gl X D.name)
    (ha : PA X es (rdAs P (callN P dp) X.K as)) (hb : PK X kws (rdAs P (callN P dp) X.K bs)) (hn : as.len = k.n) (hm' : bs.len = k.ks.length) (hsel : k.sel.length = D.ps.length) (hlt : ∀ i ∈ k.sel, i < k.n + k.ks.length)
    (hall : (backToKw pos (keywordEach kws X.env)).all (·.1.isSome) = true) (hks : (backToKw pos (keywordEach kws X.env)).filterMap (·.1) = k.ks)
    (hdb : (D.name == ("__debug__" : Str)) = false) (hes : (es = [] ∧ as = .nil) ∨ ∃ e r, es = e :: r ∧ starEach (e :: r) X.env = (false, eval e X.env) :: starEach r X.env)
    (hpl : ((backTo pos (starEach es X.env)).any (·.1) || (backToKw pos (keywordEach kws X.env)).any (·.1.isNone)) = false) :
    PE X (.Call (.Name D.name p) es kws pos) (rdE P (callN P dp) X.K (.callk D.id (as.app bs) k.sel)) := by
  obtain ⟨f, fd, hm, hk, FO, _, hB⟩ := FF.ex
  refine ⟨fun pins s σ H Q I h => ?_⟩
  have h2 := kw_reading FF hsel h
  refine wpAny_Call_Name_kw (ld_glob I hg hm ?_ hdb)
  -- the call itself
  have go : ∀ {us ws : List Value} {xs ys : List V} {H2 : Hp} {s2 : Shared}, Inv X pins σ H2 s2 → Vals xs us → Vals ys ws → xs.length = as.len → ys.length = bs.len → spF P dp D.id X.K (selL (xs ++ ys) k.sel) H2 Q E0 →
      wpAny (model X.prog X.w) X.A (call (.ref f) us (k.ks.zip ws)) (EP X pins σ Q) X.xe s2 := fun {us ws xs ys H2 s2} I2 r1 r2 l1 l2 sp => by
    have rr : Vals (selL (xs ++ ys) k.sel) (selL (us ++ ws) k.sel) := Vals.sel (r1.append r2) k.sel
    refine wpAny_call (codeAny_mono (FO.run X.A X.stack s2 H2 ⟨us, k.ks.zip ws⟩ (selL (us ++ ws) k.sel) (selL (xs ++ ys) k.sel) Q E0 hr I2.env0 (hB k hkw hid s2 us ws I2.kIn (by rw [← r1.length, l1, hn]) (by rw [← r2.length, l2, hm'])) rr sp) fun r s' hq => ?_)
    cases r with
    | error e => exact hq.elim
    | ok fl =>
      cases fl with
      | ret u => exact I2.after hq
      | next => exact False.elim hq
      | brk => exact False.elim hq
      | cont => exact False.elim hq
  rcases hes with ⟨rfl, rfl⟩ | ⟨e, r, rfl, he⟩
  · have h4 : rdAs P (callN P dp) X.K bs σ H fun ys H2 => ([] : List V).length = IAs.nil.len ∧ ys.length = bs.len ∧ spF P dp D.id X.K (selL (([] : List V) ++ ys) k.sel) H2 Q E0 := rdAs_nil h2
    refine PySem.W.callWith_KW0 (h₀ := X.base) I.ok.mod.kin hk hall (thn (hb.run pos pins s σ H _ I h4) fun ws s2 ⟨zs, H2, I2, rz, l1, l2, q2⟩ => ⟨I2.kIn, ?_⟩) hpl
    rw [hks]
    exact go I2 .nil rz l1 l2 q2
  · refine PySem.W.callWith_KW (h₀ := X.base) I.ok.mod.kin hk hall (thn (ha.run pos pins s σ H _ I h2) fun us s1 ⟨vs, H1, I1, r1, q1⟩ => ?_) hpl he
    refine thn (hb.run pos pins s1 σ H1 _ I1 q1) fun ws s2 ⟨zs, H2, I2, rz, l1, l2, q2⟩ => ⟨I2.kIn, ?_⟩
    rw [hks]
    exact go I2 r1 rz l1 l2 q2
end
end IR
namespace IR
open PySem PySem.Spec L2 PyProof.Rows

/-- what a def hands back -/
def RetR (K : PySem.W.Frag) (F : Fm) (own : Own) (H : Hp) (v : PV) (ρ' : Env) (own' : Own) (σ' : L2.St) (x : V) (H' : Hp) : Prop :=
  Rel K F own' ρ' σ' H' ∧ Later own H own' H' ∧ (mutv v = false → RV K H' (Av F own') v x) ∧
    (mutv v = true → ∃ a, x = .ref a ∧ Rel K (F.add a) own' ρ' σ' H' ∧ MutAt K H' (Av (F.add a) own') a v ∧ (∀ i, own' i ≠ some a) ∧ ((∃ j, own j = some a) ∨ H a = none))
def endsOf (K : PySem.W.Frag) (F : Fm) (own : Own) (H : Hp) (D : L2.Ends) : IR.Ends where
  nx := fun ρ' => ∀ own' σ' H', Rel K F own' ρ' σ' H' → Later own H own' H' → D.nx σ' H'
  bk := fun ρ' => ∀ own' σ' H', Rel K F own' ρ' σ' H' → Later own H own' H' → D.bk σ' H'
  ct := fun ρ' => ∀ own' σ' H', Rel K F own' ρ' σ' H' → Later own H own' H' → D.ct σ' H'
  rt := fun v ρ' => ∀ own' σ' x H', RetR K F own H v ρ' own' σ' x H' → D.rt x H'
section
variable (P : Nat → Option FD) (C : CallP) (K : PySem.W.Frag)
def rdS (s : IS) : TS := fun D σ H => ∃ F own ρ, Rel K F own ρ σ H ∧ wpS P C s ρ (endsOf K F own H D)
def rdSs (s : ISs) : TS := fun D σ H => ∃ F own ρ, Rel K F own ρ σ H ∧ wpSs P C s ρ (endsOf K F own H D)
end
section
variable {K : PySem.W.Frag} {F : Fm} {own own1 : Own} {ρ ρ' : Env} {σ : L2.St} {H H1 : Hp} {D : L2.Ends} {v : PV} {x : V}
theorem RetR.later {ρ' : Env} {own' : Own} {σ' : L2.St} {H' : Hp} (l : Later own H own1 H1) (r : RetR K F own1 H1 v ρ' own' σ' x H') : RetR K F own H v ρ' own' σ' x H' := by
  obtain ⟨R, l2, h1, h2⟩ := r
  refine ⟨R, l.trans l2, h1, fun hv => ?_⟩
  obtain ⟨a, e, R2, m, n, o⟩ := h2 hv
  refine ⟨a, e, R2, m, n, ?_⟩
  rcases o with ⟨j, o⟩ | o
  · exact l.sub j a o
  · right
    cases q : H a with
    | none => rfl
    | some u => exact absurd o (l.dom a (by rw [q]; exact fun z => by cases z))
theorem ends_later (l : Later own H own1 H1) : Ends.Le (endsOf K F own H D) (endsOf K F own1 H1 D) :=
  ⟨fun ρ' q own' σ' H' R l2 => q own' σ' H' R (l.trans l2), fun v ρ' q own' σ' x H' r => q own' σ' x H' (r.later l), fun ρ' q own' σ' H' R l2 => q own' σ' H' R (l.trans l2), fun ρ' q own' σ' H' R l2 => q own' σ' H' R (l.trans l2)⟩
theorem own_ne_new (R : Rel K F own ρ σ H) {a : Addr} (h : H a = none) : ∀ j, own j ≠ some a := fun j z => by
  obtain ⟨vs, e⟩ := R.own_lst z
  rw [h] at e; cases e
theorem Later.setNone (l : Later own H own1 H1) (i : Nat) : Later own H (setO own1 i none) H1 :=
  ⟨l.keep, fun j a z => l.sub j a (setO_none z).2, l.dom⟩
theorem Later.setNew (l : Later own H own1 H1) (i : Nat) {a : Addr} (h : (∃ j, own j = some a) ∨ H a = none) : Later own H (setO own1 i (some a)) H1 :=
  ⟨l.keep, fun j b z => by
    by_cases e : j = i
    · subst e; rw [setO_same] at z; cases z; exact h
    · rw [setO_ne e] at z; exact l.sub j b z, l.dom⟩
/-- a value is stored: what stands then -/
theorem PostE.store {fr : Bool} {H' : Hp} {i : Nat} (R : Rel K F own ρ σ H) (p : PostE K F own H ρ' σ fr v x H') (hs : storable ρ' i = true) :
    ∃ own', Rel K F own' (ρ'.set i (some (if fr && mutv v then .o else .b, v))) (σ.set i (some x)) H' ∧ Later own H own' H' := by
  have l := Later.of_fr R p.keep p.rel
  cases hf : (fr && mutv v) with
  | false => exact ⟨_, p.rel.assign hs p.val, l.setNone i⟩
  | true =>
    rw [Bool.and_eq_true] at hf
    obtain ⟨a, rfl, hn, R2, m⟩ := p.new hf.1 hf.2
    exact ⟨_, R2.assignO hs m (own_ne_new R hn) (fun z => R.domB a z hn), l.setNew i (.inr hn)⟩
theorem Later.at (R : Rel K F own ρ σ H) {H' : Hp} {fr : Bool} (p : PostE K F own H ρ' σ fr v x H') : Later own H own H' := Later.of_fr R p.keep p.rel
end

section
variable {X : Cx} {P : Nat → Option FD} {C : CallP} {e a b c : Expr} {st : Stmt} {rest : List Stmt} {pos : Pos}
theorem ss_nil : PSs X [] (rdSs P C X.K .nil) := PSs.imp pss_nil fun D σ H h => by
  obtain ⟨F, own, ρ, R, w⟩ := h
  unfold wpSs at w
  exact w own σ H R .refl
theorem ss_cons {s : IS} {r : ISs} (hC : MonoC C) (h1 : PS X st (rdS P C X.K s)) (h2 : PSs X rest (rdSs P C X.K r)) : PSs X (st :: rest) (rdSs P C X.K (.cons s r)) :=
  PSs.imp (pss_cons h1 h2) fun D σ H h => by
    obtain ⟨F, own, ρ, R, w⟩ := h
    unfold wpSs at w
    refine ⟨F, own, ρ, R, wpS_mono hC s ρ (D := { endsOf X.K F own H D with nx := fun ρ' => wpSs P C r ρ' (endsOf X.K F own H D) }) ⟨fun ρ' q own' σ' H' R' l => ?_, fun v ρ' q => q, fun ρ' q => q, fun ρ' q => q⟩ w⟩
    exact ⟨F, own', ρ', R', wpSs_mono hC r ρ' (ends_later l) q⟩
theorem ss_bad : PS X st (rdS P C X.K .bad) := PS.imp ps_never fun D σ H h => by
  obtain ⟨F, own, ρ, R, w⟩ := h
  unfold wpS at w
  exact w
theorem ss_pass : PS X (.Pass pos) (rdS P C X.K .pas) := PS.imp ps_pass fun D σ H h => by
  obtain ⟨F, own, ρ, R, w⟩ := h
  unfold wpS at w
  exact w own σ H R .refl
theorem ss_doc {x j pos'} : PS X (.Expr (.Constant (.str x) j pos) pos') (rdS P C X.K .pas) := PS.imp ps_doc fun D σ H h => by
  obtain ⟨F, own, ρ, R, w⟩ := h
  unfold wpS at w
  exact w own σ H R .refl
theorem ss_brk : PS X (.Break pos) (rdS P C X.K .brk) := PS.imp ps_break fun D σ H h => by
  obtain ⟨F, own, ρ, R, w⟩ := h
  unfold wpS at w
  exact w own σ H R .refl
theorem ss_cnt : PS X (.Continue pos) (rdS P C X.K .cnt) := PS.imp ps_continue fun D σ H h => by
  obtain ⟨F, own, ρ, R, w⟩ := h
  unfold wpS at w
  exact w own σ H R .refl
theorem ss_set {i : Nat} {x : Str} {ie : IE} {pos' : Pos} (hC : MonoC C) (hN : X.N.Nodup) (hi : X.N[i]? = some x) (hx : Loc X.env.scope x) (he : PE X e (rdE P C X.K ie)) (hs : swapsWith e (some (.Name x pos')) pos.line X.env = pure false)
    (hf : X.fn x = true ∨ X.env.scope.names.lookup x = some .local) : PS X (.Assign [.Name x pos'] e pos) (rdS P C X.K (.set i ie)) :=
  PS.imp (ps_set hN hi hx he hs hf) fun D σ H h => by
    obtain ⟨F, own, ρ, R, w⟩ := h
    unfold wpS at w
    refine ⟨F, own, ρ, R, wpE_mono hC ie ρ (fun v ρ' q x H' p => ?_) w⟩
    obtain ⟨own', R', l⟩ := p.store R q.1
    exact q.2 own' _ _ R' l
/-- a list comprehension, stored -/
theorem ss_setLc {i : Nat} {ie : IE} {t : TE} {tgt : Expr} (hC : MonoC C) (hp : PS X (.Assign [tgt] e pos) (tAsg t (gName i))) (hi : ∀ σ H Q, rdE P C X.K ie σ H Q → t σ H Q) : PS X (.Assign [tgt] e pos) (rdS P C X.K (.set i ie)) :=
  PS.imp hp fun D σ H h => hi σ H _ (by
    obtain ⟨F, own, ρ, R, w⟩ := h
    unfold wpS at w
    refine ⟨F, own, ρ, R, wpE_mono hC ie ρ (fun v ρ' q x H' p => ?_) w⟩
    obtain ⟨own', R', l⟩ := p.store R q.1
    exact q.2 own' _ _ R' l)
theorem ss_un {es : List Expr} {k : Nat} {ts : List Tg} {ie : IE} {tpos : Pos} (hC : MonoC C) (hg : PG X (.Tuple es k tpos) (rdG X.K (.tp ts))) (he : PE X e (rdE P C X.K ie)) (hs : swapsWithSole [.Tuple es k tpos] e pos.line X.env = pure false)
    (hw : swappedStores [.Tuple es k tpos] e X.env = pure none) : PS X (.Assign [.Tuple es k tpos] e pos) (rdS P C X.K (.un ts ie)) :=
  PS.imp (ps_asg he hg hs hw) fun D σ H h => by
    obtain ⟨F, own, ρ, R, w⟩ := h
    unfold wpS at w
    refine ⟨F, own, ρ, R, wpE_mono hC ie ρ (fun v ρ' q x H' p => ?_) w⟩
    refine ⟨F, own, ρ', v, p.rel, p.val, wpTg_mono _ _ _ (fun ρ2 q own' σ' R' o _ => ?_) q⟩
    have l := Later.at R p
    exact q own' σ' H' R' ⟨l.keep, fun j b z => (o j).elim (fun e => l.sub j b (e.symm.trans z)) (fun e => absurd (e.2.symm.trans z) (fun y => nomatch y)), l.dom⟩
theorem storable_kill {ρ : Env} {i j : Nat} {y : Option (Tag × PV)} (h : storable ρ i = true) (e : ρ[j]? = some y) : storable (ρ.set j none) i = true := by
  have hj : j < ρ.length := (List.getElem?_eq_some_iff.mp e).1
  unfold storable at h ⊢
  by_cases z : j = i
  · subst z
    rw [List.getElem?_set_self hj]
  · rw [List.getElem?_set_ne z]; exact h
/-- x = y, where y's list moves -/
theorem ss_mv {i j : Nat} {x y : Str} {pos' p : Pos} (hN : X.N.Nodup) (hi : X.N[i]? = some x) (hx : Loc X.env.scope x) (hj : X.N[j]? = some y) (hv : Vis X.env.scope y) (hd : (y == ("__debug__" : Str)) = false) (hcd : (y == ("__classdict__" : Str)) = false)
    (hs : swapsWith (.Name y p) (some (.Name x pos')) pos.line X.env = pure false) (hf : X.fn x = true ∨ X.env.scope.names.lookup x = some .local) : PS X (.Assign [.Name x pos'] (.Name y p) pos) (rdS P C X.K (.mv i j)) :=
  PS.imp (ps_set hN hi hx (pe_var hj hv hd hcd) hs hf) fun D σ H h => by
    obtain ⟨F, own, ρ, R, w⟩ := h
    unfold wpS at w
    obtain ⟨t, v, e, st, q⟩ := w
    obtain ⟨z, ez, s⟩ := R.slot j t v e
    refine ⟨_, ez, ?_⟩
    rcases q with ⟨rfl, q⟩ | ⟨rfl, q⟩
    · obtain ⟨a, ea, rfl, m⟩ := s
      obtain ⟨R1, m1⟩ := R.kill e ea
      have R2 := R1.assignO (storable_kill st e) m1 (fun k z => by
        obtain ⟨hk, z⟩ := setO_none z
        exact hk (R.inj k j a z ea)) (R.ownB j a ea)
      exact q _ _ _ R2 ((Later.refl.setNone j).setNew i (.inl ⟨j, ea⟩))
    · have s' : RV X.K H (Av F own) v z := s
      exact q _ _ _ (R.assign st s') (Later.refl.setNone i)
theorem ss_exp {ie : IE} (hC : MonoC C) (he : PE X e (rdE P C X.K ie)) (hs : swapsWith e none pos.line X.env = pure false) : PS X (.Expr e pos) (rdS P C X.K (.exp ie)) :=
  PS.imp (ps_expr he hs) fun D σ H h => by
    obtain ⟨F, own, ρ, R, w⟩ := h
    unfold wpS at w
    exact ⟨F, own, ρ, R, wpE_mono hC ie ρ (fun v ρ' q x H' p => q own σ H' p.rel (Later.at R p)) w⟩
theorem ss_if {ic : IE} {p q : List Stmt} {ia ib : ISs} (hC : MonoC C) (hc : PT X c (rdT P C X.K ic)) (ha : PSs X p (rdSs P C X.K ia)) (hb : PSs X q (rdSs P C X.K ib)) : PS X (.If c p q pos) (rdS P C X.K (.ife ic ia ib)) :=
  PS.imp (ps_if hc ha hb) fun D σ H h => by
    obtain ⟨F, own, ρ, R, w⟩ := h
    unfold wpS at w
    refine ⟨F, own, ρ, R, wpT_mono hC ic ρ (fun t ρ' q H' p => ?_) w⟩
    have l := Later.of_fr R p.keep p.rel
    cases t with
    | true => exact ⟨F, own, ρ', p.rel, wpSs_mono hC ia ρ' (ends_later l) q⟩
    | false => exact ⟨F, own, ρ', p.rel, wpSs_mono hC ib ρ' (ends_later l) q⟩
theorem ss_ret {ie : IE} (hC : MonoC C) (he : PE X e (rdE P C X.K ie)) : PS X (.Return (some e) pos) (rdS P C X.K (.ret ie)) :=
  PS.imp (ps_ret he) fun D σ H h => by
    obtain ⟨F, own, ρ, R, w⟩ := h
    unfold wpS at w
    refine ⟨F, own, ρ, R, wpE_mono hC ie ρ (fun v ρ' ⟨hf, q⟩ x H' p => ?_) w⟩
    refine q own σ x H' ⟨p.rel, Later.at R p, fun _ => p.val, fun hv => ?_⟩
    obtain ⟨a, e, hn, R2, m⟩ := p.new (hf hv) hv
    exact ⟨a, e, R2, m, own_ne_new R hn, .inr hn⟩
theorem ss_retN : PS X (.Return none pos) (rdS P C X.K .retn) := PS.imp ps_retN fun D σ H h => by
  obtain ⟨F, own, ρ, R, w⟩ := h
  unfold wpS at w
  exact w own σ .non H ⟨R, .refl, fun _ => .non, fun hv => by cases hv⟩
theorem ss_retv {i : Nat} {x : Str} {p : Pos} (hN : X.N[i]? = some x) (hv : Vis X.env.scope x) (hd : (x == ("__debug__" : Str)) = false) (hcd : (x == ("__classdict__" : Str)) = false) : PS X (.Return (some (.Name x p)) pos) (rdS P C X.K (.retv i)) :=
  PS.imp (ps_ret (pe_var hN hv hd hcd)) fun D σ H h => by
    obtain ⟨F, own, ρ, R, w⟩ := h
    unfold wpS at w
    obtain ⟨t, v, e, w⟩ := w
    obtain ⟨z, ez, s⟩ := R.slot i t v e
    refine ⟨z, ez, ?_⟩
    rcases w with ⟨rfl, w⟩ | ⟨rfl, hm, w⟩
    · obtain ⟨a, ea, rfl, m⟩ := s
      obtain ⟨R1, m1⟩ := R.kill e ea
      have na : ∀ k, setO own i none k ≠ some a := fun k z => by
        obtain ⟨hk, z⟩ := setO_none z
        exact hk (R.inj k i a z ea)
      refine w _ σ _ H ⟨R1.unadd, Later.refl.setNone i, fun hv => ?_, fun _ => ⟨a, rfl, R1, m1, na, .inl ⟨i, ea⟩⟩⟩
      obtain ⟨l, vs, rfl, _⟩ := m.shape
      cases hv
    · exact w own σ z H ⟨R, .refl, fun _ => s, fun hv => by rw [hm] at hv; cases hv⟩
/-- x op= e, of ints -/
def ipO (o : Op) : TIp := fun x y H Q => ∃ i j r, x = .int i ∧ y = .int j ∧ evalOp o [.int i, .int j] = some (.int r) ∧ Q (.int r) H
theorem ipo_add : PIp X .Add (ipO .add) := fun pins s σ H x y v u Q I r1 r2 h => by
  obtain ⟨i, j, r, e1, e2, e3, q⟩ := h
  cases e3
  exact ip_add pins s σ H x y v u Q I r1 r2 ⟨i, j, e1, e2, q⟩
theorem ipo_sub : PIp X .Sub (ipO .sub) := fun pins s σ H x y v u Q I r1 r2 h => by
  obtain ⟨i, j, r, e1, e2, e3, q⟩ := h
  cases e3
  exact ip_sub pins s σ H x y v u Q I r1 r2 ⟨i, j, e1, e2, q⟩
def Op.isI : Op → Bool
  | .add | .sub => true
  | _ => false
theorem isI_int {o : Op} {i j : Int} {r : PV} (ho : o.isI = true) (h : evalOp o [.int i, .int j] = some r) : ∃ k, r = .int k := by
  cases o with
  | add => cases h; exact ⟨_, rfl⟩
  | sub => cases h; exact ⟨_, rfl⟩
  | _ => cases ho
theorem clean_st {ρ : Env} {i : Nat} {v : PV} (h : ρ[i]? = some (some (.b, v))) : storable ρ i = true := by
  unfold storable
  rw [h]
  rfl
theorem ss_aug {i : Nat} {x : Str} {ie : IE} {op : Operator} {o : Op} {pos' : Pos} (hC : MonoC C) (hio : o.isI = true) (hN : X.N.Nodup) (hi : X.N[i]? = some x) (hx : Loc X.env.scope x) (he : PE X e (rdE P C X.K ie)) (ho : PIp X op (ipO o))
    (hf : X.fn x = true ∨ X.env.scope.names.lookup x = some .local) : PS X (.AugAssign (.Name x pos') op e pos) (rdS P C X.K (.aug i o ie)) :=
  PS.imp (ps_aug hN hi hx he ho hf) fun D σ H h => by
    obtain ⟨F, own, ρ, R, w⟩ := h
    unfold wpS at w
    obtain ⟨a, ha, w⟩ := w
    obtain ⟨z, ez, s⟩ := R.slot i .b _ (clean_slot ha)
    have s' : RV X.K H (Av F own) (.int a) z := s
    cases s'
    refine ⟨_, ez, F, own, ρ, R, wpE_mono hC ie ρ (fun v ρ' ⟨b, e2, r, e3, e4, q⟩ y H' p => ?_) w⟩
    obtain ⟨k, rfl⟩ := isI_int hio e3
    subst e2
    have pv := p.val
    cases pv
    exact ⟨a, b, k, rfl, rfl, e3, q _ _ _ (p.rel.assign e4 (.int k)) ((Later.at R p).setNone i)⟩
end
end IR
namespace IR
open PySem PySem.Spec L2 PyProof.Rows

section
variable {K : PySem.W.Frag} {F : Fm} {own own1 : Own} {ρ ρ' : Env} {σ : L2.St} {H H1 : Hp} {D : L2.Ends} {v : PV} {x : V}
theorem ownd_at {j : Nat} (R : Rel K F own ρ σ H) (h : ownd ρ j = true) : ∃ a vs, own j = some a ∧ σ[j]? = some (some (.ref a)) ∧ H a = some (.lst vs) := by
  unfold ownd at h
  have go : ∀ {t : Tag} {v : PV}, isOwn t = true → ρ[j]? = some (some (t, v)) → ∃ a vs, own j = some a ∧ σ[j]? = some (some (.ref a)) ∧ H a = some (.lst vs) := fun {t v} ho e => by
    obtain ⟨x, ex, s⟩ := R.slot j t v e
    obtain ⟨a, ea, rfl, m⟩ := s.own_at ho
    obtain ⟨l, vs, rfl, eH, _⟩ := m.shape
    exact ⟨a, vs, ea, ex, eH⟩
  split at h
  · rename_i v e; exact go rfl e
  · rename_i v e; exact go rfl e
  · cases h
theorem om_own {t : Tag} (h : t = .o ∨ t = .m) : isOwn t = true := by rcases h with h | h <;> rw [h] <;> rfl
/-- the owned list behind a slot -/
theorem own_list {j : Nat} {t : Tag} {xs : List PV} {a : Addr} (R : Rel K F own ρ σ H) (e : ρ[j]? = some (some (t, .list xs))) (ht : t = .o ∨ t = .m) (ea : own j = some a) : ∃ vs, H a = some (.lst vs) ∧ RVs K H (Av F own) xs vs := by
  obtain ⟨x, ex, s⟩ := R.slot j t _ e
  obtain ⟨b, eb, rfl, m⟩ := s.own_at (om_own ht)
  rw [ea] at eb; cases eb
  obtain ⟨vs, eH, r⟩ := m
  exact ⟨vs, eH, r⟩
theorem upd_fr {j : Nat} {a : Addr} {o : HO} (ea : own j = some a) : Fr own H (upd H a o) := fun b u e n => by
  rw [upd_ne fun z => n j (by rw [z]; exact ea)]; exact e
end
section
variable {X : Cx} {P : Nat → Option FD} {C : CallP} {e a b c : Expr} {es : List Expr} {st : Stmt} {rest : List Stmt} {pos : Pos}
theorem tyV_list {K : PySem.W.Frag} {H : Hp} {a : Addr} {vs : List V} (h : H a = some (.lst vs)) : tyV K "list" (.ref a) H := .inl ⟨rfl, vs, .inl (.inl h)⟩
/-- xs.append(e) -/
theorem ss_app {j : Nat} {x : Str} {ie : IE} {p apos cpos : Pos} (hC : MonoC C) (hN : X.N[j]? = some x) (hv : Vis X.env.scope x) (hd : (x == ("__debug__" : Str)) = false) (hcd : (x == ("__classdict__" : Str)) = false)
    (ha : PA X [e] (rdAs P C X.K (.cons (.ex ie) .nil))) (hbase : attributeBase (.Name x p) "append" X.env (eval (.Name x p) X.env) = eval (.Name x p) X.env)
    (hfew : ((backTo cpos (starEach [e] X.env)).all (fun x => !x.1) && (backToKw cpos (keywordEach [] X.env)).all (fun x => x.1.isSome) && decide ([e].length + ([] : List Keyword).length + (if ([] : List Keyword).isEmpty then 0 else 1) < 30)) = true)
    (hline : (apos.endLine == cpos.line) = true) (hs : starEach [e] X.env = (false, eval e X.env) :: starEach [] X.env)
    (hsw : swapsWith (.Call (.Attribute (.Name x p) "append" apos) [e] [] cpos) none pos.line X.env = pure false) :
    PS X (.Expr (.Call (.Attribute (.Name x p) "append" apos) [e] [] cpos) pos) (rdS P C X.K (.app j ie)) :=
  PS.imp (ps_expr (pe_bm (t := rdAs P C X.K (.cons (.ex ie) .nil)) (r := rAppend) F.plainAttrs_list F.slot_list_append F.type_list_append mt_append (pe_var hN hv hd hcd) ha hbase hfew hline hs rfl) hsw) fun D σ H h => by
    obtain ⟨F, own, ρ, R, w⟩ := h
    unfold wpS at w
    obtain ⟨a, vs, ea, ex, eH⟩ := ownd_at R w.1
    refine ⟨_, ex, tyV_list eH, F, own, ρ, R, ?_⟩
    unfold wpAs wpD wpAs
    refine wpE_mono hC ie ρ (fun v ρ1 ⟨t, xs, e1, ht, hl, q⟩ ys H1 p => ?_) w.2
    have R1 := p.rel
    obtain ⟨ws, eH1, r⟩ := own_list R1 e1 ht ea
    have pd := p.dscs
    cases pd with
    | cons r1 r2 =>
      cases r2
      rename_i y
      have rv : RV X.K H1 (Av F own) v y := r1
      refine ⟨a, ws, y, rfl, rfl, eH1, by rw [← r.length, ← line_eq]; exact hl, ?_⟩
      have R2 := R1.write e1 (om_own ht) ea (r.append (.cons rv .nil))
      exact q own σ _ R2 (Later.of_fr R (p.keep.trans (upd_fr ea)) R2)
/-- xs[k] = e -/
theorem ss_setIx {j : Nat} {x : Str} {ik ie : IE} {k : Expr} {p spos : Pos} (hC : MonoC C) (hN : X.N[j]? = some x) (hv : Vis X.env.scope x) (hd : (x == ("__debug__" : Str)) = false) (hcd : (x == ("__classdict__" : Str)) = false)
    (hk : PE X k (rdE P C X.K ik)) (he : PE X e (rdE P C X.K ie)) (hs : swapsWithSole [.Subscript (.Name x p) k spos] e pos.line X.env = pure false) (hw : swappedStores [.Subscript (.Name x p) k spos] e X.env = pure none)
    (has : ∀ v, assign (.Subscript (.Name x p) k spos) X.env v = (do
      let ov ← holding [v] (eval (.Name x p) X.env)
      let iv ← holding [v, ov] (eval k X.env)
      standAt spos
      holding [v, ov, iv] (setItem ov iv v)
      release [v, ov, iv] [])) (h1 : (assignEach [.Subscript (.Name x p) k spos] X.env).map (·.2) = [assign (.Subscript (.Name x p) k spos) X.env]) :
    PS X (.Assign [.Subscript (.Name x p) k spos] e pos) (rdS P C X.K (.setIx j ik ie)) :=
  PS.imp (ps_asg he (pg_sub (pe_var hN hv hd hcd) hk set_list has) hs hw h1) fun D σ H h => by
    obtain ⟨F, own, ρ, R, w⟩ := h
    unfold wpS at w
    refine ⟨F, own, ρ, R, wpE_mono hC ie ρ (fun v ρ1 ⟨w1, w2⟩ y H1 p => ?_) w⟩
    obtain ⟨a, vs, ea, ex, eH⟩ := ownd_at p.rel w1
    refine ⟨_, ex, F, own, ρ1, p.rel, wpE_mono hC ik ρ1 (fun i ρ2 ⟨t, xs, e1, ht, n, en, m, em, q⟩ z H2 p2 => ?_) w2⟩
    obtain ⟨ws, eH2, r⟩ := own_list p2.rel e1 ht ea
    subst en
    have pv := p2.val
    cases pv
    refine ⟨a, ws, n, m, rfl, rfl, eH2, by rw [← r.length]; exact em, ?_⟩
    have R2 := p2.rel.write e1 (om_own ht) ea (r.set (RV.fr p.rel p2.keep p.val) m)
    exact q own σ _ R2 (Later.of_fr R ((p.keep.trans p2.keep).trans (upd_fr ea)) R2)
theorem popV_nil {xs ys : List PV} {y : PV} (h : popV xs [] = some (y, ys)) : xs[xs.length - 1]? = some y ∧ ys = xs.dropLast := by
  unfold popV at h
  cases e : xs[xs.length - 1]? with
  | none => simp only [e] at h; cases h
  | some z => simp only [e] at h; cases h; exact ⟨rfl, rfl⟩
theorem popV_one {xs ys : List PV} {y d : PV} (h : popV xs [d] = some (y, ys)) : ∃ i k, d = .int i ∧ -(2 ^ 63) ≤ i ∧ i < 2 ^ 63 ∧ L2.ixN xs.length i = some k ∧ xs[k]? = some y ∧ ys = xs.eraseIdx k := by
  cases d with
  | int i =>
    unfold popV at h
    cases hb : (decide (-(2 ^ 63) ≤ i) && decide (i < 2 ^ 63)) with
    | false => simp only [hb, Bool.false_eq_true, if_false] at h; cases h
    | true =>
      simp only [hb, if_true] at h
      rw [Bool.and_eq_true, decide_eq_true_eq, decide_eq_true_eq] at hb
      cases e : L2.ixN xs.length i with
      | none => simp only [e] at h; cases h
      | some k =>
        simp only [e] at h
        cases e2 : xs[k]? with
        | none => simp only [e2] at h; cases h
        | some z => simp only [e2] at h; cases h; exact ⟨i, k, rfl, hb.1, hb.2, e, e2, rfl⟩
  | _ => unfold popV at h; cases h
/-- xs.pop() -/
theorem se_pop0 {j : Nat} {x : Str} {p apos cpos : Pos} (hN : X.N[j]? = some x) (hv : Vis X.env.scope x) (hd : (x == ("__debug__" : Str)) = false) (hcd : (x == ("__classdict__" : Str)) = false)
    (hbase : attributeBase (.Name x p) "pop" X.env (eval (.Name x p) X.env) = eval (.Name x p) X.env) (hline : (apos.endLine == cpos.line) = true) :
    PE X (.Call (.Attribute (.Name x p) "pop" apos) [] [] cpos) (rdE P C X.K (.pop j .nil)) :=
  PE.imp (pe_bm0 (r := rPop) F.plainAttrs_list F.slot_list_pop F.type_list_pop mt_pop (pe_var hN hv hd hcd) hbase hline) fun σ H Q h => by
    obtain ⟨F, own, ρ, R, w⟩ := h
    unfold wpE at w
    obtain ⟨a, vs, ea, ex, eH⟩ := ownd_at R w.1
    refine ⟨_, ex, tyV_list eH, ?_⟩
    have w2 := w.2
    unfold wpAs at w2
    obtain ⟨us, eu, t, xs, e1, ht, y, ys, ep, q⟩ := w2
    cases eu
    obtain ⟨ws, eH2, r⟩ := own_list R e1 ht ea
    obtain ⟨hy, rfl⟩ := popV_nil ep
    obtain ⟨z, hz, rz⟩ := r.get hy
    refine ⟨a, ws, z, rfl, rfl, eH2, by rw [← r.length]; exact hz, q z _ ?_⟩
    have R2 := R.write e1 (om_own ht) ea r.dropLast
    exact ⟨upd_fr ea, R2, RV.fr R (upd_fr ea) rz, fun hf => by cases hf⟩
/-- xs.pop(i) -/
theorem se_pop1 {j : Nat} {x : Str} {i : Expr} {ii : IE} {p apos cpos : Pos} (hC : MonoC C) (hN : X.N[j]? = some x) (hv : Vis X.env.scope x) (hd : (x == ("__debug__" : Str)) = false) (hcd : (x == ("__classdict__" : Str)) = false)
    (ha : PA X [i] (rdAs P C X.K (.cons (.ex ii) .nil))) (hbase : attributeBase (.Name x p) "pop" X.env (eval (.Name x p) X.env) = eval (.Name x p) X.env)
    (hfew : ((backTo cpos (starEach [i] X.env)).all (fun x => !x.1) && (backToKw cpos (keywordEach [] X.env)).all (fun x => x.1.isSome) && decide ([i].length + ([] : List Keyword).length + (if ([] : List Keyword).isEmpty then 0 else 1) < 30)) = true)
    (hline : (apos.endLine == cpos.line) = true) (hs : starEach [i] X.env = (false, eval i X.env) :: starEach [] X.env) :
    PE X (.Call (.Attribute (.Name x p) "pop" apos) [i] [] cpos) (rdE P C X.K (.pop j (.cons (.ex ii) .nil))) :=
  PE.imp (pe_bm (t := rdAs P C X.K (.cons (.ex ii) .nil)) (r := rPopAt) F.plainAttrs_list F.slot_list_pop F.type_list_pop mt_popAt (pe_var hN hv hd hcd) ha hbase hfew hline hs rfl) fun σ H Q h => by
    obtain ⟨F, own, ρ, R, w⟩ := h
    unfold wpE at w
    obtain ⟨a, vs, ea, ex, eH⟩ := ownd_at R w.1
    refine ⟨_, ex, tyV_list eH, F, own, ρ, R, wpAs_mono hC _ ρ (fun ds ρ1 ⟨hlen, us, eu, t, xs, e1, ht, y, ys, ep, q⟩ zs H1 p => ?_) (wpAs_len hC _ ρ w.2)⟩
    obtain ⟨ws, eH2, r⟩ := own_list p.rel e1 ht ea
    have rts := p.dscs.rts (kl := false) p.rel (by rw [← derefs_K]; exact eu)
    have one : ∃ d z, us = [d] ∧ zs = [z] ∧ RTk X.K false H1 (Av F own) d z := by
      have hl : ds.length = 1 := hlen
      have pd := rts
      cases ds with
      | nil => cases hl
      | cons d0 dr =>
        cases dr with
        | cons _ _ => cases hl
        | nil =>
          have pd := p.dscs
          cases pd with
          | cons r1 r2 =>
            cases r2
            cases rts with
            | cons q1 q2 => cases q2; exact ⟨_, _, rfl, rfl, q1⟩
    obtain ⟨d, z, rfl, rfl, rz⟩ := one
    obtain ⟨n, k, rfl, h1, h2, hk, hy, rfl⟩ := popV_one ep
    have zi : z = .int n := by
      rcases rz with rz | ⟨_, _, _, z, _⟩ | ⟨_, _, _, z, _⟩
      · cases rz; rfl
      · cases z
      · cases z
    subst zi
    obtain ⟨u, hu, ru⟩ := r.get hy
    refine ⟨a, ws, n, k, u, rfl, rfl, eH2, h1, h2, by rw [← r.length]; exact (ixN_seq hk).1, hu, q u _ ?_⟩
    have R2 := p.rel.write e1 (om_own ht) ea (r.eraseIdx k)
    exact ⟨p.keep.trans (upd_fr ea), R2, RV.fr p.rel (upd_fr ea) ru, fun hf => by cases hf⟩
/-! ### loops -/
theorem RetR.unpin {K : PySem.W.Frag} {F : Fm} {L' : List (Nat × Addr)} {own own' : Own} {ρ' : Env} {σ' : L2.St} {H H' : Hp} {v : PV} {x : V} (hL : ∀ p ∈ F.L, p ∈ L') (r : RetR K { F with L := L' } own H v ρ' own' σ' x H') : RetR K F own H v ρ' own' σ' x H' := by
  obtain ⟨R, l, h1, h2⟩ := r
  refine ⟨R.unpin (F := { F with L := L' }) (L' := F.L) hL, l, h1, fun hv => ?_⟩
  obtain ⟨a, e, R2, m, n, o⟩ := h2 hv
  exact ⟨a, e, R2.unpin (F := Fm.add { F with L := L' } a) (L' := F.L) hL, m, n, o⟩
theorem ss_for {iter tg : Expr} {body : List Stmt} {it : IT} {itg : Tg} {ib : ISs} (hC : MonoC C) (hp : PassesOwn (model X.prog X.w) X.A X.env X.xe) (hc : X.calm = true) (hi : PI X tg iter (rdI P C X.K it)) (hg : PG X tg (rdG X.K itg)) (hb : PSs X body (rdSs P C X.K ib))
    (hs : ∀ x, foldedSetIterable iter X.env x = pure x) : PS X (.For tg iter body [] pos) (rdS P C X.K (.for_ it itg ib)) :=
  PS.imp (ps_for hp hc hi hg hb hs) fun D σ H h => by
    obtain ⟨F, own, ρ, R, w⟩ := h
    unfold wpS at w
    refine ⟨F, own, ρ, R, wpIt_mono hC it ρ (fun xs lk ρ1 w J H1 pi => ?_) w⟩
    have R1 := pi.rel
    have l1 : Later own H own H1 := Later.of_fr R pi.keep R1
    have hpin : ∀ p ∈ F.L, p ∈ pins own lk ++ F.L := fun p hp => List.mem_append_right _ hp
    have hpins : ∀ p ∈ pins own lk, p ∈ pins own lk ++ F.L := fun p hp => List.mem_append_left _ hp
    refine ⟨fun i m σ2 H2 => m = xs.length - i ∧ i ≤ xs.length ∧ ∃ own2 ρ2, Rel X.K { F with L := pins own lk ++ F.L } own2 ρ2 σ2 H2 ∧ Later own H1 own2 H2 ∧ forGo itg (wpSs P C ib) lk (endsOf X.K F own H D) (xs.drop i) ρ2, ⟨xs.length, rfl, Nat.zero_le _, own, ρ1, R1, .refl, ?_⟩, ?_⟩
    · rw [List.drop_zero]; exact w
    · rintro i m σ2 H2 ⟨rfl, hi, own2, ρ2, R2, l2, wg⟩
      have hA : ∀ b, Av { F with L := pins own lk ++ F.L } own2 b → Av F own b ∨ H1 b = none := l2.av (F1 := F) (F2 := { F with L := pins own lk ++ F.L }) fun b z => .inl z
      by_cases hlt : i < xs.length
      · right
        have ed : xs.drop i = xs[i] :: xs.drop (i + 1) := List.drop_eq_getElem_cons hlt
        rw [ed] at wg
        unfold forGo at wg
        obtain ⟨hchk, wb⟩ := wg
        obtain ⟨tgo, _, tyld⟩ := pi.turn _ own2 ρ2 σ2 H2 R2 l2 hA hpins hchk
        refine ⟨tgo i hlt, fun σ' H' => i + 1 ≤ xs.length ∧ ∃ own3 ρ3, Rel X.K { F with L := pins own lk ++ F.L } own3 ρ3 σ' H' ∧ Later own H1 own3 H' ∧ forGo itg (wpSs P C ib) lk (endsOf X.K F own H D) (xs.drop (i + 1)) ρ3,
          fun σ' H' h => ⟨xs.length - (i + 1), by omega, rfl, h⟩, fun x H3 hy => ?_⟩
        obtain ⟨d, hd, sm, rd⟩ := tyld i x H3 hlt hy
        rw [List.getElem?_eq_getElem hlt] at hd
        cases hd
        have R3 := R2.same' sm
        have l3 : Later own H1 own2 H3 := l2.trans (Later.of_fr R2 (Fr.of_same sm) R3)
        refine ⟨_, own2, ρ2, _, R3, rd, wpTg_mono itg _ ρ2 (fun ρ4 wb own4 σ4 R4 o4 _ => ?_) wb⟩
        have l4 : Later own H1 own4 H3 := ⟨l3.keep, fun j b z => (o4 j).elim (fun e => l3.sub j b (e.symm.trans z)) (fun e => absurd (e.2.symm.trans z) (fun y => nomatch y)), l3.dom⟩
        refine ⟨_, own4, ρ4, R4, wpSs_mono hC ib ρ4 ⟨?_, ?_, ?_, ?_⟩ wb⟩
        · exact fun ρ' q own' σ' H' R' l => ⟨hlt, own', ρ', R', l4.trans l, q⟩
        · intro v ρ' q own' σ' x' H' r
          exact q own' σ' x' H' ((RetR.unpin (F := F) hpin r).later (l1.trans l4))
        · intro ρ' q own' σ' H' R' l
          exact q.2 own' σ' H' (Rel.unlock pi.ok R' hpin q.1) (l1.trans (l4.trans l))
        · exact fun ρ' q own' σ' H' R' l => ⟨hlt, own', ρ', R', l4.trans l, q⟩
      · left
        have ei : i = xs.length := by omega
        subst ei
        rw [List.drop_length] at wg
        unfold forGo at wg
        obtain ⟨hchk, wq⟩ := wg
        obtain ⟨_, tst, _⟩ := pi.turn _ own2 ρ2 σ2 H2 R2 l2 hA hpins hchk
        exact ⟨tst, wq own2 σ2 H2 (Rel.unlock pi.ok R2 hpin hchk) (l1.trans l2)⟩
theorem ss_whl {body : List Stmt} {ic : IE} {ib : ISs} (hC : MonoC C) (hp : PassesOwn (model X.prog X.w) X.A X.env X.xe) (hc : PT X c (rdT P C X.K ic)) (hb : PSs X body (rdSs P C X.K ib)) : PS X (.While c body [] pos) (rdS P C X.K (.whl ic ib)) :=
  PS.imp (ps_while hp hc hb) fun D σ H h => by
    obtain ⟨F, own, ρ, R, w⟩ := h
    unfold wpS at w
    obtain ⟨n, w⟩ := w
    refine ⟨fun m σ2 H2 => ∃ own2 ρ2, Rel X.K F own2 ρ2 σ2 H2 ∧ Later own H own2 H2 ∧ whlGo (wpT P C ic) (wpSs P C ib) (endsOf X.K F own H D) m ρ2, ⟨n, own, ρ, R, .refl, w⟩, ?_⟩
    rintro m σ2 H2 ⟨own2, ρ2, R2, l2, wg⟩
    cases m with
    | zero => exact wg.elim
    | succ m =>
      unfold whlGo at wg
      refine ⟨F, own2, ρ2, R2, wpT_mono hC ic ρ2 (fun t ρ3 q H3 p => ?_) wg⟩
      have l3 : Later own H own2 H3 := l2.trans (Later.of_fr R2 p.keep p.rel)
      cases t with
      | false => exact q own2 σ2 H3 p.rel l3
      | true =>
        refine ⟨fun σ' H' => ∃ own3 ρ3, Rel X.K F own3 ρ3 σ' H' ∧ Later own H own3 H' ∧ whlGo (wpT P C ic) (wpSs P C ib) (endsOf X.K F own H D) m ρ3, fun σ' H' h => ⟨m, Nat.lt_succ_self m, h⟩, F, own2, ρ3, p.rel, ?_⟩
        rw [if_pos rfl] at q
        refine wpSs_mono hC ib ρ3 ⟨?_, ?_, ?_, ?_⟩ q
        · exact fun ρ' q own' σ' H' R' l => ⟨own', ρ', R', l3.trans l, q⟩
        · exact fun v ρ' q own' σ' x' H' r => q own' σ' x' H' (r.later l3)
        · exact fun ρ' q own' σ' H' R' l => q own' σ' H' R' (l3.trans l)
        · exact fun ρ' q own' σ' H' R' l => ⟨own', ρ', R', l3.trans l, q⟩
end
end IR
namespace IR
open PySem PySem.Spec L2 PyProof.Rows

/-! ### names -/
def lEq : List Nat → List Nat → Bool
  | [], [] => true
  | a :: as, b :: bs => Nat.beq a b && lEq as bs
  | _, _ => false
theorem lEq_iff : ∀ {a b : List Nat}, lEq a b = true ↔ a = b
  | [], [] => ⟨fun _ => rfl, fun _ => rfl⟩
  | [], _ :: _ => ⟨nofun, nofun⟩
  | _ :: _, [] => ⟨nofun, nofun⟩
  | a :: as, b :: bs => by
    unfold lEq
    rw [Bool.and_eq_true, lEq_iff (a := as) (b := bs), List.cons.injEq]
    exact ⟨fun h => ⟨Nat.eq_of_beq_eq_true h.1, h.2⟩, fun h => ⟨by rw [h.1]; exact Nat.beq_refl b, h.2⟩⟩
def sEq (a b : Str) : Bool := lEq a.cps.toList b.cps.toList
theorem sEq_iff {a b : Str} : sEq a b = true ↔ a = b := by
  unfold sEq
  rw [lEq_iff]
  cases a; cases b
  constructor
  · intro h
    rw [Str.mk.injEq]
    exact Array.toList_inj.mp h
  · intro h; rw [h]
theorem sEq_beq {a b : Str} : (a == b) = sEq a b := by
  cases h : sEq a b with
  | true => rw [sEq_iff.mp h]; exact beq_self_eq_true b
  | false =>
    rw [Bool.eq_false_iff]
    intro z
    rw [sEq_iff.mpr (eq_of_beq z)] at h
    cases h
def ixOf : List Str → Str → Option Nat
  | [], _ => none
  | y :: r, x => bif sEq y x then some 0 else match ixOf r x with
    | some i => some (i + 1)
    | none => none
theorem ixOf_get : ∀ {N : List Str} {x : Str} {i : Nat}, ixOf N x = some i → N[i]? = some x
  | [], _, _, h => by cases h
  | y :: r, x, i, h => by
    unfold ixOf at h
    cases e : sEq y x with
    | true => rw [e] at h; cases h; rw [sEq_iff.mp e]; rfl
    | false =>
      rw [e] at h
      simp only [cond_false] at h
      split at h
      · rename_i j ej
        cases h
        have := ixOf_get ej
        simpa using this
      · cases h
def lkN : List (Str × NameKind) → Str → Option NameKind
  | [], _ => none
  | y :: r, x => bif sEq x y.1 then some y.2 else lkN r x
theorem lkN_eq : ∀ {l : List (Str × NameKind)} {x : Str}, lkN l x = l.lookup x
  | [], _ => rfl
  | y :: r, x => by
    obtain ⟨n, k⟩ := y
    unfold lkN List.lookup
    rw [sEq_beq, lkN_eq]
    cases sEq x n <;> rfl

structure TC where
  N : List Str
  sc : Scope
  cl : Bool
  bl : List Str
  defs : List DefI
  kws : List KwI
def isVis : Option NameKind → Bool
  | some .local => true
  | some .cell => true
  | some .free => true
  | _ => false
def TC.nm (T : TC) (x : Str) : Option Nat := bif isVis (lkN T.sc.names x) && !sEq x "__debug__" && !sEq x "__classdict__" then ixOf T.N x else none
def TC.st (T : TC) (x : Str) : Option Nat := match lkN T.sc.names x with
  | some .local => ixOf T.N x
  | some .cell => bif T.cl then ixOf T.N x else none
  | _ => none
def isGlK : Option NameKind → Bool
  | some .globalImplicit => true
  | _ => false
def TC.gl (T : TC) (x : Str) : Bool := isGlK (lkN T.sc.names x)
def memS : List Str → Str → Bool
  | [], _ => false
  | y :: r, x => sEq y x || memS r x
theorem memS_mem : ∀ {l : List Str} {x : Str}, memS l x = true → x ∈ l
  | [], _, h => by cases h
  | y :: r, x, h => by
    unfold memS at h
    rw [Bool.or_eq_true] at h
    rcases h with h | h
    · rw [sEq_iff.mp h]; exact List.mem_cons_self ..
    · exact List.mem_cons_of_mem _ (memS_mem h)
def TC.blt (T : TC) (x : Str) : Bool := T.gl x && memS T.bl x
def findD : List DefI → Str → Option DefI
  | [], _ => none
  | D :: r, x => bif sEq D.name x then some D else findD r x
theorem findD_mem : ∀ {l : List DefI} {x : Str} {D : DefI}, findD l x = some D → D ∈ l ∧ D.name = x
  | [], _, _, h => by cases h
  | E :: r, x, D, h => by
    unfold findD at h
    cases e : sEq E.name x with
    | true => rw [e] at h; cases h; exact ⟨List.mem_cons_self .., sEq_iff.mp e⟩
    | false =>
      rw [e] at h
      have := findD_mem (l := r) h
      exact ⟨List.mem_cons_of_mem _ this.1, this.2⟩

structure Good (P : Nat → Option FD) (dp : Nat) (X : Cx) (T : TC) : Prop where
  N : X.N = T.N
  nd : X.N.Nodup
  sc : X.env.scope = T.sc
  fk : X.env.scope.kind = .function
  calm : X.calm = true
  fn : T.cl = true → ∀ x, X.fn x = true
  room : Room dp X.A
  po : PassesOwn (model X.prog X.w) X.A X.env X.xe
  bl : ∀ x ∈ T.bl, X.mg x = none
  ff : ∀ D ∈ T.defs, FnFacts P X.prog X.w X.K X.mg X.base T.kws dp D

section
variable {P : Nat → Option FD} {dp : Nat} {X : Cx} {T : TC} {x : Str} {i : Nat}
theorem Good.vis (G : Good P dp X T) (h : T.nm x = some i) : X.N[i]? = some x ∧ Vis X.env.scope x ∧ (x == ("__debug__" : Str)) = false ∧ (x == ("__classdict__" : Str)) = false := by
  unfold TC.nm at h
  cases e : (isVis (lkN T.sc.names x) && !sEq x "__debug__" && !sEq x "__classdict__") with
  | false => rw [e] at h; cases h
  | true =>
    rw [e] at h
    rw [Bool.and_eq_true, Bool.and_eq_true, Bool.not_eq_true', Bool.not_eq_true'] at e
    refine ⟨by rw [G.N]; exact ixOf_get h, ?_, by rw [sEq_beq]; exact e.1.2, by rw [sEq_beq]; exact e.2⟩
    unfold Vis
    rw [G.sc, ← lkN_eq]
    have e1 := e.1.1
    unfold isVis at e1
    split at e1
    · rename_i z; rw [z]; exact .inl rfl
    · rename_i z; rw [z]; exact .inr (.inl rfl)
    · rename_i z; rw [z]; exact .inr (.inr rfl)
    · cases e1
theorem Good.sto (G : Good P dp X T) (h : T.st x = some i) : X.N[i]? = some x ∧ L2.Loc X.env.scope x ∧ (X.fn x = true ∨ X.env.scope.names.lookup x = some .local) := by
  unfold TC.st at h
  unfold L2.Loc
  rw [G.sc, ← lkN_eq]
  split at h
  · rename_i z; rw [z]; exact ⟨by rw [G.N]; exact ixOf_get h, .inl rfl, .inr rfl⟩
  · rename_i z
    cases e : T.cl with
    | true => rw [e] at h; rw [z]; exact ⟨by rw [G.N]; exact ixOf_get h, .inr rfl, .inl (G.fn e x)⟩
    | false => rw [e] at h; cases h
  · cases h
theorem Good.glob (G : Good P dp X T) (h : T.gl x = true) : Gl X x := by
  unfold TC.gl isGlK at h
  show X.env.scope.names.lookup x = _
  rw [G.sc, ← lkN_eq]
  split at h
  · assumption
  · cases h
theorem Good.blt (G : Good P dp X T) (h : T.blt x = true) : Gl X x ∧ X.mg x = none := by
  unfold TC.blt at h
  rw [Bool.and_eq_true] at h
  exact ⟨G.glob h.1, G.bl x (memS_mem h.2)⟩
theorem Good.u64 (G : Good P dp X T) : X.A.units + 64 < cLine := G.room.units
theorem Good.u65 (G : Good P dp X T) : X.A.units + 65 < cLine := by have := G.room.un; omega
end

/-! ### stars -/
def isStar : Expr → Bool
  | .Starred _ _ => true
  | _ => false
theorem starEach_cons {e : Expr} {es : List Expr} {env : PySem.Env} (h : isStar e = false) : starEach (e :: es) env = (false, eval e env) :: starEach es env := by
  cases e <;> first | rfl | cases h
def noStar : List Expr → Bool
  | [] => true
  | e :: r => !isStar e && noStar r
theorem star_any {pos : Pos} {env : PySem.Env} : ∀ {es : List Expr}, noStar es = true → (backTo pos (starEach es env)).any (·.1) = false
  | [], _ => rfl
  | e :: r, h => by
    unfold noStar at h
    rw [Bool.and_eq_true, Bool.not_eq_true'] at h
    rw [starEach_cons h.1]
    show (false || (backTo pos (starEach r env)).any (·.1)) = false
    rw [star_any h.2]; rfl
theorem star_all {pos : Pos} {env : PySem.Env} : ∀ {es : List Expr}, noStar es = true → (backTo pos (starEach es env)).all (fun x => !x.1) = true
  | [], _ => rfl
  | e :: r, h => by
    unfold noStar at h
    rw [Bool.and_eq_true, Bool.not_eq_true'] at h
    rw [starEach_cons h.1]
    show (!false && (backTo pos (starEach r env)).all (fun x => !x.1)) = true
    rw [star_all h.2]; rfl

/-! ### the translation -/
structure Lv where
  e : TC → Expr → IE
  t : TC → Expr → IE
  d : TC → Expr → IA
  s : TC → Stmt → IS
def Lv.bad : Lv := ⟨fun _ _ => .bad, fun _ _ => .bad, fun _ _ => .ex .bad, fun _ _ => .bad⟩
def iasOf (d : Expr → IA) : List Expr → IAs
  | [] => .nil
  | e :: r => .cons (d e) (iasOf d r)
def iesOf (f : Expr → IE) : List Expr → IEs
  | [] => .nil
  | e :: r => .cons (f e) (iesOf f r)
def issOf (f : Stmt → IS) : List Stmt → ISs
  | [] => .nil
  | e :: r => .cons (f e) (issOf f r)
def binOf : Operator → Option Op
  | .Add => some .add
  | .Sub => some .sub
  | .Mult => some .mul
  | .FloorDiv => some .fdiv
  | .Mod => some .mod
  | .Pow => some .pow
  | _ => none
def cmpOf : CmpOp → Option Op
  | .Eq => some .eq
  | .NotEq => some .ne
  | .Lt => some .lt
  | .LtE => some .le
  | .Gt => some .gt
  | .GtE => some .ge
  | .In => some .isIn
  | .NotIn => some .nIn
  | _ => none
def conOf : Expr → Option PV
  | .Constant .none _ _ => some .none
  | .Constant (.bool b) _ _ => some (.bool b)
  | _ => none
def tyOfN (x : Str) : Option Ty :=
  bif sEq x "int" then some .tInt else bif sEq x "bool" then some .tBool else bif sEq x "str" then some .tStr else bif sEq x "tuple" then some .tTuple else bif sEq x "list" then some .tList else bif sEq x "dict" then some .tDict else none
/-- a built-in that is an operation: of the arguments' number -/
def bltOp (x : Str) : Option Op :=
  bif sEq x "len" then some .len else bif sEq x "int" then some .int else bif sEq x "abs" then some .abs else bif sEq x "max" then some .max else bif sEq x "min" then some .min else bif sEq x "tuple" then some .tuple else bif sEq x "list" then some .list else none
def cmpE (L : Lv) (T : TC) (a : Expr) (op : CmpOp) (b : Expr) : IE := bif behindInMarks op b then .bad else
  match op with
  | .Is => (match conOf b with | some c => .op (.isC c) (.cons (L.d T a) .nil) | none => .bad)
  | .IsNot => (match conOf b with | some c => .op (.nsC c) (.cons (L.d T a) .nil) | none => .bad)
  | op => (match cmpOf op with | some o => .op o (.cons (L.d T a) (.cons (L.d T b) .nil)) | none => .bad)
def chnE (L : Lv) (T : TC) (a : Expr) (op op' : CmpOp) (b c : Expr) : IE := bif lastMarks [op, op'] [b, c] then .bad else
  match cmpOf op, cmpOf op' with
  | some o, some o' => .chn o o' (L.e T a) (L.e T b) (L.e T c)
  | _, _ => .bad
def isSlice : Expr → Bool
  | .Slice _ _ _ _ => true
  | _ => false
def findK : List KwI → Nat → Nat → List Str → Option KwI
  | [], _, _, _ => none
  | k :: r, id, n, ks => bif Nat.beq k.id id && Nat.beq k.n n && decide (k.ks = ks) then some k else findK r id n ks
def kwNames : List Keyword → Option (List Str)
  | [] => some []
  | ⟨some x, _, _⟩ :: r => (kwNames r).map (x :: ·)
  | ⟨none, _, _⟩ :: _ => none
def kwVals : List Keyword → List Expr
  | [] => []
  | ⟨_, e, _⟩ :: r => e :: kwVals r
def callE (L : Lv) (T : TC) (f : Str) (es : List Expr) (kws : List Keyword) : IE :=
  bif !noStar es || sEq f "__debug__" || !T.gl f then .bad else
  match findD T.defs f with
  | some D => (match kws with
    | [] => (match es with
      | [] => .bad
      | es => bif Nat.beq es.length D.ps.length then .call D.id (iasOf (L.d T) es) else .bad)
    | kws => (match kwNames kws with
      | none => .bad
      | some ks => (match findK T.kws D.id es.length ks with
        | none => .bad
        | some k => bif Nat.beq k.sel.length D.ps.length && k.sel.all (fun i => Nat.blt i (es.length + ks.length)) then .callk D.id ((iasOf (L.d T) es).app (iasOf (L.d T) (kwVals kws))) k.sel else .bad)))
  | none => bif !memS T.bl f then .bad else (match kws with
    | [] => (match es with
      | [] => .bad
      | [a, .Name x p] => bif sEq f "isinstance" then (bif T.blt x then (match tyOfN x with
          | some t => .op (.isTy t) (.cons (L.d T a) .nil)
          | none => .bad) else .bad) else (match bltOp f with
          | some o => .op o (iasOf (L.d T) es)
          | none => .bad)
      | es => (match bltOp f with
          | some o => .op o (iasOf (L.d T) es)
          | none => .bad))
    | _ => .bad)
def rngB (f : Str) : Bool := sEq f "range"
def isTupE : Expr → Bool
  | .Tuple _ _ _ => true
  | _ => false
def stepIt (L : Lv) (T : TC) (tg : Expr) (iter : Expr) : IT :=
  match iter with
  | .Call (.Name f p) es [] pos =>
    bif !noStar es || !T.blt f then .lst (L.d T iter) else
    bif sEq f "range" then (match es with
      | [a] => .rng (.cons (L.d T a) .nil)
      | [a, b] => .rng (.cons (L.d T a) (.cons (L.d T b) .nil))
      | _ => .lst (.ex .bad)) else
    bif sEq f "enumerate" && isTupE tg then (match es with
      | [a] => .enm (L.d T a)
      | _ => .lst (.ex .bad)) else
    bif sEq f "zip" && isTupE tg then (match es with
      | [a, b] => .zip (L.d T a) (L.d T b)
      | _ => .lst (.ex .bad)) else .lst (L.d T iter)
  | .Set _ _ _ => .lst (.ex .bad)
  | iter => .lst (L.d T iter)
mutual
def tgOf (T : TC) : Nat → Expr → Option Tg
  | n + 1, .Tuple es _ _ => (tgsOf T n es).map .tp
  | _, .Name x _ => (T.st x).map .nm
  | _, _ => none
def tgsOf (T : TC) : Nat → List Expr → Option (List Tg)
  | _, [] => some []
  | n + 1, e :: es => match tgOf T n e, tgsOf T n es with
    | some t, some ts => some (t :: ts)
    | _, _ => none
  | 0, _ :: _ => none
end
def ownOf (N : List Str) : List (Str × NameKind) → List (Str × Nat)
  | [] => []
  | (x, .local) :: r => (match ixOf N x with | some i => (x, i) :: ownOf N r | none => ownOf N r)
  | (x, .cell) :: r => (match ixOf N x with | some i => (x, i) :: ownOf N r | none => ownOf N r)
  | _ :: r => ownOf N r
def subN : List Nat → List Nat → Bool
  | [], _ => true
  | i :: r, l => l.any (Nat.beq i) && subN r l
def TC.blk (T : TC) (scope : Scope) : TC := { T with sc := relS scope T.sc, cl := false }
def lcE (L : Lv) (T : TC) (elt tg iter : Expr) (ifs : List Expr) (scope : Scope) : IE :=
  match tgOf (T.blk scope) 20 tg with
  | none => .bad
  | some t => bif blkC T.N T.sc scope (ownOf T.N scope.names) && subN (tgSlots t) ((ownOf T.N scope.names).map (·.2)) then
      (match ifs with
        | [] => .lc ((ownOf T.N scope.names).map (·.2)) (stepIt L T tg iter) t (.con (.bool true)) (L.e (T.blk scope) elt)
        | [c] => .lc ((ownOf T.N scope.names).map (·.2)) (stepIt L T tg iter) t (L.t (T.blk scope) c) (L.e (T.blk scope) elt)
        | _ => .bad)
    else .bad
def Pos.same1 (a c : Pos) : Bool := Nat.beq a.endLine c.line
def stepE (L : Lv) (T : TC) : Expr → IE
  | .Constant (.int i) _ _ => .con (.int i)
  | .Constant (.bool b) _ _ => .con (.bool b)
  | .Constant .none _ _ => .con .none
  | .Constant (.str z) _ _ => .con (.str z)
  | .Name x _ => (match T.nm x with | some i => .var i | none => .bad)
  | .BinOp a op b _ => (match binOf op with | some o => .op o (.cons (L.d T a) (.cons (L.d T b) .nil)) | none => .bad)
  | .UnaryOp .USub a _ => .op .neg (.cons (L.d T a) .nil)
  | .UnaryOp .Not a _ => .notE (L.e T a)
  | .BoolOp _ [a] _ => L.e T a
  | .BoolOp .And (a :: b :: r) pos => .andE (L.e T a) (L.e T (.BoolOp .And (b :: r) pos))
  | .BoolOp .Or (a :: b :: r) pos => .orE (L.e T a) (L.e T (.BoolOp .Or (b :: r) pos))
  | .Compare a [op] [b] _ => cmpE L T a op b
  | .Compare a [op, op'] [b, c] _ => chnE L T a op op' b c
  | .IfExp c a b _ => .ife (L.t T c) (L.e T a) (L.e T b)
  | .Tuple es _ _ => bif noStar es then .mkT (iesOf (L.e T) es) else .bad
  | .List es _ => bif noStar es then .mkL (iesOf (L.e T) es) else .bad
  | .Subscript a (.Slice none none none _) _ => .op (.sl false false) (.cons (L.d T a) .nil)
  | .Subscript a (.Slice (some b) none none _) _ => .op (.sl true false) (.cons (L.d T a) (.cons (L.d T b) .nil))
  | .Subscript a (.Slice none (some b) none _) _ => .op (.sl false true) (.cons (L.d T a) (.cons (L.d T b) .nil))
  | .Subscript a b _ => bif isSlice b then .bad else .op .ix (.cons (L.d T a) (.cons (L.d T b) .nil))
  | .Call (.Name f _) es kws _ => callE L T f es kws
  | .Call (.Attribute (.Name x _) m apos) es [] cpos => bif sEq m "pop" && Nat.beq apos.endLine cpos.line then (match T.nm x with
      | none => .bad
      | some j => (match es with
        | [] => .pop j .nil
        | [a] => bif isStar a then .bad else .pop j (.cons (.ex (L.e T a)) .nil)
        | _ => .bad)) else .bad
  | .ListComp elt [⟨tg, iter, ifs, 0⟩] scope _ => lcE L T elt tg iter ifs scope
  | _ => .bad
def stepT (L : Lv) (T : TC) : Expr → IE
  | .UnaryOp .Not a _ => .notE (L.t T a)
  | .BoolOp _ [a] _ => L.t T a
  | .BoolOp .And (a :: b :: r) pos => .andE (L.t T a) (L.t T (.BoolOp .And (b :: r) pos))
  | .BoolOp .Or (a :: b :: r) pos => .orE (L.t T a) (L.t T (.BoolOp .Or (b :: r) pos))
  | .BoolOp _ [] _ => .bad
  | .IfExp _ _ _ _ => .bad
  | e => stepE L T e
def stepD (L : Lv) (T : TC) : Expr → IA
  | .Name x _ => (match T.nm x with | some i => .sl i | none => .ex .bad)
  | .IfExp c a b _ => .ifo (L.t T c) (L.d T a) (L.d T b)
  | e => .ex (stepE L T e)
def isComp : Expr → Bool
  | .ListComp _ _ _ _ => true
  | .SetComp _ _ _ _ => true
  | .DictComp _ _ _ _ _ => true
  | _ => false
def isLocK : Option NameKind → Bool
  | some .local => true
  | _ => false
def isLC : NameKind → Bool
  | .local => true
  | .cell => true
  | _ => false
def ownsName (x : Str) : List (Str × NameKind) → Bool
  | [] => false
  | y :: r => (sEq y.1 x && isLC y.2) || ownsName x r
def augOf : Operator → Option Op
  | .Add => some .add
  | .Sub => some .sub
  | _ => none
def setStm (L : Lv) (T : TC) (x : Str) (p : Pos) (e : Expr) (pos : Pos) : IS :=
  match T.st x with
  | none => .bad
  | some i => match e with
    | .Name y _ => (match T.nm y with | some j => .mv i j | none => .bad)
    | .ListComp elt gs scope q => bif isLocK (lkN T.sc.names x) && Nat.beq p.line q.line && !ownsName x scope.names then .set i (stepE L T e) else .bad
    | e => bif isComp e then .bad else .set i (stepE L T e)
def stepS (L : Lv) (T : TC) : Stmt → IS
  | .Assign [.Name x p] e pos => setStm L T x p e pos
  | .Assign [.Tuple ts k tp] e pos => bif isTupE e || isComp e then .bad else (match tgsOf T 20 ts with
      | some tg => .un tg (L.e T e)
      | none => .bad)
  | .Assign [.Subscript (.Name x p) k sp] e pos => bif isSlice k || isComp e then .bad else (match T.nm x with
      | some j => .setIx j (L.e T k) (L.e T e)
      | none => .bad)
  | .AugAssign (.Name x p) op e pos => (match T.st x, augOf op with
      | some i, some o => .aug i o (L.e T e)
      | _, _ => .bad)
  | .Expr (.Constant (.str z) _ _) _ => .pas
  | .Expr (.Call (.Attribute (.Name x p) m apos) es kws cpos) pos =>
      bif sEq m "append" && Nat.beq apos.endLine cpos.line then (match kws, es with
        | [], [a] => bif isStar a then .bad else (match T.nm x with
          | some j => .app j (L.e T a)
          | none => .bad)
        | _, _ => .bad) else .exp (L.e T (.Call (.Attribute (.Name x p) m apos) es kws cpos))
  | .Expr e pos => bif isComp e then .bad else .exp (L.e T e)
  | .If c a b pos => .ife (L.t T c) (issOf (L.s T) a) (issOf (L.s T) b)
  | .For tg iter body [] pos => (match tgOf T 20 tg with
      | some t => .for_ (stepIt L T tg iter) t (issOf (L.s T) body)
      | none => .bad)
  | .While c body [] pos => .whl (L.t T c) (issOf (L.s T) body)
  | .Return none pos => .retn
  | .Return (some (.Name x p)) pos => (match T.nm x with | some i => .retv i | none => .bad)
  | .Return (some e) pos => .ret (L.e T e)
  | .Break pos => .brk
  | .Continue pos => .cnt
  | .Pass pos => .pas
  | _ => .bad
def stepL (L : Lv) : Lv := ⟨stepE L, stepT L, stepD L, stepS L⟩
def lvl : Nat → Lv
  | 0 => .bad
  | n + 1 => stepL (lvl n)
def trBody (T : TC) (b : List Stmt) : ISs := issOf ((lvl 40).s T) b
end IR
namespace IR
open PySem PySem.Spec L2 PyProof.Rows

structure Snd (P : Nat → Option FD) (dp : Nat) (L : Lv) : Prop where
  e : ∀ X T, Good P dp X T → ∀ e, PE X e (rdE P (callN P dp) X.K (L.e T e))
  t : ∀ X T, Good P dp X T → ∀ e, PT X e (rdT P (callN P dp) X.K (L.t T e))
  w : ∀ X T, Good P dp X T → ∀ op es pos, PW X (.BoolOp op es pos) (rdT P (callN P dp) X.K (L.t T (.BoolOp op es pos)))
  d : ∀ X T, Good P dp X T → ∀ e, PE X e (rdD P (callN P dp) X.K (L.d T e))
  s : ∀ X T, Good P dp X T → ∀ st, PS X st (rdS P (callN P dp) X.K (L.s T st))
section
variable {P : Nat → Option FD} {dp : Nat} {C : CallP} {X : Cx} {T : TC} {L : Lv}
theorem rdT_bad {K : PySem.W.Frag} {σ : L2.St} {H : Hp} {Q : Bool → Hp → Prop} (h : rdT P C K .bad σ H Q) : False := by
  obtain ⟨F, own, ρ, R, w⟩ := h
  unfold wpT wpE at w
  exact w
theorem pt_bad {e : Expr} : PT X e (rdT P C X.K .bad) := ⟨fun pins s σ H Q I h => (rdT_bad h).elim⟩
theorem pw_bad {e : Expr} : PW X e (rdT P C X.K .bad) := ⟨fun wh pins s σ H Q I h => (rdT_bad h).elim⟩
theorem sd_bad {e : Expr} : PE X e (rdD P C X.K (.ex .bad)) := ⟨fun pins s σ H Q I h => by
  obtain ⟨F, own, ρ, R, w⟩ := h
  unfold wpD wpE at w
  exact w.elim⟩
theorem si_bad {tg e : Expr} : PI X tg e (rdI P C X.K (.lst (.ex .bad))) := ⟨fun pins s σ H Q I h => by
  obtain ⟨F, own, ρ, R, w⟩ := h
  unfold wpIt wpD wpE at w
  exact w.elim⟩
theorem snd_bad : Snd P dp .bad := ⟨fun X T G e => se_bad, fun X T G e => pt_bad, fun X T G op es pos => pw_bad, fun X T G e => sd_bad, fun X T G st => ss_bad⟩
theorem snd_as (h : Snd P dp L) (G : Good P dp X T) : ∀ (es : List Expr), noStar es = true → PA X es (rdAs P (callN P dp) X.K (iasOf (L.d T) es))
  | [], _ => sas_nil
  | e :: r, hs => by
    unfold noStar at hs
    rw [Bool.and_eq_true, Bool.not_eq_true'] at hs
    exact sas_cons (callN_mono P dp) (h.d X T G e) (snd_as h G r hs.2) (starEach_cons hs.1)
theorem snd_es (h : Snd P dp L) (G : Good P dp X T) : ∀ (es : List Expr), noStar es = true → PA X es (rdEs P (callN P dp) X.K (iesOf (L.e T) es))
  | [], _ => ses_nil
  | e :: r, hs => by
    unfold noStar at hs
    rw [Bool.and_eq_true, Bool.not_eq_true'] at hs
    exact ses_cons (callN_mono P dp) (h.e X T G e) (snd_es h G r hs.2) (starEach_cons hs.1)
theorem snd_ss (h : Snd P dp L) (G : Good P dp X T) : ∀ (b : List Stmt), PSs X b (rdSs P (callN P dp) X.K (issOf (L.s T) b))
  | [] => ss_nil
  | s :: r => ss_cons (callN_mono P dp) (h.s X T G s) (snd_ss h G r)
theorem ias_len (d : Expr → IA) : ∀ (es : List Expr), (iasOf d es).len = es.length
  | [] => rfl
  | _ :: r => congrArg Nat.succ (ias_len d r)
theorem bin_ok (G : Good P dp X T) {op : Operator} {o : Op} (h : binOf op = some o) : OpR X (binaryOp op) (fun x y H Q => opN X.K o [x, y] H Q) := by
  cases op <;> cases h
  · exact ok_add
  · exact ok_sub
  · exact ok_mul
  · exact ok_mod
  · exact ok_pow
  · exact ok_fdiv
theorem cmp_ok (G : Good P dp X T) {op : CmpOp} {o : Op} (h : cmpOf op = some o) : OpR X (compareOp op) (fun x y H Q => opN X.K o [x, y] H Q) := by
  cases op <;> cases h
  · exact ok_eq G.u64
  · exact ok_ne G.u64
  · exact ok_lt
  · exact ok_le
  · exact ok_gt
  · exact ok_ge
  · exact ok_in G.u65
  · exact ok_nin G.u65
theorem cmp_isB {op : CmpOp} {o : Op} (h : cmpOf op = some o) : o.isB = true := by
  cases op <;> cases h <;> rfl
theorem con_ok {b : Expr} {c : PV} (h : conOf b = some c) : ∃ cv, vC c = some cv ∧ PE X b (tC cv) := by
  unfold conOf at h
  split at h
  · cases h; exact ⟨_, rfl, pe_non⟩
  · cases h; exact ⟨_, rfl, pe_bl⟩
  · cases h
theorem snd_cmp (h : Snd P dp L) (G : Good P dp X T) (a b : Expr) (op : CmpOp) (pos : Pos) : PE X (.Compare a [op] [b] pos) (rdE P (callN P dp) X.K (cmpE L T a op b)) ∧ PT X (.Compare a [op] [b] pos) (rdT P (callN P dp) X.K (cmpE L T a op b)) := by
  have hC := callN_mono P dp
  unfold cmpE
  cases hm : behindInMarks op b with
  | true => exact ⟨se_bad, pt_bad⟩
  | false =>
    rw [cond_false]
    split
    · split
      · rename_i c hc
        obtain ⟨cv, h1, h2⟩ := con_ok (X := X) hc
        exact ⟨se_is hC h1 (h.d X T G a) h2 hm, st_is hC h1 (h.d X T G a) h2 hm⟩
      · exact ⟨se_bad, pt_bad⟩
    · split
      · rename_i c hc
        obtain ⟨cv, h1, h2⟩ := con_ok (X := X) hc
        exact ⟨se_ns hC h1 (h.d X T G a) h2 hm, st_ns hC h1 (h.d X T G a) h2 hm⟩
      · exact ⟨se_bad, pt_bad⟩
    · split
      · rename_i o ho
        exact ⟨se_cmp2 hC (cmp_ok G ho) (h.d X T G a) (h.d X T G b) hm, st_cmp2 hC (cmp_isB ho) (cmp_ok G ho) (h.d X T G a) (h.d X T G b) hm⟩
      · exact ⟨se_bad, pt_bad⟩
theorem snd_chn (h : Snd P dp L) (G : Good P dp X T) (a b c : Expr) (op op' : CmpOp) (pos : Pos) : PE X (.Compare a [op, op'] [b, c] pos) (rdE P (callN P dp) X.K (chnE L T a op op' b c)) ∧ PT X (.Compare a [op, op'] [b, c] pos) (rdT P (callN P dp) X.K (chnE L T a op op' b c)) := by
  have hC := callN_mono P dp
  unfold chnE
  cases hm : lastMarks [op, op'] [b, c] with
  | true => exact ⟨se_bad, pt_bad⟩
  | false =>
    rw [cond_false]
    split
    · rename_i o o' ho ho'
      exact ⟨se_chn hC (cmp_isB ho') (cmp_ok G ho) (cmp_ok G ho') (h.e X T G a) (h.e X T G b) (h.e X T G c) hm, st_chn hC (cmp_isB ho') (cmp_ok G ho) (cmp_ok G ho') (h.e X T G a) (h.e X T G b) (h.e X T G c) hm⟩
    · exact ⟨se_bad, pt_bad⟩
theorem ty_ok (G : Good P dp X T) {x : Str} {t : Ty} {p : Pos} (hb : T.blt x = true) (h : tyOfN x = some t) : PE X (.Name x p) (tC (.ty (tyN t))) := by
  obtain ⟨hg, hm⟩ := G.blt hb
  have go : ∀ {n : Str} {T' : String}, x = n → bootBuiltins n = some (.type T') → n ≠ "__name__" → (n == ("__debug__" : Str)) = false → PE X (.Name x p) (tC (.ty T')) := fun {n T'} e hv hn hd => by
    subst e
    exact ⟨fun pins s σ H Q I h => ld_blt I hg hm hv ⟨.ty T', H, I, rfl, h⟩ hn hd⟩
  unfold tyOfN at h
  cases e1 : sEq x "int" with
  | true => rw [e1] at h; cases h; exact go (sEq_iff.mp e1) (by kernel_rfl) (by decide) (by decide)
  | false =>
    rw [e1, cond_false] at h
    cases e2 : sEq x "bool" with
    | true => rw [e2] at h; cases h; exact go (sEq_iff.mp e2) (by kernel_rfl) (by decide) (by decide)
    | false =>
      rw [e2, cond_false] at h
      cases e3 : sEq x "str" with
      | true => rw [e3] at h; cases h; exact go (sEq_iff.mp e3) (by kernel_rfl) (by decide) (by decide)
      | false =>
        rw [e3, cond_false] at h
        cases e4 : sEq x "tuple" with
        | true => rw [e4] at h; cases h; exact go (sEq_iff.mp e4) (by kernel_rfl) (by decide) (by decide)
        | false =>
          rw [e4, cond_false] at h
          cases e5 : sEq x "list" with
          | true => rw [e5] at h; cases h; exact go (sEq_iff.mp e5) (by kernel_rfl) (by decide) (by decide)
          | false =>
            rw [e5, cond_false] at h
            cases e6 : sEq x "dict" with
            | true => rw [e6] at h; cases h; exact go (sEq_iff.mp e6) (by kernel_rfl) (by decide) (by decide)
            | false => rw [e6] at h; cases h
/-- the built-ins that are operations -/
theorem blt_ok (G : Good P dp X T) {x : Str} {o : Op} {e : Expr} {es : List Expr} {as : IAs} {p pos : Pos} (hg : Gl X x) (hm : X.mg x = none) (h : bltOp x = some o) (ha : PA X (e :: es) (rdAs P (callN P dp) X.K as)) (hs : noStar (e :: es) = true) :
    PE X (.Call (.Name x p) (e :: es) [] pos) (rdE P (callN P dp) X.K (.op o as)) := by
  have hC := callN_mono P dp
  have hs' := hs
  unfold noStar at hs'
  rw [Bool.and_eq_true, Bool.not_eq_true'] at hs'
  have he : starEach (e :: es) X.env = (false, eval e X.env) :: starEach es X.env := starEach_cons hs'.1
  have hpl : (backTo pos (starEach es X.env)).any (·.1) = false := star_any hs'.2
  have gb : ∀ {n : Str} {id : String} {o : Op}, x = n → CallR X (.builtin id) (opN X.K o) → bootBuiltins n = some (.builtin id) → n ≠ "__name__" → (n == ("__debug__" : Str)) = false → PE X (.Call (.Name x p) (e :: es) [] pos) (rdE P (callN P dp) X.K (.op o as)) := fun {n id o} ex hc hv hn hd => by
    subst ex
    exact se_callB hC hc hg hm hv ha hn hd he hpl
  have gt : ∀ {n : Str} {id : String} {o : Op}, x = n → CallR X (.type id) (opN X.K o) → bootBuiltins n = some (.type id) → n ≠ "__name__" → (n == ("__debug__" : Str)) = false → PE X (.Call (.Name x p) (e :: es) [] pos) (rdE P (callN P dp) X.K (.op o as)) := fun {n id o} ex hc hv hn hd => by
    subst ex
    exact se_callTy hC hc hg hm hv ha hn hd he hpl
  unfold bltOp at h
  cases e1 : sEq x "len" with
  | true => rw [e1] at h; cases h; exact gb (sEq_iff.mp e1) ok_len (by kernel_rfl) (by decide) (by decide)
  | false =>
    rw [e1, cond_false] at h
    cases e2 : sEq x "int" with
    | true => rw [e2] at h; cases h; exact gt (sEq_iff.mp e2) ok_int (by kernel_rfl) (by decide) (by decide)
    | false =>
      rw [e2, cond_false] at h
      cases e3 : sEq x "abs" with
      | true => rw [e3] at h; cases h; exact gb (sEq_iff.mp e3) ok_abs (by kernel_rfl) (by decide) (by decide)
      | false =>
        rw [e3, cond_false] at h
        cases e4 : sEq x "max" with
        | true => rw [e4] at h; cases h; exact gb (sEq_iff.mp e4) (ok_max G.calm) (by kernel_rfl) (by decide) (by decide)
        | false =>
          rw [e4, cond_false] at h
          cases e5 : sEq x "min" with
          | true => rw [e5] at h; cases h; exact gb (sEq_iff.mp e5) (ok_min G.calm) (by kernel_rfl) (by decide) (by decide)
          | false =>
            rw [e5, cond_false] at h
            cases e6 : sEq x "tuple" with
            | true => rw [e6] at h; cases h; exact gt (sEq_iff.mp e6) ok_tuple (by kernel_rfl) (by decide) (by decide)
            | false =>
              rw [e6, cond_false] at h
              cases e7 : sEq x "list" with
              | true => rw [e7] at h; cases h; exact gt (sEq_iff.mp e7) ok_list (by kernel_rfl) (by decide) (by decide)
              | false => rw [e7] at h; cases h
end
end IR
namespace IR
open PySem PySem.Spec L2 PyProof.Rows
theorem kw_len : ∀ {kws : List Keyword} {ks : List Str}, kwNames kws = some ks → (kwVals kws).length = ks.length
  | [], _, h => by cases h; rfl
  | ⟨some x, e, p⟩ :: r, ks, h => by
    unfold kwNames at h
    obtain ⟨t, h1, rfl⟩ := Option.map_eq_some_iff.mp h
    exact congrArg Nat.succ (kw_len h1)
  | ⟨none, _, _⟩ :: _, _, h => by cases h
theorem kw_all {pos : Pos} {env : PySem.Env} : ∀ {kws : List Keyword} {ks : List Str}, kwNames kws = some ks →
    (backToKw pos (keywordEach kws env)).all (·.1.isSome) = true ∧ (backToKw pos (keywordEach kws env)).filterMap (·.1) = ks ∧ (backToKw pos (keywordEach kws env)).any (·.1.isNone) = false
  | [], _, h => by cases h; exact ⟨rfl, rfl, rfl⟩
  | ⟨some x, e, p⟩ :: r, ks, h => by
    unfold kwNames at h
    obtain ⟨t, h1, rfl⟩ := Option.map_eq_some_iff.mp h
    obtain ⟨a1, a2, a3⟩ := kw_all (pos := pos) (env := env) h1
    unfold keywordEach
    refine ⟨?_, ?_, ?_⟩
    · show (true && (backToKw pos (keywordEach r env)).all (·.1.isSome)) = true
      rw [a1]; rfl
    · show x :: (backToKw pos (keywordEach r env)).filterMap (·.1) = _
      rw [a2]
    · show (false || (backToKw pos (keywordEach r env)).any (·.1.isNone)) = false
      rw [a3]; rfl
  | ⟨none, _, _⟩ :: _, _, h => by cases h
theorem findK_ok : ∀ {l : List KwI} {id n : Nat} {ks : List Str} {k : KwI}, findK l id n ks = some k → k ∈ l ∧ k.id = id ∧ k.n = n ∧ k.ks = ks
  | [], _, _, _, _, h => by cases h
  | e :: r, id, n, ks, k, h => by
    unfold findK at h
    cases q : (Nat.beq e.id id && Nat.beq e.n n && decide (e.ks = ks)) with
    | true =>
      rw [q] at h
      cases h
      rw [Bool.and_eq_true, Bool.and_eq_true, decide_eq_true_eq] at q
      exact ⟨List.mem_cons_self .., Nat.eq_of_beq_eq_true q.1.1, Nat.eq_of_beq_eq_true q.1.2, q.2⟩
    | false =>
      rw [q] at h
      have := findK_ok (l := r) h
      exact ⟨List.mem_cons_of_mem _ this.1, this.2⟩
section
variable {P : Nat → Option FD} {dp : Nat} {X : Cx} {T : TC} {L : Lv}
theorem snd_kw (h : Snd P dp L) (G : Good P dp X T) : ∀ (kws : List Keyword), PK X kws (rdAs P (callN P dp) X.K (iasOf (L.d T) (kwVals kws)))
  | [] => sk_nil
  | ⟨x, e, p⟩ :: r => sk_cons (h.d X T G e) (snd_kw h G r)
theorem bltP (h : Snd P dp L) (G : Good P dp X T) (f : Str) {e : Expr} {es : List Expr} {p pos : Pos} (hg : Gl X f) (hm : X.mg f = none) (hs : noStar (e :: es) = true) :
    PE X (.Call (.Name f p) (e :: es) [] pos) (rdE P (callN P dp) X.K (match bltOp f with | some o => .op o (iasOf (L.d T) (e :: es)) | none => .bad)) := by
  split
  · rename_i o ho
    exact blt_ok G hg hm ho (snd_as h G _ hs) hs
  · exact se_bad
theorem snd_call (h : Snd P dp L) (G : Good P dp X T) (f : Str) (p pos : Pos) (es : List Expr) (kws : List Keyword) : PE X (.Call (.Name f p) es kws pos) (rdE P (callN P dp) X.K (callE L T f es kws)) := by
  have hC := callN_mono P dp
  unfold callE
  cases hc : (!noStar es || sEq f "__debug__" || !T.gl f) with
  | true => exact se_bad
  | false =>
    rw [Bool.or_eq_false_iff, Bool.or_eq_false_iff, Bool.not_eq_false', Bool.not_eq_false'] at hc
    obtain ⟨⟨hs, hdb⟩, hg⟩ := hc
    have hdb' : (f == ("__debug__" : Str)) = false := by rw [sEq_beq]; exact hdb
    have Hg := G.glob hg
    rw [cond_false]
    split
    · rename_i D hD
      obtain ⟨hD1, hD2⟩ := findD_mem hD
      subst hD2
      split
      · cases es with
        | nil => exact se_bad
        | cons e r =>
          show PE X _ (rdE P (callN P dp) X.K (bif Nat.beq (e :: r).length D.ps.length then .call D.id (iasOf (L.d T) (e :: r)) else .bad))
          cases hl : Nat.beq (e :: r).length D.ps.length with
          | false => exact se_bad
          | true =>
            rw [cond_true]
            have hs' := hs
            unfold noStar at hs'
            rw [Bool.and_eq_true, Bool.not_eq_true'] at hs'
            exact se_call (G.ff D hD1) G.room Hg (snd_as h G _ hs) (by rw [ias_len]; exact Nat.eq_of_beq_eq_true hl) hdb' (starEach_cons hs'.1) (star_any hs'.2)
      · split
        · exact se_bad
        · rename_i ks hks
          split
          · exact se_bad
          · rename_i k hk
            obtain ⟨k1, k2, k3, k4⟩ := findK_ok hk
            cases hsl : (Nat.beq k.sel.length D.ps.length && k.sel.all (fun i => Nat.blt i (es.length + ks.length))) with
            | false => exact se_bad
            | true =>
              rw [cond_true]
              rw [Bool.and_eq_true, List.all_eq_true] at hsl
              obtain ⟨a1, a2, a3⟩ := kw_all (pos := pos) (env := X.env) hks
              refine se_callk (G.ff D hD1) k1 k2 G.room Hg (snd_as h G _ hs) (snd_kw h G kws) (by rw [ias_len, k3]) (by rw [ias_len, kw_len hks, k4]) (Nat.eq_of_beq_eq_true hsl.1) (fun i hi => ?_) a1 (by rw [a2, k4]) hdb' ?_ ?_
              · rw [k3, k4]
                exact Nat.ble_eq.mp (hsl.2 i hi)
              · cases es with
                | nil => exact .inl ⟨rfl, rfl⟩
                | cons e r =>
                  have hs' := hs
                  unfold noStar at hs'
                  rw [Bool.and_eq_true, Bool.not_eq_true'] at hs'
                  exact .inr ⟨e, r, rfl, starEach_cons hs'.1⟩
              · rw [star_any hs, a3]; rfl
    · cases hb : memS T.bl f with
      | false => exact se_bad
      | true =>
        have Hm := G.bl f (memS_mem hb)
        rw [Bool.not_true, cond_false]
        split
        · split
          · exact se_bad
          · rename_i a x q
            cases hi : sEq f "isinstance" with
            | false =>
              rw [cond_false]
              exact bltP h G f Hg Hm hs
            | true =>
              rw [cond_true]
              cases hx : T.blt x with
              | false => exact se_bad
              | true =>
                rw [cond_true]
                split
                · rename_i t ht
                  have ef := sEq_iff.mp hi
                  have hs' := hs
                  unfold noStar at hs'
                  rw [Bool.and_eq_true, Bool.not_eq_true'] at hs'
                  subst ef
                  exact se_isi hC Hg Hm (by kernel_rfl) (h.d X T G a) (ty_ok G hx ht) (by decide) (by decide) (starEach_cons hs'.1) (starEach_cons rfl) (star_any hs'.2)
                · exact se_bad
          · rename_i hn1 hn2
            cases es with
            | nil => exact (hn1 rfl).elim
            | cons e r => exact bltP h G f Hg Hm hs
        · exact se_bad
/-! ### where a loop's things come from -/
theorem folded_not {iter : Expr} {env : PySem.Env} (h : ∀ a b c, iter ≠ .Set a b c) : ∀ x, foldedSetIterable iter env x = pure x := fun x => by
  cases iter <;> first | rfl | exact absurd rfl (h _ _ _)
theorem snd_it (h : Snd P dp L) (G : Good P dp X T) (tg iter : Expr) : PI X tg iter (rdI P (callN P dp) X.K (stepIt L T tg iter)) := by
  have hC := callN_mono P dp
  unfold stepIt
  split
  · rename_i f p es pos
    cases hc : (!noStar es || !T.blt f) with
    | true => exact si_lst hC (h.d X T G _)
    | false =>
      rw [Bool.or_eq_false_iff, Bool.not_eq_false', Bool.not_eq_false'] at hc
      obtain ⟨hs, hb⟩ := hc
      obtain ⟨Hg, Hm⟩ := G.blt hb
      rw [cond_false]
      cases h1 : sEq f "range" with
      | true =>
        have ef := sEq_iff.mp h1
        subst ef
        rw [cond_true]
        split
        · unfold noStar at hs
          rw [Bool.and_eq_true, Bool.not_eq_true'] at hs
          exact si_rng1 hC Hg Hm (h.d X T G _) (starEach_cons hs.1)
        · unfold noStar noStar at hs
          rw [Bool.and_eq_true, Bool.not_eq_true', Bool.and_eq_true, Bool.not_eq_true'] at hs
          exact si_rng2 hC Hg Hm (h.d X T G _) (h.d X T G _) (starEach_cons hs.1) (starEach_cons hs.2.1)
        · exact si_bad
      | false =>
        rw [cond_false]
        cases h2 : (sEq f "enumerate" && isTupE tg) with
        | true =>
          rw [Bool.and_eq_true] at h2
          have ef := sEq_iff.mp h2.1
          subst ef
          rw [cond_true]
          have ht := h2.2
          unfold isTupE at ht
          split at ht
          · split
            · unfold noStar at hs
              rw [Bool.and_eq_true, Bool.not_eq_true'] at hs
              exact si_enm hC Hg Hm (h.d X T G _) (starEach_cons hs.1)
            · exact si_bad
          · cases ht
        | false =>
          rw [cond_false]
          cases h3 : (sEq f "zip" && isTupE tg) with
          | true =>
            rw [Bool.and_eq_true] at h3
            have ef := sEq_iff.mp h3.1
            subst ef
            rw [cond_true]
            have ht := h3.2
            unfold isTupE at ht
            split at ht
            · split
              · unfold noStar at hs
                rw [Bool.and_eq_true, Bool.not_eq_true'] at hs
                have hs2 := hs.2
                unfold noStar at hs2
                rw [Bool.and_eq_true, Bool.not_eq_true'] at hs2
                exact si_zip hC Hg Hm (h.d X T G _) (h.d X T G _) (starEach_cons hs.1) (starEach_cons hs2.1) (star_any hs.2)
              · exact si_bad
            · cases ht
          | false => exact si_lst hC (h.d X T G _)
  · exact si_bad
  · exact si_lst hC (h.d X T G _)
theorem snd_fold (L : Lv) (T : TC) (tg iter : Expr) {env : PySem.Env} : (∃ a b c, iter = .Set a b c) ∨ ∀ x, foldedSetIterable iter env x = pure x := by
  by_cases z : ∃ a b c, iter = .Set a b c
  · exact .inl z
  · exact .inr (folded_not fun a b c e => z ⟨a, b, c, e⟩)
/-! ### targets -/
def tgNoStar : Expr → Bool
  | .Starred _ _ => false
  | _ => true
theorem assignEach_cons {e : Expr} {es : List Expr} {env : PySem.Env} (h : isStar e = false) : assignEach (e :: es) env = (false, assign e env) :: assignEach es env := by
  cases e <;> first | rfl | cases h
theorem tgOf_ns {T : TC} {n : Nat} {e : Expr} {t : Tg} (h : tgOf T n e = some t) : isStar e = false := by
  cases e <;> first | rfl | (cases n <;> (unfold tgOf at h; cases h))
mutual
theorem snd_tg (G : Good P dp X T) : ∀ (n : Nat) (e : Expr) {t : Tg}, tgOf T n e = some t → PG X e (rdG X.K t)
  | n + 1, .Tuple es k p, t, h => by
    unfold tgOf at h
    obtain ⟨ts, h1, rfl⟩ := Option.map_eq_some_iff.mp h
    obtain ⟨a, b, c⟩ := snd_tgs G n es h1
    exact sg_tup G.calm a b c
  | 0, .Tuple es k p, t, h => by unfold tgOf at h; cases h
  | n, .Name x p, t, h => by
    have h' : (T.st x).map Tg.nm = some t := by cases n <;> (unfold tgOf at h; exact h)
    obtain ⟨i, h1, rfl⟩ := Option.map_eq_some_iff.mp h'
    obtain ⟨a, b, c⟩ := G.sto h1
    exact sg_name G.nd a b c
  | n, .BoolOp _ _ _, t, h => by cases n <;> (unfold tgOf at h; cases h)
  | n, .NamedExpr _ _ _, t, h => by cases n <;> (unfold tgOf at h; cases h)
  | n, .BinOp _ _ _ _, t, h => by cases n <;> (unfold tgOf at h; cases h)
  | n, .UnaryOp _ _ _, t, h => by cases n <;> (unfold tgOf at h; cases h)
  | n, .Lambda _ _ _ _, t, h => by cases n <;> (unfold tgOf at h; cases h)
  | n, .IfExp _ _ _ _, t, h => by cases n <;> (unfold tgOf at h; cases h)
  | n, .Dict _ _ _, t, h => by cases n <;> (unfold tgOf at h; cases h)
  | n, .Set _ _ _, t, h => by cases n <;> (unfold tgOf at h; cases h)
  | n, .ListComp _ _ _ _, t, h => by cases n <;> (unfold tgOf at h; cases h)
  | n, .SetComp _ _ _ _, t, h => by cases n <;> (unfold tgOf at h; cases h)
  | n, .DictComp _ _ _ _ _, t, h => by cases n <;> (unfold tgOf at h; cases h)
  | n, .GeneratorExp _ _ _ _, t, h => by cases n <;> (unfold tgOf at h; cases h)
  | n, .Await _ _, t, h => by cases n <;> (unfold tgOf at h; cases h)
  | n, .Yield _ _, t, h => by cases n <;> (unfold tgOf at h; cases h)
  | n, .YieldFrom _ _, t, h => by cases n <;> (unfold tgOf at h; cases h)
  | n, .Compare _ _ _ _, t, h => by cases n <;> (unfold tgOf at h; cases h)
  | n, .Call _ _ _ _, t, h => by cases n <;> (unfold tgOf at h; cases h)
  | n, .FormattedValue _ _ _ _, t, h => by cases n <;> (unfold tgOf at h; cases h)
  | n, .JoinedStr _ _, t, h => by cases n <;> (unfold tgOf at h; cases h)
  | n, .Constant _ _ _, t, h => by cases n <;> (unfold tgOf at h; cases h)
  | n, .Attribute _ _ _, t, h => by cases n <;> (unfold tgOf at h; cases h)
  | n, .Subscript _ _ _, t, h => by cases n <;> (unfold tgOf at h; cases h)
  | n, .Starred _ _, t, h => by cases n <;> (unfold tgOf at h; cases h)
  | n, .List _ _, t, h => by cases n <;> (unfold tgOf at h; cases h)
  | n, .Slice _ _ _ _, t, h => by cases n <;> (unfold tgOf at h; cases h)
theorem snd_tgs (G : Good P dp X T) : ∀ (n : Nat) (es : List Expr) {ts : List Tg}, tgsOf T n es = some ts → PGs X es (rdGs X.K ts) ∧ (assignEach es X.env).length = ts.length ∧ (assignEach es X.env).findIdx? (·.1) = none
  | n, [], ts, h => by
    have e : ts = [] := by cases n <;> (unfold tgsOf at h; cases h; rfl)
    subst e
    exact ⟨sgs_nil, rfl, rfl⟩
  | 0, _ :: _, ts, h => by unfold tgsOf at h; cases h
  | n + 1, e :: es, ts, h => by
    unfold tgsOf at h
    split at h
    · rename_i t tr h1 h2
      cases h
      obtain ⟨a, b, c⟩ := snd_tgs G n es h2
      have hs := tgOf_ns h1
      refine ⟨sgs_cons (snd_tg G n e h1) a (by rw [assignEach_cons hs]; rfl), ?_, ?_⟩
      · rw [assignEach_cons hs]; exact congrArg Nat.succ b
      · rw [assignEach_cons hs, List.findIdx?_cons, c]; rfl
    · cases h
end
end
end IR
namespace IR
open PySem PySem.Spec L2 PyProof.Rows
theorem subN_ok : ∀ {a l : List Nat}, subN a l = true → ∀ i ∈ a, i ∈ l
  | [], _, _, i, h => by cases h
  | j :: r, l, hs, i, h => by
    unfold subN at hs
    rw [Bool.and_eq_true, List.any_eq_true] at hs
    rcases List.mem_cons.mp h with e | h
    · obtain ⟨k, hk, e2⟩ := hs.1
      rw [e, Nat.eq_of_beq_eq_true e2]; exact hk
    · exact subN_ok hs.2 i h
section
variable {P : Nat → Option FD} {dp : Nat} {X : Cx} {T : TC} {L : Lv}
theorem Good.blk (G : Good P dp X T) {scope : Scope} {own : List (Str × Nat)} (ok : BlkOk X.N X.env.scope scope own) (s : Shared) (H : Hp) (C : Addr) (cl : List (Str × Addr)) (fp : List Addr) :
    Good P dp (X.blk s H scope (compEnvC scope cl C X.env) fp) (T.blk scope) where
  N := G.N
  nd := G.nd
  sc := by
    show relabel scope X.env = relS scope T.sc
    rw [← G.sc]
    rfl
  fk := ok.kind
  calm := G.calm
  fn := fun h => by cases h
  room := G.room
  po := PassesOwn.never
  bl := G.bl
  ff := G.ff
theorem snd_lc (h : Snd P dp L) (G : Good P dp X T) (elt tg iter : Expr) (ifs : List Expr) (scope : Scope) {ie : IE} (hl : lcE L T elt tg iter ifs scope = ie) :
    ie = .bad ∨ ∃ (own : List (Str × Nat)) (it : IT) (t : Tg) (c el : IE), ie = .lc (own.map (·.2)) it t c el ∧ (∀ i ∈ tgSlots t, i ∈ own.map (·.2)) ∧ BlkOk X.N X.env.scope scope own ∧
      PI X tg iter (rdI P (callN P dp) X.K it) ∧ (∀ (s : Shared) (H : Hp) (C : Addr) (cl : List (Str × Addr)) (fp : List Addr), PG (X.blk s H scope (compEnvC scope cl C X.env) fp) tg (rdG X.K t)) ∧
      (∀ (s : Shared) (H : Hp) (C : Addr) (cl : List (Str × Addr)) (fp : List Addr), PTs (X.blk s H scope (compEnvC scope cl C X.env) fp) ifs (rdT P (callN P dp) X.K c)) ∧
      (∀ (s : Shared) (H : Hp) (C : Addr) (cl : List (Str × Addr)) (fp : List Addr), PE (X.blk s H scope (compEnvC scope cl C X.env) fp) elt (rdE P (callN P dp) X.K el)) ∧
      (it = .lst (.ex .bad) ∨ ∀ x, foldedSetIterable iter X.env x = pure x) := by
  unfold lcE at hl
  split at hl
  · exact .inl hl.symm
  · rename_i t ht
    cases hb : (blkC T.N T.sc scope (ownOf T.N scope.names) && subN (tgSlots t) ((ownOf T.N scope.names).map (·.2))) with
    | false => rw [hb] at hl; exact .inl hl.symm
    | true =>
      rw [hb, cond_true] at hl
      rw [Bool.and_eq_true] at hb
      have ok : BlkOk X.N X.env.scope scope (ownOf T.N scope.names) := by rw [G.N, G.sc]; exact blkOk_by hb.1
      have hf : stepIt L T tg iter = .lst (.ex .bad) ∨ ∀ x, foldedSetIterable iter X.env x = pure x := by
        rcases snd_fold L T tg iter (env := X.env) with ⟨a, b, c, rfl⟩ | z
        · exact .inl rfl
        · exact .inr z
      split at hl
      · exact .inr ⟨_, _, _, _, _, hl.symm, subN_ok hb.2, ok, snd_it h G tg iter, fun s H C cl fp => snd_tg (G.blk ok s H C cl fp) 20 tg ht, fun s H C cl fp => sts_nil, fun s H C cl fp => h.e _ _ (G.blk ok s H C cl fp) elt, hf⟩
      · exact .inr ⟨_, _, _, _, _, hl.symm, subN_ok hb.2, ok, snd_it h G tg iter, fun s H C cl fp => snd_tg (G.blk ok s H C cl fp) 20 tg ht, fun s H C cl fp => sts_one (h.t _ _ (G.blk ok s H C cl fp) _), fun s H C cl fp => h.e _ _ (G.blk ok s H C cl fp) elt, hf⟩
      · exact .inl hl.symm
theorem lc_bad {C : CallP} {K : PySem.W.Frag} {own : List Nat} {t : Tg} {c el : IE} {σ : L2.St} {H : Hp} {Q : VK} (h : rdE P C K (.lc own (.lst (.ex .bad)) t c el) σ H Q) : False := by
  obtain ⟨F, o, ρ, R, w⟩ := h
  unfold wpE wpIt wpD wpE at w
  exact w
theorem snd_lcE (h : Snd P dp L) (G : Good P dp X T) (elt tg iter : Expr) (ifs : List Expr) (scope : Scope) (pos : Pos) : PE X (.ListComp elt [⟨tg, iter, ifs, 0⟩] scope pos) (rdE P (callN P dp) X.K (lcE L T elt tg iter ifs scope)) := by
  generalize hl : lcE L T elt tg iter ifs scope = ie
  rcases snd_lc h G elt tg iter ifs scope hl with rfl | ⟨own, it, t, c, el, rfl, hs, ok, hi, hg, ht, he, hf⟩
  · exact se_bad
  · rcases hf with rfl | hf
    · exact ⟨fun pins s σ H Q I q => (lc_bad q).elim⟩
    · exact PE.imp (pe_lc G.calm G.nd hi ok hg ht he hf) fun σ H Q q => lc_reading (callN_mono P dp) hs q
theorem few1 {env : PySem.Env} {a : Expr} {cpos : Pos} (h : isStar a = false) : ((backTo cpos (starEach [a] env)).all (fun x => !x.1) && (backToKw cpos (keywordEach [] env)).all (fun x => x.1.isSome) && decide ([a].length + ([] : List Keyword).length + (if ([] : List Keyword).isEmpty then 0 else 1) < 30)) = true := by
  rw [star_all (by unfold noStar; rw [h]; rfl)]
  rfl
theorem snd_se (h : Snd P dp L) (G : Good P dp X T) (e : Expr) : PE X e (rdE P (callN P dp) X.K (stepE L T e)) := by
  have hC := callN_mono P dp
  unfold stepE
  split
  · exact se_int
  · exact se_bool
  · exact se_none
  · exact se_str
  · split
    · rename_i i hi
      obtain ⟨a, b, c, d⟩ := G.vis hi
      exact se_var a b c d
    · exact se_bad
  · split
    · rename_i o ho
      exact se_op2 hC (bin_ok G ho) (h.d X T G _) (h.d X T G _)
    · exact se_bad
  · exact se_neg hC (h.d X T G _)
  · exact se_not hC (h.e X T G _)
  · exact se_one (h.e X T G _)
  · exact se_and hC (h.e X T G _) (h.e X T G _)
  · exact se_or hC (h.e X T G _) (h.e X T G _)
  · exact (snd_cmp h G _ _ _ _).1
  · exact (snd_chn h G _ _ _ _ _ _).1
  · exact se_ife hC (h.t X T G _) (h.e X T G _) (h.e X T G _)
  · rename_i es k pos
    cases hs : noStar es with
    | true => exact se_tup hC (snd_es h G es hs)
    | false => exact se_bad
  · rename_i es pos
    cases hs : noStar es with
    | true => exact se_lst hC (snd_es h G es hs)
    | false => exact se_bad
  · exact se_sl00 hC (h.d X T G _)
  · exact se_sl10 hC (h.d X T G _) (h.d X T G _)
  · exact se_sl01 hC (h.d X T G _) (h.d X T G _)
  · rename_i a b pos _ _ _
    cases hs : isSlice b with
    | true => exact se_bad
    | false =>
      refine se_ix hC (h.d X T G _) (h.d X T G _) fun o i => ?_
      cases b <;> first | rfl | cases hs
  · exact snd_call h G _ _ _ _ _
  · rename_i x p m apos es cpos
    cases hm : (sEq m "pop" && Nat.beq apos.endLine cpos.line) with
    | false => exact se_bad
    | true =>
      rw [Bool.and_eq_true] at hm
      have em := sEq_iff.mp hm.1
      subst em
      have hline : (apos.endLine == cpos.line) = true := by rw [beq_iff_eq]; exact Nat.eq_of_beq_eq_true hm.2
      rw [cond_true]
      split
      · exact se_bad
      · rename_i j hj
        obtain ⟨a, b, c, d⟩ := G.vis hj
        split
        · exact se_pop0 a b c d rfl hline
        · rename_i i
          cases hs : isStar i with
          | true => exact se_bad
          | false =>
            rw [cond_false]
            exact se_pop1 hC a b c d (sas_cons hC (sd_ex hC (h.e X T G _)) sas_nil (starEach_cons hs)) rfl (few1 hs) hline (starEach_cons hs)
        · exact se_bad
  · exact snd_lcE h G _ _ _ _ _ _
  · exact se_bad
theorem snd_sd (h : Snd P dp L) (G : Good P dp X T) (e : Expr) : PE X e (rdD P (callN P dp) X.K (stepD L T e)) := by
  have hC := callN_mono P dp
  unfold stepD
  split
  · split
    · rename_i i hi
      obtain ⟨a, b, c, d⟩ := G.vis hi
      exact sd_slot a b c d
    · exact sd_bad
  · exact sd_ifo hC (h.t X T G _) (h.d X T G _) (h.d X T G _)
  · exact sd_ex hC (snd_se h G _)
theorem snd_st (h : Snd P dp L) (G : Good P dp X T) (e : Expr) : PT X e (rdT P (callN P dp) X.K (stepT L T e)) ∧ ∀ op es pos, e = .BoolOp op es pos → PW X e (rdT P (callN P dp) X.K (stepT L T e)) := by
  have hC := callN_mono P dp
  unfold stepT
  split
  · exact ⟨st_not hC (h.t X T G _), fun op es pos e => by cases e⟩
  · rename_i op a pos
    have w : PW X (.BoolOp op [a] pos) (rdT P (callN P dp) X.K (L.t T a)) := by
      cases op
      · exact st_and1 (h.t X T G a)
      · exact st_or1 (h.t X T G a)
    exact ⟨w.pt, fun _ _ _ _ => w⟩
  · rename_i a b r pos
    have w := st_and (rest := r) hC (h.t X T G a) (h.w X T G .And (b :: r) pos)
    exact ⟨w.pt, fun _ _ _ _ => w⟩
  · rename_i a b r pos
    have w := st_or (rest := r) hC (h.t X T G a) (h.w X T G .Or (b :: r) pos)
    exact ⟨w.pt, fun _ _ _ _ => w⟩
  · exact ⟨pt_bad, fun _ _ _ _ => pw_bad⟩
  · exact ⟨pt_bad, fun op es pos e => by cases e⟩
  · rename_i n1 n2 n3 n4 n5 n6
    have hse := snd_se h G e
    cases e with
    | BoolOp op es pos =>
      cases es with
      | nil => exact (n5 _ _ rfl).elim
      | cons a r =>
        cases r with
        | nil => exact (n2 _ _ _ rfl).elim
        | cons b r =>
          cases op
          · exact (n3 _ _ _ _ rfl).elim
          · exact (n4 _ _ _ _ rfl).elim
    | UnaryOp op a pos =>
      cases op with
      | Not => exact (n1 _ _ rfl).elim
      | _ => exact ⟨st_plain hC hse fun _ => rfl, fun op es pos e => by cases e⟩
    | IfExp a b c pos => exact (n6 _ _ _ _ rfl).elim
    | Compare a ops cs pos =>
      refine ⟨?_, fun op es pos e => by cases e⟩
      cases ops with
      | nil => exact pt_bad
      | cons o ops =>
        cases ops with
        | nil =>
          cases cs with
          | nil => exact pt_bad
          | cons b cs =>
            cases cs with
            | nil => exact (snd_cmp h G _ _ _ _).2
            | cons c cs => exact pt_bad
        | cons o2 ops =>
          cases ops with
          | nil =>
            cases cs with
            | nil => exact pt_bad
            | cons b cs =>
              cases cs with
              | nil => exact pt_bad
              | cons c cs =>
                cases cs with
                | nil => exact (snd_chn h G _ _ _ _ _ _).2
                | cons d cs => exact pt_bad
          | cons o3 ops => exact pt_bad
    | _ => exact ⟨st_plain hC hse fun _ => rfl, fun op es pos e => by cases e⟩
end
end IR
namespace IR
open PySem PySem.Spec L2 PyProof.Rows
theorem swaps_not {e : Expr} {tgt : Option Expr} {l : Nat} {env : PySem.Env} (h : isComp e = false) : swapsWith e tgt l env = pure false := by
  cases e <;> first | rfl | cases h
theorem sole_not {e t : Expr} {l : Nat} {env : PySem.Env} (h : isComp e = false) : swapsWithSole [t] e l env = pure false := swaps_not (tgt := some t) h
theorem stores_not {ts : List Expr} {k : Nat} {p : Pos} {e : Expr} {env : PySem.Env} (h : isTupE e = false) : swappedStores [.Tuple ts k p] e env = pure none := by
  cases e <;> first | rfl | cases h
theorem stores_sub {o i : Expr} {p : Pos} {e : Expr} {env : PySem.Env} : swappedStores [.Subscript o i p] e env = pure none := by
  cases e <;> rfl
theorem assign_sub {x : Str} {p sp : Pos} {k : Expr} {env : PySem.Env} (h : isSlice k = false) : ∀ v, assign (.Subscript (.Name x p) k sp) env v = (do
      let ov ← holding [v] (eval (.Name x p) env)
      let iv ← holding [v, ov] (eval k env)
      standAt sp
      holding [v, ov, iv] (setItem ov iv v)
      release [v, ov, iv] []) := fun v => by
  cases k <;> first | rfl | cases h
theorem owns_any {x : Str} : ∀ {l : List (Str × NameKind)}, (l.any fun (n, k) => n == x && (k == .local || k == .cell)) = ownsName x l
  | [] => rfl
  | (n, k) :: r => by
    unfold ownsName
    rw [List.any_cons, owns_any]
    show ((n == x && (k == .local || k == .cell)) || ownsName x r) = ((sEq n x && isLC k) || ownsName x r)
    rw [sEq_beq (a := n)]
    cases k <;> rfl
section
variable {P : Nat → Option FD} {dp : Nat} {X : Cx} {T : TC} {L : Lv}
theorem set_bad {C : CallP} {K : PySem.W.Frag} {i : Nat} {D : L2.Ends} {σ : L2.St} {H : Hp} (h : rdS P C K (.set i .bad) D σ H) : False := by
  obtain ⟨F, o, ρ, R, w⟩ := h
  unfold wpS wpE at w
  exact w
theorem for_bad {C : CallP} {K : PySem.W.Frag} {t : Tg} {b : ISs} {D : L2.Ends} {σ : L2.St} {H : Hp} (h : rdS P C K (.for_ (.lst (.ex .bad)) t b) D σ H) : False := by
  obtain ⟨F, o, ρ, R, w⟩ := h
  unfold wpS wpIt wpD wpE at w
  exact w
theorem snd_setLc (h : Snd P dp L) (G : Good P dp X T) {i : Nat} {x : Str} {py pos spos : Pos} (elt : Expr) (gs : List Comprehension) (scope : Scope) (hi : X.N[i]? = some x) (hl : X.env.scope.names.lookup x = some .local) (hline : (py.line == pos.line) = true) (ho : ownsName x scope.names = false) :
    PS X (.Assign [.Name x py] (.ListComp elt gs scope pos) spos) (rdS P (callN P dp) X.K (.set i (stepE L T (.ListComp elt gs scope pos)))) := by
  have hC := callN_mono P dp
  generalize hie : stepE L T (.ListComp elt gs scope pos) = ie
  unfold stepE at hie
  split at hie <;> first | (subst hie; exact ⟨fun pins s σ H D I q => (set_bad q).elim⟩) | skip
  all_goals (rename_i heq; first | cases heq | skip)
  all_goals
    rcases snd_lc h G _ _ _ _ _ hie with rfl | ⟨own, it, t, c, el, rfl, hs, ok, hi', hg, ht, he, hf⟩
    · exact ⟨fun pins s σ H D I q => (set_bad q).elim⟩
    · rcases hf with rfl | hf
      · refine ⟨fun pins s σ H D I q => ?_⟩
        obtain ⟨F, o, ρ, R, w⟩ := q
        unfold wpS wpE wpIt wpD wpE at w
        exact w.elim
      · exact ss_setLc hC (ps_setLc G.calm G.nd hi hl (sw_true G.fk hl hline (by rw [owns_any]; exact ho)) hi' ok hg ht he hf) fun σ H Q q => lc_reading hC hs q
theorem isLocK_ok {o : Option NameKind} (h : isLocK o = true) : o = some .local := by
  unfold isLocK at h
  split at h
  · rfl
  · cases h
theorem snd_set (h : Snd P dp L) (G : Good P dp X T) (x : Str) (p : Pos) (e : Expr) (pos : Pos) : PS X (.Assign [.Name x p] e pos) (rdS P (callN P dp) X.K (setStm L T x p e pos)) := by
  have hC := callN_mono P dp
  unfold setStm
  split
  · exact ss_bad
  · rename_i i hi
    obtain ⟨a, b, c⟩ := G.sto hi
    split
    · split
      · rename_i j hj
        obtain ⟨a', b', c', d'⟩ := G.vis hj
        exact ss_mv G.nd a b a' b' c' d' rfl c
      · exact ss_bad
    · rename_i elt gs scope q
      cases hb : (isLocK (lkN T.sc.names x) && Nat.beq p.line q.line && !ownsName x scope.names) with
      | false => exact ss_bad
      | true =>
        rw [Bool.and_eq_true, Bool.and_eq_true, Bool.not_eq_true'] at hb
        have hl := isLocK_ok hb.1.1
        rw [lkN_eq, ← G.sc] at hl
        exact snd_setLc h G elt gs scope a hl (by rw [beq_iff_eq]; exact Nat.eq_of_beq_eq_true hb.1.2) hb.2
    · cases hcmp : isComp e with
      | true => exact ss_bad
      | false => exact ss_set hC G.nd a b (snd_se h G e) (swaps_not hcmp) c
theorem snd_ss1 (h : Snd P dp L) (G : Good P dp X T) (st : Stmt) : PS X st (rdS P (callN P dp) X.K (stepS L T st)) := by
  have hC := callN_mono P dp
  unfold stepS
  split
  · exact snd_set h G _ _ _ _
  · rename_i ts k tp e pos
    cases hb : (isTupE e || isComp e) with
    | true => exact ss_bad
    | false =>
      rw [Bool.or_eq_false_iff] at hb
      rw [cond_false]
      split
      · rename_i tg htg
        obtain ⟨a, b, c⟩ := snd_tgs G 20 ts htg
        exact ss_un hC (sg_tup G.calm a b c) (h.e X T G e) (sole_not hb.2) (stores_not hb.1)
      · exact ss_bad
  · rename_i x p k sp e pos
    cases hb : (isSlice k || isComp e) with
    | true => exact ss_bad
    | false =>
      rw [Bool.or_eq_false_iff] at hb
      rw [cond_false]
      split
      · rename_i j hj
        obtain ⟨a, b, c, d⟩ := G.vis hj
        exact ss_setIx hC a b c d (h.e X T G k) (h.e X T G e) (sole_not hb.2) stores_sub (assign_sub hb.1) rfl
      · exact ss_bad
  · rename_i x p op e pos
    split
    · rename_i i o hi ho
      obtain ⟨a, b, c⟩ := G.sto hi
      cases op <;> cases ho
      · exact ss_aug hC rfl G.nd a b (h.e X T G e) ipo_add c
      · exact ss_aug hC rfl G.nd a b (h.e X T G e) ipo_sub c
    · exact ss_bad
  · exact ss_doc
  · rename_i x p m apos es kws cpos pos
    cases hm : (sEq m "append" && Nat.beq apos.endLine cpos.line) with
    | false => exact ss_exp hC (h.e X T G _) rfl
    | true =>
      rw [Bool.and_eq_true] at hm
      have em := sEq_iff.mp hm.1
      subst em
      have hline : (apos.endLine == cpos.line) = true := by rw [beq_iff_eq]; exact Nat.eq_of_beq_eq_true hm.2
      rw [cond_true]
      split
      · rename_i a
        cases hs : isStar a with
        | true => exact ss_bad
        | false =>
          rw [cond_false]
          split
          · rename_i j hj
            obtain ⟨a1, b1, c1, d1⟩ := G.vis hj
            exact ss_app hC a1 b1 c1 d1 (sas_cons hC (sd_ex hC (h.e X T G _)) sas_nil (starEach_cons hs)) rfl (few1 hs) hline (starEach_cons hs) rfl
          · exact ss_bad
      · exact ss_bad
  · rename_i e pos _ _
    cases hcmp : isComp e with
    | true => exact ss_bad
    | false => exact ss_exp hC (h.e X T G e) (swaps_not hcmp)
  · exact ss_if hC (h.t X T G _) (snd_ss h G _) (snd_ss h G _)
  · rename_i tg iter body pos
    split
    · rename_i t ht
      rcases snd_fold L T tg iter (env := X.env) with ⟨a, b, c, rfl⟩ | z
      · exact ⟨fun pins s σ H D I q => (for_bad q).elim⟩
      · exact ss_for hC G.po G.calm (snd_it h G tg iter) (snd_tg G 20 tg ht) (snd_ss h G body) z
    · exact ss_bad
  · exact ss_whl hC G.po (h.t X T G _) (snd_ss h G _)
  · exact ss_retN
  · split
    · rename_i i hi
      obtain ⟨a, b, c, d⟩ := G.vis hi
      exact ss_retv a b c d
    · exact ss_bad
  · exact ss_ret hC (h.e X T G _)
  · exact ss_brk
  · exact ss_cnt
  · exact ss_pass
  · exact ss_bad
theorem snd_step (h : Snd P dp L) : Snd P dp (stepL L) :=
  ⟨fun X T G e => snd_se h G e, fun X T G e => (snd_st h G e).1, fun X T G op es pos => (snd_st h G _).2 op es pos rfl, fun X T G e => snd_sd h G e, fun X T G st => snd_ss1 h G st⟩
theorem snd_lvl : ∀ n, Snd P dp (lvl n)
  | 0 => snd_bad
  | n + 1 => snd_step (snd_lvl n)
theorem snd_body (G : Good P dp X T) (b : List Stmt) : PSs X b (rdSs P (callN P dp) X.K (trBody T b)) := snd_ss (snd_lvl 40) G b
end
end IR
namespace IR
open PySem PySem.Spec L2 PyProof.Rows
section
variable {K : PySem.W.Frag} {F : Fm} {own : Own} {H : Hp} {O ex : AS} {v : PV} {x : V}
theorem ArgRs.get : ∀ {l : List PV} {xs : List V} {i : Nat} {v : PV}, ArgRs K H O ex l xs → l[i]? = some v → ∃ x, xs[i]? = some x ∧ ArgR K H O ex v x
  | _, _, _, _, .nil, e => by simp at e
  | _, _, 0, _, .cons r _, e => by simp at e; subst e; exact ⟨_, rfl, r⟩
  | _, _, i + 1, d, .cons _ t, e => by
    obtain ⟨x, h1, h2⟩ := ArgRs.get (i := i) (v := d) t (by simpa using e)
    exact ⟨x, by simpa using h1, h2⟩
theorem RV.weak {A A' : AS} (h : ∀ b, A' b → A b) (r : RV K H A v x) : RV K H A' v x := r.kp (Kp.mk (W := fun _ => False) (fun _ _ q _ => q) (fun _ z => z.elim) (fun _ _ z => z.elim) fun b z => .inl (h b z))
theorem RVs.weak {A A' : AS} {l : List PV} {vs : List V} (h : ∀ b, A' b → A b) (r : RVs K H A l vs) : RVs K H A' l vs := r.kp (Kp.mk (W := fun _ => False) (fun _ _ q _ => q) (fun _ z => z.elim) (fun _ _ z => z.elim) fun b z => .inl (h b z))
theorem rd_ne {a : Addr} {u : HO} (r : Rd H a u) : H a ≠ none := by
  obtain ⟨o, e⟩ := rd_some r
  rw [e]; exact fun z => by cases z
theorem arg_slot {i : Nat} (r : ArgR K H O ex v x) (hB : ∀ a, ¬ ex a → H a ≠ none → F.B a) (hA : ∀ b, Av F own b → O b) (hx : ∀ a, ex a → O a) : SlotR K F own H i (if mutv v then .l else .b) v x := by
  rcases r with r | ⟨a, l, vs, rfl, rfl, hn, h, rr⟩
  · cases hm : mutv v with
    | false =>
      rw [if_neg Bool.false_ne_true]
      exact r.weak hA
    | true =>
      rw [if_pos rfl]
      cases r with
      | lst n h rr => exact ⟨_, rfl, _, h, hB _ (fun z => n (hx _ z)) (rd_ne h), rr.weak hA⟩
      | _ => cases hm
  · exact ⟨a, rfl, vs, h, hB a hn (rd_ne h), rr.weak hA⟩
theorem app_none {A : List (Option (Tag × PV))} {n i : Nat} {y : Tag × PV} (h : (A ++ List.replicate n none)[i]? = some (some y)) : A[i]? = some (some y) := by
  by_cases hi : i < A.length
  · rwa [List.getElem?_append_left hi] at h
  · rw [List.getElem?_append_right (by omega), List.getElem?_replicate] at h
    split at h <;> cases h
theorem start_get {N : List Str} {vs : List V} {i : Nat} (h : vs[i]? = some x) : (L2.start N vs)[i]? = some (some x) := by
  have hi : i < (vs.map some).length := by
    rw [List.length_map]
    exact (List.getElem?_eq_some_iff.mp h).1
  unfold L2.start
  rw [List.getElem?_append_left hi, List.getElem?_map, h]
  rfl
theorem argSl_get {l : List PV} {i : Nat} {t : Tag} (h : (l.map argSl)[i]? = some (some (t, v))) : l[i]? = some v ∧ t = if mutv v then .l else .b := by
  rw [List.getElem?_map] at h
  cases e : l[i]? with
  | none => rw [e] at h; cases h
  | some w =>
    rw [e] at h
    have h' : argSl w = some (t, v) := Option.some.inj h
    unfold argSl at h'
    cases h'
    exact ⟨rfl, rfl⟩
theorem start_len {N : List Str} {vs : List V} : (L2.start N vs).length = vs.length + (N.length - vs.length) := by unfold L2.start; simp
/-- what stands at a def's entry -/
theorem init_rel {fd : FD} {N : List Str} {pvs : List PV} {vs : List V} (hAr : ArgsR K fd.md H O pvs vs) (hp : pvs.length = fd.np) (hv : vs.length = fd.np) (hN : fd.ns = N.length) (dom : ∀ b, O b → H b ≠ none) :
    ∃ F own, Rel K F own (initEnv fd pvs) (L2.start N vs) H ∧ F.O = O ∧ (∀ i a, own i = some a → i = 0 ∧ ioA fd.md vs a) ∧ (fd.md = .io → ∃ a r, vs = .ref a :: r ∧ (0, a) ∈ F.L) := by
  cases hm : fd.md with
  | rd =>
    rw [hm] at hAr
    have ar : ArgRs K H O (fun _ => False) pvs vs := hAr
    have eE : initEnv fd pvs = pvs.map argSl ++ List.replicate (fd.ns - pvs.length) none := by
      unfold initEnv
      rw [hm]
    refine ⟨⟨[], O, fun a => H a ≠ none⟩, fun _ => none, ⟨?_, fun i t v e => ?_, dom, fun a h => h, fun i a h => (by cases h), fun i j a h => (by cases h), fun i a h => (by cases h), fun p hp => by cases hp⟩, rfl, fun i a h => (by cases h), fun h => by cases h⟩
    · rw [eE, start_len, List.length_append, List.length_map, List.length_replicate]; omega
    · rw [eE] at e
      obtain ⟨e1, rfl⟩ := argSl_get (app_none e)
      obtain ⟨x, hx, r⟩ := ar.get e1
      exact ⟨x, start_get hx, arg_slot r (fun a _ h => h) (fun b z => z.elim id fun ⟨_, z⟩ => by cases z) fun a z => z.elim⟩
  | scr =>
    rw [hm] at hAr
    obtain ⟨a0, ns, r0, vr, rfl, rfl, sc, ar⟩ := hAr
    have eE : initEnv fd (.list (ns.map PyData.int) :: r0) = some (.s, .list (ns.map PyData.int)) :: r0.map argSl ++ List.replicate (fd.ns - (r0.length + 1)) none := by
      unfold initEnv
      rw [hm]
      rfl
    refine ⟨⟨[], O, fun a => H a ≠ none⟩, fun _ => none, ⟨?_, fun i t v e => ?_, dom, fun a h => h, fun i a h => (by cases h), fun i j a h => (by cases h), fun i a h => (by cases h), fun p hp => by cases hp⟩, rfl, fun i a h => (by cases h), fun h => by cases h⟩
    · rw [eE, start_len, List.length_append, List.length_cons, List.length_map, List.length_replicate]
      simp only [List.length_cons] at hp hv ⊢
      omega
    · rw [eE] at e
      have e' := app_none e
      cases i with
      | zero =>
        cases e'
        exact ⟨.ref a0, start_get rfl, a0, ns, rfl, rfl, sc⟩
      | succ i =>
        obtain ⟨e1, rfl⟩ := argSl_get (show (r0.map argSl)[i]? = some (some (t, v)) by simpa using e')
        obtain ⟨x, hx, r⟩ := ar.get e1
        exact ⟨x, start_get (by simpa using hx), arg_slot r (fun a _ h => h) (fun b z => z.elim id fun ⟨_, z⟩ => by cases z) fun a z => z.elim⟩
  | io =>
    rw [hm] at hAr
    obtain ⟨a0, l, ws, r0, vr, rfl, rfl, Oa, eH, rr, ar⟩ := hAr
    have eE : initEnv fd (.list l :: r0) = some (.m, .list l) :: r0.map argSl ++ List.replicate (fd.ns - (r0.length + 1)) none := by
      unfold initEnv
      rw [hm]
      rfl
    let ow : Own := fun i => if i = 0 then some a0 else none
    have owE : ∀ {i a}, ow i = some a → i = 0 ∧ a = a0 := fun {i a} h => by
      by_cases z : i = 0
      · subst z; cases h; exact ⟨rfl, rfl⟩
      · have : ow i = none := if_neg z
        rw [this] at h; cases h
    have hA : ∀ b, Av ⟨[(0, a0)], O, fun a => H a ≠ none ∧ a ≠ a0⟩ ow b → O b := fun b z => z.elim id fun ⟨i, z⟩ => by rw [(owE z).2]; exact Oa
    refine ⟨⟨[(0, a0)], O, fun a => H a ≠ none ∧ a ≠ a0⟩, ow, ⟨?_, fun i t v e => ?_, dom, fun a h => h.1, fun i a h z => z.2 (owE h).2, fun i j a h1 h2 => by rw [(owE h1).1, (owE h2).1], fun i a h => ?_, fun p hp => ?_⟩, rfl, fun i a h => ⟨(owE h).1, rfl, vr, by rw [(owE h).2]⟩, fun _ => ⟨a0, vr, rfl, List.mem_cons_self ..⟩⟩
    · rw [eE, start_len, List.length_append, List.length_cons, List.length_map, List.length_replicate]
      simp only [List.length_cons] at hp hv ⊢
      omega
    · rw [eE] at e
      have e' := app_none e
      cases i with
      | zero =>
        cases e'
        exact ⟨.ref a0, start_get rfl, a0, rfl, rfl, ws, eH, rr.weak hA⟩
      | succ i =>
        obtain ⟨e1, rfl⟩ := argSl_get (show (r0.map argSl)[i]? = some (some (t, v)) by simpa using e')
        obtain ⟨x, hx, r⟩ := ar.get e1
        exact ⟨x, start_get (by simpa using hx), arg_slot r (fun a h1 h2 => ⟨h2, h1⟩) hA fun a z => by rw [z]; exact Oa⟩
    · rw [(owE h).1, eE]
      exact ⟨.m, .list l, rfl, rfl⟩
    · have e : p = (0, a0) := by simpa using hp
      subst e
      exact ⟨start_get rfl, .m, .list l, by rw [eE]; rfl, rfl⟩
/-- what a def tells at its end -/
theorem end_io {F : Fm} {own' : Own} {ρ' : Env} {σ' : L2.St} {H' : Hp} {fd : FD} {vs : List V} {A : AS} (R : Rel K F own' ρ' σ' H') (hA : ∀ b, A b → Av F own' b) (hio : fd.md = .io → ∃ a r, vs = .ref a :: r ∧ (0, a) ∈ F.L) (hm : fd.md = .io → ∃ w, ρ'[0]? = some (some (.m, w))) :
    IoR K fd.md A H' vs (ioVal fd ρ') ∧ (fd.md = .io → ∃ a r, vs = .ref a :: r ∧ own' 0 = some a) := by
  have go : fd.md = .io → ∃ a r l ws, vs = .ref a :: r ∧ ioVal fd ρ' = some (.list l) ∧ H' a = some (.lst ws) ∧ RVs K H' A l ws ∧ own' 0 = some a := fun h => by
    obtain ⟨a, r, rfl, hL⟩ := hio h
    obtain ⟨w, hw⟩ := hm h
    obtain ⟨e1, _⟩ := R.pin _ hL
    obtain ⟨x, ex, s⟩ := R.slot 0 .m w hw
    obtain ⟨b, eb, rfl, m⟩ := s
    have e1' : σ'[0]? = some (some (.ref a)) := e1
    rw [ex] at e1'
    cases e1'
    obtain ⟨l, ws, rfl, eH, rr⟩ := m.shape
    refine ⟨a, r, l, ws, rfl, ?_, eH, rr.weak hA, eb⟩
    unfold ioVal
    rw [h]
    show peek ρ' 0 = _
    unfold peek
    rw [hw]
    rfl
  exact ⟨fun h => by
    obtain ⟨a, r, l, ws, h1, h2, h3, h4, _⟩ := go h
    exact ⟨a, r, l, ws, h1, h2, h3, h4⟩, fun h => by
    obtain ⟨a, r, l, ws, h1, h2, h3, h4, h5⟩ := go h
    exact ⟨a, r, h1, h5⟩⟩
theorem end_keep {own' : Own} {H' : Hp} {md : Mode} {vs : List V} (l : Later own H own' H') (ho : ∀ i a, own i = some a → i = 0 ∧ ioA md vs a) : ∀ b o, H b = some o → ¬ ioA md vs b → H' b = some o :=
  fun b o e n => l.keep b o e fun i z => n (ho i b z).2
theorem end_post {own' : Own} {ρ' : Env} {σ' : L2.St} {H' : Hp} {fd : FD} {vs : List V} (hO : F.O = O) (dom : ∀ b, O b → H b ≠ none) (ho : ∀ i a, own i = some a → i = 0 ∧ ioA fd.md vs a) (hio : fd.md = .io → ∃ a r, vs = .ref a :: r ∧ (0, a) ∈ F.L)
    (hm : fd.md = .io → ∃ w, ρ'[0]? = some (some (.m, w))) (r : RetR K F own H v ρ' own' σ' x H') : PostC K fd.md O H H' vs v (ioVal fd ρ') x := by
  obtain ⟨R, l, h1, h2⟩ := r
  have toA : ∀ b, O b → Av F own' b := fun b z => .inl (by rw [hO]; exact z)
  have fresh : ∀ {a}, (∀ i, own' i ≠ some a) → ((∃ j, own j = some a) ∨ H a = none) → H a = none := fun {a} n o => by
    rcases o with ⟨j, o⟩ | o
    · obtain ⟨rfl, hi⟩ := ho j a o
      obtain ⟨b, r, e, z⟩ := (end_io R toA hio hm).2 hi.1
      obtain ⟨r', e'⟩ := hi.2
      rw [e] at e'
      cases e'
      exact absurd z (n 0)
    · exact o
  refine ⟨end_keep l ho, ?_, (end_io R toA hio hm).1, fun hv => ?_⟩
  · cases hv : mutv v with
    | false => exact (h1 hv).weak toA
    | true =>
      obtain ⟨a, rfl, R2, m, n, o⟩ := h2 hv
      obtain ⟨ll, ws, rfl, eH, rr⟩ := m.shape
      refine .lst (fun z => dom a z (fresh n o)) (.inl eH) (rr.weak fun b z => (Av_add b).mpr (.inl (toA b z)))
  · obtain ⟨a, rfl, R2, m, n, o⟩ := h2 hv
    obtain ⟨ll, ws, rfl, eH, rr⟩ := m.shape
    have toB : ∀ b, (O b ∨ b = a) → Av (F.add a) own' b := fun b z => (Av_add b).mpr (z.imp (toA b) id)
    exact ⟨a, rfl, fresh n o, ⟨ws, eH, rr.weak toB⟩, (end_io R2 toB hio hm).1⟩
end

/-! ### the defs of a text -/
structure DefS where
  d : DefI
  st : Stmt
  N : List Str
def DefS.tc (S : DefS) (bl : List Str) (defs : List DefI) (kws : List KwI) : TC := { N := S.N, sc := defScope S.st, cl := true, bl := bl, defs := defs, kws := kws }
structure DefOk (P : Nat → Option FD) (bl : List Str) (defs : List DefI) (kws : List KwI) (S : DefS) : Prop where
  sc : FnScope S.N S.d.ps (defScope S.st)
  fd : ∃ fd, P S.d.id = some fd ∧ fd.ns = S.N.length ∧ fd.np = S.d.ps.length ∧ trBody (S.tc bl defs kws) (defBody S.st) = fd.body
structure DefIn (K : PySem.W.Frag) (mg : Str → Option Value) (kws : List KwI) (S : DefS) : Prop where
  ex : ∃ (f : Addr) (fdt : FuncData), L2.Fun K S.d.name S.d.name S.st f fdt ∧ mg S.d.name = some (.ref f) ∧ Binds K fdt S.d.ps [] ∧
    ∀ k ∈ kws, k.id = S.d.id → ∀ (s : Shared) (us ws : List Value), K.In s.heap → us.length = k.n → ws.length = k.ks.length → BindsTo s fdt ⟨us, k.ks.zip ws⟩ (S.d.ps.zip (selL (us ++ ws) k.sel))
section
variable {P : Nat → Option FD} {prog : Program} {w : World} {K : PySem.W.Frag} {mg : Str → Option Value} {base : Heap} {bl : List Str} {defs : List DefI} {kws : List KwI} {S : DefS}
theorem spF_len {d id : Nat} {n : Nat} (h : ∀ fd, P id = some fd → fd.np = n) : ∀ vs H Q E, spF P d id K vs H Q E → vs.length = n := fun vs H Q E ⟨O, fd, pvs, hP, _, _, _, hl, _⟩ => by rw [hl]; exact h fd hP
theorem fn_zero (ok : DefOk P bl defs kws S) (i : DefIn K mg kws S) : FnFacts P prog w K mg base kws 0 S.d := by
  obtain ⟨fd, h1, h2, h3, h4⟩ := ok.fd
  have np : ∀ fd', P S.d.id = some fd' → fd'.np = S.d.ps.length := fun fd' h => by rw [h1] at h; cases h; exact h3
  obtain ⟨f, fdt, hF, hm, hb, hk⟩ := i.ex
  refine ⟨np, f, fdt, hm, hF.kp, ⟨spF_len np, fun A outer s H args us vs Q E hr he hbd hv hs => ?_⟩, hb, hk⟩
  obtain ⟨O, fd', pvs, _, _, _, _, _, c⟩ := hs
  unfold callN at c
  exact c.elim
theorem fn_succ (k : Nat) (hbl : ∀ x ∈ bl, mg x = none) (ok : DefOk P bl defs kws S) (i : DefIn K mg kws S) (ff : ∀ D ∈ defs, FnFacts P prog w K mg base kws k D) : FnFacts P prog w K mg base kws (k + 1) S.d := by
  obtain ⟨fd, h1, h2, h3, h4⟩ := ok.fd
  have np : ∀ fd', P S.d.id = some fd' → fd'.np = S.d.ps.length := fun fd' h => by rw [h1] at h; cases h; exact h3
  obtain ⟨f, fdt, hF, hm, hb, hk⟩ := i.ex
  refine ⟨np, f, fdt, hm, hF.kp, hF.ok ok.sc (spF_len np) fun cdv A outer s H vs Q E hr hsp => ?_, hb, hk⟩
  obtain ⟨O, fd', pvs, hP, dom, hAr, hpl, hvl, c⟩ := hsp
  rw [h1] at hP; cases hP
  unfold callN at c
  obtain ⟨fd', hP, e1, e2, e3, c⟩ := c
  rw [h1] at hP; cases hP
  have G : Good P k (cxOf CX0 prog w K mg base S.N S.d.name (defScope S.st) f cdv A outer s H E).nox (S.tc bl defs kws) :=
    { N := rfl, nd := ok.sc.nd, sc := rfl, fk := ok.sc.kind, calm := rfl, fn := fun _ _ => rfl, room := hr, po := PassesOwn.never, bl := hbl, ff := ff }
  refine ⟨_, snd_body G (defBody S.st), ?_⟩
  rw [h4]
  obtain ⟨F, own, R, hO, ho, hio⟩ := init_rel hAr hpl hvl h2 dom
  refine ⟨F, own, initEnv fd pvs, R, wpSs_mono (callN_mono P k) _ _ ⟨?_, ?_, fun _ (q : False) => q.elim, fun _ (q : False) => q.elim⟩ c⟩
  · exact fun ρ' q own' σ' H' R' l => q.2 _ _ (end_post hO dom ho hio q.1 ⟨R', l, fun _ => .non, fun hv => (by cases hv)⟩)
  · exact fun v ρ' q own' σ' x H' r => q.2 _ _ (end_post hO dom ho hio q.1 r)
/-- every def of the text, whatever the depth -/
theorem fn_all (defS : List DefS) (hd : defs = defS.map DefS.d) (hbl : ∀ x ∈ bl, mg x = none) (ok : ∀ S ∈ defS, DefOk P bl defs kws S) (i : ∀ S ∈ defS, DefIn K mg kws S) : ∀ (k : Nat), ∀ S ∈ defS, FnFacts P prog w K mg base kws k S.d
  | 0, S, h => fn_zero (ok S h) (i S h)
  | k + 1, S, h => fn_succ k hbl (ok S h) (i S h) fun D hD => by
    rw [hd] at hD
    obtain ⟨S', h', rfl⟩ := List.mem_map.mp hD
    exact fn_all defS hd hbl ok i k S' h'
/-- the promise of the def whose object is known -/
theorem fn_one (k : Nat) (hbl : ∀ x ∈ bl, mg x = none) (ok : DefOk P bl defs kws S) {f : Addr} {fdt : FuncData} (hF : L2.Fun K S.d.name S.d.name S.st f fdt) (ff : ∀ D ∈ defs, FnFacts P prog w K mg base kws k D) : FnOk prog w K mg base CX0 (k + 1) f fdt S.d.ps (spF P (k + 1) S.d.id K) := by
  obtain ⟨fd, h1, h2, h3, h4⟩ := ok.fd
  have np : ∀ fd', P S.d.id = some fd' → fd'.np = S.d.ps.length := fun fd' h => by rw [h1] at h; cases h; exact h3
  refine hF.ok ok.sc (spF_len np) fun cdv A outer s H vs Q E hr hsp => ?_
  obtain ⟨O, fd', pvs, hP, dom, hAr, hpl, hvl, c⟩ := hsp
  rw [h1] at hP; cases hP
  unfold callN at c
  obtain ⟨fd', hP, e1, e2, e3, c⟩ := c
  rw [h1] at hP; cases hP
  have G : Good P k (cxOf CX0 prog w K mg base S.N S.d.name (defScope S.st) f cdv A outer s H E).nox (S.tc bl defs kws) :=
    { N := rfl, nd := ok.sc.nd, sc := rfl, fk := ok.sc.kind, calm := rfl, fn := fun _ _ => rfl, room := hr, po := PassesOwn.never, bl := hbl, ff := ff }
  refine ⟨_, snd_body G (defBody S.st), ?_⟩
  rw [h4]
  obtain ⟨F, own, R, hO, ho, hio⟩ := init_rel hAr hpl hvl h2 dom
  refine ⟨F, own, initEnv fd pvs, R, wpSs_mono (callN_mono P k) _ _ ⟨?_, ?_, fun _ (q : False) => q.elim, fun _ (q : False) => q.elim⟩ c⟩
  · exact fun ρ' q own' σ' H' R' l => q.2 _ _ (end_post hO dom ho hio q.1 ⟨R', l, fun _ => .non, fun hv => (by cases hv)⟩)
  · exact fun v ρ' q own' σ' x H' r => q.2 _ _ (end_post hO dom ho hio q.1 r)
end

/-! ### a law's end -/
theorem scr_of {K : PySem.W.Frag} {H : Hp} {a : Addr} {ns : List Int} (hO : Only H) (h : SqL K H a (ns.map V.int)) : ScrAt K H a ns := by
  rcases h with (h | ⟨o, h⟩) | h
  · rcases hO a with z | ⟨o, xs, z⟩ <;> rw [h] at z <;> cases z
  · exact .inl ⟨o, h⟩
  · exact .inr h
/-- the law's promise from the small language's -/
theorem law_sp {P : Nat → Option FD} {K : PySem.W.Frag} {H : Hp} {a : Addr} {ns : List Int} {k id : Nat} {fd : FD} (hP : P id = some fd) (hm : fd.md = .scr) (hn : fd.np = 1) (hO : Only H) (hS : SqL K H a (ns.map V.int))
    (h : callN P k id [.list (ns.map PyData.int)] fun v _ => v = .bool true) : spF P k id K [.ref a] H (fun v _ => v = .bl true) fun _ _ _ => False := by
  refine ⟨fun _ => False, fd, [.list (ns.map PyData.int)], hP, fun b z => z.elim, ?_, by rw [hn]; rfl, by rw [hn]; rfl, callN_mono P k _ _ _ _ (fun v ov e x H' p => ?_) h⟩
  · rw [hm]
    exact ⟨a, ns, [], [], rfl, rfl, scr_of hO hS, .nil⟩
  · subst e
    have r := p.val
    cases r
    rfl
/-- a def of the written part -/
theorem defIn_of {K : PySem.W.Frag} {mg : Str → Option Value} {h : Heap} {kws : List KwI} {S : DefS} {f : Addr} {od an : Option Addr} {sl : Array (Option Value)} {oc kV dc pm cd ct : Value} (X : K.In h) (G : h.Ns mainGlobals mg)
    (hb : ∀ (kV doc pm : Value) (an : Option Addr) (cdv ct : Value) (us : List Value), us.length = S.d.ps.length → bindArgs (PySem.W.fnOf S.d.name S.d.name (defArgs S.st) (defBody S.st) (defScope S.st) .none kV doc pm an cdv ct) ⟨us, []⟩ = pure (S.d.ps.zip us))
    (hk : ∀ k ∈ kws, k.id = S.d.id → ∀ (kV doc pm : Value) (an : Option Addr) (cdv ct : Value) (us ws : List Value), us.length = k.n → ws.length = k.ks.length → bindArgs (PySem.W.fnOf S.d.name S.d.name (defArgs S.st) (defBody S.st) (defScope S.st) .none kV doc pm an cdv ct) ⟨us, k.ks.zip ws⟩ = pure (S.d.ps.zip (selL (us ++ ws) k.sel)))
    (a : PySem.W.nsIn K mainGlobals S.d.name = some (some (.ref f))) (l : K.lookup f = some ⟨oc, od, .func (PySem.W.fnOf S.d.name S.d.name (defArgs S.st) (defBody S.st) (defScope S.st) .none kV dc pm an cd ct), sl⟩) (c : PySem.W.codeIn K cd S.d.name = true) (k : PySem.W.keepIn K (.ref f) = true) :
    DefIn K mg kws S := by
  have F1 := fun_mk l c k
  exact ⟨f, _, F1, PySem.W.mg_of X G a, F1.binds hb, fun k' hk' hid s us ws _ h1 h2 => .of_eq (hk k' hk' hid kV dc pm an cd ct us ws h1 h2)⟩
/-- the law's own head -/
theorem law_head {P : Nat → Option FD} {prog : Program} {w : World} {K : PySem.W.Frag} {mg : Str → Option Value} {bl : List Str} {defs : List DefI} {kws : List KwI} {S : DefS} {fa : Addr} (defS : List DefS) (hd : defs = defS.map DefS.d) (hbl : ∀ x ∈ bl, mg x = none)
    (ok : ∀ S ∈ defS, DefOk P bl defs kws S) (i : ∀ S ∈ defS, DefIn K mg kws S) (hS : S ∈ defS) (hfa : mg S.d.name = some (.ref fa)) {x : Str} (hx : S.d.ps = [x]) (k : Nat)
    (hb : ∀ (kV doc pm : Value) (an : Option Addr) (cdv ct u : Value), bindArgs (PySem.W.fnOf S.d.name S.d.name (defArgs S.st) (defBody S.st) (defScope S.st) .none kV doc pm an cdv ct) ⟨[u], []⟩ = pure [(x, u)]) :
    ∃ fd : FuncData, (∀ (s : Shared) (u : Value), BindsTo s fd ⟨[u], []⟩ [(x, u)]) ∧ ∀ base : Heap, K.In base → base.Ns mainGlobals mg → FnOk prog w K mg base CX0 (k + 1) fa fd [x] (spF P (k + 1) S.d.id K) := by
  obtain ⟨f, fdt, hF, hm, _, _⟩ := (i S hS).ex
  rw [hfa] at hm
  cases hm
  refine ⟨fdt, fun s u => ?_, fun base _ _ => ?_⟩
  · obtain ⟨oc, od, kV, doc, pm, an, cdv, ct, osl, rfl, _, _⟩ := hF.ex
    exact .of_eq (hb kV doc pm an cdv ct u)
  · rw [← hx]
    refine fn_one k hbl (ok S hS) hF fun D hD => ?_
    rw [hd] at hD
    obtain ⟨S', h', rfl⟩ := List.mem_map.mp hD
    exact fn_all defS hd hbl ok i k S' h'
end IR
namespace IR
open PySem

/-! ### calls -/
theorem call_go {P : Nat → Option FD} {d f : Nat} {fd : FD} {vs : List PV} {Q : PV → Option PV → Prop} (h : P f = some fd) (w : bodyP P (callN P d) fd vs Q) : callN P (d + 1) f vs Q := by
  unfold callN
  exact ⟨fd, h, w⟩

/-! ### loops by invariants -/
section
variable {P : Nat → Option FD} {C : CallP}
theorem for_go (hC : MonoC C) {it : IT} {tg : Tg} {body : ISs} {ρ : Env} {D : Ends} (h : wpIt P C it ρ fun xs lk ρ1 => ∃ I : Nat → Env → Prop, I 0 ρ1 ∧ (∀ i ρ, I i ρ → chk lk ρ) ∧
    (∀ i x ρ, xs[i]? = some x → I i ρ → wpTg tg x ρ fun ρ2 => wpSs P C body ρ2 { nx := I (i + 1), ct := I (i + 1), bk := fun ρ' => chk lk ρ' ∧ D.nx (unlock lk ρ'), rt := D.rt }) ∧ ∀ ρ, I xs.length ρ → D.nx (unlock lk ρ)) :
    wpS P C (.for_ it tg body) ρ D := by
  unfold wpS
  refine wpIt_mono hC it ρ (fun xs lk ρ1 ⟨I, h0, hlk, step, hd⟩ => ?_) h
  have go : ∀ (n i : Nat) (ρ : Env), i + n = xs.length → I i ρ → forGo tg (wpSs P C body) lk D (xs.drop i) ρ := by
    intro n
    induction n with
    | zero =>
      intro i ρ e hi
      have e' : i = xs.length := by omega
      subst e'
      rw [List.drop_length]
      unfold forGo
      exact ⟨hlk _ _ hi, hd _ hi⟩
    | succ n ih =>
      intro i ρ e hi
      have hlt : i < xs.length := by omega
      rw [List.drop_eq_getElem_cons hlt]
      unfold forGo
      refine ⟨hlk _ _ hi, wpTg_mono tg _ ρ (fun ρ2 w => wpSs_mono hC body ρ2 ⟨?_, ?_, ?_, ?_⟩ w) (step i _ ρ (List.getElem?_eq_getElem hlt) hi)⟩
      · exact fun ρ' q => ih (i + 1) ρ' (by omega) q
      · exact fun v ρ' q => q
      · exact fun ρ' q => q
      · exact fun ρ' q => ih (i + 1) ρ' (by omega) q
  exact go xs.length 0 ρ1 (by omega) h0
theorem lc_go (hC : MonoC C) {own : List Nat} {it : IT} {tg : Tg} {cond elt : IE} {ρ : Env} {Q : PV → Env → Prop} (h : wpIt P C it ρ fun xs lk ρ1 => own.all (storable ρ1) = true ∧ ∃ I : Nat → List PV → Env → Prop, I 0 [] (wipe own ρ1) ∧ (∀ i acc ρ, I i acc ρ → chk lk ρ) ∧
    (∀ i x acc ρ, xs[i]? = some x → I i acc ρ → wpTg tg x ρ fun ρ2 => wpE P C cond ρ2 fun c ρ3 => ∃ t, truth c = some t ∧ if t = true then wpE P C elt ρ3 fun v ρ4 => acc.length < line ∧ I (i + 1) (acc ++ [v]) (wipe own ρ4) else I (i + 1) acc (wipe own ρ3)) ∧
    ∀ acc ρ', I xs.length acc ρ' → Q (.list acc) (unlock lk (restore ρ1 own ρ'))) : wpE P C (.lc own it tg cond elt) ρ Q := by
  unfold wpE
  refine wpIt_mono hC it ρ (fun xs lk ρ1 ⟨hst, I, h0, hlk, step, hd⟩ => ⟨hst, ?_⟩) h
  have go : ∀ (n i : Nat) (acc : List PV) (ρ : Env), i + n = xs.length → I i acc ρ → lcGo (fun x ρ R => wpTg tg x ρ fun ρ2 => wpE P C cond ρ2 fun c ρ3 => ∃ t, truth c = some t ∧ if t = true then wpE P C elt ρ3 fun v ρ4 => R (some v) ρ4 else R none ρ3) own lk (xs.drop i) acc ρ
      fun acc ρ' => Q (.list acc) (unlock lk (restore ρ1 own ρ')) := by
    intro n
    induction n with
    | zero =>
      intro i acc ρ e hi
      have e' : i = xs.length := by omega
      subst e'
      rw [List.drop_length]
      unfold lcGo
      exact ⟨hlk _ _ _ hi, hd _ _ hi⟩
    | succ n ih =>
      intro i acc ρ e hi
      have hlt : i < xs.length := by omega
      rw [List.drop_eq_getElem_cons hlt]
      unfold lcGo
      refine ⟨hlk _ _ _ hi, wpTg_mono tg _ ρ (fun ρ2 w => wpE_mono hC cond ρ2 (fun c ρ3 ⟨t, e1, w⟩ => ⟨t, e1, ?_⟩) w) (step i _ acc ρ (List.getElem?_eq_getElem hlt) hi)⟩
      refine ite_mono (fun w => wpE_mono hC elt ρ3 (fun v ρ4 q => ⟨q.1, ih (i + 1) _ _ (by omega) q.2⟩) w) (fun w => ih (i + 1) _ _ (by omega) w) w
  exact go xs.length 0 [] _ (by omega) h0
theorem whlGo_le {test : Env → (Bool → Env → Prop) → Prop} {body : Env → Ends → Prop} {D : Ends} (ht : ∀ ρ (Q Q' : Bool → Env → Prop), (∀ t ρ', Q t ρ' → Q' t ρ') → test ρ Q → test ρ Q') (hb : ∀ ρ E E', Ends.Le E E' → body ρ E → body ρ E') :
    ∀ (n m : Nat) (ρ : Env), n ≤ m → whlGo test body D n ρ → whlGo test body D m ρ
  | 0, _, _, _, w => by unfold whlGo at w; exact w.elim
  | n + 1, 0, _, h, _ => by omega
  | n + 1, m + 1, ρ, h, w => by
    unfold whlGo at w ⊢
    refine ht _ _ _ (fun t ρ1 q => ite_mono (fun q => hb _ _ _ ⟨?_, ?_, ?_, ?_⟩ q) id q) w
    · exact fun ρ' q => whlGo_le ht hb n m ρ' (by omega) q
    · exact fun v ρ' q => q
    · exact fun ρ' q => q
    · exact fun ρ' q => whlGo_le ht hb n m ρ' (by omega) q
theorem whl_go (hC : MonoC C) {c : IE} {body : ISs} {ρ : Env} {D : Ends} (I : Nat → Env → Prop) (n : Nat) (h0 : I n ρ)
    (step : ∀ n ρ, I n ρ → wpT P C c ρ fun t ρ1 => if t = true then wpSs P C body ρ1 { nx := fun ρ' => ∃ m, m < n ∧ I m ρ', ct := fun ρ' => ∃ m, m < n ∧ I m ρ', bk := D.nx, rt := D.rt } else D.nx ρ1) : wpS P C (.whl c body) ρ D := by
  unfold wpS
  have ht := fun ρ (Q Q' : Bool → Env → Prop) hQ w => wpT_mono (P := P) hC c ρ (Q := Q) (Q' := Q') hQ w
  have hb := fun ρ E E' hE w => wpSs_mono (P := P) hC body ρ (D := E) (D' := E') hE w
  refine ⟨n + 1, ?_⟩
  have go : ∀ (k n : Nat) (ρ : Env), n < k → I n ρ → whlGo (wpT P C c) (wpSs P C body) D (n + 1) ρ := by
    intro k
    induction k with
    | zero => intro n ρ h; omega
    | succ k ih =>
      intro n ρ h hI
      unfold whlGo
      have sub : ∀ ρ', (∃ m, m < n ∧ I m ρ') → whlGo (wpT P C c) (wpSs P C body) D n ρ' := fun ρ' ⟨m, hm, q⟩ => whlGo_le ht hb (m + 1) n ρ' (by omega) (ih m ρ' (by omega) q)
      exact ht _ _ _ (fun t ρ1 q => ite_mono (fun q => hb ρ1 { nx := fun ρ' => ∃ m, m < n ∧ I m ρ', ct := fun ρ' => ∃ m, m < n ∧ I m ρ', bk := D.nx, rt := D.rt } _ ⟨sub, fun v ρ' q => q, fun ρ' q => q, sub⟩ q) id q) (step n ρ hI)
  exact go (n + 1) n ρ (by omega) h0
end

/-! ### slots -/
def Bs (y : Option PV) : Option (Tag × PV) := y.map fun v => (.b, v)
theorem Bs_some {v : PV} : Bs (some v) = some (.b, v) := rfl
theorem Bs_none : Bs none = none := rfl
def stO : Option (Option (Tag × PV)) → Bool
  | some (some (t, _)) => !pinnedTag t
  | some none => true
  | none => false
@[simp] theorem storable_st {ρ : Env} {i : Nat} : storable ρ i = stO ρ[i]? := by
  unfold storable stO
  rfl
@[simp] theorem stO_Bs {y : Option PV} : stO (some (Bs y)) = true := by cases y <;> rfl
@[simp] theorem stO_b {v : PV} : stO (some (some (.b, v))) = true := rfl
@[simp] theorem stO_o {v : PV} : stO (some (some (.o, v))) = true := rfl
@[simp] theorem stO_l {v : PV} : stO (some (some (.l, v))) = true := rfl
@[simp] theorem stO_s {v : PV} : stO (some (some (.s, v))) = true := rfl
@[simp] theorem stO_m {v : PV} : stO (some (some (.m, v))) = false := rfl
@[simp] theorem stO_k {t : Tag} {v : PV} : stO (some (some (.k t, v))) = false := rfl
@[simp] theorem stO_none : stO (some none) = true := rfl
/-! ### expressions without calls and branches -/
mutual
def puE : IE → Bool
  | .con _ => true
  | .var _ => true
  | .op _ as => puAs as
  | .mkT es => puEs es
  | .mkL es => puEs es
  | .notE a => puE a
  | _ => false
def puEs : IEs → Bool
  | .nil => true
  | .cons e r => puE e && puEs r
def puD : IA → Bool
  | .sl _ => true
  | .ex e => puE e
  | .ifo _ _ _ => false
def puAs : IAs → Bool
  | .nil => true
  | .cons a r => puD a && puAs r
end
mutual
def evE : IE → Env → Option PV
  | .con v, _ => some v
  | .var i, ρ => clean ρ i
  | .op o as, ρ => (evAs o.kl as ρ).bind (evalOp o)
  | .mkT es, ρ => (evEs es ρ).bind fun vs => if vs.length ≤ line then some (.tuple vs) else none
  | .mkL es, ρ => (evEs es ρ).bind fun vs => if vs.length ≤ line then some (.list vs) else none
  | .notE a, ρ => (evE a ρ).bind fun v => (truth v).bind fun t => some (.bool !t)
  | _, _ => none
def evEs : IEs → Env → Option (List PV)
  | .nil, _ => some []
  | .cons e r, ρ => (evE e ρ).bind fun v => (evEs r ρ).bind fun vs => some (v :: vs)
def evD : Bool → IA → Env → Option PV
  | kl, .sl j, ρ => derefK kl ρ (.sl j)
  | _, .ex e, ρ => evE e ρ
  | _, _, _ => none
def evAs : Bool → IAs → Env → Option (List PV)
  | _, .nil, _ => some []
  | kl, .cons a r, ρ => (evD kl a ρ).bind fun v => (evAs kl r ρ).bind fun vs => some (v :: vs)
end
def noD (j : Nat) : IA → Bool
  | .sl i => i != j
  | .ex _ => true
  | .ifo _ _ _ => false
def noI (j : Nat) : IAs → Bool
  | .nil => true
  | .cons a r => noD j a && noI j r
def okD (a : IA) (d : Dsc) : Prop := ∀ j, noD j a = true → noSl j [d] = true
def okI (as : IAs) (ds : List Dsc) : Prop := ∀ j, noI j as = true → noSl j ds = true
theorem noSl_cons {j : Nat} {d : Dsc} {ds : List Dsc} : noSl j (d :: ds) = (noSl j [d] && noSl j ds) := by
  cases d with
  | sl i => simp [noSl]
  | vl v => simp [noSl]
/-- ask what an option holds -/
def holdsO {α : Type} (o : Option α) (Q : α → Prop) : Prop := ∃ v, o = some v ∧ Q v
theorem holdsO_some {α : Type} {v : α} {Q : α → Prop} : holdsO (some v) Q = Q v := by
  unfold holdsO
  simp
section
variable {P : Nat → Option FD} {C : CallP}
theorem peekS_of {ρ : Env} {j : Nat} {v : PV} (h : peek ρ j = some v) : peekS ρ j = some v := by
  obtain ⟨t, e, _⟩ := peek_slot h
  unfold peekS
  rw [e]
theorem derefK_S {kl : Bool} {ρ : Env} {j : Nat} {v : PV} (h : derefK kl ρ (.sl j) = some v) : peekS ρ j = some v := by
  cases kl with
  | true => exact h
  | false => exact peekS_of h
mutual
theorem ev_go (hC : MonoC C) : ∀ (e : IE) (ρ : Env) {v : PV} {Q : PV → Env → Prop}, puE e = true → evE e ρ = some v → Q v ρ → wpE P C e ρ Q
  | .con w, ρ, v, Q, _, h, q => by unfold evE at h; cases h; unfold wpE; exact q
  | .var i, ρ, v, Q, _, h, q => by unfold evE at h; unfold wpE; exact ⟨v, h, q⟩
  | .op o as, ρ, v, Q, hp, h, q => by
    unfold evE at h
    unfold puE at hp
    obtain ⟨vs, h1, h2⟩ := Option.bind_eq_some_iff.mp h
    unfold wpE
    exact evAs_go hC o.kl as ρ hp h1 fun ds e _ => ⟨vs, e, v, h2, q⟩
  | .mkT es, ρ, v, Q, hp, h, q => by
    unfold evE at h
    unfold puE at hp
    obtain ⟨vs, h1, h2⟩ := Option.bind_eq_some_iff.mp h
    unfold wpE
    refine evEs_go hC es ρ hp h1 ?_
    split at h2
    · rename_i hl; cases h2; exact ⟨hl, q⟩
    · cases h2
  | .mkL es, ρ, v, Q, hp, h, q => by
    unfold evE at h
    unfold puE at hp
    obtain ⟨vs, h1, h2⟩ := Option.bind_eq_some_iff.mp h
    unfold wpE
    refine evEs_go hC es ρ hp h1 ?_
    split at h2
    · rename_i hl; cases h2; exact ⟨hl, q⟩
    · cases h2
  | .notE a, ρ, v, Q, hp, h, q => by
    unfold evE at h
    unfold puE at hp
    obtain ⟨w, h1, h2⟩ := Option.bind_eq_some_iff.mp h
    obtain ⟨t, h3, h4⟩ := Option.bind_eq_some_iff.mp h2
    cases h4
    unfold wpE
    exact ev_go hC a ρ hp h1 ⟨t, h3, q⟩
  | .bad, _, _, _, hp, _, _ => by unfold puE at hp; cases hp
  | .ife _ _ _, _, _, _, hp, _, _ => by unfold puE at hp; cases hp
  | .andE _ _, _, _, _, hp, _, _ => by unfold puE at hp; cases hp
  | .orE _ _, _, _, _, hp, _, _ => by unfold puE at hp; cases hp
  | .chn _ _ _ _ _, _, _, _, hp, _, _ => by unfold puE at hp; cases hp
  | .call _ _, _, _, _, hp, _, _ => by unfold puE at hp; cases hp
  | .callk _ _ _, _, _, _, hp, _, _ => by unfold puE at hp; cases hp
  | .lc _ _ _ _ _, _, _, _, hp, _, _ => by unfold puE at hp; cases hp
  | .pop _ _, _, _, _, hp, _, _ => by unfold puE at hp; cases hp
theorem evEs_go (hC : MonoC C) : ∀ (es : IEs) (ρ : Env) {vs : List PV} {Q : List PV → Env → Prop}, puEs es = true → evEs es ρ = some vs → Q vs ρ → wpEs P C es ρ Q
  | .nil, ρ, vs, Q, _, h, q => by unfold evEs at h; cases h; unfold wpEs; exact q
  | .cons e r, ρ, vs, Q, hp, h, q => by
    unfold evEs at h
    unfold puEs at hp
    rw [Bool.and_eq_true] at hp
    obtain ⟨v, h1, h2⟩ := Option.bind_eq_some_iff.mp h
    obtain ⟨ws, h3, h4⟩ := Option.bind_eq_some_iff.mp h2
    cases h4
    unfold wpEs
    exact ev_go hC e ρ hp.1 h1 (evEs_go hC r ρ hp.2 h3 q)
theorem evD_go (hC : MonoC C) (kl : Bool) : ∀ (a : IA) (ρ : Env) {v : PV} {Q : Dsc → Env → Prop}, puD a = true → evD kl a ρ = some v → (∀ d, derefK kl ρ d = some v → okD a d → Q d ρ) → wpD P C a ρ Q
  | .sl j, ρ, v, Q, _, h, q => by
    unfold evD at h
    unfold wpD
    exact ⟨⟨v, derefK_S h⟩, q _ h fun i hi => by
      show (j != i && true) = true
      rw [Bool.and_true]; exact hi⟩
  | .ex e, ρ, v, Q, hp, h, q => by
    unfold evD at h
    unfold puD at hp
    unfold wpD
    exact ev_go hC e ρ hp h (q _ rfl fun _ _ => rfl)
  | .ifo _ _ _, _, _, _, hp, _, _ => by unfold puD at hp; cases hp
theorem evAs_go (hC : MonoC C) (kl : Bool) : ∀ (as : IAs) (ρ : Env) {vs : List PV} {Q : List Dsc → Env → Prop}, puAs as = true → evAs kl as ρ = some vs → (∀ ds, derefsK kl ρ ds = some vs → okI as ds → Q ds ρ) → wpAs P C as ρ Q
  | .nil, ρ, vs, Q, _, h, q => by unfold evAs at h; cases h; unfold wpAs; exact q _ rfl fun _ _ => rfl
  | .cons a r, ρ, vs, Q, hp, h, q => by
    unfold evAs at h
    unfold puAs at hp
    rw [Bool.and_eq_true] at hp
    obtain ⟨v, h1, h2⟩ := Option.bind_eq_some_iff.mp h
    obtain ⟨ws, h3, h4⟩ := Option.bind_eq_some_iff.mp h2
    cases h4
    unfold wpAs
    exact evD_go hC kl a ρ hp.1 h1 fun d hd od => evAs_go hC kl r ρ hp.2 h3 fun ds hds oi => q (d :: ds) (by unfold derefsK; rw [hd, hds]) fun j hj => by
      unfold noI at hj
      rw [Bool.and_eq_true] at hj
      rw [noSl_cons, od j hj.1, oi j hj.2]; rfl
end
end
section
variable {ρ : Env} {kl : Bool}
@[simp] theorem v_con {v : PV} : evE (.con v) ρ = some v := by rw [evE]
@[simp] theorem v_var {i : Nat} : evE (.var i) ρ = clean ρ i := by rw [evE]
@[simp] theorem v_op {o : Op} {as : IAs} : evE (.op o as) ρ = (evAs o.kl as ρ).bind (evalOp o) := by rw [evE]
@[simp] theorem v_mkT {es : IEs} : evE (.mkT es) ρ = (evEs es ρ).bind fun vs => if vs.length ≤ line then some (.tuple vs) else none := by rw [evE]
@[simp] theorem v_mkL {es : IEs} : evE (.mkL es) ρ = (evEs es ρ).bind fun vs => if vs.length ≤ line then some (.list vs) else none := by rw [evE]
@[simp] theorem v_not {a : IE} : evE (.notE a) ρ = (evE a ρ).bind fun v => (truth v).bind fun t => some (.bool !t) := by rw [evE]
@[simp] theorem vs_nil : evEs .nil ρ = some [] := by rw [evEs]
@[simp] theorem vs_cons {e : IE} {r : IEs} : evEs (.cons e r) ρ = (evE e ρ).bind fun v => (evEs r ρ).bind fun vs => some (v :: vs) := by rw [evEs]
@[simp] theorem vd_sl {j : Nat} : evD kl (.sl j) ρ = derefK kl ρ (.sl j) := by rw [evD]
@[simp] theorem vd_ex {e : IE} : evD kl (.ex e) ρ = evE e ρ := by rw [evD]
@[simp] theorem va_nil : evAs kl .nil ρ = some [] := by rw [evAs]
@[simp] theorem va_cons {a : IA} {r : IAs} : evAs kl (.cons a r) ρ = (evD kl a ρ).bind fun v => (evAs kl r ρ).bind fun vs => some (v :: vs) := by rw [evAs]
end
/-! ### statements, rule by rule -/
section
variable {P : Nat → Option FD} {C : CallP} {ρ : Env} {D : Ends} {Q : PV → Env → Prop}
theorem s_nil (h : D.nx ρ) : wpSs P C .nil ρ D := by rw [wpSs]; exact h
theorem s_cons {s : IS} {r : ISs} (h : wpS P C s ρ { nx := fun ρ' => wpSs P C r ρ' D, rt := D.rt, bk := D.bk, ct := D.ct }) : wpSs P C (.cons s r) ρ D := by rw [wpSs]; exact h
theorem s_set {i : Nat} {e : IE} (hC : MonoC C) {v : PV} (hp : puE e = true) (he : evE e ρ = some v) (hs : stO ρ[i]? = true) (h : D.nx (ρ.set i (some (if e.fresh && mutv v then .o else .b, v)))) : wpS P C (.set i e) ρ D := by
  rw [wpS]
  exact ev_go hC e ρ hp he ⟨by rw [storable_st]; exact hs, h⟩
theorem s_setB {i : Nat} {e : IE} (hC : MonoC C) {v : PV} (hp : puE e = true) (he : evE e ρ = some v) (hf : (e.fresh && mutv v) = false) (hs : stO ρ[i]? = true) (h : D.nx (ρ.set i (some (.b, v)))) : wpS P C (.set i e) ρ D :=
  s_set hC hp he hs (by rw [hf]; exact h)
theorem s_setO {i : Nat} {e : IE} (hC : MonoC C) {v : PV} (hp : puE e = true) (he : evE e ρ = some v) (hf : (e.fresh && mutv v) = true) (hs : stO ρ[i]? = true) (h : D.nx (ρ.set i (some (.o, v)))) : wpS P C (.set i e) ρ D :=
  s_set hC hp he hs (by rw [hf]; exact h)
theorem s_setX {i : Nat} {e : IE} (h : wpE P C e ρ fun v ρ' => setS i e.fresh v ρ' D.nx) : wpS P C (.set i e) ρ D := by rw [wpS]; exact h
theorem s_if {c : IE} {a b : ISs} (hC : MonoC C) {v : PV} {t : Bool} (hp : puE c = true) (he : evE c ρ = some v) (ht : truth v = some t) (h1 : t = true → wpSs P C a ρ D) (h2 : t = false → wpSs P C b ρ D) : wpS P C (.ife c a b) ρ D := by
  rw [wpS]
  refine ev_go hC c ρ hp he ⟨t, ht, ?_⟩
  cases t with
  | true => exact h1 rfl
  | false => exact h2 rfl
theorem s_ifX {c : IE} {a b : ISs} (h : wpE P C c ρ fun v ρ' => ∃ t, truth v = some t ∧ if t = true then wpSs P C a ρ' D else wpSs P C b ρ' D) : wpS P C (.ife c a b) ρ D := by rw [wpS]; exact h
theorem s_ret {e : IE} (hC : MonoC C) {v : PV} (hp : puE e = true) (he : evE e ρ = some v) (hf : mutv v = true → e.fresh = true) (h : D.rt v ρ) : wpS P C (.ret e) ρ D := by
  rw [wpS]
  exact ev_go hC e ρ hp he ⟨hf, h⟩
theorem s_retX {e : IE} (h : wpE P C e ρ fun v ρ' => (mutv v = true → e.fresh = true) ∧ D.rt v ρ') : wpS P C (.ret e) ρ D := by rw [wpS]; exact h
theorem s_retb {i : Nat} {v : PV} (h1 : ρ[i]? = some (some (.b, v))) (h2 : mutv v = false) (h : D.rt v ρ) : wpS P C (.retv i) ρ D := by rw [wpS]; exact ⟨.b, v, h1, .inr ⟨rfl, h2, h⟩⟩
theorem s_reto {i : Nat} {v : PV} (h1 : ρ[i]? = some (some (.o, v))) (h : D.rt v (ρ.set i none)) : wpS P C (.retv i) ρ D := by rw [wpS]; exact ⟨.o, v, h1, .inl ⟨rfl, h⟩⟩
theorem s_setIx {j : Nat} {k e : IE} (hC : MonoC C) {v : PV} {n : Int} {t : Tag} {xs : List PV} {p : Nat} (hp : puE e = true) (he : evE e ρ = some v) (hk : puE k = true) (hv : evE k ρ = some (.int n)) (hl : ρ[j]? = some (some (t, .list xs))) (ht : t = .o ∨ t = .m) (hi : L2.ixN xs.length n = some p)
    (h : D.nx (ρ.set j (some (t, .list (xs.set p v))))) : wpS P C (.setIx j k e) ρ D := by
  rw [wpS]
  refine ev_go hC e ρ hp he ⟨?_, ev_go hC k ρ hk hv ⟨t, xs, hl, ht, n, rfl, p, hi, h⟩⟩
  unfold ownd
  rcases ht with rfl | rfl <;> rw [hl]
theorem s_app {j : Nat} {e : IE} (hC : MonoC C) {v : PV} {t : Tag} {xs : List PV} (hp : puE e = true) (he : evE e ρ = some v) (hl : ρ[j]? = some (some (t, .list xs))) (ht : t = .o ∨ t = .m) (hn : xs.length < line) (h : D.nx (ρ.set j (some (t, .list (xs ++ [v]))))) : wpS P C (.app j e) ρ D := by
  rw [wpS]
  refine ⟨?_, ev_go hC e ρ hp he ⟨t, xs, hl, ht, hn, h⟩⟩
  unfold ownd
  rcases ht with rfl | rfl <;> rw [hl]
theorem s_un {ts : List Tg} {e : IE} (hC : MonoC C) {v : PV} (hp : puE e = true) (he : evE e ρ = some v) (h : wpTg (.tp ts) v ρ D.nx) : wpS P C (.un ts e) ρ D := by
  rw [wpS]
  exact ev_go hC e ρ hp he h
theorem s_aug {i : Nat} {o : Op} {e : IE} (hC : MonoC C) {a b : Int} {r : PV} (hp : puE e = true) (he : evE e ρ = some (.int b)) (hi : ρ[i]? = some (some (.b, .int a))) (hr : evalOp o [.int a, .int b] = some r) (h : D.nx (ρ.set i (some (.b, r)))) : wpS P C (.aug i o e) ρ D := by
  rw [wpS]
  refine ⟨a, by unfold clean; rw [hi], ev_go hC e ρ hp he ⟨b, rfl, r, hr, ?_, h⟩⟩
  rw [storable_st, hi]; rfl
end
/-! ### operations by values -/
section
variable {i j : Int} {xs ys : List PV}
@[simp] theorem e_add : evalOp .add [.int i, .int j] = some (.int (i + j)) := rfl
@[simp] theorem e_sub : evalOp .sub [.int i, .int j] = some (.int (i - j)) := rfl
@[simp] theorem e_mul : evalOp .mul [.int i, .int j] = if (small64 i || small64 j) = true then some (.int (i * j)) else none := rfl
@[simp] theorem e_fdiv : evalOp .fdiv [.int i, .int j] = if (decide (0 < j) && decide (j < 1073741824)) = true then some (.int (i / j)) else none := rfl
@[simp] theorem e_mod : evalOp .mod [.int i, .int j] = if 0 < j then some (.int (i % j)) else none := rfl
@[simp] theorem e_neg : evalOp .neg [.int i] = some (.int (-i)) := rfl
@[simp] theorem e_pow : evalOp .pow [.int i, .int j] = if (decide (0 ≤ j) && decide (j ≤ 1000000) && decide (i.natAbs < 2 ^ 64)) = true then some (.int (i ^ j.toNat)) else none := rfl
@[simp] theorem e_lt : evalOp .lt [.int i, .int j] = some (.bool (decide (i < j))) := rfl
@[simp] theorem e_le : evalOp .le [.int i, .int j] = some (.bool (decide (i ≤ j))) := rfl
@[simp] theorem e_gt : evalOp .gt [.int i, .int j] = some (.bool (decide (j < i))) := rfl
@[simp] theorem e_ge : evalOp .ge [.int i, .int j] = some (.bool (decide (j ≤ i))) := rfl
@[simp] theorem e_eqi : evalOp .eq [.int i, .int j] = some (.bool (decide (i = j))) := by
  show some (PyData.bool (PyData.eqv (.int i) (.int j))) = _
  simp [PyData.eqv]
  exact Bool.eq_iff_iff.mpr (by simp)
@[simp] theorem e_nei : evalOp .ne [.int i, .int j] = some (.bool (!decide (i = j))) := by
  show some (PyData.bool (!PyData.eqv (.int i) (.int j))) = _
  simp [PyData.eqv]
  exact Bool.eq_iff_iff.mpr (by simp)
@[simp] theorem e_ixL : evalOp .ix [.list xs, .int i] = L2.atI xs i := rfl
@[simp] theorem e_ixT : evalOp .ix [.tuple xs, .int i] = L2.atI xs i := rfl
@[simp] theorem e_lenL : evalOp .len [.list xs] = some (.int xs.length) := rfl
@[simp] theorem e_lenT : evalOp .len [.tuple xs] = some (.int xs.length) := rfl
@[simp] theorem e_int : evalOp .int [.int i] = some (.int i) := rfl
@[simp] theorem e_abs : evalOp .abs [.int i] = some (.int (if i < 0 then -i else i)) := rfl
@[simp] theorem e_max : evalOp .max [.int i, .int j] = some (.int (if j > i then j else i)) := rfl
@[simp] theorem e_min : evalOp .min [.int i, .int j] = some (.int (if j < i then j else i)) := rfl
@[simp] theorem e_tupL : evalOp .tuple [.list xs] = some (.tuple xs) := rfl
@[simp] theorem e_tupT : evalOp .tuple [.tuple xs] = some (.tuple xs) := rfl
@[simp] theorem e_lisL : evalOp .list [.list xs] = some (.list xs) := rfl
@[simp] theorem e_lisT : evalOp .list [.tuple xs] = some (.list xs) := rfl
@[simp] theorem e_isTy {t : Ty} {v : PV} : evalOp (.isTy t) [v] = some (.bool (isTyB t v)) := rfl
@[simp] theorem e_isC {c v : PV} : evalOp (.isC c) [v] = (same1 c v).map .bool := rfl
@[simp] theorem e_nsC {c v : PV} : evalOp (.nsC c) [v] = (same1 c v).map fun b => .bool (!b) := rfl
@[simp] theorem tr_bool {b : Bool} : truth (.bool b) = some b := rfl
@[simp] theorem tr_int : truth (.int i) = some (i != 0) := rfl
@[simp] theorem tr_none : truth .none = some false := rfl
@[simp] theorem tr_list : truth (.list xs) = some (!xs.isEmpty) := rfl
@[simp] theorem tr_tup : truth (.tuple xs) = some (!xs.isEmpty) := rfl
end
@[simp] theorem dk_nil {kl : Bool} {ρ : Env} : derefsK kl ρ [] = some [] := rfl
@[simp] theorem dk_cons {kl : Bool} {ρ : Env} {d : Dsc} {ds : List Dsc} : derefsK kl ρ (d :: ds) = (match derefK kl ρ d, derefsK kl ρ ds with
    | some v, some vs => some (v :: vs)
    | _, _ => none) := rfl
@[simp] theorem de_nil {ρ : Env} : derefs ρ [] = some [] := rfl
@[simp] theorem de_cons {ρ : Env} {d : Dsc} {ds : List Dsc} : derefs ρ (d :: ds) = (match deref ρ d, derefs ρ ds with
    | some v, some vs => some (v :: vs)
    | _, _ => none) := rfl
@[simp] theorem dk_vl {kl : Bool} {ρ : Env} {v : PV} : derefK kl ρ (.vl v) = some v := rfl
@[simp] theorem dk_t {ρ : Env} {j : Nat} : derefK true ρ (.sl j) = peekS ρ j := rfl
@[simp] theorem dk_f {ρ : Env} {j : Nat} : derefK false ρ (.sl j) = peek ρ j := rfl
@[simp] theorem de_vl {ρ : Env} {v : PV} : deref ρ (.vl v) = some v := rfl
@[simp] theorem de_sl {ρ : Env} {j : Nat} : deref ρ (.sl j) = peek ρ j := rfl
def pkO : Option (Option (Tag × PV)) → Option PV
  | some (some (t, v)) => if isScr t = true then none else some v
  | _ => none
def psO : Option (Option (Tag × PV)) → Option PV
  | some (some (_, v)) => some v
  | _ => none
def clO : Option (Option (Tag × PV)) → Option PV
  | some (some (.b, v)) => some v
  | _ => none
@[simp] theorem peek_pk {ρ : Env} {i : Nat} : peek ρ i = pkO ρ[i]? := by unfold peek pkO; rfl
@[simp] theorem peekS_ps {ρ : Env} {i : Nat} : peekS ρ i = psO ρ[i]? := by unfold peekS psO; rfl
@[simp] theorem clean_cl {ρ : Env} {i : Nat} : clean ρ i = clO ρ[i]? := by unfold clean clO; rfl
@[simp] theorem pkO_b {v : PV} : pkO (some (some (.b, v))) = some v := rfl
@[simp] theorem pkO_o {v : PV} : pkO (some (some (.o, v))) = some v := rfl
@[simp] theorem pkO_m {v : PV} : pkO (some (some (.m, v))) = some v := rfl
@[simp] theorem pkO_l {v : PV} : pkO (some (some (.l, v))) = some v := rfl
@[simp] theorem pkO_k {t : Tag} {v : PV} : pkO (some (some (.k t, v))) = pkO (some (some (t, v))) := rfl
@[simp] theorem psO_v {t : Tag} {v : PV} : psO (some (some (t, v))) = some v := rfl
@[simp] theorem clO_b {v : PV} : clO (some (some (.b, v))) = some v := rfl
def owO : Option (Option (Tag × PV)) → Bool
  | some (some (.o, _)) => true
  | some (some (.m, _)) => true
  | _ => false
@[simp] theorem ownd_ow {ρ : Env} {i : Nat} : ownd ρ i = owO ρ[i]? := by unfold ownd owO; rfl
@[simp] theorem owO_o {v : PV} : owO (some (some (.o, v))) = true := rfl
@[simp] theorem owO_m {v : PV} : owO (some (some (.m, v))) = true := rfl
/-- a call, its def known -/
theorem cd_rd {P : Nat → Option FD} {C : CallP} {f : Nat} {fd : FD} (h : P f = some fd) (hm : fd.md = .rd) {ds : List Dsc} {ρ : Env} {Q : PV → Env → Prop} : callD P C f ds ρ Q = ∃ vs, derefs ρ ds = some vs ∧ C f vs fun v _ => Q v ρ := by
  unfold callD
  rw [h]
  simp only [Option.some.injEq, exists_eq_left', hm]
theorem cd_io {P : Nat → Option FD} {C : CallP} {f : Nat} {fd : FD} (h : P f = some fd) (hm : fd.md = .io) {ds : List Dsc} {ρ : Env} {Q : PV → Env → Prop} : callD P C f ds ρ Q = ∃ vs, derefs ρ ds = some vs ∧ ∃ j ds', ds = .sl j :: ds' ∧ noSl j ds' = true ∧ ∃ t w0, ρ[j]? = some (some (t, w0)) ∧ (t = .o ∨ t = .m) ∧
        C f vs fun v ov => ∃ w, ov = some w ∧ Q v (ρ.set j (some (t, w))) := by
  unfold callD
  rw [h]
  simp only [Option.some.injEq, exists_eq_left', hm]
theorem cd_scr {P : Nat → Option FD} {C : CallP} {f : Nat} {fd : FD} (h : P f = some fd) (hm : fd.md = .scr) {ds : List Dsc} {ρ : Env} {Q : PV → Env → Prop} : callD P C f ds ρ Q = ∃ j ds', ds = .sl j :: ds' ∧ ∃ w0, ρ[j]? = some (some (.s, w0)) ∧ ∃ vs, derefs ρ ds' = some vs ∧ C f (w0 :: vs) fun v _ => Q v ρ := by
  unfold callD
  rw [h]
  simp only [Option.some.injEq, exists_eq_left', hm]
@[simp] theorem ns_nil {j : Nat} : noSl j [] = true := rfl
@[simp] theorem ns_sl {i j : Nat} {ds : List Dsc} : noSl j (.sl i :: ds) = ((i != j) && noSl j ds) := rfl
@[simp] theorem ns_vl {j : Nat} {v : PV} {ds : List Dsc} : noSl j (.vl v :: ds) = noSl j ds := rfl
@[simp] theorem line_eq' : line = 16777216 := rfl

/-! ### the same, one statement ahead of others -/
section
variable {P : Nat → Option FD} {C : CallP} {ρ : Env} {D : Ends} {r : ISs} {v : PV} {t : Bool}
/-- a block's end: what stands behind it -/
theorem n_nil (h : wpSs P C r ρ D) : wpSs P C .nil ρ { nx := fun ρ' => wpSs P C r ρ' D, rt := D.rt, bk := D.bk, ct := D.ct } := by rw [wpSs]; exact h
theorem c_setB {i : Nat} {e : IE} (hC : MonoC C) (hp : puE e = true) (he : evE e ρ = some v) (hf : (e.fresh && mutv v) = false) (hs : stO ρ[i]? = true) (h : wpSs P C r (ρ.set i (some (.b, v))) D) : wpSs P C (.cons (.set i e) r) ρ D := s_cons (s_setB hC hp he hf hs h)
theorem c_setO {i : Nat} {e : IE} (hC : MonoC C) (hp : puE e = true) (he : evE e ρ = some v) (hf : (e.fresh && mutv v) = true) (hs : stO ρ[i]? = true) (h : wpSs P C r (ρ.set i (some (.o, v))) D) : wpSs P C (.cons (.set i e) r) ρ D := s_cons (s_setO hC hp he hf hs h)
theorem c_setX {i : Nat} {e : IE} (hC : MonoC C) (h : wpE P C e ρ fun v ρ' => stO ρ'[i]? = true ∧ wpSs P C r (ρ'.set i (some (if e.fresh && mutv v then .o else .b, v))) D) : wpSs P C (.cons (.set i e) r) ρ D :=
  s_cons (s_setX (wpE_mono hC e ρ (fun v ρ' ⟨a, b⟩ => ⟨by rw [storable_st]; exact a, b⟩) h))
theorem c_setXo {i : Nat} {e : IE} (hC : MonoC C) (hf : e.fresh = true) (h : wpE P C e ρ fun v ρ' => mutv v = true ∧ stO ρ'[i]? = true ∧ wpSs P C r (ρ'.set i (some (.o, v))) D) : wpSs P C (.cons (.set i e) r) ρ D :=
  c_setX hC (wpE_mono hC e ρ (fun v ρ' ⟨a, b, c⟩ => ⟨b, by rw [hf, a]; exact c⟩) h)
theorem c_setXb {i : Nat} {e : IE} (hC : MonoC C) (h : wpE P C e ρ fun v ρ' => mutv v = false ∧ stO ρ'[i]? = true ∧ wpSs P C r (ρ'.set i (some (.b, v))) D) : wpSs P C (.cons (.set i e) r) ρ D :=
  c_setX hC (wpE_mono hC e ρ (fun v ρ' ⟨a, b, c⟩ => ⟨b, by rw [a, Bool.and_false]; exact c⟩) h)
theorem c_if {c : IE} {a b : ISs} (hC : MonoC C) (hp : puE c = true) (he : evE c ρ = some v) (ht : truth v = some t) (h1 : t = true → wpSs P C a ρ { nx := fun ρ' => wpSs P C r ρ' D, rt := D.rt, bk := D.bk, ct := D.ct })
    (h2 : t = false → wpSs P C b ρ { nx := fun ρ' => wpSs P C r ρ' D, rt := D.rt, bk := D.bk, ct := D.ct }) : wpSs P C (.cons (.ife c a b) r) ρ D := s_cons (s_if hC hp he ht h1 h2)
theorem c_ifX {c : IE} {a b : ISs} (h : wpE P C c ρ fun v ρ' => ∃ t, truth v = some t ∧ if t = true then wpSs P C a ρ' { nx := fun ρ' => wpSs P C r ρ' D, rt := D.rt, bk := D.bk, ct := D.ct } else wpSs P C b ρ' { nx := fun ρ' => wpSs P C r ρ' D, rt := D.rt, bk := D.bk, ct := D.ct }) :
    wpSs P C (.cons (.ife c a b) r) ρ D := s_cons (s_ifX h)
theorem c_setIx {j : Nat} {k e : IE} (hC : MonoC C) {n : Int} {u : Tag} {xs : List PV} {p : Nat} (hp : puE e = true) (he : evE e ρ = some v) (hk : puE k = true) (hv : evE k ρ = some (.int n)) (hl : ρ[j]? = some (some (u, .list xs))) (ht : u = .o ∨ u = .m) (hi : L2.ixN xs.length n = some p)
    (h : wpSs P C r (ρ.set j (some (u, .list (xs.set p v)))) D) : wpSs P C (.cons (.setIx j k e) r) ρ D := s_cons (s_setIx hC hp he hk hv hl ht hi h)
theorem c_app {j : Nat} {e : IE} (hC : MonoC C) {u : Tag} {xs : List PV} (hp : puE e = true) (he : evE e ρ = some v) (hl : ρ[j]? = some (some (u, .list xs))) (ht : u = .o ∨ u = .m) (hn : xs.length < line) (h : wpSs P C r (ρ.set j (some (u, .list (xs ++ [v])))) D) : wpSs P C (.cons (.app j e) r) ρ D := s_cons (s_app hC hp he hl ht hn h)
theorem c_aug {i : Nat} {o : Op} {e : IE} (hC : MonoC C) {a b : Int} {w : PV} (hp : puE e = true) (he : evE e ρ = some (.int b)) (hi : ρ[i]? = some (some (.b, .int a))) (hr : evalOp o [.int a, .int b] = some w) (h : wpSs P C r (ρ.set i (some (.b, w))) D) : wpSs P C (.cons (.aug i o e) r) ρ D := s_cons (s_aug hC hp he hi hr h)
theorem c_for (hC : MonoC C) {it : IT} {tg : Tg} {body : ISs} (h : wpIt P C it ρ fun xs lk ρ1 => ∃ I : Nat → Env → Prop, I 0 ρ1 ∧ (∀ i ρ, I i ρ → chk lk ρ) ∧
    (∀ i x ρ, xs[i]? = some x → I i ρ → wpTg tg x ρ fun ρ2 => wpSs P C body ρ2 { nx := I (i + 1), ct := I (i + 1), bk := fun ρ' => chk lk ρ' ∧ wpSs P C r (unlock lk ρ') D, rt := D.rt }) ∧ ∀ ρ, I xs.length ρ → wpSs P C r (unlock lk ρ) D) :
    wpSs P C (.cons (.for_ it tg body) r) ρ D := s_cons (for_go hC h)
theorem c_whl (hC : MonoC C) {c : IE} {body : ISs} (I : Nat → Env → Prop) (n : Nat) (h0 : I n ρ)
    (step : ∀ n ρ, I n ρ → wpT P C c ρ fun t ρ1 => if t = true then wpSs P C body ρ1 { nx := fun ρ' => ∃ m, m < n ∧ I m ρ', ct := fun ρ' => ∃ m, m < n ∧ I m ρ', bk := fun ρ' => wpSs P C r ρ' D, rt := D.rt } else wpSs P C r ρ1 D) : wpSs P C (.cons (.whl c body) r) ρ D := s_cons (whl_go hC I n h0 step)
theorem c_ret {e : IE} (hC : MonoC C) (hp : puE e = true) (he : evE e ρ = some v) (hf : mutv v = true → e.fresh = true) (h : D.rt v ρ) : wpSs P C (.cons (.ret e) r) ρ D := s_cons (s_ret hC hp he hf h)
theorem c_retX {e : IE} (h : wpE P C e ρ fun v ρ' => (mutv v = true → e.fresh = true) ∧ D.rt v ρ') : wpSs P C (.cons (.ret e) r) ρ D := s_cons (s_retX h)
theorem c_mvo {i j : Nat} (h1 : ρ[j]? = some (some (.o, v))) (hs : stO ρ[i]? = true) (h : wpSs P C r ((ρ.set j none).set i (some (.o, v))) D) : wpSs P C (.cons (.mv i j) r) ρ D := s_cons (by rw [wpS]; exact ⟨.o, v, h1, by rw [storable_st]; exact hs, .inl ⟨rfl, h⟩⟩)
theorem c_mvb {i j : Nat} (h1 : ρ[j]? = some (some (.b, v))) (hs : stO ρ[i]? = true) (h : wpSs P C r (ρ.set i (some (.b, v))) D) : wpSs P C (.cons (.mv i j) r) ρ D := s_cons (by rw [wpS]; exact ⟨.b, v, h1, by rw [storable_st]; exact hs, .inr ⟨rfl, h⟩⟩)
theorem c_un {ts : List Tg} {e : IE} (hC : MonoC C) (hp : puE e = true) (he : evE e ρ = some v) (h : wpTg (.tp ts) v ρ fun ρ' => wpSs P C r ρ' D) : wpSs P C (.cons (.un ts e) r) ρ D := s_cons (s_un hC hp he h)
theorem c_unX {ts : List Tg} {e : IE} (h : wpE P C e ρ fun v ρ' => wpTg (.tp ts) v ρ' fun ρ' => wpSs P C r ρ' D) : wpSs P C (.cons (.un ts e) r) ρ D := s_cons (by rw [wpS]; exact h)
theorem c_expX {e : IE} (h : wpE P C e ρ fun _ ρ' => wpSs P C r ρ' D) : wpSs P C (.cons (.exp e) r) ρ D := s_cons (by rw [wpS]; exact h)
theorem c_cnt (h : D.ct ρ) : wpSs P C (.cons .cnt r) ρ D := s_cons (by rw [wpS]; exact h)
theorem c_brk (h : D.bk ρ) : wpSs P C (.cons .brk r) ρ D := s_cons (by rw [wpS]; exact h)
theorem c_pas (h : wpSs P C r ρ D) : wpSs P C (.cons .pas r) ρ D := s_cons (by rw [wpS]; exact h)
end
/-! ### what a loop walks -/
section
variable {P : Nat → Option FD} {C : CallP} {ρ : Env} {R : List PV → Lk → Env → Prop} {v w : PV} {xs ys vs : List PV} {i j : Nat} {t u : Tag}
theorem it_lstE {e : IE} (hC : MonoC C) (hp : puE e = true) (he : evE e ρ = some v) (hs : seqOf v = some xs) (h : R xs [] ρ) : wpIt P C (.lst (.ex e)) ρ R := by
  unfold wpIt wpD
  exact ev_go hC e ρ hp he ⟨v, rfl, xs, hs, h⟩
theorem lock_free (hj : ρ[j]? = some (some (t, v))) (ht : isOwn t = false) : lockD ρ (.sl j) = ([], ρ) := by
  unfold lockD
  simp only [hj, ht, Bool.false_eq_true, if_false]
theorem lock_own (hj : ρ[j]? = some (some (t, v))) (ht : isOwn t = true) : lockD ρ (.sl j) = ([(j, t, v)], ρ.set j (some (.k t, v))) := by
  unfold lockD
  simp only [hj, ht, if_true]
theorem peek_at (hj : ρ[j]? = some (some (t, v))) (hs : isScr t = false) : peek ρ j = some v := by
  unfold peek
  simp only [hj, hs, Bool.false_eq_true, if_false]
theorem peekS_at (hj : ρ[j]? = some (some (t, v))) : peekS ρ j = some v := by
  unfold peekS
  simp only [hj]
theorem it_lst (hj : ρ[j]? = some (some (t, v))) (ht : isOwn t = false) (hs : isScr t = false) (hv : seqOf v = some xs) (h : R xs [] ρ) : wpIt P C (.lst (.sl j)) ρ R := by
  unfold wpIt wpD
  refine ⟨⟨v, peekS_at hj⟩, v, peek_at hj hs, xs, hv, ?_⟩
  rw [lock_free hj ht]; exact h
theorem it_lstO (hj : ρ[j]? = some (some (t, v))) (ht : isOwn t = true) (hs : isScr t = false) (hv : seqOf v = some xs) (h : R xs [(j, t, v)] (ρ.set j (some (.k t, v)))) : wpIt P C (.lst (.sl j)) ρ R := by
  unfold wpIt wpD
  refine ⟨⟨v, peekS_at hj⟩, v, peek_at hj hs, xs, hv, ?_⟩
  rw [lock_own hj ht]; exact h
theorem it_enmE {e : IE} (hC : MonoC C) (hp : puE e = true) (he : evE e ρ = some v) (hs : seqOf v = some xs) (h : R (enmOf xs) [] ρ) : wpIt P C (.enm (.ex e)) ρ R := by
  unfold wpIt wpD
  exact ev_go hC e ρ hp he ⟨v, rfl, xs, hs, h⟩
theorem it_enm (hj : ρ[j]? = some (some (t, v))) (ht : isOwn t = false) (hs : isScr t = false) (hv : seqOf v = some xs) (h : R (enmOf xs) [] ρ) : wpIt P C (.enm (.sl j)) ρ R := by
  unfold wpIt wpD
  refine ⟨⟨v, peekS_at hj⟩, v, peek_at hj hs, xs, hv, ?_⟩
  rw [lock_free hj ht]; exact h
theorem it_enmO (hj : ρ[j]? = some (some (t, v))) (ht : isOwn t = true) (hs : isScr t = false) (hv : seqOf v = some xs) (h : R (enmOf xs) [(j, t, v)] (ρ.set j (some (.k t, v)))) : wpIt P C (.enm (.sl j)) ρ R := by
  unfold wpIt wpD
  refine ⟨⟨v, peekS_at hj⟩, v, peek_at hj hs, xs, hv, ?_⟩
  rw [lock_own hj ht]; exact h
theorem it_rng {as : IAs} (hC : MonoC C) (hp : puAs as = true) (he : evAs false as ρ = some vs) (hr : rngOf vs = some xs) (h : R xs [] ρ) : wpIt P C (.rng as) ρ R := by
  unfold wpIt
  exact evAs_go hC false as ρ hp he fun ds e _ => ⟨vs, by rw [derefs_K]; exact e, xs, hr, h⟩
theorem it_zip (hi : ρ[i]? = some (some (t, v))) (hj : ρ[j]? = some (some (u, w))) (ht : isOwn t = false) (hs : isScr t = false) (hu : isOwn u = false) (hs' : isScr u = false) (hz : zipK v w = some (xs, ys)) (hn : (i == j) = false) (h : R (zipOf xs ys) [] ρ) :
    wpIt P C (.zip (.sl i) (.sl j)) ρ R := by
  unfold wpIt wpD wpD
  refine ⟨⟨v, peekS_at hi⟩, ⟨w, peekS_at hj⟩, v, peek_at hi hs, w, peek_at hj hs', xs, ys, hz, hn, ?_⟩
  rw [lock_free hi ht, lock_free hj hu]
  exact h
theorem it_zipE {e e' : IE} (hC : MonoC C) (hp : puE e = true) (he : evE e ρ = some v) (hp' : puE e' = true) (he' : evE e' ρ = some w) (hz : zipK v w = some (xs, ys)) (h : R (zipOf xs ys) [] ρ) : wpIt P C (.zip (.ex e) (.ex e')) ρ R := by
  unfold wpIt wpD wpD
  exact ev_go hC e ρ hp he (ev_go hC e' ρ hp' he' ⟨v, rfl, w, rfl, xs, ys, hz, rfl, h⟩)
theorem it_zipL {e' : IE} (hC : MonoC C) (hi : ρ[i]? = some (some (t, v))) (ht : isOwn t = false) (hs : isScr t = false) (hp' : puE e' = true) (he' : evE e' ρ = some w) (hz : zipK v w = some (xs, ys)) (h : R (zipOf xs ys) [] ρ) : wpIt P C (.zip (.sl i) (.ex e')) ρ R := by
  unfold wpIt wpD wpD
  refine ⟨⟨v, peekS_at hi⟩, ev_go hC e' ρ hp' he' ⟨v, peek_at hi hs, w, rfl, xs, ys, hz, rfl, ?_⟩⟩
  rw [lock_free hi ht]
  exact h
end
theorem br_t {A B : Prop} (h : A) : if true = true then A else B := h
theorem br_f {A B : Prop} (h : B) : if false = true then A else B := h
/-! ### expressions with branches, calls -/
section
variable {P : Nat → Option FD} {C : CallP} {ρ : Env} {Q : PV → Env → Prop} {v : PV} {t : Bool}
theorem x_pu {e : IE} (hC : MonoC C) (hp : puE e = true) (he : evE e ρ = some v) (h : Q v ρ) : wpE P C e ρ Q := ev_go hC e ρ hp he h
theorem x_ife {c a b : IE} (hC : MonoC C) (hp : puE c = true) (he : evE c ρ = some v) (ht : truth v = some t) (h1 : t = true → wpE P C a ρ Q) (h2 : t = false → wpE P C b ρ Q) : wpE P C (.ife c a b) ρ Q := by
  rw [wpE]
  refine ev_go hC c ρ hp he ⟨t, ht, ?_⟩
  cases t with
  | true => exact h1 rfl
  | false => exact h2 rfl
theorem x_and {a b : IE} (hC : MonoC C) (hp : puE a = true) (he : evE a ρ = some v) (ht : truth v = some t) (h1 : t = true → wpE P C b ρ Q) (h2 : t = false → Q v ρ) : wpE P C (.andE a b) ρ Q := by
  rw [wpE]
  refine ev_go hC a ρ hp he ⟨t, ht, ?_⟩
  cases t with
  | true => exact h1 rfl
  | false => exact h2 rfl
theorem x_or {a b : IE} (hC : MonoC C) (hp : puE a = true) (he : evE a ρ = some v) (ht : truth v = some t) (h1 : t = false → wpE P C b ρ Q) (h2 : t = true → Q v ρ) : wpE P C (.orE a b) ρ Q := by
  rw [wpE]
  refine ev_go hC a ρ hp he ⟨t, ht, ?_⟩
  cases t with
  | true => exact h2 rfl
  | false => exact h1 rfl
theorem x_andX {a b : IE} (h : wpE P C a ρ fun v ρ' => ∃ t, truth v = some t ∧ if t = true then wpE P C b ρ' Q else Q v ρ') : wpE P C (.andE a b) ρ Q := by rw [wpE]; exact h
theorem x_orX {a b : IE} (h : wpE P C a ρ fun v ρ' => ∃ t, truth v = some t ∧ if t = true then Q v ρ' else wpE P C b ρ' Q) : wpE P C (.orE a b) ρ Q := by rw [wpE]; exact h
theorem x_notX {a : IE} (h : wpE P C a ρ fun v ρ' => ∃ t, truth v = some t ∧ Q (.bool !t) ρ') : wpE P C (.notE a) ρ Q := by rw [wpE]; exact h
theorem x_opX {o : Op} {as : IAs} (h : wpAs P C as ρ fun ds ρ' => ∃ vs, derefsK o.kl ρ' ds = some vs ∧ ∃ v, evalOp o vs = some v ∧ Q v ρ') : wpE P C (.op o as) ρ Q := by rw [wpE]; exact h
theorem x_callX {f : Nat} {as : IAs} (h : wpAs P C as ρ fun ds ρ' => callD P C f ds ρ' Q) : wpE P C (.call f as) ρ Q := by rw [wpE]; exact h
/-- a call whose arguments are plain; its first parameter is read -/
theorem x_call {f : Nat} {fd : FD} {as : IAs} {vs : List PV} (hC : MonoC C) (hf : P f = some fd) (hm : fd.md = .rd) (hp : puAs as = true) (he : evAs false as ρ = some vs) (h : C f vs fun v _ => Q v ρ) : wpE P C (.call f as) ρ Q := by
  rw [wpE]
  refine evAs_go hC false as ρ hp he fun ds e _ => ⟨fd, hf, ?_⟩
  rw [hm]
  exact ⟨vs, by rw [derefs_K]; exact e, h⟩
theorem deref_get {kl : Bool} {ρ : Env} : ∀ {ds : List Dsc} {vs : List PV} {i : Nat} {v : PV}, derefsK kl ρ ds = some vs → vs[i]? = some v → ∃ d, ds[i]? = some d ∧ derefK kl ρ d = some v
  | [], _, i, v, h, e => by cases h; simp at e
  | d :: ds, vs, i, v, h, e => by
    unfold derefsK at h
    split at h
    · rename_i w ws h1 h2
      cases h
      cases i with
      | zero => simp at e; subst e; exact ⟨d, rfl, h1⟩
      | succ i =>
        obtain ⟨d', e1, e2⟩ := deref_get (i := i) h2 (by simpa using e)
        exact ⟨d', by simpa using e1, e2⟩
    · cases h
theorem pick_deref {kl : Bool} {ρ : Env} {ds : List Dsc} {vs : List PV} (h : derefsK kl ρ ds = some vs) : ∀ (sel : List Nat), (∀ i ∈ sel, i < vs.length) → ∃ ds', pick ds sel = some ds' ∧ derefsK kl ρ ds' = some (selL vs sel)
  | [], _ => ⟨[], rfl, rfl⟩
  | i :: is, hs => by
    obtain ⟨ds', h1, h2⟩ := pick_deref h is fun j hj => hs j (List.mem_cons_of_mem _ hj)
    have hi := hs i (List.mem_cons_self ..)
    have ei : vs[i]? = some vs[i] := List.getElem?_eq_getElem hi
    obtain ⟨d, e1, e2⟩ := deref_get h ei
    refine ⟨d :: ds', by unfold pick; rw [e1, h1], ?_⟩
    unfold derefsK selL
    rw [e2, List.filterMap_cons, ei]
    unfold selL at h2
    rw [h2]
theorem x_callk {f : Nat} {fd : FD} {as : IAs} {vs : List PV} {sel : List Nat} (hC : MonoC C) (hf : P f = some fd) (hm : fd.md = .rd) (hp : puAs as = true) (he : evAs false as ρ = some vs) (hs : ∀ i ∈ sel, i < vs.length) (h : C f (selL vs sel) fun v _ => Q v ρ) : wpE P C (.callk f as sel) ρ Q := by
  rw [wpE]
  refine evAs_go hC false as ρ hp he fun ds e _ => ?_
  obtain ⟨ds', h1, h2⟩ := pick_deref e sel hs
  refine ⟨ds', h1, fd, hf, ?_⟩
  rw [hm]
  exact ⟨_, by rw [derefs_K]; exact h2, h⟩
/-- its first argument is an owned list, to be changed -/
theorem x_callI {f j : Nat} {fd : FD} {as : IAs} {vs : List PV} {u : Tag} {w : PV} (hC : MonoC C) (hf : P f = some fd) (hm : fd.md = .io) (hp : puAs as = true) (he : evAs false as ρ = some vs) (hj : ρ[j]? = some (some (u, w))) (hu : u = .o ∨ u = .m) (hns : noI j as = true)
    (h : C f (w :: vs) fun v ov => ∃ w', ov = some w' ∧ Q v (ρ.set j (some (u, w')))) : wpE P C (.call f (.cons (.sl j) as)) ρ Q := by
  have hs : isScr u = false := by rcases hu with z | z <;> rw [z] <;> rfl
  rw [wpE]
  unfold wpAs wpD
  refine ⟨⟨w, peekS_at hj⟩, evAs_go hC false as ρ hp he fun ds e oi => ⟨fd, hf, ?_⟩⟩
  rw [hm]
  refine ⟨w :: vs, ?_, j, ds, rfl, oi j hns, u, w, hj, hu, h⟩
  unfold derefs
  rw [derefs_K, e]
  show (match peek ρ j, some vs with | some v, some vs => some (v :: vs) | _, _ => none) = _
  rw [peek_at hj hs]
/-- its first argument is the script -/
theorem x_callS {f j : Nat} {fd : FD} {as : IAs} {vs : List PV} {w : PV} (hC : MonoC C) (hf : P f = some fd) (hm : fd.md = .scr) (hp : puAs as = true) (he : evAs false as ρ = some vs) (hj : ρ[j]? = some (some (.s, w)))
    (h : C f (w :: vs) fun v _ => Q v ρ) : wpE P C (.call f (.cons (.sl j) as)) ρ Q := by
  rw [wpE]
  unfold wpAs wpD
  refine ⟨⟨w, peekS_at hj⟩, evAs_go hC false as ρ hp he fun ds e oi => ⟨fd, hf, ?_⟩⟩
  rw [hm]
  exact ⟨j, ds, rfl, w, hj, vs, by rw [derefs_K]; exact e, h⟩
end
end IR
namespace IR
open PySem
/-! ### the defs that all laws share -/
def b_box : ISs :=
  (.cons (.set 2 (.op .add (.cons (.ex (.op .mul (.cons (.ex (.con (.int 28019))) (.cons (.sl 1) .nil)))) (.cons (.ex (.con (.int 7703))) .nil))))
  (.cons (.ife (.op .lt (.cons (.sl 1) (.cons (.ex (.op .len (.cons (.sl 0) .nil))) .nil))) (.cons (.set 2 (.op .abs (.cons (.ex (.op .int (.cons (.ex (.op .ix (.cons (.sl 0) (.cons (.sl 1) .nil)))) .nil))) .nil))) .nil) (.cons (.ife (.op .gt (.cons (.ex (.op .len (.cons (.sl 0) .nil))) (.cons (.ex (.con (.int 0))) .nil))) (.cons (.set 2 (.op .add (.cons (.sl 2) (.cons (.ex (.op .mul (.cons (.ex (.op .mod (.cons (.ex (.op .int (.cons (.ex (.op .abs (.cons (.ex (.op .int (.cons (.ex (.op .ix (.cons (.sl 0) (.cons (.ex (.op .mod (.cons (.ex (.op .int (.cons (.sl 1) .nil))) (.cons (.ex (.op .len (.cons (.sl 0) .nil))) .nil)))) .nil)))) .nil))) .nil))) .nil))) (.cons (.ex (.con (.int 2147483563))) .nil)))) (.cons (.ex (.con (.int 97813))) .nil)))) .nil)))) .nil) .nil) .nil))
  (.cons (.set 3 (.ife (.op .ge (.cons (.sl 2) (.cons (.ex (.op .pow (.cons (.ex (.con (.int 10))) (.cons (.ex (.con (.int 18))) .nil)))) .nil))) (.var 2) (.con (.int 0))))
  (.cons (.ret (.mkL (.cons (.var 3) (.cons (.op .add (.cons (.ex (.op .mod (.cons (.ex (.op .int (.cons (.ex (.op .add (.cons (.ex (.op .mul (.cons (.ex (.op .mod (.cons (.ex (.op .int (.cons (.sl 2) .nil))) (.cons (.ex (.con (.int 2147483563))) .nil)))) (.cons (.ex (.con (.int 54250003))) .nil)))) (.cons (.ex (.op .mul (.cons (.ex (.con (.int 7703))) (.cons (.sl 1) .nil)))) .nil)))) .nil))) (.cons (.ex (.con (.int 2147483563))) .nil)))) (.cons (.ex (.con (.int 1))) .nil))) .nil))))
  .nil))))
def f_box : FD := ⟨2, .scr, 4, b_box⟩
def b_take : ISs :=
  (.cons (.ife (.op .gt (.cons (.ex (.op .ix (.cons (.sl 0) (.cons (.ex (.con (.int 0))) .nil)))) (.cons (.ex (.con (.int 0))) .nil))) (.cons (.set 3 (.op .mod (.cons (.ex (.op .int (.cons (.ex (.op .ix (.cons (.sl 0) (.cons (.ex (.con (.int 0))) .nil)))) .nil))) (.cons (.sl 1) .nil)))) (.cons (.setIx 0 (.con (.int 0)) (.op .fdiv (.cons (.ex (.op .ix (.cons (.sl 0) (.cons (.ex (.con (.int 0))) .nil)))) (.cons (.sl 1) .nil)))) (.cons (.retv 3) .nil))) .nil)
  (.cons (.set 2 (.op .mod (.cons (.ex (.op .int (.cons (.ex (.op .add (.cons (.ex (.op .mul (.cons (.ex (.op .ix (.cons (.sl 0) (.cons (.ex (.con (.int 1))) .nil)))) (.cons (.ex (.con (.int 39373))) .nil)))) (.cons (.ex (.con (.int 211))) .nil)))) .nil))) (.cons (.ex (.con (.int 2147483647))) .nil))))
  (.cons (.setIx 0 (.con (.int 1)) (.op .add (.cons (.ex (.op .mod (.cons (.ex (.op .int (.cons (.ex (.op .add (.cons (.ex (.op .mul (.cons (.sl 2) (.cons (.ex (.con (.int 40692))) .nil)))) (.cons (.ex (.con (.int 97))) .nil)))) .nil))) (.cons (.ex (.con (.int 2147483563))) .nil)))) (.cons (.ex (.con (.int 1))) .nil))))
  (.cons (.ret (.op .mod (.cons (.ex (.op .int (.cons (.ex (.op .fdiv (.cons (.ex (.op .add (.cons (.ex (.op .mul (.cons (.sl 2) (.cons (.ex (.con (.int 2147483629))) .nil)))) (.cons (.ex (.op .ix (.cons (.sl 0) (.cons (.ex (.con (.int 1))) .nil)))) .nil)))) (.cons (.ex (.con (.int 8263))) .nil)))) .nil))) (.cons (.sl 1) .nil))))
  .nil))))
def f_take : FD := ⟨2, .io, 4, b_take⟩
def b_pick : ISs :=
  (.cons (.ret (.op .ix (.cons (.sl 1) (.cons (.ex (.call 3 (.cons (.sl 0) (.cons (.ex (.op .len (.cons (.sl 1) .nil))) .nil)))) .nil))))
  .nil)
def f_pick : FD := ⟨2, .io, 2, b_pick⟩
def b_same : ISs :=
  (.cons (.ife (.op (.isTy .tTuple) (.cons (.sl 1) .nil)) (.cons (.ife (.orE (.notE (.op (.isTy .tTuple) (.cons (.sl 0) .nil))) (.op .ne (.cons (.ex (.op .len (.cons (.sl 0) .nil))) (.cons (.ex (.op .len (.cons (.sl 1) .nil))) .nil)))) (.cons (.ret (.con (.bool false))) .nil) .nil) (.cons (.for_ (.zip (.sl 0) (.sl 1)) (.tp [(.nm 2), (.nm 3)]) (.cons (.ife (.notE (.call 5 (.cons (.sl 2) (.cons (.sl 3) .nil)))) (.cons (.ret (.con (.bool false))) .nil) .nil) .nil)) (.cons (.ret (.con (.bool true))) .nil))) .nil)
  (.cons (.ife (.op (.isC .none) (.cons (.sl 1) .nil)) (.cons (.ret (.op (.isC .none) (.cons (.sl 0) .nil))) .nil) .nil)
  (.cons (.ife (.orE (.op (.isC (.bool true)) (.cons (.sl 1) .nil)) (.op (.isC (.bool false)) (.cons (.sl 1) .nil))) (.cons (.ret (.andE (.op (.isTy .tBool) (.cons (.sl 0) .nil)) (.op .eq (.cons (.sl 0) (.cons (.sl 1) .nil))))) .nil) .nil)
  (.cons (.ife (.op (.isTy .tInt) (.cons (.sl 1) .nil)) (.cons (.ret (.andE (.op (.isTy .tInt) (.cons (.sl 0) .nil)) (.andE (.notE (.op (.isTy .tBool) (.cons (.sl 0) .nil))) (.op .eq (.cons (.sl 0) (.cons (.sl 1) .nil)))))) .nil) .nil)
  (.cons (.ret (.andE (.op (.isTy .tStr) (.cons (.sl 0) .nil)) (.andE (.op (.isTy .tStr) (.cons (.sl 1) .nil)) (.op .eq (.cons (.sl 0) (.cons (.sl 1) .nil))))))
  .nil)))))
def f_same : FD := ⟨2, .rd, 4, b_same⟩
section
variable {P : Nat → Option FD} {d : Nat}
theorem take_ok (h : P 3 = some f_take) {g s m : Int} (h0 : 0 < m) (h1 : m < 1073741824) {Q : PV → Option PV → Prop} (q : ∀ r g' s', 0 ≤ r → r < m → Q (.int r) (some (.list [.int g', .int s']))) : callN P (d + 1) 3 [.list [.int g, .int s], .int m] Q := by
  have hC := callN_mono P d
  refine call_go h ⟨rfl, by decide, fun _ => ⟨_, _, rfl, rfl⟩, ?_⟩
  show wpSs P (callN P d) b_take [some (.m, .list [.int g, .int s]), some (.b, .int m), none, none] _
  unfold b_take
  refine s_cons (s_if hC rfl (by simp [Op.kl, L2.atI, L2.ixN]; rfl) rfl (fun ht => ?_) fun ht => ?_)
  · refine s_cons (s_setB hC rfl (by simp [Op.kl, L2.atI, L2.ixN, h0]; rfl) rfl rfl ?_)
    refine s_cons (s_setIx hC rfl (by simp [Op.kl, L2.atI, L2.ixN, h0, h1]; rfl) rfl (by simp; rfl) rfl (.inr rfl) (by simp [L2.ixN]; rfl) ?_)
    exact s_cons (s_retb rfl rfl ⟨fun _ => ⟨_, rfl⟩, q _ _ _ (Int.emod_nonneg _ (by omega)) (Int.emod_lt_of_pos _ h0)⟩)
  · refine s_nil (s_cons (s_setB hC rfl (by simp [Op.kl, L2.atI, L2.ixN, small64]; rfl) rfl rfl ?_))
    refine s_cons (s_setIx hC rfl (by simp [Op.kl, L2.atI, L2.ixN, small64]; rfl) rfl (by simp; rfl) rfl (.inr rfl) (by simp [L2.ixN]; rfl) ?_)
    refine s_cons (s_ret hC rfl (by simp [Op.kl, L2.atI, L2.ixN, small64, h0]; rfl) (fun h => by cases h) ⟨fun _ => ⟨_, rfl⟩, q _ _ _ (Int.emod_nonneg _ (by omega)) (Int.emod_lt_of_pos _ h0)⟩)
theorem pick_ok (h : P 4 = some f_pick) (h3 : P 3 = some f_take) {g s : Int} {xs : List PV} (h0 : 0 < xs.length) (h1 : xs.length < 1073741824) {Q : PV → Option PV → Prop} (q : ∀ (i : Nat) (hi : i < xs.length) g' s', Q xs[i] (some (.list [.int g', .int s']))) (hm : ∀ v ∈ xs, mutv v = false) : callN P (d + 2) 4 [.list [.int g, .int s], .list xs] Q := by
  have hC := callN_mono P (d + 1)
  refine call_go h ⟨rfl, by decide, fun _ => ⟨_, _, rfl, rfl⟩, ?_⟩
  show wpSs P (callN P (d + 1)) b_pick [some (.m, .list [.int g, .int s]), some (.l, .list xs)] _
  unfold b_pick
  refine s_cons (s_retX (x_opX ?_))
  unfold wpAs wpD wpAs wpD wpAs
  refine ⟨⟨_, rfl⟩, x_callI hC h3 rfl rfl (by simp [Op.kl]; rfl) rfl (.inr rfl) rfl (take_ok h3 (by omega) (by omega) fun r g' s' r0 r1 => ⟨_, rfl, ?_⟩)⟩
  have e : L2.atI xs r = some (xs[r.toNat]'(by omega)) := by
    unfold L2.atI L2.ixN
    rw [if_pos r0, if_pos r1]
    exact List.getElem?_eq_getElem (by omega)
  refine ⟨[.list xs, .int r], rfl, _, e, fun hv => ?_, fun _ => ⟨_, rfl⟩, q _ _ _ _⟩
  rw [hm _ (List.getElem_mem _)] at hv
  cases hv
mutual
def plV : PV → Bool
  | .none => true
  | .bool _ => true
  | .int _ => true
  | .str z => SeqAt.shaped (.str z)
  | .tuple xs => plVs xs
  | _ => false
def plVs : List PV → Bool
  | [] => true
  | x :: r => plV x && plVs r
end
mutual
def dpV : PV → Nat
  | .tuple xs => dpVs xs + 1
  | _ => 0
def dpVs : List PV → Nat
  | [] => 0
  | x :: r => max (dpV x) (dpVs r)
end
theorem plVs_at : ∀ {xs : List PV} {i : Nat} {x : PV}, plVs xs = true → xs[i]? = some x → plV x = true ∧ dpV x ≤ dpVs xs
  | [], i, x, _, e => by simp at e
  | y :: r, 0, x, h, e => by
    unfold plVs at h
    rw [Bool.and_eq_true] at h
    simp at e
    subst e
    refine ⟨h.1, ?_⟩
    conv => rhs; unfold dpVs
    exact Nat.le_max_left _ _
  | y :: r, i + 1, x, h, e => by
    unfold plVs at h
    rw [Bool.and_eq_true] at h
    obtain ⟨h1, h2⟩ := plVs_at (i := i) h.2 (by simpa using e)
    refine ⟨h1, ?_⟩
    conv => rhs; unfold dpVs
    exact Nat.le_trans h2 (Nat.le_max_right _ _)
end
end IR
namespace IR
open PySem
section
variable {P : Nat → Option FD}
theorem eqv_self : ∀ v : PV, plV v = true → (∀ xs, v ≠ .tuple xs) → PyData.eqv v v = true := fun v h n => by
  cases v with
  | tuple xs => exact absurd rfl (n xs)
  | list xs => cases h
  | dict xs => cases h
  | _ => simp [PyData.eqv]
theorem e_eq_self {v : PV} (h : plV v = true) (n : ∀ xs, v ≠ .tuple xs) : evalOp .eq [v, v] = some (.bool true) := by
  show (if (SeqAt.shaped v && SeqAt.shaped v) = true then some (PyData.bool (PyData.eqv v v)) else none) = _
  rw [eqv_self v h n]
  cases v with
  | tuple xs => exact absurd rfl (n xs)
  | list xs => cases h
  | dict xs => cases h
  | str z =>
    have h' : SeqAt.shaped (.str z) = true := h
    rw [h']
    rfl
  | _ => rfl
theorem same_body {C : CallP} (hC : MonoC C) (h : P 5 = some f_same) (v : PV) (hv : plV v = true) (hr : ∀ xs, v = .tuple xs → ∀ (i : Nat) x, xs[i]? = some x → ∀ {Q : PV → Option PV → Prop}, Q (.bool true) none → C 5 [x, x] Q) {Q : PV → Option PV → Prop} (q : Q (.bool true) none) : bodyP P C f_same [v, v] Q := by
  have hm : mutv v = false := by cases v <;> first | rfl | cases hv
  refine ⟨rfl, by decide, fun z => absurd rfl z, ?_⟩
  have eE : initEnv f_same [v, v] = [some (.b, v), some (.b, v), none, none] := by
    show [argSl v, argSl v, none, none] = _
    unfold argSl
    rw [hm]
    rfl
  rw [eE]
  show wpSs P C b_same _ _
  unfold b_same
  have fin : ∀ ρ : Env, ioP f_same ρ (Q (.bool true)) := fun ρ => ⟨fun z => (by cases z), q⟩
  refine s_cons (s_if (v := .bool (isTyB .tTuple v)) hC rfl (by simp [Op.kl]) rfl (fun ht => ?_) fun ht => ?_)
  · cases v with
    | tuple xs =>
      refine s_cons (s_ifX (x_or (v := .bool false) hC rfl (by simp [Op.kl, isTyB]) rfl (fun _ => ?_) fun z => by cases z))
      refine x_pu (v := .bool false) hC rfl (by simp [Op.kl]) ⟨false, rfl, br_f (s_nil ?_)⟩
      refine s_cons (for_go hC (it_zip rfl rfl rfl rfl rfl rfl rfl rfl ⟨fun i ρ => ∃ y2 y3, ρ = [some (.b, .tuple xs), some (.b, .tuple xs), Bs y2, Bs y3], ⟨none, none, rfl⟩, fun _ _ _ => True.intro, ?_, ?_⟩))
      · rintro i x ρ hx ⟨y2, y3, rfl⟩
        have hi : i < (zipOf xs xs).length := (List.getElem?_eq_some_iff.mp hx).1
        rw [zipOf_len, Nat.min_self] at hi
        have ei : xs[i]? = some xs[i] := List.getElem?_eq_getElem hi
        rw [zipOf_get ei ei] at hx
        cases hx
        refine ⟨_, rfl, rfl, _, _, rfl, ⟨by simp, _, _, rfl, ⟨by simp, rfl, ?_⟩⟩⟩
        refine s_cons (s_ifX (x_notX (x_call (vs := [xs[i], xs[i]]) hC h rfl rfl (by simp) (hr xs rfl i _ ei ⟨true, rfl, false, rfl, br_f (s_nil (P := P) (C := C) (s_nil (P := P) (C := C) ⟨some xs[i], some xs[i], rfl⟩))⟩))))
      · rintro ρ ⟨y2, y3, rfl⟩
        exact s_cons (s_ret (v := .bool true) hC rfl (by simp) (fun z => by cases z) (fin _))
    | _ => cases ht
  · refine s_nil ?_
    have nt : ∀ xs, v ≠ .tuple xs := fun xs e => by subst e; cases ht
    refine s_cons ?_
    cases v with
    | tuple xs => exact absurd rfl (nt xs)
    | list xs => cases hv
    | dict xs => cases hv
    | none =>
      refine s_if (v := .bool true) hC rfl (by simp [Op.kl, same1]) rfl (fun _ => ?_) fun z => by cases z
      exact s_cons (s_ret (v := .bool true) hC rfl (by simp [Op.kl, same1]) (fun z => by cases z) (fin _))
    | bool b =>
      refine s_if (v := .bool false) hC rfl (by simp [Op.kl, same1]) rfl (fun z => by cases z) fun _ => s_nil ?_
      refine s_cons (s_ifX ?_)
      have go : wpSs P C (.cons (.ret (.andE (.op (.isTy .tBool) (.cons (.sl 0) .nil)) (.op .eq (.cons (.sl 0) (.cons (.sl 1) .nil))))) .nil) [some (.b, .bool b), some (.b, .bool b), none, none] { nx := fun ρ => ioP f_same ρ (Q .none), rt := fun v ρ => ioP f_same ρ (Q v), bk := fun _ => False, ct := fun _ => False } := by
        refine s_cons (s_retX (x_and (v := .bool true) hC rfl (by simp [Op.kl, isTyB]) rfl (fun _ => ?_) fun z => by cases z))
        exact x_pu (v := .bool true) hC rfl (by rw [v_op]; simp [Op.kl, e_eq_self hv nt]) ⟨fun z => (by cases z), fin _⟩
      cases b with
      | true => exact x_or (v := .bool true) hC rfl (by simp [Op.kl, same1]) rfl (fun z => by cases z) fun _ => ⟨true, rfl, br_t go⟩
      | false => exact x_or (v := .bool false) hC rfl (by simp [Op.kl, same1]) rfl (fun _ => x_pu (v := .bool true) hC rfl (by simp [Op.kl, same1]) ⟨true, rfl, br_t go⟩) fun z => by cases z
    | int i =>
      refine s_if (v := .bool false) hC rfl (by simp [Op.kl, same1]) rfl (fun z => by cases z) fun _ => s_nil ?_
      refine s_cons (s_ifX (x_or (v := .bool false) hC rfl (by simp [Op.kl, same1]) rfl (fun _ => x_pu (v := .bool false) hC rfl (by simp [Op.kl, same1]) ⟨false, rfl, br_f (s_nil ?_)⟩) fun z => by cases z))
      refine s_cons (s_if (v := .bool true) hC rfl (by simp [Op.kl, isTyB]) rfl (fun _ => ?_) fun z => by cases z)
      refine s_cons (s_retX (x_and (v := .bool true) hC rfl (by simp [Op.kl, isTyB]) rfl (fun _ => ?_) fun z => by cases z))
      refine x_and (v := .bool true) hC rfl (by simp [Op.kl, isTyB]) rfl (fun _ => ?_) fun z => by cases z
      exact x_pu (v := .bool true) hC rfl (by simp [Op.kl]) ⟨fun z => (by cases z), fin _⟩
    | str z =>
      refine s_if (v := .bool false) hC rfl (by simp [Op.kl, same1]) rfl (fun z => by cases z) fun _ => s_nil ?_
      refine s_cons (s_ifX (x_or (v := .bool false) hC rfl (by simp [Op.kl, same1]) rfl (fun _ => x_pu (v := .bool false) hC rfl (by simp [Op.kl, same1]) ⟨false, rfl, br_f (s_nil ?_)⟩) fun z => by cases z))
      refine s_cons (s_if (v := .bool false) hC rfl (by simp [Op.kl, isTyB]) rfl (fun z => by cases z) fun _ => s_nil ?_)
      refine s_cons (s_retX (x_and (v := .bool true) hC rfl (by simp [Op.kl, isTyB]) rfl (fun _ => ?_) fun z => by cases z))
      refine x_and (v := .bool true) hC rfl (by simp [Op.kl, isTyB]) rfl (fun _ => ?_) fun z => by cases z
      exact x_pu (v := .bool true) hC rfl (by rw [v_op]; simp [Op.kl, e_eq_self hv nt]) ⟨fun z => (by cases z), fin _⟩
theorem same_ok (h : P 5 = some f_same) : ∀ (d : Nat) (v : PV), plV v = true → dpV v ≤ d → ∀ {Q : PV → Option PV → Prop}, Q (.bool true) none → callN P (d + 1) 5 [v, v] Q := by
  intro d
  induction d with
  | zero =>
    intro v hv hd Q q
    refine call_go h (same_body (callN_mono P 0) h v hv (fun xs e => ?_) q)
    subst e
    unfold dpV at hd
    omega
  | succ d ih =>
    intro v hv hd Q q
    refine call_go h (same_body (callN_mono P (d + 1)) h v hv (fun xs e i x hx Q q => ?_) q)
    subst e
    unfold dpV at hd
    obtain ⟨h1, h2⟩ := plVs_at hv hx
    exact ih x h1 (by omega) q
end
end IR
namespace IR
open PySem
def b_boxT : ISs :=
  (.cons (.set 3 (.ife (.op .ge (.cons (.sl 2) (.cons (.ex (.op .pow (.cons (.ex (.con (.int 10))) (.cons (.ex (.con (.int 18))) .nil)))) .nil))) (.var 2) (.con (.int 0))))
  (.cons (.ret (.mkL (.cons (.var 3) (.cons (.op .add (.cons (.ex (.op .mod (.cons (.ex (.op .int (.cons (.ex (.op .add (.cons (.ex (.op .mul (.cons (.ex (.op .mod (.cons (.ex (.op .int (.cons (.sl 2) .nil))) (.cons (.ex (.con (.int 2147483563))) .nil)))) (.cons (.ex (.con (.int 54250003))) .nil)))) (.cons (.ex (.op .mul (.cons (.ex (.con (.int 7703))) (.cons (.sl 1) .nil)))) .nil)))) .nil))) (.cons (.ex (.con (.int 2147483563))) .nil)))) (.cons (.ex (.con (.int 1))) .nil))) .nil))))
  .nil))
section
variable {P : Nat → Option FD} {d : Nat}
theorem atI_int {ns : List Int} {r : Int} (h0 : 0 ≤ r) (h1 : r < ns.length) : L2.atI (ns.map PyData.int) r = some (.int (ns[r.toNat]'(by omega))) := by
  have hr : r.toNat < ns.length := by omega
  unfold L2.atI L2.ixN
  rw [if_pos h0, List.length_map, if_pos h1]
  show (ns.map PyData.int)[r.toNat]? = _
  rw [List.getElem?_map, List.getElem?_eq_getElem hr]
  rfl
theorem box_ok (h : P 2 = some f_box) {ns : List Int} {k : Int} (h0 : 0 ≤ k) {Q : PV → Option PV → Prop} (q : ∀ g s, Q (.list [.int g, .int s]) none) : callN P (d + 1) 2 [.list (ns.map PyData.int), .int k] Q := by
  have hC := callN_mono P d
  refine call_go h ⟨rfl, by decide, fun _ => ⟨_, _, rfl, rfl⟩, ?_⟩
  generalize hl : ns.map PyData.int = l
  have hll : l.length = ns.length := by rw [← hl, List.length_map]
  show wpSs P (callN P d) b_box [some (.s, .list l), some (.b, .int k), none, none] _
  have tail : ∀ (c : Int), wpSs P (callN P d) b_boxT [some (.s, .list l), some (.b, .int k), some (.b, .int c), none] { nx := fun ρ => ioP f_box ρ (Q .none), rt := fun v ρ => ioP f_box ρ (Q v), bk := fun _ => False, ct := fun _ => False } := fun c => by
    unfold b_boxT
    refine s_cons (s_setX (x_ife hC rfl (by simp [Op.kl]; rfl) rfl (fun _ => ?_) fun _ => ?_))
    · refine x_pu hC rfl (by simp; rfl) ⟨rfl, ?_⟩
      exact s_cons (s_ret hC rfl (by simp [Op.kl, small64]; rfl) (fun _ => rfl) ⟨fun z => (by cases z), q _ _⟩)
    · refine x_pu hC rfl (by simp; rfl) ⟨rfl, ?_⟩
      exact s_cons (s_ret hC rfl (by simp [Op.kl, small64]; rfl) (fun _ => rfl) ⟨fun z => (by cases z), q _ _⟩)
  unfold b_box
  refine c_setB hC rfl (by simp [Op.kl, small64]; rfl) rfl rfl ?_
  refine c_if (t := decide (k < l.length)) hC rfl (by simp [Op.kl]; rfl) (by simp) (fun ht => ?_) fun ht => ?_
  · have hk : k < (ns.length : Int) := by rw [← hll]; exact of_decide_eq_true ht
    have e := atI_int h0 hk
    rw [hl] at e
    exact c_setB hC rfl (by simp [Op.kl, e]; rfl) rfl rfl (n_nil (tail _))
  · refine c_if (t := decide ((0 : Int) < l.length)) hC rfl (by simp [Op.kl]; rfl) (by simp) (fun ht2 => ?_) fun ht2 => ?_
    · have hp : (0 : Int) < l.length := of_decide_eq_true ht2
      have e := atI_int (ns := ns) (r := k % (l.length : Int)) (Int.emod_nonneg _ (by omega)) (by rw [← hll]; exact Int.emod_lt_of_pos _ hp)
      rw [hl] at e
      have hp' : 0 < l.length := by omega
      exact c_setB hC rfl (by simp [Op.kl, e, hp', small64]; rfl) rfl rfl (n_nil (n_nil (tail _)))
    · exact n_nil (n_nil (tail _))
theorem cd_take (h : P 3 = some f_take) {ρ : Env} {j : Nat} {t : Tag} {g s m : Int} {Q : PV → Env → Prop} (hj : ρ[j]? = some (some (t, .list [.int g, .int s]))) (ht : t = .o ∨ t = .m) (h0 : 0 < m) (h1 : m < 1073741824)
    (q : ∀ r g' s', 0 ≤ r → r < m → Q (.int r) (ρ.set j (some (t, .list [.int g', .int s'])))) : callD P (callN P (d + 1)) 3 [.sl j, .vl (.int m)] ρ Q := by
  have hs : isScr t = false := by rcases ht with z | z <;> rw [z] <;> rfl
  have e : derefs ρ [.sl j, .vl (.int m)] = some [.list [.int g, .int s], .int m] := by
    unfold derefs
    rw [show deref ρ (.sl j) = peek ρ j from rfl, peek_at hj hs]
    rfl
  exact ⟨f_take, h, _, e, j, _, rfl, rfl, t, _, hj, ht, take_ok h h0 h1 fun r g' s' r0 r1 => ⟨_, rfl, q r g' s' r0 r1⟩⟩
/-- a call of values -/
theorem derefs_vl {ρ : Env} : ∀ vs : List PV, derefs ρ (vs.map Dsc.vl) = some vs
  | [] => rfl
  | v :: r => by
    rw [List.map_cons]
    unfold derefs
    rw [derefs_vl r]
    rfl
theorem cd_vl {C : CallP} {f : Nat} {fd : FD} {ρ : Env} {Q : PV → Env → Prop} (hf : P f = some fd) (hm : fd.md = .rd) (vs : List PV) (h : C f vs fun v _ => Q v ρ) : callD P C f (vs.map Dsc.vl) ρ Q := by
  refine ⟨fd, hf, ?_⟩
  rw [hm]
  exact ⟨vs, derefs_vl vs, h⟩
end
end IR
namespace IR
open PySem
abbrev zs (ns : List Int) : List PV := ns.map PyData.int
theorem lay_ints : ∀ ns : List Int, PyData.canLayAll0 (zs ns) = true
  | [] => rfl
  | n :: r => by
    show (PyData.canLay0 (.int n) && PyData.canLayAll0 (zs r)) = true
    rw [lay_ints r]; rfl
theorem dep_ints : ∀ ns : List Int, PyData.depthAll (zs ns) ≤ 1
  | [] => by decide
  | n :: r => by
    have := dep_ints r
    show max (PyData.depth (.int n)) (PyData.depthAll (zs r)) ≤ 1
    have h : PyData.depth (.int n) ≤ 1 := by first | decide | (unfold PyData.depth; omega) | simp [PyData.depth]
    omega
theorem shaped_L (ns : List Int) : SeqAt.shaped (.list (zs ns)) = true := by
  unfold SeqAt.shaped
  rw [Bool.and_eq_true, decide_eq_true_eq]
  refine ⟨lay_ints ns, ?_⟩
  have := dep_ints ns
  unfold PyData.depth
  omega
theorem shaped_T (ns : List Int) : SeqAt.shaped (.tuple (zs ns)) = true := by
  unfold SeqAt.shaped
  rw [Bool.and_eq_true, decide_eq_true_eq]
  refine ⟨lay_ints ns, ?_⟩
  have := dep_ints ns
  unfold PyData.depth
  omega
@[simp] theorem shaped_i (n : Int) : SeqAt.shaped (.int n) = true := rfl
theorem eqv_int (a b : Int) : PyData.eqv (.int a) (.int b) = decide (a = b) := by
  simp [PyData.eqv]
  exact Bool.eq_iff_iff.mpr (by simp)
theorem inAny_ints (d : Int) : ∀ ns : List Int, inAny (.int d) (zs ns) = decide (d ∈ ns)
  | [] => rfl
  | n :: r => by
    unfold inAny zs
    rw [List.map_cons, List.any_cons]
    have ih := inAny_ints d r
    unfold inAny zs at ih
    rw [ih, eqv_int]
    rw [Bool.eq_iff_iff]
    simp only [Bool.or_eq_true, decide_eq_true_eq, List.mem_cons]
    exact ⟨fun h => h.imp Eq.symm id, fun h => h.imp Eq.symm id⟩
theorem e_inL {d : Int} {ns : List Int} : evalOp .isIn [.int d, .list (zs ns)] = some (.bool (decide (d ∈ ns))) := by
  show (if (SeqAt.shaped (.int d) && SeqAt.shaped (.list (zs ns))) = true then some (PyData.bool (inAny (.int d) (zs ns))) else none) = _
  rw [shaped_L, inAny_ints]; rfl
theorem e_inT {d : Int} {ns : List Int} : evalOp .isIn [.int d, .tuple (zs ns)] = some (.bool (decide (d ∈ ns))) := by
  show (if (SeqAt.shaped (.int d) && SeqAt.shaped (.list (zs ns))) = true then some (PyData.bool (inAny (.int d) (zs ns))) else none) = _
  rw [shaped_L, inAny_ints]; rfl
theorem e_ninL {d : Int} {ns : List Int} : evalOp .nIn [.int d, .list (zs ns)] = some (.bool (!decide (d ∈ ns))) := by
  show (if (SeqAt.shaped (.int d) && SeqAt.shaped (.list (zs ns))) = true then some (PyData.bool (!inAny (.int d) (zs ns))) else none) = _
  rw [shaped_L, inAny_ints]; rfl
theorem e_ninT {d : Int} {ns : List Int} : evalOp .nIn [.int d, .tuple (zs ns)] = some (.bool (!decide (d ∈ ns))) := by
  show (if (SeqAt.shaped (.int d) && SeqAt.shaped (.list (zs ns))) = true then some (PyData.bool (!inAny (.int d) (zs ns))) else none) = _
  rw [shaped_L, inAny_ints]; rfl
theorem cut_to {xs : List PV} {j : Nat} (h : j ≤ xs.length) : cut xs none (some (j : Int)) = xs.take j := by
  unfold cut
  rw [HT.sIx_none, HT.sIx_nat, Nat.min_eq_left h]
  rfl
theorem cut_from {xs : List PV} {j : Nat} (h : j ≤ xs.length) : cut xs (some (j : Int)) none = xs.drop j := by
  unfold cut
  rw [HT.sIx_none, HT.sIx_nat, Nat.min_eq_left h]
  exact List.take_of_length_le (by rw [List.length_drop]; omega)
theorem e_sltoT {xs : List PV} {j : Nat} (h : j ≤ xs.length) : evalOp (.sl false true) [.tuple xs, .int (j : Int)] = some (.tuple (xs.take j)) := by
  show some (PyData.tuple (cut xs none (some (j : Int)))) = _
  rw [cut_to h]
theorem e_sltoL {xs : List PV} {j : Nat} (h : j ≤ xs.length) : evalOp (.sl false true) [.list xs, .int (j : Int)] = some (.list (xs.take j)) := by
  show some (PyData.list (cut xs none (some (j : Int)))) = _
  rw [cut_to h]
theorem e_slfrT {xs : List PV} {j : Nat} (h : j ≤ xs.length) : evalOp (.sl true false) [.tuple xs, .int (j : Int)] = some (.tuple (xs.drop j)) := by
  show some (PyData.tuple (cut xs (some (j : Int)) none)) = _
  rw [cut_from h]
theorem e_slfrL {xs : List PV} {j : Nat} (h : j ≤ xs.length) : evalOp (.sl true false) [.list xs, .int (j : Int)] = some (.list (xs.drop j)) := by
  show some (PyData.list (cut xs (some (j : Int)) none)) = _
  rw [cut_from h]
theorem plVs_ints : ∀ ns : List Int, plVs (zs ns) = true
  | [] => rfl
  | n :: r => by
    show (plV (.int n) && plVs (zs r)) = true
    rw [plVs_ints r]; rfl
theorem dpVs_ints : ∀ ns : List Int, dpVs (zs ns) = 0
  | [] => rfl
  | n :: r => by
    show max (dpV (.int n)) (dpVs (zs r)) = 0
    rw [dpVs_ints r]; rfl
def rngL (m : Nat) : List PV := (List.range m).map fun (k : Nat) => PyData.int (k : Int)
theorem rng_go {n : Int} (h1 : -(2 ^ 62) ≤ n) (h2 : n < 2 ^ 62) : rngOf [.int n] = some (rngL n.toNat) := by
  show (if (decide (-(2 ^ 62) ≤ n) && decide (n < 2 ^ 62)) = true then some (rngL n.toNat) else none) = _
  rw [if_pos (by rw [Bool.and_eq_true, decide_eq_true_eq, decide_eq_true_eq]; exact ⟨h1, h2⟩)]
theorem rngL_get {m i : Nat} {x : PV} (h : (rngL m)[i]? = some x) : x = .int (i : Int) ∧ i < m := by
  unfold rngL at h
  rw [List.getElem?_map] at h
  cases e : (List.range m)[i]? with
  | none => rw [e] at h; cases h
  | some k =>
    rw [e] at h
    obtain ⟨hl, he⟩ := List.getElem?_eq_some_iff.mp e
    rw [List.getElem_range] at he
    rw [List.length_range] at hl
    cases h
    exact ⟨by rw [he], hl⟩
theorem rngL_len {m : Nat} : (rngL m).length = m := by unfold rngL; rw [List.length_map, List.length_range]
theorem zs_get {ns : List Int} {i : Nat} {x : PV} (h : (zs ns)[i]? = some x) : ∃ d, ns[i]? = some d ∧ x = .int d := by
  rw [List.getElem?_map] at h
  cases e : ns[i]? with
  | none => rw [e] at h; cases h
  | some k => rw [e] at h; cases h; exact ⟨k, rfl, rfl⟩
theorem zs_len {ns : List Int} : (zs ns).length = ns.length := List.length_map ..
theorem enm_get {xs : List PV} {i : Nat} {x : PV} (h : (enmOf xs)[i]? = some x) : ∃ v, xs[i]? = some v ∧ x = .tuple [.int (i : Int), v] := by
  have hl := (List.getElem?_eq_some_iff.mp h).1
  rw [enmOf_len] at hl
  have e : xs[i]? = some xs[i] := List.getElem?_eq_getElem hl
  rw [enmOf_get e] at h
  cases h
  exact ⟨_, e, rfl⟩
theorem get_lt {α : Type} {xs : List α} {i : Nat} {x : α} (h : xs[i]? = some x) : i < xs.length := (List.getElem?_eq_some_iff.mp h).1
end IR
namespace LW
open PySem PySem.Spec PyProof.Rows IR
abbrev tp (i : Nat) : Stmt := PySem.Challenge.pw_onlysums_k48_first_times.main.body.getD i (.Pass ⟨0, 0, 0, 0⟩)
abbrev S_first_times : DefS := ⟨⟨"first_times", 1, [("run" : Str)]⟩, tp 1, [("run" : Str), ("kept" : Str), ("deed" : Str)]⟩
abbrev S__law_box : DefS := ⟨⟨"_law_box", 2, [("script" : Str), ("k" : Str)]⟩, tp 3, [("script" : Str), ("k" : Str), ("cell" : Str), ("great" : Str)]⟩
abbrev S__law_take : DefS := ⟨⟨"_law_take", 3, [("box" : Str), ("many" : Str)]⟩, tp 4, [("box" : Str), ("many" : Str), ("raw" : Str), ("digit" : Str)]⟩
abbrev S__law_pick : DefS := ⟨⟨"_law_pick", 4, [("box" : Str), ("some" : Str)]⟩, tp 5, [("box" : Str), ("some" : Str)]⟩
abbrev S__law_same : DefS := ⟨⟨"_law_same", 5, [("told" : Str), ("due" : Str)]⟩, tp 6, [("told" : Str), ("due" : Str), ("one" : Str), ("other" : Str)]⟩
abbrev S__law_firsts : DefS := ⟨⟨"_law_firsts", 6, [("run" : Str)]⟩, tp 7, [("run" : Str), ("spot" : Str), ("deed" : Str)]⟩
abbrev S_law : DefS := ⟨⟨"law", 7, [("script" : Str)]⟩, tp 8, [("script" : Str), ("k" : Str), ("box" : Str), ("turn" : Str), ("run" : Str), ("spot" : Str)]⟩
abbrev dS : List DefS := [S_first_times, S__law_box, S__law_take, S__law_pick, S__law_same, S__law_firsts, S_law]
abbrev dI : List DefI := [S_first_times.d, S__law_box.d, S__law_take.d, S__law_pick.d, S__law_same.d, S__law_firsts.d, S_law.d]
abbrev kW : List KwI := [⟨1, 0, [("run" : Str)], [0]⟩]
abbrev bL : List Str := [("abs" : Str), ("bool" : Str), ("enumerate" : Str), ("int" : Str), ("isinstance" : Str), ("len" : Str), ("max" : Str), ("min" : Str), ("range" : Str), ("str" : Str), ("tuple" : Str), ("zip" : Str)]
def b_first_times : ISs :=
  (.cons (.set 1 (.mkL .nil))
  (.cons (.for_ (.lst (.sl 0)) (.nm 2) (.cons (.ife (.op .nIn (.cons (.sl 2) (.cons (.sl 1) .nil))) (.cons (.app 1 (.var 2)) .nil) .nil) .nil))
  (.cons (.ret (.op .tuple (.cons (.sl 1) .nil)))
  .nil)))
def f_first_times : FD := ⟨1, .rd, 3, b_first_times⟩
abbrev f__law_box : FD := IR.f_box
abbrev f__law_take : FD := IR.f_take
abbrev f__law_pick : FD := IR.f_pick
abbrev f__law_same : FD := IR.f_same
def b__law_firsts : ISs :=
  (.cons (.ret (.op .tuple (.cons (.ex (.lc [1, 2] (.enm (.sl 0)) (.tp [(.nm 1), (.nm 2)]) (.op .nIn (.cons (.sl 2) (.cons (.ex (.op (.sl false true) (.cons (.sl 0) (.cons (.sl 1) .nil)))) .nil))) (.var 2))) .nil)))
  .nil)
def f__law_firsts : FD := ⟨1, .rd, 3, b__law_firsts⟩
def b_law : ISs :=
  (.cons (.for_ (.rng (.cons (.ex (.op .max (.cons (.ex (.con (.int 4))) (.cons (.ex (.op .min (.cons (.ex (.op .len (.cons (.sl 0) .nil))) (.cons (.ex (.con (.int 9))) .nil)))) .nil)))) .nil)) (.nm 1) (.cons (.set 2 (.call 2 (.cons (.sl 0) (.cons (.sl 1) .nil)))) (.cons (.for_ (.rng (.cons (.ex (.con (.int 4))) .nil)) (.nm 3) (.cons (.set 4 (.op .tuple (.cons (.ex (.lc [5] (.rng (.cons (.ex (.call 3 (.cons (.sl 2) (.cons (.ex (.con (.int 13))) .nil)))) .nil)) (.nm 5) (.con (.bool true)) (.call 3 (.cons (.sl 2) (.cons (.ex (.call 4 (.cons (.sl 2) (.cons (.ex (.mkL (.cons (.con (.int 1)) (.cons (.con (.int 2)) (.cons (.con (.int 4)) (.cons (.con (.int 7)) .nil)))))) .nil)))) .nil))))) .nil))) (.cons (.ife (.notE (.call 5 (.cons (.ex (.callk 1 (.cons (.sl 4) .nil) [0])) (.cons (.ex (.call 6 (.cons (.sl 4) .nil))) .nil)))) (.cons (.ret (.con (.bool false))) .nil) .nil) .nil))) .nil)))
  (.cons (.ret (.andE (.call 5 (.cons (.ex (.call 1 (.cons (.ex (.mkT (.cons (.con (.int 2)) (.cons (.con (.int 0)) (.cons (.con (.int 2)) (.cons (.con (.int 1)) (.cons (.con (.int 0)) .nil))))))) .nil))) (.cons (.ex (.mkT (.cons (.con (.int 2)) (.cons (.con (.int 0)) (.cons (.con (.int 1)) .nil))))) .nil))) (.call 5 (.cons (.ex (.call 1 (.cons (.ex (.mkT .nil)) .nil))) (.cons (.ex (.mkT .nil)) .nil)))))
  .nil))
def f_law : FD := ⟨1, .scr, 6, b_law⟩
def PP : Nat → Option FD
  | 1 => some f_first_times
  | 2 => some f__law_box
  | 3 => some f__law_take
  | 4 => some f__law_pick
  | 5 => some f__law_same
  | 6 => some f__law_firsts
  | 7 => some f_law
  | _ => none
theorem ok_first_times : DefOk PP bL dI kW S_first_times := ⟨⟨rfl, rfl, rfl, by decide +kernel, rfl, by decide +kernel, by decide +kernel⟩, f_first_times, rfl, rfl, rfl, by kernel_rfl⟩
theorem ok__law_box : DefOk PP bL dI kW S__law_box := ⟨⟨rfl, rfl, rfl, by decide +kernel, rfl, by decide +kernel, by decide +kernel⟩, f__law_box, rfl, rfl, rfl, by kernel_rfl⟩
theorem ok__law_take : DefOk PP bL dI kW S__law_take := ⟨⟨rfl, rfl, rfl, by decide +kernel, rfl, by decide +kernel, by decide +kernel⟩, f__law_take, rfl, rfl, rfl, by kernel_rfl⟩
theorem ok__law_pick : DefOk PP bL dI kW S__law_pick := ⟨⟨rfl, rfl, rfl, by decide +kernel, rfl, by decide +kernel, by decide +kernel⟩, f__law_pick, rfl, rfl, rfl, by kernel_rfl⟩
theorem ok__law_same : DefOk PP bL dI kW S__law_same := ⟨⟨rfl, rfl, rfl, by decide +kernel, rfl, by decide +kernel, by decide +kernel⟩, f__law_same, rfl, rfl, rfl, by kernel_rfl⟩
theorem ok__law_firsts : DefOk PP bL dI kW S__law_firsts := ⟨⟨rfl, rfl, rfl, by decide +kernel, rfl, by decide +kernel, by decide +kernel⟩, f__law_firsts, rfl, rfl, rfl, by kernel_rfl⟩
theorem ok_law : DefOk PP bL dI kW S_law := ⟨⟨rfl, rfl, rfl, by decide +kernel, rfl, by decide +kernel, by decide +kernel⟩, f_law, rfl, rfl, rfl, by kernel_rfl⟩
theorem bd_first_times : ∀ (kV doc pm : Value) (an : Option Addr) (cdv ct : Value) (us : List Value), us.length = S_first_times.d.ps.length → bindArgs (PySem.W.fnOf S_first_times.d.name S_first_times.d.name (L2.defArgs S_first_times.st) (L2.defBody S_first_times.st) (L2.defScope S_first_times.st) .none kV doc pm an cdv ct) ⟨us, []⟩ = pure (S_first_times.d.ps.zip us) := fun _ _ _ _ _ _ us hl => match us, hl with | [_], _ => rfl
theorem kd_first_times : ∀ k ∈ kW, k.id = S_first_times.d.id → ∀ (kV doc pm : Value) (an : Option Addr) (cdv ct : Value) (us ws : List Value), us.length = k.n → ws.length = k.ks.length → bindArgs (PySem.W.fnOf S_first_times.d.name S_first_times.d.name (L2.defArgs S_first_times.st) (L2.defBody S_first_times.st) (L2.defScope S_first_times.st) .none kV doc pm an cdv ct) ⟨us, k.ks.zip ws⟩ = pure (S_first_times.d.ps.zip (selL (us ++ ws) k.sel)) := by
  intro k hk hid
  simp only [List.mem_cons, List.not_mem_nil, or_false] at hk
  rcases hk with rfl
  · exact fun _ _ _ _ _ _ us ws h1 h2 => match us, ws, h1, h2 with | [], [_], _, _ => rfl
theorem bd__law_box : ∀ (kV doc pm : Value) (an : Option Addr) (cdv ct : Value) (us : List Value), us.length = S__law_box.d.ps.length → bindArgs (PySem.W.fnOf S__law_box.d.name S__law_box.d.name (L2.defArgs S__law_box.st) (L2.defBody S__law_box.st) (L2.defScope S__law_box.st) .none kV doc pm an cdv ct) ⟨us, []⟩ = pure (S__law_box.d.ps.zip us) := fun _ _ _ _ _ _ us hl => match us, hl with | [_, _], _ => rfl
theorem kd__law_box : ∀ k ∈ kW, k.id = S__law_box.d.id → ∀ (kV doc pm : Value) (an : Option Addr) (cdv ct : Value) (us ws : List Value), us.length = k.n → ws.length = k.ks.length → bindArgs (PySem.W.fnOf S__law_box.d.name S__law_box.d.name (L2.defArgs S__law_box.st) (L2.defBody S__law_box.st) (L2.defScope S__law_box.st) .none kV doc pm an cdv ct) ⟨us, k.ks.zip ws⟩ = pure (S__law_box.d.ps.zip (selL (us ++ ws) k.sel)) := by
  intro k hk hid
  simp only [List.mem_cons, List.not_mem_nil, or_false] at hk
  rcases hk with rfl
  · exact absurd hid (by decide)
theorem bd__law_take : ∀ (kV doc pm : Value) (an : Option Addr) (cdv ct : Value) (us : List Value), us.length = S__law_take.d.ps.length → bindArgs (PySem.W.fnOf S__law_take.d.name S__law_take.d.name (L2.defArgs S__law_take.st) (L2.defBody S__law_take.st) (L2.defScope S__law_take.st) .none kV doc pm an cdv ct) ⟨us, []⟩ = pure (S__law_take.d.ps.zip us) := fun _ _ _ _ _ _ us hl => match us, hl with | [_, _], _ => rfl
theorem kd__law_take : ∀ k ∈ kW, k.id = S__law_take.d.id → ∀ (kV doc pm : Value) (an : Option Addr) (cdv ct : Value) (us ws : List Value), us.length = k.n → ws.length = k.ks.length → bindArgs (PySem.W.fnOf S__law_take.d.name S__law_take.d.name (L2.defArgs S__law_take.st) (L2.defBody S__law_take.st) (L2.defScope S__law_take.st) .none kV doc pm an cdv ct) ⟨us, k.ks.zip ws⟩ = pure (S__law_take.d.ps.zip (selL (us ++ ws) k.sel)) := by
  intro k hk hid
  simp only [List.mem_cons, List.not_mem_nil, or_false] at hk
  rcases hk with rfl
  · exact absurd hid (by decide)
theorem bd__law_pick : ∀ (kV doc pm : Value) (an : Option Addr) (cdv ct : Value) (us : List Value), us.length = S__law_pick.d.ps.length → bindArgs (PySem.W.fnOf S__law_pick.d.name S__law_pick.d.name (L2.defArgs S__law_pick.st) (L2.defBody S__law_pick.st) (L2.defScope S__law_pick.st) .none kV doc pm an cdv ct) ⟨us, []⟩ = pure (S__law_pick.d.ps.zip us) := fun _ _ _ _ _ _ us hl => match us, hl with | [_, _], _ => rfl
theorem kd__law_pick : ∀ k ∈ kW, k.id = S__law_pick.d.id → ∀ (kV doc pm : Value) (an : Option Addr) (cdv ct : Value) (us ws : List Value), us.length = k.n → ws.length = k.ks.length → bindArgs (PySem.W.fnOf S__law_pick.d.name S__law_pick.d.name (L2.defArgs S__law_pick.st) (L2.defBody S__law_pick.st) (L2.defScope S__law_pick.st) .none kV doc pm an cdv ct) ⟨us, k.ks.zip ws⟩ = pure (S__law_pick.d.ps.zip (selL (us ++ ws) k.sel)) := by
  intro k hk hid
  simp only [List.mem_cons, List.not_mem_nil, or_false] at hk
  rcases hk with rfl
  · exact absurd hid (by decide)
theorem bd__law_same : ∀ (kV doc pm : Value) (an : Option Addr) (cdv ct : Value) (us : List Value), us.length = S__law_same.d.ps.length → bindArgs (PySem.W.fnOf S__law_same.d.name S__law_same.d.name (L2.defArgs S__law_same.st) (L2.defBody S__law_same.st) (L2.defScope S__law_same.st) .none kV doc pm an cdv ct) ⟨us, []⟩ = pure (S__law_same.d.ps.zip us) := fun _ _ _ _ _ _ us hl => match us, hl with | [_, _], _ => rfl
theorem kd__law_same : ∀ k ∈ kW, k.id = S__law_same.d.id → ∀ (kV doc pm : Value) (an : Option Addr) (cdv ct : Value) (us ws : List Value), us.length = k.n → ws.length = k.ks.length → bindArgs (PySem.W.fnOf S__law_same.d.name S__law_same.d.name (L2.defArgs S__law_same.st) (L2.defBody S__law_same.st) (L2.defScope S__law_same.st) .none kV doc pm an cdv ct) ⟨us, k.ks.zip ws⟩ = pure (S__law_same.d.ps.zip (selL (us ++ ws) k.sel)) := by
  intro k hk hid
  simp only [List.mem_cons, List.not_mem_nil, or_false] at hk
  rcases hk with rfl
  · exact absurd hid (by decide)
theorem bd__law_firsts : ∀ (kV doc pm : Value) (an : Option Addr) (cdv ct : Value) (us : List Value), us.length = S__law_firsts.d.ps.length → bindArgs (PySem.W.fnOf S__law_firsts.d.name S__law_firsts.d.name (L2.defArgs S__law_firsts.st) (L2.defBody S__law_firsts.st) (L2.defScope S__law_firsts.st) .none kV doc pm an cdv ct) ⟨us, []⟩ = pure (S__law_firsts.d.ps.zip us) := fun _ _ _ _ _ _ us hl => match us, hl with | [_], _ => rfl
theorem kd__law_firsts : ∀ k ∈ kW, k.id = S__law_firsts.d.id → ∀ (kV doc pm : Value) (an : Option Addr) (cdv ct : Value) (us ws : List Value), us.length = k.n → ws.length = k.ks.length → bindArgs (PySem.W.fnOf S__law_firsts.d.name S__law_firsts.d.name (L2.defArgs S__law_firsts.st) (L2.defBody S__law_firsts.st) (L2.defScope S__law_firsts.st) .none kV doc pm an cdv ct) ⟨us, k.ks.zip ws⟩ = pure (S__law_firsts.d.ps.zip (selL (us ++ ws) k.sel)) := by
  intro k hk hid
  simp only [List.mem_cons, List.not_mem_nil, or_false] at hk
  rcases hk with rfl
  · exact absurd hid (by decide)
theorem bd_law : ∀ (kV doc pm : Value) (an : Option Addr) (cdv ct : Value) (us : List Value), us.length = S_law.d.ps.length → bindArgs (PySem.W.fnOf S_law.d.name S_law.d.name (L2.defArgs S_law.st) (L2.defBody S_law.st) (L2.defScope S_law.st) .none kV doc pm an cdv ct) ⟨us, []⟩ = pure (S_law.d.ps.zip us) := fun _ _ _ _ _ _ us hl => match us, hl with | [_], _ => rfl
theorem kd_law : ∀ k ∈ kW, k.id = S_law.d.id → ∀ (kV doc pm : Value) (an : Option Addr) (cdv ct : Value) (us ws : List Value), us.length = k.n → ws.length = k.ks.length → bindArgs (PySem.W.fnOf S_law.d.name S_law.d.name (L2.defArgs S_law.st) (L2.defBody S_law.st) (L2.defScope S_law.st) .none kV doc pm an cdv ct) ⟨us, k.ks.zip ws⟩ = pure (S_law.d.ps.zip (selL (us ++ ws) k.sel)) := by
  intro k hk hid
  simp only [List.mem_cons, List.not_mem_nil, or_false] at hk
  rcases hk with rfl
  · exact absurd hid (by decide)
theorem all_mk {prog : Program} {w : World} {K : PySem.W.Frag} {h : Heap} {mg : Str → Option Value} {fa : Addr} (X : K.In h) (G : h.Ns mainGlobals mg) (hfa : mg "law" = some (.ref fa)) (d0 : DefIn K mg kW S_first_times) (d1 : DefIn K mg kW S__law_box) (d2 : DefIn K mg kW S__law_take) (d3 : DefIn K mg kW S__law_pick) (d4 : DefIn K mg kW S__law_same) (d5 : DefIn K mg kW S__law_firsts) (d6 : DefIn K mg kW S_law) (z : ∀ x ∈ bL, PySem.W.nsIn K mainGlobals x = some none) :
    ∃ fd : FuncData, (∀ (s : Shared) (v : Value), BindsTo s fd ⟨[v], []⟩ [("script", v)]) ∧ ∀ base : Heap, K.In base → base.Ns mainGlobals mg → L2.FnOk prog w K mg base L2.CX0 201 fa fd ["script"] (spF PP 201 7 K) :=
  law_head (S := S_law) dS rfl (fun x hx => PySem.W.mg_none_of X G (z x hx)) (by
    intro S hS
    simp only [List.mem_cons, List.not_mem_nil, or_false] at hS
    rcases hS with rfl | rfl | rfl | rfl | rfl | rfl | rfl
    · exact ok_first_times
    · exact ok__law_box
    · exact ok__law_take
    · exact ok__law_pick
    · exact ok__law_same
    · exact ok__law_firsts
    · exact ok_law) (by
    intro S hS
    simp only [List.mem_cons, List.not_mem_nil, or_false] at hS
    rcases hS with rfl | rfl | rfl | rfl | rfl | rfl | rfl
    · exact d0
    · exact d1
    · exact d2
    · exact d3
    · exact d4
    · exact d5
    · exact d6) (by simp [dS]) hfa rfl 200 (fun _ _ _ _ _ _ _ => rfl)
end LW
namespace LW
open IR PySem
def fst (rs : List Int) : Nat → List Int
  | 0 => []
  | i + 1 => match rs[i]? with
    | some d => if d ∈ fst rs i then fst rs i else fst rs i ++ [d]
    | none => fst rs i
theorem fst_step {rs : List Int} {i : Nat} {d : Int} (h : rs[i]? = some d) : fst rs (i + 1) = if d ∈ fst rs i then fst rs i else fst rs i ++ [d] := by
  rw [fst, h]
theorem fst_len (rs : List Int) : ∀ i, (fst rs i).length ≤ i
  | 0 => Nat.le_refl _
  | i + 1 => by
    have ih := fst_len rs i
    cases h : rs[i]? with
    | none => rw [fst, h]; exact Nat.le_succ_of_le ih
    | some d =>
      rw [fst_step h]
      split
      · exact Nat.le_succ_of_le ih
      · rw [List.length_append]; exact Nat.succ_le_succ ih
theorem fst_mem (rs : List Int) (d : Int) : ∀ i, d ∈ fst rs i ↔ d ∈ rs.take i
  | 0 => by rw [fst, List.take_zero]
  | i + 1 => by
    have ih := fst_mem rs d i
    cases h : rs[i]? with
    | none =>
      rw [fst, h, List.take_succ, h]
      simpa using ih
    | some e =>
      rw [fst_step h, List.take_succ, h]
      have ih2 := fst_mem rs e i
      by_cases hm : e ∈ fst rs i
      · rw [if_pos hm]
        simp only [Option.toList_some, List.mem_append, List.mem_singleton]
        exact ⟨fun z => .inl (ih.mp z), fun z => z.elim ih.mpr fun z => by rw [z]; exact hm⟩
      · rw [if_neg hm]
        simp only [Option.toList_some, List.mem_append, List.mem_singleton]
        exact ⟨fun z => z.imp ih.mp id, fun z => z.imp ih.mpr id⟩
theorem first_ok {d : Nat} {rs : List Int} (hl : rs.length < 16777216) {Q : PV → Option PV → Prop} (q : Q (.tuple (zs (fst rs rs.length))) none) : callN PP (d + 1) 1 [.tuple (zs rs)] Q := by
  have hC := callN_mono PP d
  refine call_go rfl ⟨rfl, by decide, fun z => absurd rfl z, ?_⟩
  show wpSs PP (callN PP d) b_first_times [some (.b, .tuple (zs rs)), none, none] _
  unfold b_first_times
  refine c_setO (v := .list []) hC rfl (by simp) rfl rfl ?_
  refine c_for hC (it_lst rfl rfl rfl rfl ⟨fun i ρ => ∃ y2, ρ = [some (.b, .tuple (zs rs)), some (.o, .list (zs (fst rs i))), Bs y2], ⟨none, rfl⟩, fun _ _ _ => True.intro, ?_, ?_⟩)
  · rintro i x ρ hx ⟨y2, rfl⟩
    obtain ⟨e, he, rfl⟩ := zs_get hx
    refine ⟨by simp, ?_⟩
    refine c_if (v := .bool (!decide (e ∈ fst rs i))) hC rfl (by simp [Op.kl, e_ninL]) rfl (fun ht => ?_) fun ht => ?_
    · have hm : ¬ e ∈ fst rs i := by simpa using ht
      refine c_app hC (v := .int e) rfl (by simp) rfl (.inl rfl) ?_ (n_nil (s_nil ⟨some (.int e), ?_⟩))
      · have := fst_len rs i
        have := get_lt he
        rw [zs_len]
        simp only [line]
        omega
      · rw [fst_step he, if_neg hm]
        simp [zs, Bs]
    · have hm : e ∈ fst rs i := by simpa using ht
      exact n_nil (s_nil ⟨some (.int e), by rw [fst_step he, if_pos hm]; rfl⟩)
  · rintro ρ ⟨y2, rfl⟩
    rw [zs_len]
    exact c_ret hC (v := .tuple (zs (fst rs rs.length))) rfl (by simp [unlock, Op.kl]) (fun z => by cases z) ⟨fun z => (by cases z), q⟩
theorem firsts_ok {d : Nat} {rs : List Int} (hl : rs.length < 16777216) {Q : PV → Option PV → Prop} (q : Q (.tuple (zs (fst rs rs.length))) none) : callN PP (d + 1) 6 [.tuple (zs rs)] Q := by
  have hC := callN_mono PP d
  refine call_go rfl ⟨rfl, by decide, fun z => absurd rfl z, ?_⟩
  show wpSs PP (callN PP d) b__law_firsts [some (.b, .tuple (zs rs)), none, none] _
  unfold b__law_firsts
  refine c_retX (x_opX ?_)
  unfold wpAs wpD wpAs
  refine lc_go hC (it_enm rfl rfl rfl rfl ⟨rfl, fun i acc ρ => ρ = [some (.b, .tuple (zs rs)), none, none] ∧ acc = zs (fst rs i), ⟨rfl, rfl⟩, fun _ _ _ _ => True.intro, ?_, ?_⟩)
  · rintro i x acc ρ hx ⟨rfl, rfl⟩
    obtain ⟨v, hv, rfl⟩ := enm_get hx
    obtain ⟨e, he, rfl⟩ := zs_get hv
    have hi := get_lt he
    refine ⟨_, rfl, rfl, _, _, rfl, ⟨by simp, _, _, rfl, ⟨by simp, rfl, ?_⟩⟩⟩
    have e1 : evalOp (.sl false true) [.tuple (zs rs), .int (i : Int)] = some (.tuple (zs (rs.take i))) := by
      rw [e_sltoT (by rw [zs_len]; omega), ← List.map_take]
    have e2 : evalOp .nIn [.int e, .tuple (List.take i (List.map PyData.int rs))] = some (.bool (!decide (e ∈ rs.take i))) := by
      rw [← List.map_take]; exact e_ninT
    refine x_pu (v := .bool (!decide (e ∈ rs.take i))) hC rfl (by simp [Op.kl, e1, e2]) ⟨_, rfl, ?_⟩
    cases hm : (!decide (e ∈ rs.take i)) with
    | true =>
      have hm' : ¬ e ∈ fst rs i := by rw [fst_mem]; simpa using hm
      refine br_t (x_pu (v := .int e) hC rfl (by simp) ⟨?_, rfl, ?_⟩)
      · have := fst_len rs i
        rw [zs_len]
        simp only [line]
        omega
      · rw [fst_step he, if_neg hm']
        simp [zs]
    | false =>
      have hm' : e ∈ fst rs i := by rw [fst_mem]; simpa using hm
      exact br_f ⟨rfl, by rw [fst_step he, if_pos hm']⟩
  · rintro acc ρ ⟨rfl, rfl⟩
    rw [enmOf_len, zs_len]
    exact ⟨_, rfl, _, rfl, fun z => (by cases z), fun z => (by cases z), q⟩
theorem same2 {d : Nat} {rs : List Int} {Q : PV → Option PV → Prop} (q : Q (.bool true) none) : callN PP (d + 2) 5 [.tuple (zs rs), .tuple (zs rs)] Q :=
  same_ok rfl (d + 1) (.tuple (zs rs)) (plVs_ints rs) (by unfold dpV; rw [dpVs_ints]; omega) q
theorem law_true (ns : List Int) (hl : ns.length ≤ 63) : callN PP 201 7 [.list (ns.map PyData.int)] fun v _ => v = .bool true := by
  have hC := callN_mono PP 200
  refine call_go rfl ⟨rfl, by decide, fun _ => ⟨_, _, rfl, rfl⟩, ?_⟩
  generalize hL : (PyData.list (ns.map PyData.int)) = S
  have hS : ∃ l, S = .list l ∧ l.length = ns.length := ⟨_, hL.symm, List.length_map ..⟩
  obtain ⟨l, rfl, hll⟩ := hS
  show wpSs PP (callN PP 200) b_law [some (.s, .list l), none, none, none, none, none] _
  unfold b_law
  refine c_for hC (it_rng hC rfl (vs := [.int (if (if (9 : Int) < l.length then 9 else (l.length : Int)) > 4 then (if (9 : Int) < l.length then 9 else (l.length : Int)) else 4)]) (by simp [Op.kl]) (rng_go (by split <;> split <;> omega) (by split <;> split <;> omega)) ?_)
  refine ⟨fun i ρ => ∃ y1 Y2 y3 y4 y5, stO (some Y2) = true ∧ ρ = [some (.s, .list l), Bs y1, Y2, Bs y3, Bs y4, Bs y5], ⟨none, none, none, none, none, rfl, rfl⟩, fun _ _ _ => True.intro, ?_, ?_⟩
  · rintro k x ρ hx ⟨y1, Y2, y3, y4, y5, hY, rfl⟩
    obtain ⟨rfl, hk⟩ := rngL_get hx
    refine ⟨by simp, ?_⟩
    refine c_setXo hC rfl (x_callS hC (fd := f_box) rfl rfl rfl (vs := [.int (k : Int)]) (by simp) rfl ?_)
    have hL' : PyData.list l = .list (ns.map PyData.int) := hL.symm
    rw [hL']
    refine box_ok rfl (by omega) fun g s => ⟨rfl, hY, ?_⟩
    rw [hL]
    refine c_for hC (it_rng hC rfl (vs := [.int 4]) (by simp) (rng_go (by omega) (by omega)) ?_)
    refine ⟨fun i ρ => ∃ g s y1 y3 y4 y5, ρ = [some (.s, .list l), Bs y1, some (.o, .list [.int g, .int s]), Bs y3, Bs y4, Bs y5], ⟨g, s, some (.int k), y3, y4, y5, rfl⟩, fun _ _ _ => True.intro, ?_, ?_⟩
    · rintro i x ρ hx ⟨g, s, y1, y3, y4, y5, rfl⟩
      obtain ⟨rfl, hi⟩ := rngL_get hx
      refine ⟨by simp, ?_⟩
      refine c_setXb hC (x_opX ?_)
      unfold wpAs wpD wpAs
      refine lc_go hC ?_
      unfold wpIt wpAs wpD wpAs
      refine x_callI hC (fd := f_take) rfl rfl rfl (vs := [.int 13]) (by simp) rfl (.inl rfl) rfl (take_ok rfl (by omega) (by omega) fun r g' s' r0 r1 => ⟨_, rfl, ?_⟩)
      refine ⟨[.int r], rfl, _, rng_go (by omega) (by omega), ?_, fun c acc ρ => ∃ g s rs, acc = zs rs ∧ rs.length = c ∧ ρ = [some (.s, .list l), Bs y1, some (.o, .list [.int g, .int s]), Bs (some (.int i)), Bs y4, none], ⟨g', s', [], rfl, rfl, ?_⟩, fun _ _ _ _ => True.intro, ?_, ?_⟩
      · simp
      · rfl
      · rintro j x acc ρ hx ⟨g, s, rs, rfl, hj, rfl⟩
        obtain ⟨rfl, hjr⟩ := rngL_get hx
        refine ⟨by simp, x_pu (v := .bool true) hC rfl (by simp) ⟨true, rfl, br_t (x_callX ?_)⟩⟩
        unfold wpAs wpD wpAs wpD wpAs
        refine ⟨⟨_, rfl⟩, x_callI hC (fd := f_pick) rfl rfl rfl (vs := [.list [.int 1, .int 2, .int 4, .int 7]]) (by simp) rfl (.inl rfl) rfl (pick_ok rfl rfl (by decide) (by decide) (fun i hi g' s' => ⟨_, rfl, ?_⟩) (by simp [mutv]))⟩
        have hm : ∃ m, [PyData.int 1, .int 2, .int 4, .int 7][i] = .int m ∧ 0 < m ∧ m < 1073741824 := by
          match i, hi with
          | 0, _ => exact ⟨1, rfl, by decide, by decide⟩
          | 1, _ => exact ⟨2, rfl, by decide, by decide⟩
          | 2, _ => exact ⟨4, rfl, by decide, by decide⟩
          | 3, _ => exact ⟨7, rfl, by decide, by decide⟩
        obtain ⟨m, em, m0, m1⟩ := hm
        rw [em]
        refine cd_take rfl rfl (.inl rfl) m0 m1 fun r2 g2 s2 _ _ => ⟨?_, g2, s2, rs ++ [r2], ?_, ?_, rfl⟩
        · rw [zs_len]; simp only [line]; omega
        · simp [zs]
        · rw [List.length_append, hj]; rfl
      · rintro acc ρ' ⟨g, s, rs, rfl, hlen, rfl⟩
        rw [rngL_len] at hlen
        refine ⟨_, rfl, _, rfl, rfl, by simp [unlock, restore], ?_⟩
        refine c_ifX (x_notX (x_callX ?_))
        unfold wpAs wpD wpAs wpD wpAs
        refine x_callk hC (fd := f_first_times) rfl rfl rfl (vs := [.tuple (zs rs)]) (by simp [restore, unlock]) (by simp) ?_
        refine first_ok (d := 199) (by omega) ?_
        refine x_call hC (fd := f__law_firsts) rfl rfl rfl (vs := [.tuple (zs rs)]) (by simp [restore, unlock]) ?_
        refine firsts_ok (d := 199) (by omega) ?_
        refine cd_vl (fd := f_same) rfl rfl [.tuple (zs (fst rs rs.length)), .tuple (zs (fst rs rs.length))] ?_
        refine same2 (d := 198) ?_
        exact ⟨true, rfl, false, rfl, br_f (n_nil (s_nil ⟨g, s, y1, some (.int i), some (.tuple (zs rs)), y5, rfl⟩))⟩
    · rintro ρ ⟨g, s, y1, y3, y4, y5, rfl⟩
      exact s_nil ⟨y1, _, y3, y4, y5, rfl, rfl⟩
  · rintro ρ ⟨y1, Y2, y3, y4, y5, hY, rfl⟩
    refine c_retX (x_andX (x_callX ?_))
    unfold wpAs wpD wpAs wpD wpAs
    refine x_call hC (fd := f_first_times) rfl rfl rfl (vs := [.tuple (zs [2, 0, 2, 1, 0])]) (by simp [unlock]) ?_
    refine first_ok (d := 199) (by decide) ?_
    refine x_pu (v := .tuple (zs [2, 0, 1])) hC rfl (by simp) ?_
    refine cd_vl (fd := f_same) rfl rfl [.tuple (zs (fst [2, 0, 2, 1, 0] 5)), .tuple (zs [2, 0, 1])] ?_
    have e : fst [2, 0, 2, 1, 0] 5 = [2, 0, 1] := by decide
    rw [e]
    refine same2 (d := 198) ⟨true, rfl, br_t (x_callX ?_)⟩
    unfold wpAs wpD wpAs wpD wpAs
    refine x_call hC (fd := f_first_times) rfl rfl rfl (vs := [.tuple (zs [])]) (by simp [unlock]) ?_
    refine first_ok (d := 199) (by decide) ?_
    refine x_pu (v := .tuple (zs [])) hC rfl (by simp) ?_
    refine cd_vl (fd := f_same) rfl rfl [.tuple (zs (fst [] 0)), .tuple (zs [])] ?_
    exact same2 (d := 198) ⟨fun z => (by cases z), fun z => (by cases z), rfl⟩
end LW
open PySem PySem.W PyProof.Rows
set_option maxHeartbeats 0 in
theorem PySem.Challenge.cw_onlysums_k48_first_times_holds : PySem.Challenge.rw_onlysums_k48_first_times.Holds := by
  w_on; o_law; k_head; (case hw => w_witness2)
  k_fill
  refine L2.walk_of (l := PySem.Challenge.rw_onlysums_k48_first_times) (n := 63) (k := 201) (x := "script") (CX := fun _ => L2.CX0) (sp := fun w => IR.spF LW.PP 201 7 _) rfl (by decide) rfl ⟨rfl, by decide, by decide⟩ (fun w h Y => PySem.W.kIn_of Y) ?F (fun _ _ a ns hl hO hS => IR.law_sp (fd := LW.f_law) rfl rfl rfl hO hS (LW.law_true ns hl)) (fun _ _ _ _ _ h => h)
  case F =>
    intro w mg fa h KX G hmg
    refine' LW.all_mk KX G hmg ?d0 ?d1 ?d2 ?d3 ?d4 ?d5 ?d6 ?z
    (case d0 => refine' IR.defIn_of KX G LW.bd_first_times LW.kd_first_times ?a ?l ?c ?k; (case a => k_is); (case l => k_is); (case c => k_is); (case k => k_is))
    (case d1 => refine' IR.defIn_of KX G LW.bd__law_box LW.kd__law_box ?a ?l ?c ?k; (case a => k_is); (case l => k_is); (case c => k_is); (case k => k_is))
    (case d2 => refine' IR.defIn_of KX G LW.bd__law_take LW.kd__law_take ?a ?l ?c ?k; (case a => k_is); (case l => k_is); (case c => k_is); (case k => k_is))
    (case d3 => refine' IR.defIn_of KX G LW.bd__law_pick LW.kd__law_pick ?a ?l ?c ?k; (case a => k_is); (case l => k_is); (case c => k_is); (case k => k_is))
    (case d4 => refine' IR.defIn_of KX G LW.bd__law_same LW.kd__law_same ?a ?l ?c ?k; (case a => k_is); (case l => k_is); (case c => k_is); (case k => k_is))
    (case d5 => refine' IR.defIn_of KX G LW.bd__law_firsts LW.kd__law_firsts ?a ?l ?c ?k; (case a => k_is); (case l => k_is); (case c => k_is); (case k => k_is))
    (case d6 => refine' IR.defIn_of KX G LW.bd_law LW.kd_law ?a ?l ?c ?k; (case a => k_is); (case l => k_is); (case c => k_is); (case k => k_is))
    (case z =>
      intro x hx
      simp only [LW.bL, List.mem_cons, List.not_mem_nil, or_false] at hx
      rcases hx with rfl | rfl | rfl | rfl | rfl | rfl | rfl | rfl | rfl | rfl | rfl | rfl <;> k_is)
