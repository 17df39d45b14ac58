import PyProof.Rows.All
import PyProof.EqLayable
import PyProof.ReprReads
import KE.DataEq
import Wide.All
import OpenK.AllK
import Wide.FinOn
import HandS.ForMost
import HandS.Exc
import HandS.Deep
import HandS.TupAny
import HandS.TupMul
import HandS.TupLe
import HandS.SetFor
import HandS.Strs
import HandS.Zip
import HandS.Style
import HandS.Flow
import HandS.IsInst
import HandS.RaiseMore
import KE.DataFind
import KE.SortData
import KE.DataCmp
import PyProof.ReprRoads
import HandS.ExcOwn
import HandS.Conv
import HandS.ExcIs
import HandS.TryOnly
import PyProof.ExcBaseAll.ValueError
import HandS.Comp
import KE.GoesEnum
import HandS.Defaults
import HandS.Ends
import HandS.HeadHook2
import HandS.Head0
import HandS.Head1
import HandS.Head2
import HandS.HeadHook1
import PySem.Challenge.RW_mendedmodels_k48_race_runs_judged
import KE.KStateDown
import HandS.HeadEnd
set_option Elab.async false
set_option linter.all false
set_option maxRecDepth 100000
/-! Mi, part A: the mini language and what it computes. -/
namespace Mi
open PySem

/-- what a piece comes to: a value, an exception of the class with this number, or nothing told -/
inductive R (α : Type) where
  | ok (a : α) | exn (c : Nat) (fs : List PyData) | stk
def R.bind {α β : Type} : R α → (α → R β) → R β
  | .ok a, f => f a
  | .exn c fs, _ => .exn c fs
  | .stk, _ => .stk
instance : Monad R where
  pure := R.ok
  bind := R.bind
@[simp] theorem ok_bind {α β : Type} (a : α) (f : α → R β) : (R.ok a >>= f) = f a := rfl
@[simp] theorem exn_bind {α β : Type} (c : Nat) (fs : List PyData) (f : α → R β) : ((R.exn c fs : R α) >>= f) = R.exn c fs := rfl
@[simp] theorem stk_bind {α β : Type} (f : α → R β) : ((R.stk : R α) >>= f) = R.stk := rfl
@[simp] theorem pure_ok {α : Type} (a : α) : (pure a : R α) = R.ok a := rfl
theorem bind_ok {α β : Type} {x : R α} {f : α → R β} {b : β} (h : (x >>= f) = .ok b) : ∃ a, x = .ok a ∧ f a = .ok b := by
  cases x with
  | ok a => exact ⟨a, rfl, h⟩
  | exn c fs => cases h
  | stk => cases h

/-- a slot: empty, a value that never changes, a list or dict that only this slot holds -/
inductive Slot where
  | emp | val (d : PyData) | lst (ds : List PyData) | dct (kvs : List (PyData × PyData))
abbrev Env := List Slot
def Slot.own : Slot → Bool
  | .lst _ => true
  | .dct _ => true
  | _ => false
/-- what an expression gives: a value, a new list or dict, what the slot i holds -/
inductive Arg where
  | val (d : PyData) | lst (ds : List PyData) | dct (kvs : List (PyData × PyData)) | slot (i : Nat)

def get : Env → Nat → Slot
  | [], _ => .emp
  | s :: _, 0 => s
  | _ :: r, n + 1 => get r n
def put : Env → Nat → Slot → Env
  | [], _, _ => []
  | _ :: r, 0, t => t :: r
  | s :: r, n + 1, t => s :: put r n t
theorem put_length : ∀ (e : Env) (i : Nat) (s : Slot), (put e i s).length = e.length
  | [], _, _ => rfl
  | _ :: _, 0, _ => rfl
  | _ :: r, n + 1, s => congrArg (· + 1) (put_length r n s)
theorem get_put : ∀ (e : Env) (i j : Nat) (s : Slot), i < e.length → get (put e i s) j = if j = i then s else get e j
  | [], _, _, _, h => absurd h (Nat.not_lt_zero _)
  | _ :: _, 0, 0, _, _ => rfl
  | _ :: _, 0, _ + 1, _, _ => rfl
  | _ :: _, _ + 1, 0, _, _ => rfl
  | _ :: r, n + 1, m + 1, s, h => by
    show get (put r n s) m = if m + 1 = n + 1 then s else get r m
    rw [get_put r n m s (Nat.lt_of_succ_lt_succ h)]
    by_cases e : m = n
    · rw [if_pos e, if_pos (congrArg (· + 1) e)]
    · rw [if_neg e, if_neg (fun q => e (Nat.succ.inj q))]
theorem get_lt : ∀ (e : Env) (i : Nat), get e i ≠ .emp → i < e.length
  | [], _, h => absurd rfl h
  | _ :: _, 0, _ => Nat.zero_lt_succ _
  | _ :: r, n + 1, h => Nat.succ_lt_succ (get_lt r n h)

/-- the line of sizes -/
def big : Nat := 16777216

/-- what is read -/
def Arg.see (env : Env) : Arg → R PyData
  | .val d => .ok d
  | .lst ds => .ok (.list ds)
  | .dct _ => .stk
  | .slot i => match get env i with
    | .lst ds => .ok (.list ds)
    | .val d => .ok d
    | _ => .stk
/-- what is given away for ever -/
def Arg.frz (env : Env) : Arg → R (PyData × Env)
  | .val d => .ok (d, env)
  | .lst ds => .ok (.list ds, env)
  | .dct _ => .stk
  | .slot i => match get env i with
    | .lst ds => .ok (.list ds, put env i (.val (.list ds)))
    | .val d => .ok (d, env)
    | _ => .stk

/-- a new list among arguments is given away at once -/
def Arg.settle : Arg → R Arg
  | .lst ds => .ok (.val (.list ds))
  | .dct _ => .stk
  | a => .ok a

inductive Op2 where | add | sub | mul | fdiv | mod | pow
inductive Ty where | int | bool | tuple | str | list
inductive Blt where | len | abs | int | list | tuple | all | any | repr | sum | max2 | min2 | bool
inductive Mth where | count | index

mutual
inductive ME where
  | var (i : Nat)
  | cst (d : PyData)
  | gbl (x : Str) (d : PyData)
  | nop
  | tup (as : MA)
  | lst (as : MA)
  | sub (a b : ME)
  | slc (a lo hi : ME)
  | rev (a : ME)
  | op2 (o : Op2) (a b : ME)
  | neg (a : ME)
  | not (a : ME)
  | and (a b : ME)
  | or (a b : ME)
  | cmp (o : CmpOp) (a b : ME)
  | chn (o p : CmpOp) (a b c : ME)
  | ite (c a b : ME)
  | call (f : Nat) (as : MA)
  | blt (b : Blt) (as : MA)
  | isi (a : ME) (t : Ty)
  | lc (tg : MT) (vs : List Nat) (it : MI) (cd el : ME)
  | lc2 (tg : MT) (vs : List Nat) (it : MI) (tg1 : MT) (vs1 : List Nat) (it1 : MI) (cd el : ME)
  | mth (m : Mth) (a : ME) (as : MA)
  | app (i : Nat) (e : ME)
  | pop (i : Nat)
  | popAt (i : Nat) (e : ME)
  | trg (a : ME)
inductive MA where
  | nil | cons (e : ME) (r : MA)
inductive MI where
  | seq (e : ME) | rng1 (a : ME) | rng2 (a b : ME) | enm (e : ME) | zip (a b : ME)
inductive MT where
  | nm (i : Nat) | tp (ts : MTs)
inductive MTs where
  | nil | cons (t : MT) (r : MTs)
end

mutual
/-- what an except clause gives back, by the exception's number -/
inductive HX where
  | cst (d : PyData) | isE (ks : List Nat) | ite (t a b : HX) | lst (l : HXs)
inductive HXs where
  | nil | cons (h : HX) (r : HXs)
end
mutual
def evalH : HX → Nat → R Arg
  | .cst d, _ => .ok (.val d)
  | .isE ks, n => .ok (.val (.bool (ks.contains n)))
  | .ite t a b, n => do
    let r ← evalH t n
    match r with
    | .val (.bool true) => evalH a n
    | .val (.bool false) => evalH b n
    | _ => .stk
  | .lst l, n => do
    let ds ← evalHs l n
    pure (.lst ds)
def evalHs : HXs → Nat → R (List PyData)
  | .nil, _ => .ok []
  | .cons h r, n => do
    let a ← evalH h n
    match a with
    | .val d => do
      let ds ← evalHs r n
      pure (d :: ds)
    | _ => .stk
end
mutual
inductive MS where
  | asg (t : MT) (e : ME)
  | par (ts : MTs) (as : MA)
  | aug (i : Nat) (o : Op2) (e : ME)
  | sti (i : Nat) (ix e : ME)
  | exp (e : ME)
  | iff (c : ME) (a b : MB)
  | whl (c : ME) (b : MB)
  | for_ (t : MT) (it : MI) (b : MB)
  | ret (e : ME)
  | brk
  | cnt
  | rse (c : Nat) (as : MA)
  | tryS (b : MB) (ks : List Nat) (v : Option Nat) (h : HX)
  | nev
inductive MB where
  | nil | cons (s : MS) (r : MB)
end

inductive Flow where
  | nx | rt (a : Arg) | bk | ct

/-! ### what the operators give -/
def int1 : PyData → R Int
  | .int i => .ok i
  | _ => .stk
def b2i (b : Bool) : Int := if b then 1 else 0
def seqOf : PyData → R (List PyData)
  | .list ds => .ok ds
  | .tuple ds => .ok ds
  | _ => .stk
def fitsMul (i j : Int) : Bool := (decide (-(2 ^ 64) < i) && decide (i < 2 ^ 64)) || (decide (-(2 ^ 64) < j) && decide (j < 2 ^ 64))
def bin2 : Op2 → PyData → PyData → R Arg
  | .add, .int i, .int j => .ok (.val (.int (i + j)))
  | .add, .int i, .bool b => .ok (.val (.int (i + b2i b)))
  | .add, .str x, .str y => if x.length + y.length ≤ big then .ok (.val (.str (x ++ y))) else .stk
  | .add, .tuple xs, .tuple ys => if xs.length + ys.length ≤ big then .ok (.val (.tuple (xs ++ ys))) else .stk
  | .add, .list xs, .list ys => if xs.length + ys.length ≤ big then .ok (.lst (xs ++ ys)) else .stk
  | .sub, .int i, .int j => .ok (.val (.int (i - j)))
  | .mul, .int i, .int j => if fitsMul i j then .ok (.val (.int (i * j))) else .stk
  | .mul, .tuple xs, .int k => if xs ≠ [] ∧ 2 ≤ k ∧ k ≤ 1000 ∧ xs.length ≤ 1000 then .ok (.val (.tuple (List.replicate k.toNat xs).flatten)) else .stk
  | .mul, .list xs, .int k => if -(2 ^ 63) ≤ k ∧ k < 2 ^ 63 ∧ xs.length * k.toNat ≤ big then .ok (.lst (List.replicate k.toNat xs).flatten) else .stk
  | .fdiv, .int i, .int j => if 0 < j ∧ j < 1073741824 then .ok (.val (.int (i / j))) else .stk
  | .mod, .int i, .int j => if 0 < j then .ok (.val (.int (i % j))) else .stk
  | .pow, .int i, .int j => if 0 ≤ j ∧ j ≤ 1000000 ∧ i.natAbs < 2 ^ 64 then .ok (.val (.int (i ^ j.toNat))) else .stk
  | _, _, _ => .stk
/-- == of data without dicts -/
def dataEq (x y : PyData) : R Bool := if x.plain && (y.plain && decide (min x.depth y.depth ≤ 100)) then .ok (PyData.eqv x y) else .stk
def dataIn (x y : PyData) : R Bool := match y with
  | .list ds => if x.plain && (PyData.plainAll ds && decide (min (PyData.depthAll ds) x.depth ≤ 100)) then .ok (ds.any fun z => PyData.eqv z x) else .stk
  | .tuple ds => if x.plain && (PyData.plainAll ds && decide (min (PyData.depthAll ds) x.depth ≤ 100)) then .ok (ds.any fun z => PyData.eqv z x) else .stk
  | _ => .stk
def isNone : PyData → Bool
  | .none => true
  | _ => false
def cmp2 : CmpOp → PyData → PyData → R Bool
  | .Eq, x, y => dataEq x y
  | .NotEq, x, y => do let b ← dataEq x y; pure !b
  | .Lt, .int i, .int j => .ok (decide (i < j))
  | .LtE, .int i, .int j => .ok (decide (i ≤ j))
  | .Gt, .int i, .int j => .ok (decide (j < i))
  | .GtE, .int i, .int j => .ok (decide (j ≤ i))
  | .In, x, y => dataIn x y
  | .NotIn, x, y => do let b ← dataIn x y; pure !b
  | .Is, x, .none => .ok (isNone x)
  | .IsNot, x, .none => .ok (!isNone x)
  | .Is, .bool a, .bool b => .ok (decide (a = b))
  | .IsNot, .bool a, .bool b => .ok (!decide (a = b))
  | _, _, _ => .stk
/-- the place of an index -/
def ixAt (n : Nat) (i : Int) : Option Nat := if 0 ≤ i then (if i < n then some i.toNat else none) else if -(n : Int) ≤ i then some (i + n).toNat else none
def itemAt (ds : List PyData) (i : Int) : R PyData := match ixAt ds.length i with
  | some j => match ds[j]? with
    | some d => .ok d
    | none => .stk
  | none => .stk
def sub2 (x y : PyData) : R PyData := do
  let ds ← seqOf x
  let i ← int1 y
  itemAt ds i
def cutIx (n d : Nat) : Option Int → Nat
  | none => d
  | some v => if v < 0 then (v + n).toNat else min v.toNat n
def cut (ds : List PyData) (lo hi : Option Int) : List PyData := (ds.drop (cutIx ds.length 0 lo)).take (cutIx ds.length ds.length hi - cutIx ds.length 0 lo)
def slc3 (x : PyData) (lo hi : Option Int) : R Arg := match x with
  | .tuple ds => .ok (.val (.tuple (cut ds lo hi)))
  | .list ds => .ok (.lst (cut ds lo hi))
  | _ => .stk
def boolsOf : List PyData → R (List Bool)
  | [] => .ok []
  | .bool b :: r => do let bs ← boolsOf r; pure (b :: bs)
  | _ :: _ => .stk
def intsOf : List PyData → R (List Int)
  | [] => .ok []
  | .int i :: r => do let is ← intsOf r; pure (i :: is)
  | _ :: _ => .stk
/-- the depth to which repr goes here -/
def reprOk (d : PyData) : Bool := d.plain && (d.showable && (decide (d.depth ≤ 100) && decide (d.shown.length ≤ big)))
def bltF : Blt → List PyData → R Arg
  | .len, [.list ds] => .ok (.val (.int ds.length))
  | .len, [.tuple ds] => .ok (.val (.int ds.length))
  | .abs, [.int i] => .ok (.val (.int (if i < 0 then -i else i)))
  | .int, [.int i] => .ok (.val (.int i))
  | .int, [.bool b] => .ok (.val (.int (if b then 1 else 0)))
  | .list, [.list ds] => .ok (.lst ds)
  | .list, [.tuple ds] => .ok (.lst ds)
  | .list, [.dict [(.none, .list ds)]] => .ok (.lst ds)
  | .tuple, [.list ds] => .ok (.val (.tuple ds))
  | .tuple, [.tuple ds] => .ok (.val (.tuple ds))
  | .all, [.list ds] => do let bs ← boolsOf ds; pure (.val (.bool (bs.all id)))
  | .any, [.list ds] => do let bs ← boolsOf ds; pure (.val (.bool (bs.any id)))
  | .repr, [d] => if reprOk d then .ok (.val (.str (PyData.shown d))) else .stk
  | .sum, [.list ds] => do let is ← intsOf ds; pure (.val (.int is.sum))
  | .max2, [.int i, .int j] => .ok (.val (.int (if j > i then j else i)))
  | .min2, [.int i, .int j] => .ok (.val (.int (if j < i then j else i)))
  | _, _ => .stk
def isTy : PyData → Ty → R Bool
  | .none, _ => .ok false
  | .bool _, .int => .ok true
  | .bool _, .bool => .ok true
  | .bool _, _ => .ok false
  | .int _, .int => .ok true
  | .int _, _ => .ok false
  | .str _, .str => .ok true
  | .str _, _ => .ok false
  | .list _, .list => .ok true
  | .list _, _ => .ok false
  | .tuple _, .tuple => .ok true
  | .tuple _, _ => .ok false
  | .dict _, _ => .stk
def bool1 : PyData → R Bool
  | .bool b => .ok b
  | _ => .stk

/-! ### targets -/
mutual
def putT : MT → PyData → Env → R Env
  | .nm i, d, env => if i < env.length then .ok (put env i (.val d)) else .stk
  | .tp ts, .tuple ds, env => putTs ts ds env
  | .tp _, _, _ => .stk
def putTs : MTs → List PyData → Env → R Env
  | .nil, [], env => .ok env
  | .cons t r, d :: ds, env => do let env ← putT t d env; putTs r ds env
  | _, _, _ => .stk
end
mutual
/-- the slots of a target -/
def slotsT : MT → List Nat
  | .nm i => [i]
  | .tp ts => slotsTs ts
def slotsTs : MTs → List Nat
  | .nil => []
  | .cons t r => slotsT t ++ slotsTs r
end
/-- the block's own names hold nothing at its beginning; they hold what they held behind it -/
def wipeE (env : Env) : List Nat → Env
  | [] => env
  | v :: vs => put (wipeE env vs) v .emp
def backE (old env : Env) : List Nat → Env
  | [] => env
  | v :: vs => put (backE old env vs) v (get old v)
def noOwn (env : Env) (vs : List Nat) : Bool := vs.all fun v => !(get env v).own

/-- a comprehension's loop; a turn gives an item or none -/
def lcL (turn : PyData → Env → R (Option PyData × Env)) : List PyData → Env → R (List PyData × Env)
  | [], env => .ok ([], env)
  | d :: ds, env => do
    let (o, env) ← turn d env
    let (r, env) ← lcL turn ds env
    pure (match o with | some y => y :: r | none => r, env)
/-- .. of two clauses: a turn gives a list of items -/
def lcL2 (turn : PyData → Env → R (List PyData × Env)) : List PyData → Env → R (List PyData × Env)
  | [], env => .ok ([], env)
  | d :: ds, env => do
    let (o, env) ← turn d env
    let (r, env) ← lcL2 turn ds env
    pure (o ++ r, env)

/-! ### defs -/
/-- a call: the arguments as slots; behind it the answer and what the lent slot holds then -/
abbrev Call := Nat → List Slot → R (Arg × Slot)
/-- which defs have a lent argument (their first), and what calls give -/
structure Cl where
  io : Nat → Bool
  run : Call
def argsOf : List Arg → Env → R (List PyData × Env)
  | [], env => .ok ([], env)
  | a :: r, env => do
    let (d, env) ← a.frz env
    let (ds, env) ← argsOf r env
    pure (d :: ds, env)
def callVals (c : Cl) (f : Nat) (as : List Arg) (env : Env) : R (Arg × Env) :=
  if c.io f then match as with
    | .slot i :: r => do
      let (ds, env1) ← argsOf r env
      if (get env1 i).own then do
        let (a, s) ← c.run f (get env1 i :: ds.map Slot.val)
        pure (a, put env1 i s)
      else .stk
    | _ => .stk
  else do
    let (ds, env1) ← argsOf as env
    let (a, _) ← c.run f (ds.map Slot.val)
    pure (a, env1)
def seeAll : List Arg → Env → R (List PyData)
  | [], _ => .ok []
  | r :: rs, env => do
    let d ← r.see env
    let ds ← seeAll rs env
    pure (d :: ds)
def oneOf : List PyData → R PyData
  | [d] => .ok d
  | _ => .stk
def mthF : Mth → PyData → List PyData → R PyData
  | _, _, _ => .stk
def optInt (b : Bool) (x : R (Arg × Env)) (env : Env) : R (Option Int × Env) :=
  if b then do
    let (r, env) ← x
    let d ← r.see env
    let i ← int1 d
    pure (some i, env)
  else .ok (none, env)
def ME.isNop : ME → Bool
  | .nop => true
  | _ => false
def frzR (x : R (Arg × Env)) : R (PyData × Env) := do
  let (r, env) ← x
  r.frz env
/-- a slot's value is given away, new things stay new -/
def Arg.mv (env : Env) : Arg → R (Arg × Env)
  | .slot i => do
    let (d, env) ← (Arg.slot i).frz env
    pure (.val d, env)
  | a => .ok (a, env)
def mvR (x : R (Arg × Env)) : R (Arg × Env) := do
  let (r, env) ← x
  r.mv env
/-- no exception leaves a comprehension here -/
def noX {α : Type} : R α → R α
  | .ok a => .ok a
  | _ => .stk
@[simp] theorem noX_ok {α : Type} (a : α) : noX (R.ok a) = R.ok a := rfl
def rng (lo hi : Int) : R (List PyData) := if -(2 ^ 62) ≤ lo ∧ lo < 2 ^ 62 ∧ -(2 ^ 62) ≤ hi ∧ hi < 2 ^ 62 ∧ (hi - lo).toNat ≤ big then .ok ((List.range (hi - lo).toNat).map fun (i : Nat) => PyData.int (lo + (i : Int))) else .stk
def enumF (n : Nat) : List PyData → List PyData
  | [] => []
  | d :: r => .tuple [.int n, d] :: enumF (n + 1) r
def zipF : List PyData → List PyData → List PyData
  | a :: r, b :: s => .tuple [a, b] :: zipF r s
  | _, _ => []

/-- two lists or two tuples -/
def zip2 : PyData → PyData → R (List PyData)
  | .list ds, .list es => .ok (zipF ds es)
  | .tuple ds, .tuple es => .ok (zipF ds es)
  | _, _ => .stk

mutual
def evalE (c : Cl) : ME → Env → R (Arg × Env)
  | .var i, env => match get env i with
    | .val d => .ok (.val d, env)
    | .lst _ => .ok (.slot i, env)
    | .dct _ => .ok (.slot i, env)
    | .emp => .stk
  | .cst d, env => .ok (.val d, env)
  | .gbl _ d, env => .ok (.val d, env)
  | .nop, _ => .stk
  | .tup as, env => do
    let (ds, env) ← evalF c as env
    pure (.val (.tuple ds), env)
  | .lst as, env => do
    let (ds, env) ← evalF c as env
    pure (.lst ds, env)
  | .sub a b, env => do
    let (ra, env) ← evalE c a env
    let (rb, env) ← evalE c b env
    let x ← ra.see env
    let y ← rb.see env
    let d ← sub2 x y
    pure (.val d, env)
  | .slc a lo hi, env => do
    let (ra, env) ← evalE c a env
    let (l, env) ← optInt (!lo.isNop) (evalE c lo env) env
    let (h, env) ← optInt (!hi.isNop) (evalE c hi env) env
    let x ← ra.see env
    let r ← slc3 x l h
    pure (r, env)
  | .rev a, env => do
    let (ra, env) ← evalE c a env
    let x ← ra.see env
    match x with
    | .list ds => pure (.lst ds.reverse, env)
    | _ => .stk
  | .op2 o a b, env => do
    let (ra, env) ← evalE c a env
    let (rb, env) ← evalE c b env
    let x ← ra.see env
    let y ← rb.see env
    let r ← bin2 o x y
    pure (r, env)
  | .neg a, env => do
    let (ra, env) ← evalE c a env
    let x ← ra.see env
    let i ← int1 x
    pure (.val (.int (-i)), env)
  | .not a, env => do
    let (ra, env) ← evalE c a env
    let x ← ra.see env
    let b ← bool1 x
    pure (.val (.bool (!b)), env)
  | .and a b, env => do
    let (ra, env) ← evalE c a env
    let x ← ra.see env
    match ← bool1 x with
    | true => do
      let (rb, env) ← evalE c b env
      let y ← rb.see env
      let t ← bool1 y
      pure (.val (.bool t), env)
    | false => pure (.val (.bool false), env)
  | .or a b, env => do
    let (ra, env) ← evalE c a env
    let x ← ra.see env
    match ← bool1 x with
    | true => pure (.val (.bool true), env)
    | false => do
      let (rb, env) ← evalE c b env
      let y ← rb.see env
      let t ← bool1 y
      pure (.val (.bool t), env)
  | .cmp o a b, env => do
    let (ra, env) ← evalE c a env
    let (rb, env) ← evalE c b env
    let x ← ra.see env
    let y ← rb.see env
    let t ← cmp2 o x y
    pure (.val (.bool t), env)
  | .chn o p a b d, env => do
    let (ra, env) ← evalE c a env
    let (rb, env) ← evalE c b env
    let x ← ra.see env
    let y ← rb.see env
    match ← cmp2 o x y with
    | true => do
      let (rd, env) ← evalE c d env
      let z ← rd.see env
      let y ← rb.see env
      let t ← cmp2 p y z
      pure (.val (.bool t), env)
    | false => pure (.val (.bool false), env)
  | .ite t a b, env => do
    let (rt, env) ← evalE c t env
    let x ← rt.see env
    match ← bool1 x with
    | true => evalE c a env
    | false => evalE c b env
  | .call f as, env => do
    let (rs, env) ← evalA c as env
    callVals c f rs env
  | .blt b as, env => do
    let (rs, env) ← evalA c as env
    let ds ← seeAll rs env
    let r ← bltF b ds
    pure (r, env)
  | .isi a t, env => do
    let (ra, env) ← evalE c a env
    let x ← ra.see env
    let b ← isTy x t
    pure (.val (.bool b), env)
  | .lc tg vs it cd el, env => do
    let (ds, env) ← evalI c it env
    if noOwn env vs then do
      let (r, env1) ← noX (lcL (fun d e => do
        let e ← putT tg d e
        let (k, e) ← (if cd.isNop then pure (true, e) else do
          let (rc, e) ← evalE c cd e
          let x ← rc.see e
          let b ← bool1 x
          pure (b, e))
        match k with
        | true => do
          let (y, e) ← frzR (evalE c el e)
          pure (some y, wipeE e vs)
        | false => pure (none, wipeE e vs)) ds (wipeE env vs))
      pure (.lst r, backE env env1 vs)
    else .stk
  | .lc2 tg vs it tg1 vs1 it1 cd el, env => do
    let (ds, env) ← evalI c it env
    if noOwn env vs then do
      let (r, env1) ← noX (lcL2 (fun d e => do
        let e ← putT tg d e
        let (ds1, e) ← evalI c it1 e
        let (r, e) ← lcL (fun d1 e1 => do
          let e1 ← putT tg1 d1 e1
          let (k, e1) ← (if cd.isNop then pure (true, e1) else do
            let (rc, e1) ← evalE c cd e1
            let x ← rc.see e1
            let b ← bool1 x
            pure (b, e1))
          match k with
          | true => do
            let (y, e1) ← frzR (evalE c el e1)
            pure (some y, wipeE e1 vs1)
          | false => pure (none, wipeE e1 vs1)) ds1 (wipeE e vs1)
        pure (r, wipeE e vs)) ds (wipeE env vs))
      if r.length ≤ big then pure (.lst r, backE env env1 vs) else .stk
    else .stk
  | .mth m a as, env => do
    let (ra, env) ← evalE c a env
    let (rs, env) ← evalA c as env
    let x ← ra.see env
    let ds ← seeAll rs env
    let d ← mthF m x ds
    pure (.val d, env)
  | .app i e, env => match get env i with
    | .lst _ => do
      let (y, env) ← frzR (evalE c e env)
      match get env i with
      | .lst ds => if ds.length < big then pure (.val .none, put env i (.lst (ds ++ [y]))) else .stk
      | _ => .stk
    | _ => .stk
  | .pop i, env => match get env i with
    | .lst ds => match ds[ds.length - 1]? with
      | some d => .ok (.val d, put env i (.lst ds.dropLast))
      | none => .stk
    | _ => .stk
  | .popAt i e, env => match get env i with
    | .lst _ => do
      let (ra, env) ← evalE c e env
      let x ← ra.see env
      let k ← int1 x
      match get env i with
      | .lst ds => match ixAt ds.length k with
        | some j => match ds[j]? with
          | some d => if -(2 ^ 63) ≤ k ∧ k < 2 ^ 63 then .ok (.val d, put env i (.lst (ds.eraseIdx j))) else .stk
          | none => .stk
        | none => .stk
      | _ => .stk
    | _ => .stk
  | .trg a, env => do
    let (ra, env) ← evalE c a env
    let x ← ra.see env
    let i ← int1 x
    let ds ← rng 0 i
    pure (.val (.tuple ds), env)
/-- an argument list, as it comes -/
def evalA (c : Cl) : MA → Env → R (List Arg × Env)
  | .nil, env => .ok ([], env)
  | .cons e r, env => do
    let (a, env) ← evalE c e env
    let a ← a.settle
    let (as, env) ← evalA c r env
    pure (a :: as, env)
/-- .. given away -/
def evalF (c : Cl) : MA → Env → R (List PyData × Env)
  | .nil, env => .ok ([], env)
  | .cons e r, env => do
    let (d, env) ← frzR (evalE c e env)
    let (ds, env) ← evalF c r env
    pure (d :: ds, env)
def evalI (c : Cl) : MI → Env → R (List PyData × Env)
  | .seq e, env => do
    let (d, env) ← frzR (evalE c e env)
    let ds ← seqOf d
    pure (ds, env)
  | .rng1 a, env => do
    let (ra, env) ← evalE c a env
    let x ← ra.see env
    let i ← int1 x
    let ds ← rng 0 i
    pure (ds, env)
  | .rng2 a b, env => do
    let (ra, env) ← evalE c a env
    let (rb, env) ← evalE c b env
    let x ← ra.see env
    let y ← rb.see env
    let i ← int1 x
    let j ← int1 y
    let ds ← rng i j
    pure (ds, env)
  | .enm e, env => do
    let (d, env) ← frzR (evalE c e env)
    let ds ← seqOf d
    pure (enumF 0 ds, env)
  | .zip a b, env => do
    let (x, env) ← frzR (evalE c a env)
    let (y, env) ← frzR (evalE c b env)
    let ds ← zip2 x y
    pure (ds, env)
end

/-! ### statements -/
def slotOf : Arg → Slot
  | .val d => .val d
  | .lst ds => .lst ds
  | .dct kvs => .dct kvs
  | .slot _ => .emp
def notSlot : Arg → Bool
  | .slot _ => false
  | _ => true
def asgM (t : MT) (a : Arg) (env : Env) : R Env := match t with
  | .nm i => if notSlot a = true ∧ i < env.length then .ok (put env i (slotOf a)) else .stk
  | .tp ts => match a with
    | .val d => putT (.tp ts) d env
    | _ => .stk
/-- values to be stored, one after another -/
def evalM (c : Cl) : MA → Env → R (List Arg × Env)
  | .nil, env => .ok ([], env)
  | .cons e r, env => do
    let (a, env) ← mvR (evalE c e env)
    let (as, env) ← evalM c r env
    pure (a :: as, env)
def asgAs : MTs → List Arg → Env → R Env
  | .nil, [], env => .ok env
  | .cons t r, a :: as, env => do
    let env ← asgM t a env
    asgAs r as env
  | _, _, _ => .stk
/-- a def's answer: what it holds alone it hands over (not the lent slot's) -/
def retA (lk : Option Nat) (a : Arg) (env : Env) : R (Arg × Env) := match a with
  | .slot i => if lk = some i then do
      let (d, env) ← (Arg.slot i).frz env
      pure (.val d, env)
    else match get env i with
      | .val d => .ok (.val d, env)
      | .lst ds => .ok (.lst ds, env)
      | .dct kvs => .ok (.dct kvs, env)
      | .emp => .stk
  | a => .ok (a, env)
/-- a loop over items -/
def forL (body : PyData → Env → R (Env × Flow)) : List PyData → Env → R (Env × Flow)
  | [], env => .ok (env, .nx)
  | d :: ds, env => do
    let (env, f) ← body d env
    match f with
    | .nx => forL body ds env
    | .ct => forL body ds env
    | .bk => pure (env, .nx)
    | .rt a => pure (env, .rt a)
/-- a while, at most so many turns -/
def whlL (cond : Env → R (Bool × Env)) (body : Env → R (Env × Flow)) : Nat → Env → R (Env × Flow)
  | 0, _ => .stk
  | n + 1, env => do
    let (b, env) ← cond env
    match b with
    | false => pure (env, .nx)
    | true => do
      let (env, f) ← body env
      match f with
      | .nx => whlL cond body n env
      | .ct => whlL cond body n env
      | .bk => pure (env, .nx)
      | .rt a => pure (env, .rt a)
def testE (c : Cl) (e : ME) (env : Env) : R (Bool × Env) := do
  let (r, env) ← evalE c e env
  let x ← r.see env
  let b ← bool1 x
  pure (b, env)
def augF (o : Op2) (s : Slot) (y : PyData) : R Slot := match o, s, y with
  | .add, .lst ds, .list es => if ds.length + es.length ≤ big then .ok (.lst (ds ++ es)) else .stk
  | .add, .val (.int i), .int j => .ok (.val (.int (i + j)))
  | _, _, _ => .stk
mutual
def execS (c : Cl) (L : Nat) (lk : Option Nat) : MS → Env → R (Env × Flow)
  | .asg t e, env => do
    let (a, env) ← mvR (evalE c e env)
    let env ← asgM t a env
    pure (env, .nx)
  | .par ts as, env => do
    let (xs, env) ← evalM c as env
    let env ← asgAs ts xs env
    pure (env, .nx)
  | .aug i o e, env => match get env i with
    | .emp => .stk
    | _ => do
      let (y, env) ← frzR (evalE c e env)
      let s ← augF o (get env i) y
      pure (put env i s, .nx)
  | .sti i ix e, env => do
    let (y, env) ← frzR (evalE c e env)
    match get env i with
    | .lst _ => do
      let (rx, env) ← evalE c ix env
      let x ← rx.see env
      let k ← int1 x
      match get env i with
      | .lst ds => match ixAt ds.length k with
        | some j => pure (put env i (.lst (ds.set j y)), .nx)
        | none => .stk
      | _ => .stk
    | _ => .stk
  | .exp e, env => do
    let (_, env) ← evalE c e env
    pure (env, .nx)
  | .iff t a b, env => do
    let (k, env) ← testE c t env
    match k with
    | true => execB c L lk a env
    | false => execB c L lk b env
  | .whl t b, env => whlL (fun e => testE c t e) (fun e => execB c L lk b e) L env
  | .for_ t it b, env => do
    let (ds, env) ← evalI c it env
    forL (fun d e => do
      let e ← putT t d e
      execB c L lk b e) ds env
  | .ret e, env => do
    let (a, env) ← evalE c e env
    let (a, env) ← retA lk a env
    pure (env, .rt a)
  | .brk, env => .ok (env, .bk)
  | .cnt, env => .ok (env, .ct)
  | .rse k as, env => do
    let (ds, _) ← evalF c as env
    .exn k ds
  | .tryS b ks _ h, env => match execB c L lk b env with
    | .ok r => .ok r
    | .exn n fs => if ks.contains n then do
        let a ← evalH h n
        pure (List.replicate env.length .emp, .rt a)
      else .exn n fs
    | .stk => .stk
  | .nev, _ => .stk
def execB (c : Cl) (L : Nat) (lk : Option Nat) : MB → Env → R (Env × Flow)
  | .nil, env => .ok (env, .nx)
  | .cons s r, env => do
    let (env, f) ← execS c L lk s env
    match f with
    | .nx => execB c L lk r env
    | f => pure (env, f)
end

structure FnDef where
  name : Str
  np : Nat
  nl : Nat
  io : Bool
  body : MB
/-- the table of the defs -/
abbrev Tab := Nat → Option FnDef
def ioOf (T : Tab) (f : Nat) : Bool := match T f with
  | some fd => fd.io
  | none => false
def fill (n : Nat) (as : List Slot) : Env := as ++ List.replicate (n - as.length) Slot.emp
/-- the bound of a while's turns -/
def loops : Nat := 1000000
/-- what the lent slot holds at the end -/
def ioS (io : Bool) (env : Env) : R Slot := if io then (if (get env 0).own then .ok (get env 0) else .stk) else .ok .emp
def callF (T : Tab) : Nat → Call
  | 0, _, _ => .stk
  | k + 1, f, as => match T f with
    | none => .stk
    | some fd => if as.length = fd.np then do
        let (env, fl) ← execB ⟨ioOf T, callF T k⟩ loops (if fd.io then some 0 else none) fd.body (fill fd.nl as)
        let s ← ioS fd.io env
        match fl with
        | .rt a => pure (a, s)
        | .nx => pure (.val .none, s)
        | _ => .stk
      else .stk
end Mi

set_option Elab.async false
set_option linter.all false
set_option maxRecDepth 100000
/-! Mi, part B: how values lie in the heap. -/
namespace Mi
open L2 PySem PySem.Spec PyProof.Rows

theorem big_eq : big = sizeLine := by rw [sizeLine_eq]; rfl

mutual
/-- the data d lie at v, in the part I of the heap that never changes -/
inductive Rep (K : PySem.W.Frag) (I : Hp) : PyData → V → Prop
  | non : Rep K I .none .non
  | bl (b : Bool) : Rep K I (.bool b) (.bl b)
  | int (i : Int) : Rep K I (.int i) (.int i)
  | str (x : Str) : Rep K I (.str x) (.str x)
  | tup {a : Addr} {vs : List V} {ds : List PyData} : SqT K I a vs → ds.length ≤ big → RepL K I ds vs → Rep K I (.tuple ds) (.ref a)
  | lst {a : Addr} {vs : List V} {ds : List PyData} : I a = some (.lst vs) → ds.length ≤ big → RepL K I ds vs → Rep K I (.list ds) (.ref a)
  | scr {a : Addr} {ns : List Int} : SqL K I a (ns.map V.int) → ns.length ≤ big → Rep K I (.dict [(.none, .list (ns.map .int))]) (.ref a)
inductive RepL (K : PySem.W.Frag) (I : Hp) : List PyData → List V → Prop
  | nil : RepL K I [] []
  | cons {d : PyData} {v : V} {ds : List PyData} {vs : List V} : Rep K I d v → RepL K I ds vs → RepL K I (d :: ds) (v :: vs)
end
/-- one part of the heap within another -/
def Le (I J : Hp) : Prop := ∀ a o, I a = some o → J a = some o
theorem Le.refl (I : Hp) : Le I I := fun _ _ h => h
theorem Le.trans {I J L : Hp} (h : Le I J) (g : Le J L) : Le I L := fun a o e => g a o (h a o e)
theorem rd_le {I J : Hp} (h : Le I J) {a : Addr} {u : HO} (r : Rd I a u) : Rd J a u := by
  rcases r with r | ⟨o, r⟩
  · exact .inl (h _ _ r)
  · exact .inr ⟨o, h _ _ r⟩
theorem sqT_le {K : PySem.W.Frag} {I J : Hp} (h : Le I J) {a : Addr} {vs : List V} (r : SqT K I a vs) : SqT K J a vs := by
  rcases r with r | r
  · exact .inl (rd_le h r)
  · exact .inr r
theorem sqL_le {K : PySem.W.Frag} {I J : Hp} (h : Le I J) {a : Addr} {vs : List V} (r : SqL K I a vs) : SqL K J a vs := by
  rcases r with r | r
  · exact .inl (rd_le h r)
  · exact .inr r
section
variable {K : PySem.W.Frag} {I J : Hp}
mutual
theorem Rep.le (h : Le I J) : ∀ {d : PyData} {v : V}, Rep K I d v → Rep K J d v
  | _, _, .non => .non
  | _, _, .bl b => .bl b
  | _, _, .int i => .int i
  | _, _, .str x => .str x
  | _, _, .tup s z r => .tup (sqT_le h s) z (RepL.le h r)
  | _, _, .lst s z r => .lst (h _ _ s) z (RepL.le h r)
  | _, _, .scr s z => .scr (sqL_le h s) z
theorem RepL.le (h : Le I J) : ∀ {ds : List PyData} {vs : List V}, RepL K I ds vs → RepL K J ds vs
  | _, _, .nil => .nil
  | _, _, .cons r s => .cons (Rep.le h r) (RepL.le h s)
end
theorem RepL.length : ∀ {ds : List PyData} {vs : List V}, RepL K I ds vs → ds.length = vs.length
  | _, _, .nil => rfl
  | _, _, .cons _ s => congrArg (· + 1) (RepL.length s)
theorem RepL.get : ∀ {ds : List PyData} {vs : List V} {i : Nat} {d : PyData}, RepL K I ds vs → ds[i]? = some d → ∃ v, vs[i]? = some v ∧ Rep K I d v
  | _, _, _, _, .nil, e => by simp at e
  | _, _, 0, _, .cons r _, e => by
    simp at e
    subst e
    exact ⟨_, rfl, r⟩
  | _, _, i + 1, _, .cons _ s, e => by
    obtain ⟨v, h1, h2⟩ := RepL.get (i := i) s (by simpa using e)
    exact ⟨v, by simpa using h1, h2⟩
theorem RepL.at_ : ∀ {ds : List PyData} {vs : List V} {i : Nat} {v : V}, RepL K I ds vs → vs[i]? = some v → ∃ d, ds[i]? = some d ∧ Rep K I d v
  | _, _, _, _, .nil, e => by simp at e
  | _, _, 0, _, .cons r _, e => by
    simp at e
    subst e
    exact ⟨_, rfl, r⟩
  | _, _, i + 1, _, .cons _ s, e => by
    obtain ⟨v, h1, h2⟩ := RepL.at_ (i := i) s (by simpa using e)
    exact ⟨v, by simpa using h1, h2⟩
theorem RepL.append : ∀ {ds es : List PyData} {vs ws : List V}, RepL K I ds vs → RepL K I es ws → RepL K I (ds ++ es) (vs ++ ws)
  | _, _, _, _, .nil, s => s
  | _, _, _, _, .cons r t, s => .cons r (RepL.append t s)
theorem RepL.take : ∀ {ds : List PyData} {vs : List V} (n : Nat), RepL K I ds vs → RepL K I (ds.take n) (vs.take n)
  | _, _, 0, _ => .nil
  | _, _, _ + 1, .nil => .nil
  | _, _, n + 1, .cons r s => .cons r (RepL.take n s)
theorem RepL.drop : ∀ {ds : List PyData} {vs : List V} (n : Nat), RepL K I ds vs → RepL K I (ds.drop n) (vs.drop n)
  | _, _, 0, r => r
  | _, _, _ + 1, .nil => .nil
  | _, _, n + 1, .cons _ s => RepL.drop n s
theorem RepL.reverse : ∀ {ds : List PyData} {vs : List V}, RepL K I ds vs → RepL K I ds.reverse vs.reverse
  | _, _, .nil => .nil
  | _, _, .cons r s => by
    rw [List.reverse_cons, List.reverse_cons]
    exact RepL.append (RepL.reverse s) (.cons r .nil)
theorem RepL.dropLast {ds : List PyData} {vs : List V} (h : RepL K I ds vs) : RepL K I ds.dropLast vs.dropLast := by
  rw [List.dropLast_eq_take, List.dropLast_eq_take, h.length]
  exact h.take _
theorem RepL.eraseIdx : ∀ {ds : List PyData} {vs : List V} (n : Nat), RepL K I ds vs → RepL K I (ds.eraseIdx n) (vs.eraseIdx n)
  | _, _, _, .nil => .nil
  | _, _, 0, .cons _ s => s
  | _, _, n + 1, .cons r s => .cons r (RepL.eraseIdx n s)
theorem RepL.set {d : PyData} {v : V} (q : Rep K I d v) : ∀ {ds : List PyData} {vs : List V} (n : Nat), RepL K I ds vs → RepL K I (ds.set n d) (vs.set n v)
  | _, _, _, .nil => .nil
  | _, _, 0, .cons _ s => .cons q s
  | _, _, n + 1, .cons r s => .cons r (RepL.set q n s)
theorem RepL.rep {ds : List PyData} {vs : List V} (h : RepL K I ds vs) : ∀ k : Nat, RepL K I (List.replicate k ds).flatten (List.replicate k vs).flatten
  | 0 => .nil
  | k + 1 => by
    rw [List.replicate_succ, List.replicate_succ, List.flatten_cons, List.flatten_cons]
    exact RepL.append h (RepL.rep h k)
theorem RepL.ints : ∀ {ns : List Int}, RepL K I (ns.map .int) (ns.map V.int)
  | [] => .nil
  | n :: r => .cons (.int n) RepL.ints
theorem RepL.of_ints : ∀ {ns : List Int} {vs : List V}, RepL K I (ns.map .int) vs → vs = ns.map V.int
  | [], _, .nil => rfl
  | n :: r, _, .cons (.int _) s => by
    rw [RepL.of_ints s]
    rfl
theorem intsOf_ok : ∀ {ds : List PyData} {ns : List Int}, intsOf ds = .ok ns → ds = ns.map .int
  | [], _, h => by
    cases h
    rfl
  | .int i :: r, ns, h => by
    obtain ⟨is, h1, h2⟩ := bind_ok (show (intsOf r >>= fun is => R.ok (i :: is)) = .ok ns from h)
    cases h2
    rw [intsOf_ok h1]
    rfl
  | .none :: _, _, h => nomatch (show (R.stk : R (List Int)) = _ from h)
  | .bool _ :: _, _, h => nomatch (show (R.stk : R (List Int)) = _ from h)
  | .str _ :: _, _, h => nomatch (show (R.stk : R (List Int)) = _ from h)
  | .list _ :: _, _, h => nomatch (show (R.stk : R (List Int)) = _ from h)
  | .tuple _ :: _, _, h => nomatch (show (R.stk : R (List Int)) = _ from h)
  | .dict _ :: _, _, h => nomatch (show (R.stk : R (List Int)) = _ from h)
theorem boolsOf_ok : ∀ {ds : List PyData} {bs : List Bool}, boolsOf ds = .ok bs → ds = bs.map .bool
  | [], _, h => by
    cases h
    rfl
  | .bool i :: r, ns, h => by
    obtain ⟨is, h1, h2⟩ := bind_ok (show (boolsOf r >>= fun is => R.ok (i :: is)) = .ok ns from h)
    cases h2
    rw [boolsOf_ok h1]
    rfl
  | .none :: _, _, h => nomatch (show (R.stk : R (List Bool)) = _ from h)
  | .int _ :: _, _, h => nomatch (show (R.stk : R (List Bool)) = _ from h)
  | .str _ :: _, _, h => nomatch (show (R.stk : R (List Bool)) = _ from h)
  | .list _ :: _, _, h => nomatch (show (R.stk : R (List Bool)) = _ from h)
  | .tuple _ :: _, _, h => nomatch (show (R.stk : R (List Bool)) = _ from h)
  | .dict _ :: _, _, h => nomatch (show (R.stk : R (List Bool)) = _ from h)
theorem RepL.of_bools : ∀ {bs : List Bool} {vs : List V}, RepL K I (bs.map .bool) vs → vs = bs.map V.bl
  | [], _, .nil => rfl
  | n :: r, _, .cons (.bl _) s => by
    rw [RepL.of_bools s]
    rfl
mutual
theorem Rep.dp : ∀ {d : PyData} {v : V}, Rep K I d v → d.plain = true → Dp K I v d
  | _, _, .non, _ => .non
  | _, _, .bl b, _ => .bl b
  | _, _, .int i, _ => .int i
  | _, _, .str x, _ => .str x
  | _, _, .tup s _ r, h => .tup s (RepL.dp r (by simpa only [PyData.plain] using h))
  | _, _, .lst s _ r, h => .lst (SqL.of s) (RepL.dp r (by simpa only [PyData.plain] using h))
  | _, _, .scr s _, h => by simp only [PyData.plain] at h; cases h
theorem RepL.dp : ∀ {ds : List PyData} {vs : List V}, RepL K I ds vs → PyData.plainAll ds = true → DpAll K I vs ds
  | _, _, .nil, _ => .nil
  | _, _, .cons r s, h => by
    simp only [PyData.plainAll, Bool.and_eq_true] at h
    exact .cons (Rep.dp r h.1) (RepL.dp s h.2)
end
end
mutual
theorem dp_le {K : PySem.W.Frag} {I J : Hp} (h : Le I J) : ∀ {v : V} {d : PyData}, Dp K I v d → Dp K J v d
  | _, _, .non => .non
  | _, _, .bl b => .bl b
  | _, _, .int i => .int i
  | _, _, .str x => .str x
  | _, _, .lst s r => .lst (sqL_le h s) (dps_le h r)
  | _, _, .tup s r => .tup (sqT_le h s) (dps_le h r)
theorem dps_le {K : PySem.W.Frag} {I J : Hp} (h : Le I J) : ∀ {vs : List V} {ds : List PyData}, DpAll K I vs ds → DpAll K J vs ds
  | _, _, .nil => .nil
  | _, _, .cons r s => .cons (dp_le h r) (dps_le h s)
end

/-! ### dicts -/
def keyD : PyData → Option Key
  | .int i => some (.inl i)
  | .str x => some (.inr x)
  | _ => none
def keysD : List PyData → Option (List Key)
  | [] => some []
  | d :: r => match keyD d, keysD r with
    | some k, some ks => some (k :: ks)
    | _, _ => none
def keyT : PyData → Option (List Key)
  | .tuple ds => keysD ds
  | _ => none
def DRep (K : PySem.W.Frag) (I : Hp) (kvs : List (PyData × PyData)) (o : Option HO) : Prop :=
  (∃ kws, o = some (.dK kws) ∧ Paired (fun (p : PyData × PyData) (q : Key × V) => keyD p.1 = some q.1 ∧ Rep K I p.2 q.2) kvs kws) ∨
  (∃ kws, o = some (.dT kws) ∧ Paired (fun (p : PyData × PyData) (q : List Key × V) => keyT p.1 = some q.1 ∧ Rep K I p.2 q.2) kvs kws)
theorem DRep.le {K : PySem.W.Frag} {I J : Hp} {kvs : List (PyData × PyData)} {o : Option HO} (h : Le I J) (r : DRep K I kvs o) : DRep K J kvs o := by
  rcases r with ⟨kws, e, p⟩ | ⟨kws, e, p⟩
  · exact .inl ⟨kws, e, Paired.mapP p fun _ _ z => ⟨z.1, z.2.le h⟩⟩
  · exact .inr ⟨kws, e, Paired.mapP p fun _ _ z => ⟨z.1, z.2.le h⟩⟩
theorem DRep.some {K : PySem.W.Frag} {I : Hp} {kvs : List (PyData × PyData)} {o : Option HO} (r : DRep K I kvs o) : ∃ u, o = Option.some u := by
  rcases r with ⟨kws, e, p⟩ | ⟨kws, e, p⟩
  · exact ⟨_, e⟩
  · exact ⟨_, e⟩

/-! ### the frame -/
/-- the object at a is held by a slot alone -/
def Owned (σ : L2.St) (env : Env) (a : Addr) : Prop := ∃ i, (Mi.get env i).own = true ∧ σ[i]? = some (some (V.ref a))
structure EnvOk (K : PySem.W.Frag) (σ : L2.St) (H I : Hp) (env : Env) : Prop where
  le : Le I H
  len : env.length = σ.length
  val : ∀ i d, Mi.get env i = .val d → ∃ x, σ[i]? = some (some x) ∧ Rep K I d x
  lst : ∀ i ds, Mi.get env i = .lst ds → ∃ a vs, σ[i]? = some (some (V.ref a)) ∧ H a = some (.lst vs) ∧ I a = none ∧ ds.length ≤ big ∧ RepL K I ds vs
  dct : ∀ i kvs, Mi.get env i = .dct kvs → ∃ a, σ[i]? = some (some (V.ref a)) ∧ I a = none ∧ DRep K I kvs (H a)
  sep : ∀ i j a, (Mi.get env i).own = true → (Mi.get env j).own = true → σ[i]? = some (some (V.ref a)) → σ[j]? = some (some (V.ref a)) → i = j
/-- what a piece of the frame's code may do to the heap -/
structure SStep (lk : Option Nat) (σ : L2.St) (H I : Hp) (env : Env) (σ' : L2.St) (H' I' : Hp) (env' : Env) : Prop where
  ile : Le I I'
  keep : ∀ a o, H a = some o → ¬ Owned σ env a → H' a = some o
  new : ∀ a, I' a ≠ none → I a ≠ none ∨ H a = none ∨ Owned σ env a
  own : ∀ a, Owned σ' env' a → Owned σ env a ∨ H a = none
  alive : ∀ a, H a ≠ none → H' a ≠ none
  lkk : ∀ k, lk = some k → σ'[k]? = σ[k]?
  len : σ'.length = σ.length
theorem SStep.refl {lk : Option Nat} {σ : L2.St} {H I : Hp} {env : Env} : SStep lk σ H I env σ H I env :=
  ⟨Le.refl _, fun _ _ h _ => h, fun _ h => .inl h, fun _ h => .inl h, fun _ h => h, fun _ _ => rfl, rfl⟩
theorem SStep.trans {lk : Option Nat} {σ σ1 σ2 : L2.St} {H H1 H2 I I1 I2 : Hp} {env env1 env2 : Env} (a : SStep lk σ H I env σ1 H1 I1 env1) (b : SStep lk σ1 H1 I1 env1 σ2 H2 I2 env2) : SStep lk σ H I env σ2 H2 I2 env2 := by
  refine ⟨a.ile.trans b.ile, fun c o h n => ?_, fun c h => ?_, fun c h => ?_, fun c h => b.alive c (a.alive c h), fun k h => (b.lkk k h).trans (a.lkk k h), b.len.trans a.len⟩
  · refine b.keep c o (a.keep c o h n) fun q => ?_
    rcases a.own c q with z | z
    · exact n z
    · rw [z] at h
      cases h
  · rcases b.new c h with z | z | z
    · exact a.new c z
    · refine .inr (.inl ?_)
      cases e : H c with
      | none => rfl
      | some o => exact absurd z (a.alive c (by rw [e]; simp))
    · rcases a.own c z with y | y
      · exact .inr (.inr y)
      · exact .inr (.inl y)
  · rcases b.own c h with z | z
    · exact a.own c z
    · refine .inr ?_
      cases e : H c with
      | none => rfl
      | some o => exact absurd z (a.alive c (by rw [e]; simp))
/-- what an exception leaves of the heap -/
def KeepX (σ : L2.St) (H : Hp) (env : Env) (H' : Hp) : Prop := (∀ a o, H a = some o → ¬ Owned σ env a → H' a = some o) ∧ ∀ a, H a ≠ none → H' a ≠ none
theorem KeepX.refl {σ : L2.St} {H : Hp} {env : Env} : KeepX σ H env H := ⟨fun _ _ h _ => h, fun _ h => h⟩
theorem KeepX.later {lk : Option Nat} {σ σ' : L2.St} {H H' H2 I I' : Hp} {env env' : Env} (s : SStep lk σ H I env σ' H' I' env') (k : KeepX σ' H' env' H2) : KeepX σ H env H2 := by
  refine ⟨fun a u q n => k.1 a u (s.keep a u q n) fun z => ?_, fun a q => k.2 a (s.alive a q)⟩
  rcases s.own a z with y | y
  · exact n y
  · rw [y] at q
    cases q
/-- an argument's value -/
def ArgOk (K : PySem.W.Frag) (σ : L2.St) (H I : Hp) (env : Env) : Arg → V → Prop
  | .val d, x => Rep K I d x
  | .lst ds, x => ∃ a vs, x = V.ref a ∧ H a = some (.lst vs) ∧ I a = none ∧ ds.length ≤ big ∧ RepL K I ds vs ∧ ¬ Owned σ env a
  | .dct kvs, x => ∃ a, x = V.ref a ∧ DRep K I kvs (H a) ∧ I a = none ∧ ¬ Owned σ env a
  | .slot i, x => σ[i]? = some (some x)
/-- .. that is new since H -/
def ArgNew (H : Hp) : Arg → V → Prop
  | .lst _, x => ∀ a, x = V.ref a → H a = none
  | .dct _, x => ∀ a, x = V.ref a → H a = none
  | _, _ => True
section
variable {K : PySem.W.Frag} {lk : Option Nat} {σ σ' : L2.St} {H H' I I' : Hp} {env env' : Env}
theorem ArgOk.step {r : Arg} {x : V} (h : ArgOk K σ H I env r x) (s : SStep lk σ H I env σ H' I' env') : ArgOk K σ H' I' env' r x := by
  have no : ∀ a, H a ≠ none → I a = none → ¬ Owned σ env a → I' a = none := fun a h1 h2 h3 => by
    cases e : I' a with
    | none => rfl
    | some o =>
      rcases s.new a (by rw [e]; simp) with q | q | q
      · exact absurd h2 q
      · exact absurd q h1
      · exact absurd q h3
  have nw : ∀ a, H a ≠ none → ¬ Owned σ env a → ¬ Owned σ env' a := fun a h1 h3 q => by
    rcases s.own a q with y | y
    · exact h3 y
    · exact h1 y
  cases r with
  | val d => exact Rep.le s.ile h
  | lst ds =>
    obtain ⟨a, vs, rfl, e, n, l, r, w⟩ := h
    have h1 : H a ≠ none := by rw [e]; simp
    exact ⟨a, vs, rfl, s.keep a _ e w, no a h1 n w, l, r.le s.ile, nw a h1 w⟩
  | dct kvs =>
    obtain ⟨a, rfl, r, n, w⟩ := h
    obtain ⟨u, e⟩ := r.some
    have h1 : H a ≠ none := by rw [e]; simp
    refine ⟨a, rfl, ?_, no a h1 n w, nw a h1 w⟩
    rw [s.keep a u e w, ← e]
    exact r.le s.ile
  | slot i => exact h
end
end Mi

set_option Elab.async false
set_option linter.all false
set_option maxRecDepth 100000
/-! Mi, part C: readings that follow from what the mini language computes; their joints. -/
namespace Mi
open L2 PySem PySem.Spec PyProof.Rows

/-- how an exception of the class k with these fields lies in the heap -/
abbrev EXT := Nat → List PyData → Value → Option Addr → Hp → Prop
section
variable (K : PySem.W.Frag) (EX : EXT) (W : WX) (lk : Option Nat)
/-- what is wanted of a result, from the state at hand -/
def tAt {α ω : Type} (P : L2.St → Hp → Hp → Hp → Env → α → ω → Prop) (r : R (α × Env)) (σ : L2.St) (H I : Hp) (env : Env) (Q : ω → Hp → Prop) : Prop :=
  match r with
  | .ok (a, env') => ∀ x H' I', EnvOk K σ H' I' env' → SStep lk σ H I env σ H' I' env' → P σ H H' I' env' a x → Q x H'
  | .exn k fs => ∀ C d H', EX k fs C d H' → KeepX σ H env H' → W C d σ H'
  | .stk => False
def tR {α ω : Type} (P : L2.St → Hp → Hp → Hp → Env → α → ω → Prop) (f : Env → R (α × Env)) : L2.St → Hp → (ω → Hp → Prop) → Prop := fun σ H Q => ∃ I env, EnvOk K σ H I env ∧ tAt K EX W lk P (f env) σ H I env Q
def PArg (σ : L2.St) (H H' I' : Hp) (env' : Env) (r : Arg) (x : V) : Prop := ArgOk K σ H' I' env' r x ∧ ArgNew H r x
def PVal (_ : L2.St) (_ _ I' : Hp) (_ : Env) (d : PyData) (x : V) : Prop := Rep K I' d x
end
section
variable {K : PySem.W.Frag} {EX : EXT} {W : WX} {lk : Option Nat} {α β γ ω ψ : Type} {σ : L2.St} {H H' I I' : Hp} {env env' : Env} {Q : ω → Hp → Prop}
/-- a result's condition that gets weaker as the state ahead gets older -/
def Old (P : L2.St → Hp → Hp → Hp → Env → α → ω → Prop) : Prop := ∀ σ H0 H1 H' I' env' a x, (∀ b, H0 b ≠ none → H1 b ≠ none) → P σ H1 H' I' env' a x → P σ H0 H' I' env' a x
theorem old_arg : Old (PArg K) := fun σ H0 H1 H' I' env' a x k p => ⟨p.1, by
  have up : ∀ b, H1 b = none → H0 b = none := fun b e => by
    cases q : H0 b with
    | none => rfl
    | some o => exact absurd e (k b (by rw [q]; simp))
  have p2 := p.2
  cases a with
  | val d => trivial
  | lst ds => exact fun b e => up b (p2 b e)
  | dct kvs => exact fun b e => up b (p2 b e)
  | slot i => trivial⟩
theorem old_val : Old (PVal K) := fun _ _ _ _ _ _ _ _ _ p => p
variable {P1 : L2.St → Hp → Hp → Hp → Env → α → ψ → Prop} {P2 : L2.St → Hp → Hp → Hp → Env → β → ω → Prop}
theorem tAt.later {r : R (β × Env)} (o : Old P2) (s : SStep lk σ H I env σ H' I' env') (h : tAt K EX W lk P2 r σ H I env Q) : tAt K EX W lk P2 r σ H' I' env' Q := by
  cases r with
  | ok p => exact fun x H2 I2 e2 s2 p2 => h x H2 I2 e2 (s.trans s2) (o _ _ _ _ _ _ _ _ s.alive p2)
  | exn k fs =>
    exact fun C d H2 e2 k2 => h C d H2 e2 (k2.later s)
  | stk => exact h
/-- the first of two, then the second -/
theorem tAt.bind {f : R (α × Env)} {k : α × Env → R (β × Env)} (o : Old P2) (h : tAt K EX W lk P2 (f >>= k) σ H I env Q) :
    tAt K EX W lk P1 f σ H I env fun x H1 => ∃ a env1 I1, EnvOk K σ H1 I1 env1 ∧ SStep lk σ H I env σ H1 I1 env1 ∧ P1 σ H H1 I1 env1 a x ∧ tAt K EX W lk P2 (k (a, env1)) σ H1 I1 env1 Q := by
  cases f with
  | ok p => exact fun x H1 I1 e1 s1 p1 => ⟨p.1, p.2, I1, e1, s1, p1, tAt.later o s1 h⟩
  | exn k fs => exact h
  | stk => exact h
theorem tAt.mono {f : R (α × Env)} {Q Q' : ψ → Hp → Prop} (h : tAt K EX W lk P1 f σ H I env Q) (m : ∀ x H', Q x H' → Q' x H') : tAt K EX W lk P1 f σ H I env Q' := by
  cases f with
  | ok p => exact fun x H1 I1 e1 s1 p1 => m _ _ (h x H1 I1 e1 s1 p1)
  | exn k fs => exact h
  | stk => exact h
/-- never an exception -/
def Nx (r : R γ) : Prop := ∀ c fs, r ≠ .exn c fs
theorem nx_ok {a : γ} : Nx (R.ok a) := fun _ _ h => nomatch h
theorem nx_stk : Nx (R.stk : R γ) := fun _ _ h => nomatch h
theorem nx_bind {r : R γ} {δ : Type} {k : γ → R δ} (h : Nx r) (g : ∀ a, Nx (k a)) : Nx (r >>= k) := by
  cases r with
  | ok a => exact g a
  | exn c fs => exact absurd rfl (h c fs)
  | stk => exact nx_stk
theorem nx_ite {c : Prop} [Decidable c] {r q : R γ} (h : Nx r) (g : Nx q) : Nx (if c then r else q) := by
  split
  · exact h
  · exact g
/-- a value that is worked out without the heap -/
theorem tAt.calc {r : R γ} {k : γ → R (β × Env)} (n : Nx r) (h : tAt K EX W lk P2 (r >>= k) σ H I env Q) : ∃ c, r = .ok c ∧ tAt K EX W lk P2 (k c) σ H I env Q := by
  cases r with
  | ok a => exact ⟨a, rfl, h⟩
  | exn c fs => exact absurd rfl (n c fs)
  | stk => exact h.elim
theorem tAt.done {a : α} {x : ψ} {H' I' : Hp} {Q : ψ → Hp → Prop} (h : tAt K EX W lk P1 (.ok (a, env')) σ H I env Q) (e : EnvOk K σ H' I' env') (s : SStep lk σ H I env σ H' I' env') (p : P1 σ H H' I' env' a x) : Q x H' := h x H' I' e s p

theorem see_nx (r : Arg) (env : Env) : Nx (r.see env) := by
  cases r with
  | val d => exact nx_ok
  | lst ds => exact nx_ok
  | dct kvs => exact nx_stk
  | slot i =>
    simp only [Arg.see]
    split <;> first | exact nx_ok | exact nx_stk
theorem frz_nx (r : Arg) (env : Env) : Nx (r.frz env) := by
  cases r with
  | val d => exact nx_ok
  | lst ds => exact nx_ok
  | dct kvs => exact nx_stk
  | slot i =>
    simp only [Arg.frz]
    split <;> first | exact nx_ok | exact nx_stk
theorem int1_nx (d : PyData) : Nx (int1 d) := by cases d <;> first | exact nx_ok | exact nx_stk
theorem bool1_nx (d : PyData) : Nx (bool1 d) := by cases d <;> first | exact nx_ok | exact nx_stk
theorem seqOf_nx (d : PyData) : Nx (seqOf d) := by cases d <;> first | exact nx_ok | exact nx_stk
theorem int1_ok {d : PyData} {i : Int} (h : int1 d = .ok i) : d = .int i := by
  cases d <;> first | (cases h; rfl) | cases h
theorem bool1_ok {d : PyData} {b : Bool} (h : bool1 d = .ok b) : d = .bool b := by
  cases d <;> first | (cases h; rfl) | cases h

/-- the data d are to be read at x -/
def RepB (K : PySem.W.Frag) (H I : Hp) (d : PyData) (x : V) : Prop := match d with
  | .list ds => ∃ a vs, x = V.ref a ∧ H a = some (.lst vs) ∧ ds.length ≤ big ∧ RepL K I ds vs
  | d => Rep K I d x
theorem Rep.b {d : PyData} {x : V} (h : Rep K I d x) (l : Le I H) : RepB K H I d x := by
  cases h with
  | lst s z r => exact ⟨_, _, rfl, l _ _ s, z, r⟩
  | non => exact .non
  | bl b => exact .bl b
  | int i => exact .int i
  | str y => exact .str y
  | tup s z r => exact .tup s z r
  | scr s z => exact .scr s z
theorem see_rep {r : Arg} {x : V} {d : PyData} (e : EnvOk K σ H I env) (h : ArgOk K σ H I env r x) (s : r.see env = .ok d) : RepB K H I d x := by
  cases r with
  | val d' =>
    cases s
    exact Rep.b h e.le
  | lst ds =>
    cases s
    obtain ⟨a, vs, rfl, h1, _, l, r, _⟩ := h
    exact ⟨a, vs, rfl, h1, l, r⟩
  | dct kvs => cases s
  | slot i =>
    have h' : σ[i]? = some (some x) := h
    simp only [Arg.see] at s
    cases q : Mi.get env i with
    | lst ds =>
      simp only [q] at s
      cases s
      obtain ⟨a, vs, h1, h2, _, l, r⟩ := e.lst i ds q
      rw [h'] at h1
      cases h1
      exact ⟨a, vs, rfl, h2, l, r⟩
    | val d' =>
      simp only [q] at s
      cases s
      obtain ⟨y, h1, h2⟩ := e.val i _ q
      rw [h'] at h1
      cases h1
      exact Rep.b h2 e.le
    | dct kvs =>
      simp only [q] at s
      cases s
    | emp =>
      simp only [q] at s
      cases s
theorem RepB.int {x : V} {i : Int} (h : RepB K H I (.int i) x) : x = .int i := by
  cases (show Rep K I (.int i) x from h)
  rfl
theorem RepB.bl {x : V} {i : Bool} (h : RepB K H I (.bool i) x) : x = .bl i := by
  cases (show Rep K I (.bool i) x from h)
  rfl
theorem RepB.str {x : V} {i : Str} (h : RepB K H I (.str i) x) : x = .str i := by
  cases (show Rep K I (.str i) x from h)
  rfl
theorem RepB.non {x : V} (h : RepB K H I .none x) : x = .non := by
  cases (show Rep K I .none x from h)
  rfl
theorem RepB.tup {x : V} {ds : List PyData} (h : RepB K H I (.tuple ds) x) (l : Le I H) : ∃ a vs, x = .ref a ∧ SqT K H a vs ∧ ds.length ≤ big ∧ RepL K I ds vs := by
  cases (show Rep K I (.tuple ds) x from h) with
  | tup s z r => exact ⟨_, _, rfl, sqT_le l s, z, r⟩
theorem RepB.dp {x : V} {d : PyData} (h : RepB K H I d x) (l : Le I H) (n : d.plain = true) : Dp K H x d := by
  cases d with
  | list ds =>
    obtain ⟨a, vs, rfl, h1, _, r⟩ := h
    exact .lst (SqL.of h1) (dps_le l (r.dp (by simpa only [PyData.plain] using n)))
  | none => exact dp_le l (Rep.dp h n)
  | bool b => exact dp_le l (Rep.dp h n)
  | int b => exact dp_le l (Rep.dp h n)
  | str b => exact dp_le l (Rep.dp h n)
  | tuple b => exact dp_le l (Rep.dp h n)
  | dict b => simp only [PyData.plain] at n; cases n

/-! ### giving a value away -/
theorem get_put' {e : Env} {i j : Nat} {s : Slot} (h : i < e.length) : Mi.get (put e i s) j = if j = i then s else Mi.get e j := get_put e i j s h
/-- the heap's fixed part grows by an object that is held alone -/
theorem freeze_at {a : Addr} {vs : List V} {ds : List PyData} (e : EnvOk K σ H I env) (h1 : H a = some (.lst vs)) (h2 : I a = none) (z : ds.length ≤ big) (r : RepL K I ds vs) (env' : Env) (hl : env'.length = env.length)
    (hs : ∀ i, Mi.get env' i = Mi.get env i ∨ (σ[i]? = some (some (V.ref a)) ∧ Mi.get env' i = .val (.list ds))) (hn : ∀ i, (Mi.get env' i).own = true → σ[i]? ≠ some (some (V.ref a))) :
    EnvOk K σ H (upd I a (.lst vs)) env' ∧ Rep K (upd I a (.lst vs)) (.list ds) (.ref a) := by
  have up : Le I (upd I a (.lst vs)) := fun b o q => by
    rw [upd_ne (ne_of_none q h2)]
    exact q
  have new : Rep K (upd I a (.lst vs)) (.list ds) (.ref a) := .lst upd_same z (r.le up)
  have old : ∀ i, (Mi.get env' i).own = true → Mi.get env' i = Mi.get env i := fun i h => by
    rcases hs i with q | q
    · exact q
    · rw [q.2] at h
      cases h
  refine ⟨⟨fun b o q => ?_, hl.trans e.len, fun i d q => ?_, fun i es q => ?_, fun i kvs q => ?_, fun i j b hi hj => ?_⟩, new⟩
  · by_cases hb : b = a
    · subst hb
      rw [upd_same] at q
      cases q
      exact h1
    · rw [upd_ne hb] at q
      exact e.le b o q
  · rcases hs i with w | ⟨w1, w2⟩
    · rw [w] at q
      obtain ⟨x, q1, q2⟩ := e.val i d q
      exact ⟨x, q1, q2.le up⟩
    · rw [w2] at q
      cases q
      exact ⟨_, w1, new⟩
  · have ho : (Mi.get env' i).own = true := by rw [q]; rfl
    have w := old i ho
    rw [w] at q
    obtain ⟨b, ws, q1, q2, q3, q4, q5⟩ := e.lst i es q
    have hb : b ≠ a := fun y => hn i ho (by rw [q1, y])
    exact ⟨b, ws, q1, q2, by rw [upd_ne hb]; exact q3, q4, q5.le up⟩
  · have ho : (Mi.get env' i).own = true := by rw [q]; rfl
    have w := old i ho
    rw [w] at q
    obtain ⟨b, q1, q2, q3⟩ := e.dct i kvs q
    have hb : b ≠ a := fun y => hn i ho (by rw [q1, y])
    exact ⟨b, q1, by rw [upd_ne hb]; exact q2, q3.le up⟩
  · exact e.sep i j b (by rw [← old i hi]; exact hi) (by rw [← old j hj]; exact hj)
theorem own_lst {i : Nat} {ds : List PyData} (q : Mi.get env i = .lst ds) : (Mi.get env i).own = true := by rw [q]; rfl
theorem frz_ok {r : Arg} {x : V} {d : PyData} (e : EnvOk K σ H I env) (h : ArgOk K σ H I env r x) (s : r.frz env = .ok (d, env')) (nw : ArgNew H' r x → True) :
    ∃ I', EnvOk K σ H I' env' ∧ Rep K I' d x ∧ Le I I' ∧ (∀ a, I' a ≠ none → I a ≠ none ∨ Owned σ env a ∨ (∃ ds, r = .lst ds ∧ x = .ref a)) ∧ (∀ a, Owned σ env' a → Owned σ env a) := by
  cases r with
  | val d' =>
    cases s
    exact ⟨I, e, h, Le.refl _, fun _ z => .inl z, fun _ z => z⟩
  | lst ds =>
    cases s
    obtain ⟨a, vs, rfl, h1, h2, l, r, w⟩ := h
    obtain ⟨q1, q2⟩ := freeze_at e h1 h2 l r env rfl (fun i => .inl rfl) fun i ho q => w ⟨i, ho, q⟩
    refine ⟨_, q1, q2, fun b o q => by rw [upd_ne (ne_of_none q h2)]; exact q, fun b z => ?_, fun _ z => z⟩
    by_cases hb : b = a
    · exact .inr (.inr ⟨ds, rfl, by rw [hb]⟩)
    · rw [upd_ne hb] at z
      exact .inl z
  | dct kvs => cases s
  | slot i =>
    have h' : σ[i]? = some (some x) := h
    simp only [Arg.frz] at s
    cases q : Mi.get env i with
    | lst ds =>
      simp only [q] at s
      cases s
      obtain ⟨a, vs, h1, h2, h3, l, r⟩ := e.lst i ds q
      rw [h'] at h1
      cases h1
      have hi : i < env.length := get_lt env i (by rw [q]; intro z; cases z)
      obtain ⟨q1, q2⟩ := freeze_at e h2 h3 l r (put env i (.val (.list ds))) (put_length _ _ _) (fun j => by
        rw [get_put' hi]
        by_cases hj : j = i
        · rw [if_pos hj, hj]
          exact .inr ⟨h', rfl⟩
        · rw [if_neg hj]
          exact .inl rfl) fun j ho z => by
        rw [get_put' hi] at ho
        by_cases hj : j = i
        · rw [if_pos hj] at ho
          cases ho
        · rw [if_neg hj] at ho
          exact hj (e.sep j i a ho (own_lst q) z h')
      refine ⟨_, q1, q2, fun b o z => by rw [upd_ne (ne_of_none z h3)]; exact z, fun b z => ?_, fun b z => ?_⟩
      · by_cases hb : b = a
        · exact .inr (.inl ⟨i, own_lst q, by rw [hb]; exact h'⟩)
        · rw [upd_ne hb] at z
          exact .inl z
      · obtain ⟨j, ho, z⟩ := z
        rw [get_put' hi] at ho
        by_cases hj : j = i
        · rw [if_pos hj] at ho
          cases ho
        · rw [if_neg hj] at ho
          exact ⟨j, ho, z⟩
    | val d' =>
      simp only [q] at s
      cases s
      obtain ⟨y, h1, h2⟩ := e.val i d q
      rw [h'] at h1
      cases h1
      exact ⟨I, e, h2, Le.refl _, fun _ z => .inl z, fun _ z => z⟩
    | dct kvs =>
      simp only [q] at s
      cases s
    | emp =>
      simp only [q] at s
      cases s
/-- .. as a step -/
theorem frz_step {H0 I0 : Hp} {env0 : Env} {r : Arg} {x : V} {d : PyData} (e : EnvOk K σ H I env) (st : SStep lk σ H0 I0 env0 σ H I env) (h : ArgOk K σ H I env r x) (n : ArgNew H0 r x) (s : r.frz env = .ok (d, env')) :
    ∃ I', EnvOk K σ H I' env' ∧ Rep K I' d x ∧ SStep lk σ H0 I0 env0 σ H I' env' := by
  obtain ⟨I', e', rp, l, nw, ow⟩ := frz_ok (H' := H0) e h s fun _ => trivial
  refine ⟨I', e', rp, st.ile.trans l, st.keep, fun a z => ?_, fun a z => st.own a (ow a z), st.alive, st.lkk, st.len⟩
  rcases nw a z with q | q | ⟨ds, rfl, rfl⟩
  · exact st.new a q
  · rcases st.own a q with y | y
    · exact .inr (.inr y)
    · exact .inr (.inl y)
  · exact .inr (.inl (n a rfl))
end
end Mi

set_option Elab.async false
set_option linter.all false
set_option maxRecDepth 100000
/-! Mi, part D: the check of a text against the mini language; defs as promises; the frame's context. -/
namespace Mi
open L2 PySem PySem.Spec PyProof.Rows

/-- what the check knows of the module: names that it leaves free, its constants -/
structure Glo where
  free : List Str
  has : Str → PyData → Bool
  exc : Nat → Option Str := fun _ => none
  isx : Str → Option (List Nat) := fun _ => none
structure Sc where
  N : List Str
  sc : Scope
  wr : List Str
  lk : Option Nat
  top : Bool := false
def visB (sc : Scope) (x : Str) : Bool := match sc.names.lookup x with
  | some .local => true
  | some .cell => true
  | some .free => true
  | _ => false
def glB (sc : Scope) (x : Str) : Bool := match sc.names.lookup x with
  | some .globalImplicit => true
  | _ => false
def plainB (x : Str) : Bool := !(x == ("__debug__" : Str)) && (!(x == ("__classdict__" : Str)) && !decide (x = ("__name__" : Str)))
def cstB : PyData → Const → Bool
  | .none, .none => true
  | .bool b, .bool c => b == c
  | .int i, .int j => decide (i = j)
  | .str x, .str y => decide (x = y)
  | _, _ => false
def op2B : Op2 → Operator → Bool
  | .add, .Add => true
  | .sub, .Sub => true
  | .mul, .Mult => true
  | .fdiv, .FloorDiv => true
  | .mod, .Mod => true
  | .pow, .Pow => true
  | _, _ => false
def tyN : Ty → String
  | .int => "int"
  | .bool => "bool"
  | .tuple => "tuple"
  | .str => "str"
  | .list => "list"
def bltN : Blt → String
  | .len => "len"
  | .abs => "abs"
  | .int => "int"
  | .list => "list"
  | .tuple => "tuple"
  | .all => "all"
  | .any => "any"
  | .repr => "repr"
  | .sum => "sum"
  | .max2 => "max"
  | .min2 => "min"
  | .bool => "bool"
def freeB (G : Glo) (S : Sc) (x : Str) : Bool := glB S.sc x && (plainB x && G.free.contains x)
/-- a name that is stored -/
def locB (S : Sc) (i : Nat) (x : Str) : Bool := decide (S.N[i]? = some x) && (decide (S.lk ≠ some i) && (match S.sc.names.lookup x with
  | some .local => true
  | some .cell => S.wr.contains x
  | _ => false))
mutual
def chkT (S : Sc) : MT → Expr → Bool
  | .nm i, e => match e with
    | .Name x _ => locB S i x
    | _ => false
  | .tp ts, e => match e with
    | .Tuple es _ _ => chkTs S ts es
    | _ => false
def chkTs (S : Sc) : MTs → List Expr → Bool
  | .nil, es => es.isEmpty
  | .cons t r, es => match es with
    | e :: es => chkT S t e && chkTs S r es
    | [] => false
end
/-- the context of a comprehension's block -/
def Sc.blk (S : Sc) (scope : Scope) : Sc := { S with sc := relS scope S.sc, wr := (scope.names.filter fun p => p.2 == .cell).map (·.1), top := false }
def ownOf (S : Sc) (vs : List Nat) : List (Str × Nat) := vs.map fun v => ((S.N[v]?).getD Str.empty, v)
def isTup : MT → Bool
  | .tp _ => true
  | _ => false
mutual
def chkE (T : Tab) (G : Glo) (S : Sc) : ME → Expr → Bool
  | .var i, e => match e with
    | .Name x _ => decide (S.N[i]? = some x) && (visB S.sc x && plainB x)
    | _ => false
  | .cst d, e => match e with
    | .Constant c _ _ => cstB d c
    | _ => false
  | .gbl x d, e => match e with
    | .Name y _ => decide (x = y) && (glB S.sc x && (plainB x && G.has x d))
    | _ => false
  | .nop, _ => false
  | .tup as, e => match e with
    | .Tuple es _ _ => chkA T G S as es && decide (es.length ≤ 1000)
    | _ => false
  | .lst as, e => match e with
    | .List es _ => chkA T G S as es && decide (es.length ≤ 1000)
    | _ => false
  | .sub a b, e => match e with
    | .Subscript x y _ => chkE T G S a x && chkE T G S b y
    | _ => false
  | .slc a lo hi, e => match e with
    | .Subscript x (.Slice l h none _) _ => chkE T G S a x && ((match l with
      | none => lo.isNop
      | some l => !lo.isNop && chkE T G S lo l) && (match h with
      | none => hi.isNop
      | some h => !hi.isNop && chkE T G S hi h))
    | _ => false
  | .rev a, e => match e with
    | .Subscript x (.Slice none none (some (.UnaryOp .USub (.Constant (.int 1) _ _) _)) _) _ => chkE T G S a x
    | _ => false
  | .op2 o a b, e => match e with
    | .BinOp x p y _ => op2B o p && (chkE T G S a x && chkE T G S b y)
    | _ => false
  | .neg a, e => match e with
    | .UnaryOp .USub x _ => chkE T G S a x
    | _ => false
  | .not a, e => match e with
    | .UnaryOp .Not x _ => chkE T G S a x
    | _ => false
  | .and a b, e => match e with
    | .BoolOp .And [x, y] _ => chkE T G S a x && chkE T G S b y
    | .BoolOp .And (x :: y :: z :: r) p => chkE T G S a x && chkE T G S b (.BoolOp .And (y :: z :: r) p)
    | _ => false
  | .or a b, e => match e with
    | .BoolOp .Or [x, y] _ => chkE T G S a x && chkE T G S b y
    | .BoolOp .Or (x :: y :: z :: r) p => chkE T G S a x && chkE T G S b (.BoolOp .Or (y :: z :: r) p)
    | _ => false
  | .cmp o a b, e => match e with
    | .Compare x [p] [y] _ => decide (o = p) && (chkE T G S a x && chkE T G S b y)
    | _ => false
  | .chn o q a b d, e => match e with
    | .Compare x [p, p'] [y, z] _ => decide (o = p) && (decide (q = p') && (chkE T G S a x && (chkE T G S b y && chkE T G S d z)))
    | _ => false
  | .ite t a b, e => match e with
    | .IfExp x y z _ => chkE T G S t x && (chkE T G S a y && chkE T G S b z)
    | _ => false
  | .call f as, e => match e with
    | .Call (.Name x _) es [] _ => glB S.sc x && (plainB x && ((match T f with
      | some fd => decide (fd.name = x)
      | none => false) && chkA T G S as es))
    | _ => false
  | .blt b as, e => match e with
    | .Call (.Name x _) es [] _ => decide (x = (bltN b : Str)) && (freeB G S x && (!es.isEmpty && chkA T G S as es))
    | _ => false
  | .isi a t, e => match e with
    | .Call (.Name x _) [y, .Name z _] [] _ => decide (x = ("isinstance" : Str)) && (freeB G S x && (decide (z = (tyN t : Str)) && (freeB G S z && chkE T G S a y)))
    | _ => false
  | .lc tg vs it cd el, e => match e with
    | .ListComp x [⟨t, i, ifs, 0⟩] scope _ => blkC S.N S.sc scope (ownOf S vs) && ((slotsT tg).all (fun j => vs.contains j) && (vs.all (fun v => decide (S.lk ≠ some v)) && (chkI T G S it (isTup tg) i && (chkT (S.blk scope) tg t &&
      ((match ifs with
      | [] => cd.isNop
      | [c] => !cd.isNop && chkE T G (S.blk scope) cd c
      | _ => false) && chkE T G (S.blk scope) el x)))))
    | _ => false
  | .lc2 tg vs it tg1 vs1 it1 cd el, e => match e with
    | .ListComp x [⟨t, i, [], 0⟩, ⟨t1, i1, ifs, 0⟩] scope _ => blkC S.N S.sc scope (ownOf S vs) && ((slotsT tg).all (fun j => vs.contains j && !vs1.contains j) && (vs.all (fun v => decide (S.lk ≠ some v)) && (vs1.all (fun v => vs.contains v) && ((slotsT tg1).all (fun j => vs1.contains j) &&
      (chkI T G S it (isTup tg) i && (chkT (S.blk scope) tg t && (chkI T G (S.blk scope) it1 (isTup tg1) i1 && (chkT (S.blk scope) tg1 t1 &&
      ((match ifs with
      | [] => cd.isNop
      | [c] => !cd.isNop && chkE T G (S.blk scope) cd c
      | _ => false) && chkE T G (S.blk scope) el x)))))))))
    | _ => false
  | .mth _ _ _, _ => false
  | .app i a, e => match e with
    | .Call (.Attribute (.Name x _) m ap) [y] [] p => decide (m = ("append" : Str)) && (decide (S.N[i]? = some x) && (visB S.sc x && (plainB x && (ap.endLine == p.line && chkE T G S a y))))
    | _ => false
  | .pop i, e => match e with
    | .Call (.Attribute (.Name x _) m ap) [] [] p => decide (m = ("pop" : Str)) && (decide (S.N[i]? = some x) && (visB S.sc x && (plainB x && ap.endLine == p.line)))
    | _ => false
  | .popAt i a, e => match e with
    | .Call (.Attribute (.Name x _) m ap) [y] [] p => decide (m = ("pop" : Str)) && (decide (S.N[i]? = some x) && (visB S.sc x && (plainB x && (ap.endLine == p.line && chkE T G S a y))))
    | _ => false
  | .trg a, e => match e with
    | .Call (.Name x _) [.Call (.Name y _) [z] [] _] [] _ => decide (x = ("tuple" : Str)) && (freeB G S x && (decide (y = ("range" : Str)) && (freeB G S y && chkE T G S a z)))
    | _ => false
def chkA (T : Tab) (G : Glo) (S : Sc) : MA → List Expr → Bool
  | .nil, es => es.isEmpty
  | .cons a r, es => match es with
    | e :: es => chkE T G S a e && chkA T G S r es
    | [] => false
/-- what is walked; the target's form decides which walks are known -/
def chkI (T : Tab) (G : Glo) (S : Sc) : MI → Bool → Expr → Bool
  | .seq a, _, e => chkE T G S a e
  | .rng1 a, _, e => match e with
    | .Call (.Name x _) [y] [] _ => decide (x = ("range" : Str)) && (freeB G S x && chkE T G S a y)
    | _ => false
  | .rng2 a b, _, e => match e with
    | .Call (.Name x _) [y, z] [] _ => decide (x = ("range" : Str)) && (freeB G S x && (chkE T G S a y && chkE T G S b z))
    | _ => false
  | .enm a, tp, e => match e with
    | .Call (.Name x _) [y] [] _ => tp && (decide (x = ("enumerate" : Str)) && (freeB G S x && chkE T G S a y))
    | _ => false
  | .zip a b, tp, e => match e with
    | .Call (.Name x _) [y, z] [] _ => tp && (decide (x = ("zip" : Str)) && (freeB G S x && (chkE T G S a y && chkE T G S b z)))
    | _ => false
end

/-! ### forms of expressions that do not stand here -/
def isStar : Expr → Bool
  | .Starred _ _ => true
  | _ => false
def isSetE : Expr → Bool
  | .Set _ _ _ => true
  | _ => false
def isSlc : Expr → Bool
  | .Slice _ _ _ _ => true
  | _ => false
theorem chk_form {T : Tab} {G : Glo} {S : Sc} {m : ME} {e : Expr} (h : chkE T G S m e = true) : isStar e = false ∧ isSetE e = false ∧ isSlc e = false := by
  cases e with
  | Starred x p => cases m <;> (simp only [chkE] at h; cases h)
  | Set x k p => cases m <;> (simp only [chkE] at h; cases h)
  | Slice a b d p => cases m <;> (simp only [chkE] at h; cases h)
  | _ => exact ⟨rfl, rfl, rfl⟩
theorem star_of {e : Expr} (h : isStar e = false) (es : List Expr) (env : PySem.Env) : starEach (e :: es) env = (false, eval e env) :: starEach es env := by
  cases e <;> first | rfl | cases h
theorem mark_of {e : Expr} (h : isSetE e = false) (op : CmpOp) : behindInMarks op e = false := by
  cases e <;> first | rfl | cases h
theorem ix_of {e : Expr} (h : isSlc e = false) : PlainIx e := by
  cases e <;> first | exact fun _ _ => rfl | cases h
theorem fold_of {e : Expr} (h : isSetE e = false) (env : PySem.Env) (x : Value) : foldedSetIterable e env x = pure x := by
  cases e <;> first | rfl | cases h
theorem stars_of {T : Tab} {G : Glo} {S : Sc} : ∀ {as : MA} {es : List Expr} (env : PySem.Env) (p : Pos), chkA T G S as es = true → (backTo p (starEach es env)).any (·.1) = false
  | .nil, es, env, p, h => by
    simp only [chkA, List.isEmpty_iff] at h
    subst h
    rfl
  | .cons a r, [], env, p, h => by
    simp only [chkA] at h
    cases h
  | .cons a r, e :: es, env, p, h => by
    simp only [chkA, Bool.and_eq_true] at h
    rw [star_of (chk_form h.1).1]
    show (false || (backTo p (starEach es env)).any (·.1)) = false
    rw [stars_of env p h.2]
    rfl

/-! ### a def's promise -/
structure FnG (P : Program) (w : World) (K : PySem.W.Frag) (mg : Str → Option Value) (base : Heap) (k : Nat) (f : Addr) (fd : FuncData) (ps : List Str) (sp : Sp) : Prop where
  len : ∀ vs H Q E, sp vs H Q E → vs.length = ps.length
  go : ∀ (A : Around) (outer : List PySem.Env) (s : Shared) (H : Hp) (args : Args) (us : List Value) (vs : List V) (Q : VK) (E : XK), Room k A → A.guards = some [] → Env0 P w K mg base A outer s H → BindsTo s fd args (ps.zip us) →
    Vals vs us → sp vs H Q E → codeAny (model P w) A (.call (.ref f) args) (CR (CX P w) outer P w H s Q E) s
/-- an argument as it comes in -/
def InOk (K : PySem.W.Frag) (H I : Hp) : Slot → V → Prop
  | .val d, x => Rep K I d x
  | .lst ds, x => ∃ a vs, x = V.ref a ∧ H a = some (.lst vs) ∧ I a = none ∧ ds.length ≤ big ∧ RepL K I ds vs
  | .dct kvs, x => ∃ a, x = V.ref a ∧ DRep K I kvs (H a) ∧ I a = none
  | .emp, _ => False
inductive InAll (K : PySem.W.Frag) (H I : Hp) : List Slot → List V → Prop
  | nil : InAll K H I [] []
  | cons {s : Slot} {v : V} {ss : List Slot} {vs : List V} : InOk K H I s v → InAll K H I ss vs → InAll K H I (s :: ss) (v :: vs)
/-- the lent object -/
def Lent (ss : List Slot) (vs : List V) (a : Addr) : Prop := ∃ s r w, ss = s :: r ∧ s.own = true ∧ vs = V.ref a :: w
/-- what an answer is -/
def OutOk (K : PySem.W.Frag) (H H' I' : Hp) (nl : Addr → Prop) : Arg → V → Prop
  | .val d, x => Rep K I' d x
  | .lst ds, x => ∃ a vs, x = V.ref a ∧ H' a = some (.lst vs) ∧ I' a = none ∧ ds.length ≤ big ∧ RepL K I' ds vs ∧ H a = none
  | .dct kvs, x => ∃ a, x = V.ref a ∧ DRep K I' kvs (H' a) ∧ I' a = none ∧ H a = none
  | .slot _, _ => False
/-- a def keeps to what the mini language computes -/
def spOf (K : PySem.W.Frag) (EX : EXT) (c : Cl) (f : Nat) : Sp := fun vs H Q E => ∃ (I : Hp) (ss : List Slot), Le I H ∧ InAll K H I ss vs ∧ ((∃ s ∈ ss, s.own = true) → c.io f = true ∧ ∃ s r, ss = s :: r ∧ ∀ t ∈ r, t.own = false) ∧ (c.io f = true → ∃ s r, ss = s :: r ∧ s.own = true) ∧
  match c.run f ss with
  | .ok (r, s) => ∀ x H' I', Le I I' → Le I' H' → (∀ a o, H a = some o → ¬ Lent ss vs a → H' a = some o) → (∀ a, I' a ≠ none → I a ≠ none ∨ H a = none ∨ Lent ss vs a) → (∀ a, H a ≠ none → H' a ≠ none) →
      OutOk K H H' I' (Lent ss vs) r x → (∀ a, Lent ss vs a → InOk K H' I' s (.ref a)) → Q x H'
  | .exn k fs => ∀ C d H', EX k fs C d H' → (∀ a o, H a = some o → ¬ Lent ss vs a → H' a = some o) → (∀ a, H a ≠ none → H' a ≠ none) → E C d H'
  | .stk => False

/-- ValueError and what it stands on -/
def veTop : List Value := [.type "ValueError", .type "Exception", .type "BaseException", .type "object"]
/-- the context, as the check knows it -/
structure OkX (T : Tab) (G : Glo) (K : PySem.W.Frag) (EX : EXT) (c : Cl) (S : Sc) (X : Cx) : Prop where
  kk : X.K = K
  N : X.N = S.N
  sc : X.env.scope = S.sc
  calm : X.calm = true
  grd : X.A.guards = some []
  nd : S.N.Nodup
  free : ∀ x ∈ G.free, X.mg x = none
  cst : ∀ x d, G.has x d = true → ∃ u v, X.mg x = some u ∧ RelV v u ∧ ∀ I, Rep K I d v
  wr : ∀ x ∈ S.wr, X.fn x = true
  io : ∀ f, c.io f = ioOf T f
  top : S.top = true → X.stack = X.env :: X.outer ∧ X.env.frame = some X.env.locals
  ex : ∀ k fs C d H, EX k fs C d H → d = none ∧ ∃ D, C = .ref D ∧ ExcC K D
  mke : ∀ k x, G.exc k = some x → ∃ C, X.mg x = some (.ref C) ∧ PySem.W.excIn K C veTop "ValueError.__new__" = true ∧ PySem.W.keepIn K (.ref C) = true ∧ PySem.W.subIn K (.ref C) (.type "BaseException") = some true ∧ PySem.W.typeIn K (.ref C) = some (.type "type") ∧ ∀ H, EX k [] (.ref C) none H
  isx : ∀ x ks, G.isx x = some ks → ∃ C, X.mg x = some (.ref C) ∧ ∀ k fs D H, EX k fs (.ref D) none H → PySem.W.exmOne K (.ref D) (.ref C) = some (ks.contains k) ∧ PySem.W.kitOne K (.ref D) (.ref C) = some (ks.contains k)
  fns : ∃ k, Room k X.A ∧ ∀ f fd, T f = some fd → ∃ a fdat ps, X.mg fd.name = some (.ref a) ∧ PySem.W.keepIn K (.ref a) = true ∧ L2.Binds K fdat ps [] ∧ FnG X.prog X.w K X.mg X.base k a fdat ps (spOf K EX c f)
end Mi

set_option Elab.async false
set_option linter.all false
set_option maxRecDepth 100000
set_option maxHeartbeats 1000000
/-! Mi, part E: each expression's rule. -/
namespace Mi
open L2 PySem PySem.Spec PyProof.Rows

/-- a test's reading -/
def tT (K : PySem.W.Frag) (EX : EXT) (W : WX) (lk : Option Nat) (f : Env → R (Bool × Env)) : TT := fun σ H Q => ∃ I env, EnvOk K σ H I env ∧ (match f env with
  | .ok (b, env') => ∀ H' I', EnvOk K σ H' I' env' → SStep lk σ H I env σ H' I' env' → Q b H'
  | .exn k fs => ∀ C d H', EX k fs C d H' → KeepX σ H env H' → W C d σ H'
  | .stk => False)
theorem PE.imp {X : Cx} {e : Expr} {t t' : TE} (h : PE X e t) (m : ∀ σ H Q, t' σ H Q → t σ H Q) : PE X e t' := ⟨fun pins s σ H Q I q => h.run pins s σ H Q I (m σ H Q q)⟩
theorem PT.imp {X : Cx} {e : Expr} {t t' : TT} (h : PT X e t) (m : ∀ σ H Q, t' σ H Q → t σ H Q) : PT X e t' := ⟨fun pins s σ H Q I q => h.run pins s σ H Q I (m σ H Q q)⟩
theorem PA.imp {X : Cx} {e : List Expr} {t t' : TA} (h : PA X e t) (m : ∀ σ H Q, t' σ H Q → t σ H Q) : PA X e t' := ⟨fun pos pins s σ H Q I q => h.run pos pins s σ H Q I (m σ H Q q)⟩

section
variable (T : Tab) (G : Glo) (K : PySem.W.Frag) (EX : EXT) (c : Cl)
def GoodE (m : ME) : Prop := ∀ (S : Sc) (X : Cx) (W : WX) (e : Expr), OkX T G K EX c S X → Takes X W → chkE T G S m e = true → PE X e (tR K EX W S.lk (PArg K) (evalE c m))
def GoodT (m : ME) : Prop := ∀ (S : Sc) (X : Cx) (W : WX) (e : Expr), OkX T G K EX c S X → Takes X W → chkE T G S m e = true → PT X e (tT K EX W S.lk (testE c m))
end
section
variable {T : Tab} {G : Glo} {K : PySem.W.Frag} {EX : EXT} {c : Cl} {W : WX} {lk : Option Nat} {σ : L2.St} {H I : Hp} {env : Env} {Q : V → Hp → Prop}
/-- from an expression's reading, a test's -/
theorem test_of {m : ME} {Qb : Bool → Hp → Prop} (h : tT K EX W lk (testE c m) σ H Qb) : tR K EX W lk (PArg K) (evalE c m) σ H (fun x H' => ∃ b, x = .bl b ∧ Qb b H') := by
  obtain ⟨I, env, e, h⟩ := h
  refine ⟨I, env, e, ?_⟩
  unfold testE at h
  cases q : evalE c m env with
  | ok p =>
    obtain ⟨r, env1⟩ := p
    intro x H1 I1 e1 s1 p1
    simp only [q, ok_bind] at h
    cases q2 : r.see env1 with
    | ok d =>
      simp only [q2, ok_bind] at h
      cases q3 : bool1 d with
      | ok b =>
        simp only [q3, ok_bind, pure_ok] at h
        have rb := see_rep e1 p1.1 q2
        rw [bool1_ok q3] at rb
        exact ⟨b, rb.bl, h H1 I1 e1 s1⟩
      | exn k fs => exact absurd q3 (bool1_nx d k fs)
      | stk =>
        simp only [q3, stk_bind] at h
    | exn k fs => exact absurd q2 (see_nx r env1 k fs)
    | stk =>
      simp only [q2, stk_bind] at h
  | exn k fs =>
    simp only [q, exn_bind] at h
    exact h
  | stk =>
    simp only [q, stk_bind] at h
/-- a value is handed on, nothing has changed -/
theorem give {d : PyData} {x : V} (e : EnvOk K σ H I env) (h : tAt K EX W lk (PArg K) (.ok (.val d, env)) σ H I env Q) (r : Rep K I d x) : Q x H := h x H I e .refl ⟨r, trivial⟩
/-- a new list -/
theorem own_upd {p : Addr} {o : HO} (n : H p = none) (e : EnvOk K σ H I env) : EnvOk K σ (upd H p o) I env := by
  have up : ∀ b u, H b = some u → upd H p o b = some u := fun b u q => by
    rw [upd_ne (ne_of_none q n)]
    exact q
  refine ⟨fun b u q => up b u (e.le b u q), e.len, e.val, fun i ds q => ?_, fun i kvs q => ?_, e.sep⟩
  · obtain ⟨a, vs, h1, h2, h3, h4, h5⟩ := e.lst i ds q
    exact ⟨a, vs, h1, up _ _ h2, h3, h4, h5⟩
  · obtain ⟨a, h1, h2, h3⟩ := e.dct i kvs q
    obtain ⟨u, h4⟩ := h3.some
    exact ⟨a, h1, h2, by rw [up _ _ h4, ← h4]; exact h3⟩
theorem step_upd {p : Addr} {o : HO} (n : H p = none) : SStep lk σ H I env σ (upd H p o) I env := by
  refine ⟨Le.refl _, fun b u q _ => ?_, fun b q => .inl q, fun b q => .inl q, fun b q z => ?_, fun _ _ => rfl, rfl⟩
  · rw [upd_ne (ne_of_none q n)]
    exact q
  · by_cases hb : b = p
    · rw [hb] at z
      rw [upd_same] at z
      cases z
    · rw [upd_ne hb] at z
      exact q z
theorem no_own {p : Addr} (n : H p = none) (e : EnvOk K σ H I env) : ¬ Owned σ env p := by
  rintro ⟨i, h1, h2⟩
  cases q : Mi.get env i with
  | lst ds =>
    obtain ⟨a, vs, g1, g2, _⟩ := e.lst i ds q
    rw [h2] at g1
    cases g1
    rw [n] at g2
    cases g2
  | dct kvs =>
    obtain ⟨a, g1, _, g3⟩ := e.dct i kvs q
    rw [h2] at g1
    cases g1
    obtain ⟨u, g4⟩ := g3.some
    rw [n] at g4
    cases g4
  | val d =>
    rw [q] at h1
    cases h1
  | emp =>
    rw [q] at h1
    cases h1
theorem no_fix {p : Addr} (n : H p = none) (e : EnvOk K σ H I env) : I p = none := by
  cases q : I p with
  | none => rfl
  | some o =>
    have := e.le p o q
    rw [n] at this
    cases this
theorem give_lst {ds : List PyData} {vs : List V} {p : Addr} (e : EnvOk K σ H I env) (h : tAt K EX W lk (PArg K) (.ok (.lst ds, env)) σ H I env Q) (z : ds.length ≤ big) (r : RepL K I ds vs) (n : H p = none) : Q (.ref p) (upd H p (.lst vs)) :=
  h (.ref p) _ I (own_upd n e) (step_upd n) ⟨⟨p, vs, rfl, upd_same, no_fix n e, z, r, no_own n e⟩, fun a q => by cases q; exact n⟩
/-- a new tuple: it belongs to what never changes -/
theorem fix_upd {p : Addr} {o : HO} (n : H p = none) (e : EnvOk K σ H I env) : EnvOk K σ (upd H p o) (upd I p o) env := by
  have up : ∀ b u, H b = some u → upd H p o b = some u := fun b u q => by
    rw [upd_ne (ne_of_none q n)]
    exact q
  have n' := no_fix n e
  have le : Le I (upd I p o) := fun b u q => by
    rw [upd_ne (ne_of_none q n')]
    exact q
  have no : ∀ {b : Addr}, I b = none → (∃ u, H b = some u) → upd I p o b = none := fun {b} q ⟨u, hu⟩ => by
    rw [upd_ne (ne_of_none hu n)]
    exact q
  refine ⟨fun b u q => ?_, e.len, fun i d q => ?_, fun i ds q => ?_, fun i kvs q => ?_, e.sep⟩
  · by_cases hb : b = p
    · subst hb
      rw [upd_same] at q ⊢
      exact q
    · rw [upd_ne hb] at q ⊢
      exact e.le b u q
  · obtain ⟨x, h1, h2⟩ := e.val i d q
    exact ⟨x, h1, h2.le le⟩
  · obtain ⟨a, vs, h1, h2, h3, h4, h5⟩ := e.lst i ds q
    exact ⟨a, vs, h1, up _ _ h2, no h3 ⟨_, h2⟩, h4, h5.le le⟩
  · obtain ⟨a, h1, h2, h3⟩ := e.dct i kvs q
    obtain ⟨u, h4⟩ := h3.some
    exact ⟨a, h1, no h2 ⟨_, h4⟩, by rw [up _ _ h4, ← h4]; exact h3.le le⟩
theorem fix_step {p : Addr} {o : HO} (n : H p = none) (e : EnvOk K σ H I env) : SStep lk σ H I env σ (upd H p o) (upd I p o) env := by
  have n' := no_fix n e
  refine ⟨fun b u q => ?_, fun b u q _ => ?_, fun b q => ?_, fun b q => .inl q, fun b q z => ?_, fun _ _ => rfl, rfl⟩
  · rw [upd_ne (ne_of_none q n')]
    exact q
  · rw [upd_ne (ne_of_none q n)]
    exact q
  · by_cases hb : b = p
    · rw [hb]
      exact .inr (.inl n)
    · rw [upd_ne hb] at q
      exact .inl q
  · by_cases hb : b = p
    · rw [hb, upd_same] at z
      cases z
    · rw [upd_ne hb] at z
      exact q z
theorem give_tup {ds : List PyData} {vs : List V} {p : Addr} (e : EnvOk K σ H I env) (h : tAt K EX W lk (PArg K) (.ok (.val (.tuple ds), env)) σ H I env Q) (z : ds.length ≤ big) (r : RepL K I ds vs) (n : H p = none) : Q (.ref p) (upd H p (.tup vs)) := by
  have n' := no_fix n e
  have le : Le I (upd I p (.tup vs)) := fun b u q => by
    rw [upd_ne (ne_of_none q n')]
    exact q
  exact h (.ref p) _ _ (fix_upd n e) (fix_step n e) ⟨.tup (SqT.of upd_same) z (r.le le), trivial⟩

/-! ### names, constants -/
theorem plain_ok {x : Str} (h : plainB x = true) : (x == ("__debug__" : Str)) = false ∧ (x == ("__classdict__" : Str)) = false ∧ x ≠ "__name__" := by
  unfold plainB at h
  simp only [Bool.and_eq_true, Bool.not_eq_true', decide_eq_false_iff_not] at h
  exact ⟨h.1, h.2.1, h.2.2⟩
theorem vis_ok {sc : Scope} {x : Str} (h : visB sc x = true) : Vis sc x := by
  unfold visB at h
  unfold Vis
  cases q : sc.names.lookup x with
  | none =>
    rw [q] at h
    cases h
  | some k =>
    rw [q] at h
    cases k <;> first | exact .inl rfl | exact .inr (.inl rfl) | exact .inr (.inr rfl) | cases h
theorem gl_ok {X : Cx} {x : Str} (h : glB X.env.scope x = true) : Gl X x := by
  unfold glB at h
  show X.env.scope.names.lookup x = some .globalImplicit
  cases q : X.env.scope.names.lookup x with
  | none =>
    rw [q] at h
    cases h
  | some k =>
    rw [q] at h
    cases k <;> first | rfl | cases h
theorem free_ok {S : Sc} {X : Cx} {x : Str} (O : OkX T G K EX c S X) (h : freeB G S x = true) : Gl X x ∧ X.mg x = none ∧ (x == ("__debug__" : Str)) = false ∧ x ≠ "__name__" := by
  unfold freeB at h
  simp only [Bool.and_eq_true] at h
  obtain ⟨h1, h2, h3⟩ := h
  have p := plain_ok h2
  exact ⟨gl_ok (by rw [O.sc]; exact h1), O.free x (by simpa using h3), p.1, p.2.2⟩
theorem good_var (i : Nat) : GoodE T G K EX c (.var i) := by
  intro S X W e O tk h
  cases e with
  | Name x p =>
    simp only [chkE, Bool.and_eq_true, decide_eq_true_eq] at h
    obtain ⟨h1, h2, h3⟩ := h
    have pl := plain_ok h3
    refine PE.imp (pe_var (i := i) (by rw [O.N]; exact h1) (by rw [O.sc]; exact vis_ok h2) pl.1 pl.2.1) fun σ H Q q => ?_
    obtain ⟨I, env, e, q⟩ := q
    simp only [evalE] at q
    cases z : Mi.get env i with
    | val d =>
      simp only [z] at q
      obtain ⟨x, g1, g2⟩ := e.val i d z
      exact ⟨x, g1, give e q g2⟩
    | lst ds =>
      simp only [z] at q
      obtain ⟨a, vs, g1, _⟩ := e.lst i ds z
      exact ⟨_, g1, q _ H I e .refl ⟨g1, trivial⟩⟩
    | dct ds =>
      simp only [z] at q
      obtain ⟨a, g1, _⟩ := e.dct i ds z
      exact ⟨_, g1, q _ H I e .refl ⟨g1, trivial⟩⟩
    | emp =>
      simp only [z] at q
      exact q.elim
  | _ => simp only [chkE] at h; cases h
theorem good_cst (d : PyData) : GoodE T G K EX c (.cst d) := by
  intro S X W e O tk h
  cases e with
  | Constant k n p =>
    simp only [chkE] at h
    cases d <;> cases k <;> first | (simp only [cstB] at h; cases h; done) | skip
    · exact PE.imp pe_non fun σ H Q q => by
        obtain ⟨I, env, e, q⟩ := q
        exact give e q .non
    · rename_i a b
      have e1 : a = b := by simpa only [cstB, beq_iff_eq] using h
      subst e1
      exact PE.imp pe_bl fun σ H Q q => by
        obtain ⟨I, env, e, q⟩ := q
        exact give e q (.bl a)
    · rename_i a b
      have e1 : a = b := by simpa only [cstB, decide_eq_true_eq] using h
      subst e1
      exact PE.imp pe_int fun σ H Q q => by
        obtain ⟨I, env, e, q⟩ := q
        exact give e q (.int a)
    · rename_i a b
      have e1 : a = b := by simpa only [cstB, decide_eq_true_eq] using h
      subst e1
      exact PE.imp pe_str fun σ H Q q => by
        obtain ⟨I, env, e, q⟩ := q
        exact give e q (.str a)
  | _ => simp only [chkE] at h; cases h
theorem good_gbl (x : Str) (d : PyData) : GoodE T G K EX c (.gbl x d) := by
  intro S X W e O tk h
  cases e with
  | Name y p =>
    simp only [chkE, Bool.and_eq_true, decide_eq_true_eq] at h
    obtain ⟨h1, h2, h3, h4⟩ := h
    subst h1
    obtain ⟨u, v, g1, g2, g3⟩ := O.cst x d h4
    exact PE.imp (pe_glob (gl_ok (by rw [O.sc]; exact h2)) g1 g2 (plain_ok h3).1) fun σ H Q q => by
      obtain ⟨I, env, e, q⟩ := q
      exact give e q (g3 I)
  | _ => simp only [chkE] at h; cases h
end
end Mi

set_option Elab.async false
set_option linter.all false
set_option maxRecDepth 100000
set_option maxHeartbeats 1000000
/-! Mi, part F: operators. -/
namespace Mi
open L2 PySem PySem.Spec PyProof.Rows
section
variable {T : Tab} {G : Glo} {K : PySem.W.Frag} {EX : EXT} {c : Cl} {W : WX} {lk : Option Nat} {σ : L2.St} {H I : Hp} {env : Env} {Q : V → Hp → Prop} {a b : ME} {α : Type}
/-- one operand, seen -/
theorem eval1 {P : L2.St → Hp → Hp → Hp → Env → α → V → Prop} (o : Old P) {F : PyData → Env → R (α × Env)} (h : tR K EX W lk P (fun env => evalE c a env >>= fun p => p.1.see p.2 >>= fun x => F x p.2) σ H Q) :
    tR K EX W lk (PArg K) (evalE c a) σ H fun x H1 => ∃ d I env1, EnvOk K σ H1 I env1 ∧ RepB K H1 I d x ∧ tAt K EX W lk P (F d env1) σ H1 I env1 Q := by
  obtain ⟨I, env, e, h⟩ := h
  refine ⟨I, env, e, tAt.mono (tAt.bind o h) fun x H1 ⟨r, env1, I1, e1, s1, p1, q⟩ => ?_⟩
  obtain ⟨d, hd, q⟩ := tAt.calc (see_nx r env1) q
  exact ⟨d, I1, env1, e1, see_rep e1 p1.1 hd, q⟩
/-- two operands, seen when both are there -/
theorem eval2 {P : L2.St → Hp → Hp → Hp → Env → α → V → Prop} (o : Old P) {F : PyData → PyData → Env → R (α × Env)} (h : tR K EX W lk P (fun env => evalE c a env >>= fun p => evalE c b p.2 >>= fun q => p.1.see q.2 >>= fun x => q.1.see q.2 >>= fun y => F x y q.2) σ H Q) :
    tR K EX W lk (PArg K) (evalE c a) σ H fun x H1 => tR K EX W lk (PArg K) (evalE c b) σ H1 fun y H2 => ∃ d1 d2 I env2, EnvOk K σ H2 I env2 ∧ RepB K H2 I d1 x ∧ RepB K H2 I d2 y ∧ tAt K EX W lk P (F d1 d2 env2) σ H2 I env2 Q := by
  obtain ⟨I, env, e, h⟩ := h
  refine ⟨I, env, e, tAt.mono (tAt.bind o h) fun x H1 ⟨r, env1, I1, e1, s1, p1, q⟩ => ?_⟩
  refine ⟨I1, env1, e1, tAt.mono (tAt.bind o q) fun y H2 ⟨r2, env2, I2, e2, s2, p2, q2⟩ => ?_⟩
  obtain ⟨d1, hd1, q2⟩ := tAt.calc (see_nx r env2) q2
  obtain ⟨d2, hd2, q2⟩ := tAt.calc (see_nx r2 env2) q2
  exact ⟨d1, d2, I2, env2, e2, see_rep e2 (p1.1.step s2) hd1, see_rep e2 p2.1 hd2, q2⟩

/-! ### + - * // % ** -/
theorem fits_mul {i j : Int} (h : fitsMul i j = true) : CMul i j := by
  unfold fitsMul at h
  simp only [Bool.or_eq_true, Bool.and_eq_true, decide_eq_true_eq] at h
  exact h
def rOp2 (K : PySem.W.Frag) : Op2 → R2
  | .add => fun x y H Q => (∃ i j, x = .int i ∧ y = .int j ∧ Q (.int (i + j)) H) ∨ (∃ i k, x = .int i ∧ y = .bl k ∧ Q (.int (i + PyProof.Rows.b2i k)) H) ∨ (∃ i j, x = .str i ∧ y = .str j ∧ i.length + j.length ≤ sizeLine ∧ Q (.str (i ++ j)) H) ∨ rCatA K x y H Q ∨ rCat x y H Q
  | .sub => rI0 fun i j => .int (i - j)
  | .mul => fun x y H Q => rI CMul (fun i j => .int (i * j)) x y H Q ∨ rRepT K x y H Q ∨ rRep x y H Q
  | .fdiv => rI CDiv fun i j => .int (i / j)
  | .mod => rI (fun _ j => 0 < j) fun i j => .int (i % j)
  | .pow => rI CPow fun i j => .int (i ^ j.toNat)
theorem op2_or {X : Cx} {o : Op2} {p : Operator} (h : op2B o p = true) : OpR X (binaryOp p) (rOp2 X.K o) := by
  cases o <;> cases p <;> first | (cases h; done) | skip
  · intro pins s σ H x y v u Q I rx ry h
    rcases h with h | h | h | h | h
    · exact op_add pins s σ H x y v u Q I rx ry h
    · exact op_add_ib pins s σ H x y v u Q I rx ry h
    · exact op_add_str pins s σ H x y v u Q I rx ry h
    · exact op_catA pins s σ H x y v u Q I rx ry h
    · exact op_cat pins s σ H x y v u Q I rx ry h
  · exact op_sub
  · intro pins s σ H x y v u Q I rx ry h
    rcases h with h | h | h
    · exact op_mul pins s σ H x y v u Q I rx ry h
    · exact op_repT pins s σ H x y v u Q I rx ry h
    · exact op_rep pins s σ H x y v u Q I rx ry h
  · exact op_fdiv
  · exact op_mod
  · exact op_pow
theorem bin2_nx (o : Op2) (x y : PyData) : Nx (bin2 o x y) := by
  unfold bin2
  split <;> first | exact nx_ok | exact nx_stk | exact nx_ite nx_ok nx_stk
theorem bin2_ok {o : Op2} {d1 d2 : PyData} {x y : V} (e : EnvOk K σ H I env) (r1 : RepB K H I d1 x) (r2 : RepB K H I d2 y) (h : tAt K EX W lk (PArg K) (bin2 o d1 d2 >>= fun r => pure (r, env)) σ H I env Q) : rOp2 K o x y H Q := by
  obtain ⟨r, hr, q⟩ := tAt.calc (bin2_nx o d1 d2) h
  unfold bin2 at hr
  split at hr
  · cases hr
    exact .inl ⟨_, _, r1.int, r2.int, give e q (.int _)⟩
  · cases hr
    exact .inr (.inl ⟨_, _, r1.int, r2.bl, give e q (.int _)⟩)
  · split at hr
    · rename_i z
      cases hr
      exact .inr (.inr (.inl ⟨_, _, r1.str, r2.str, by rw [← big_eq]; exact z, give e q (.str _)⟩))
    · cases hr
  · split at hr
    · rename_i xs ys z
      cases hr
      obtain ⟨p1, vs, rfl, s1, z1, l1⟩ := r1.tup e.le
      obtain ⟨p2, ws, rfl, s2, z2, l2⟩ := r2.tup e.le
      have rl := l1.append l2
      have zz : (xs ++ ys).length ≤ big := by rw [List.length_append]; exact z
      refine .inr (.inr (.inr (.inl ⟨p1, p2, vs, ws, rfl, rfl, s1, s2, by rw [← big_eq, ← l1.length, ← l2.length]; exact z, fun hx => ?_, fun hx hy => ?_, fun hx hy p n => give_tup e q zz rl n⟩)))
      · subst hx
        cases l1
        exact give e q (by simpa using (show Rep K I (.tuple ys) (.ref p2) from r2))
      · subst hy
        cases l2
        exact give e q (by simpa using (show Rep K I (.tuple xs) (.ref p1) from r1))
    · cases hr
  · split at hr
    · rename_i xs ys z
      cases hr
      obtain ⟨p1, vs, rfl, s1, z1, l1⟩ := (show ∃ a vs, x = V.ref a ∧ H a = some (.lst vs) ∧ xs.length ≤ big ∧ RepL K I xs vs from r1)
      obtain ⟨p2, ws, rfl, s2, z2, l2⟩ := (show ∃ a vs, y = V.ref a ∧ H a = some (.lst vs) ∧ ys.length ≤ big ∧ RepL K I ys vs from r2)
      exact .inr (.inr (.inr (.inr ⟨p1, p2, vs, ws, rfl, rfl, s1, s2, by rw [← big_eq, ← l1.length, ← l2.length]; exact z, fun p n => give_lst e q (by rw [List.length_append]; exact z) (l1.append l2) n⟩)))
    · cases hr
  · cases hr
    exact ⟨_, _, r1.int, r2.int, give e q (.int _)⟩
  · split at hr
    · rename_i z
      cases hr
      exact .inl ⟨_, _, r1.int, r2.int, fits_mul z, give e q (.int _)⟩
    · cases hr
  · split at hr
    · rename_i xs k z
      cases hr
      obtain ⟨p1, vs, rfl, s1, z1, l1⟩ := r1.tup e.le
      obtain ⟨q1, q2, q3, q4⟩ := z
      refine .inr (.inl ⟨p1, k, vs, rfl, r2.int, s1, fun w => q1 ?_, q2, q3, by rw [← l1.length]; exact q4, fun p n => give_tup e q ?_ (l1.rep _) n⟩)
      · subst w
        cases l1
        rfl
      · rw [List.length_flatten, List.map_replicate, List.sum_replicate_nat]
        have : k.toNat ≤ 1000 := by omega
        have h2 : k.toNat * xs.length ≤ 1000 * 1000 := Nat.mul_le_mul this q4
        exact Nat.le_trans h2 (by decide)
    · cases hr
  · split at hr
    · rename_i xs k z
      cases hr
      obtain ⟨p1, vs, rfl, s1, z1, l1⟩ := (show ∃ a vs, x = V.ref a ∧ H a = some (.lst vs) ∧ xs.length ≤ big ∧ RepL K I xs vs from r1)
      obtain ⟨q1, q2, q3⟩ := z
      refine .inr (.inr ⟨p1, k, vs, rfl, r2.int, s1, q1, q2, by rw [← big_eq, ← l1.length]; exact q3, fun p n => give_lst e q ?_ (l1.rep _) n⟩)
      rw [List.length_flatten, List.map_replicate, List.sum_replicate_nat, Nat.mul_comm]
      exact q3
    · cases hr
  · split at hr
    · rename_i z
      cases hr
      exact ⟨_, _, r1.int, r2.int, z, give e q (.int _)⟩
    · cases hr
  · split at hr
    · rename_i z
      cases hr
      exact ⟨_, _, r1.int, r2.int, z, give e q (.int _)⟩
    · cases hr
  · split at hr
    · rename_i z
      cases hr
      exact ⟨_, _, r1.int, r2.int, z, give e q (.int _)⟩
    · cases hr
  · cases hr
theorem good_op2 {o : Op2} (ha : GoodE T G K EX c a) (hb : GoodE T G K EX c b) : GoodE T G K EX c (.op2 o a b) := by
  intro S X W e O tk h
  cases e with
  | BinOp x p y pos =>
    simp only [chkE, Bool.and_eq_true] at h
    obtain ⟨h1, h2, h3⟩ := h
    refine PE.imp (pe_op (op2_or h1) (ha S X W x O tk h2) (hb S X W y O tk h3)) fun σ H Q q => ?_
    obtain ⟨I, env, e, q⟩ := eval2 (F := fun x y env => bin2 o x y >>= fun r => pure (r, env)) old_arg (by unfold tR at q ⊢; simp only [evalE] at q; exact q)
    refine ⟨I, env, e, tAt.mono q fun x H1 q1 => ?_⟩
    obtain ⟨I1, env1, e1, q1⟩ := q1
    refine ⟨I1, env1, e1, tAt.mono q1 fun y H2 q2 => ?_⟩
    obtain ⟨d1, d2, I2, env2, e2, r1, r2, q2⟩ := q2
    rw [O.kk]
    exact bin2_ok e2 r1 r2 q2
  | _ => simp only [chkE] at h; cases h
end
end Mi

set_option Elab.async false
set_option linter.all false
set_option maxRecDepth 100000
set_option maxHeartbeats 1000000
/-! Mi, part G: items, slices, comparisons, tests. -/
namespace Mi
open L2 PySem PySem.Spec PyProof.Rows
section
variable {T : Tab} {G : Glo} {K : PySem.W.Frag} {EX : EXT} {c : Cl} {W : WX} {lk : Option Nat} {σ : L2.St} {H I : Hp} {env : Env} {Q : V → Hp → Prop} {a b d : ME} {α : Type}

/-! ### a[i] -/
theorem ixAt_eq (n : Nat) (i : Int) : ixAt n i = ixN n i := rfl
theorem itemAt_nx (ds : List PyData) (i : Int) : Nx (itemAt ds i) := by
  unfold itemAt
  split
  · split
    · exact nx_ok
    · exact nx_stk
  · exact nx_stk
theorem sub2_nx (x y : PyData) : Nx (sub2 x y) := nx_bind (seqOf_nx x) fun _ => nx_bind (int1_nx y) fun _ => itemAt_nx _ _
theorem itemAt_ok {ds : List PyData} {vs : List V} {i : Int} {d : PyData} (r : RepL K I ds vs) (h : itemAt ds i = .ok d) : ∃ v, atI vs i = some v ∧ Rep K I d v := by
  unfold itemAt at h
  split at h
  · rename_i j hj
    split at h
    · rename_i e he
      cases h
      obtain ⟨v, h1, h2⟩ := r.get he
      refine ⟨v, ?_, h2⟩
      unfold atI
      rw [← r.length, ← ixAt_eq, hj]
      exact h1
    · cases h
  · cases h
theorem seqOf_rep {d : PyData} {ds : List PyData} {x : V} (l : Le I H) (r : RepB K H I d x) (h : seqOf d = .ok ds) : ∃ p vs, x = .ref p ∧ (SqL K H p vs ∨ SqT K H p vs) ∧ ds.length ≤ big ∧ RepL K I ds vs := by
  cases d with
  | list es =>
    cases h
    obtain ⟨p, vs, rfl, h1, h2, h3⟩ := r
    exact ⟨p, vs, rfl, .inl (SqL.of h1), h2, h3⟩
  | tuple es =>
    cases h
    obtain ⟨p, vs, rfl, h1, h2, h3⟩ := r.tup l
    exact ⟨p, vs, rfl, .inr h1, h2, h3⟩
  | _ => cases h
theorem good_sub (ha : GoodE T G K EX c a) (hb : GoodE T G K EX c b) : GoodE T G K EX c (.sub a b) := by
  intro S X W e O tk h
  cases e with
  | Subscript x y pos =>
    simp only [chkE, Bool.and_eq_true] at h
    obtain ⟨h2, h3⟩ := h
    refine PE.imp (pe_ix ix_seq (ha S X W x O tk h2) (hb S X W y O tk h3) (ix_of (chk_form h3).2.2)) fun σ H Q q => ?_
    obtain ⟨I, env, e, q⟩ := eval2 (F := fun x y env => sub2 x y >>= fun d => pure (.val d, env)) old_arg (by unfold tR at q ⊢; simp only [evalE] at q; exact q)
    refine ⟨I, env, e, tAt.mono q fun x H1 q1 => ?_⟩
    obtain ⟨I1, env1, e1, q1⟩ := q1
    refine ⟨I1, env1, e1, tAt.mono q1 fun y H2 q2 => ?_⟩
    obtain ⟨d1, d2, I2, env2, e2, r1, r2, q2⟩ := q2
    obtain ⟨dd, hd, q2⟩ := tAt.calc (sub2_nx d1 d2) q2
    obtain ⟨ds, g1, hd⟩ := bind_ok (show (seqOf d1 >>= fun ds => int1 d2 >>= fun i => itemAt ds i) = _ from hd)
    obtain ⟨i, g2, hd⟩ := bind_ok hd
    rw [int1_ok g2] at r2
    obtain ⟨p, vs, rfl, s, _, r⟩ := seqOf_rep e2.le r1 g1
    obtain ⟨v, k1, k2⟩ := itemAt_ok r hd
    rw [O.kk]
    rcases s with s | s
    · exact .inl ⟨p, vs, i, v, rfl, r2.int, s, k1, give e2 q2 k2⟩
    · exact .inr (.inl ⟨p, vs, i, v, rfl, r2.int, s, k1, give e2 q2 k2⟩)
  | _ => simp only [chkE] at h; cases h

/-! ### a[lo:hi], a[::-1] -/
theorem cut_eq (ds : List PyData) (lo hi : Option Int) : cut ds lo hi = (ds.drop (HT.sIx ds.length 0 lo)).take (HT.sIx ds.length ds.length hi - HT.sIx ds.length 0 lo) := by
  unfold cut
  cases lo <;> cases hi <;> rfl
theorem cut_rep {ds : List PyData} {vs : List V} {lo hi : Option Int} (r : RepL K I ds vs) : RepL K I (cut ds lo hi) (cutV vs lo hi) := by
  rw [cut_eq]
  unfold cutV
  rw [← r.length]
  exact (r.drop _).take _
theorem cut_le (ds : List PyData) (lo hi : Option Int) : (cut ds lo hi).length ≤ ds.length := by
  unfold cut
  rw [List.length_take, List.length_drop]
  omega
theorem slc3_nx (x : PyData) (lo hi : Option Int) : Nx (slc3 x lo hi) := by
  cases x <;> first | exact nx_ok | exact nx_stk
theorem optInt_nx_of {m : ME} {env : Env} : optInt false (evalE c m env) env = .ok (none, env) := rfl
/-- a slice's part -/
theorem part_run {X : Cx} {S : Sc} {W : WX} {m : ME} {o : Option Expr} (O : OkX T G K EX c S X) (tk : Takes X W) (hm : GoodE T G K EX c m) (h : (match o with
    | none => m.isNop
    | some l => !m.isNop && chkE T G S m l) = true) :
    PO X o (fun σ H Qo => ∃ I env, EnvOk K σ H I env ∧ (match optInt (!m.isNop) (evalE c m env) env with
      | .ok (i, env') => ∀ H' I', EnvOk K σ H' I' env' → SStep S.lk σ H I env σ H' I' env' → Qo i H'
      | .exn k fs => ∀ C d H', EX k fs C d H' → KeepX σ H env H' → W C d σ H'
      | .stk => False)) := by
  cases o with
  | none =>
    have hn : m.isNop = true := h
    refine ⟨fun pins s σ H Qo I hq => ?_⟩
    refine po_none.run pins s σ H Qo I ?_
    obtain ⟨I1, env, e, q⟩ := hq
    rw [hn] at q
    exact q H I1 e .refl
  | some l =>
    have h' : (!m.isNop && chkE T G S m l) = true := h
    simp only [Bool.and_eq_true] at h'
    refine ⟨fun pins s σ H Qo I hq => ?_⟩
    refine (po_some (hm S X W l O tk h'.2)).run pins s σ H Qo I ?_
    obtain ⟨I1, env, e, q⟩ := hq
    rw [h'.1] at q
    refine ⟨I1, env, e, ?_⟩
    unfold optInt at q
    simp only [if_true] at q
    cases z : evalE c m env with
    | ok p =>
      obtain ⟨r, env1⟩ := p
      intro x H1 I2 e1 s1 p1
      simp only [z, ok_bind] at q
      cases z2 : r.see env1 with
      | ok dd =>
        simp only [z2, ok_bind] at q
        cases z3 : int1 dd with
        | ok i =>
          simp only [z3, ok_bind, pure_ok] at q
          have rb := see_rep e1 p1.1 z2
          rw [int1_ok z3] at rb
          exact ⟨i, rb.int, q H1 I2 e1 s1⟩
        | exn k fs => exact absurd z3 (int1_nx dd k fs)
        | stk => simp only [z3, stk_bind] at q
      | exn k fs => exact absurd z2 (see_nx r env1 k fs)
      | stk => simp only [z2, stk_bind] at q
    | exn k fs =>
      simp only [z, exn_bind] at q
      exact q
    | stk => simp only [z, stk_bind] at q
def rSlc (K : PySem.W.Frag) : V → Option Int → Option Int → Hp → VK → Prop := fun x lo hi H Q => rSlA K x lo hi H Q ∨ rSlL K x lo hi H Q
theorem good_slc {lo hi : ME} (ha : GoodE T G K EX c a) (hl : GoodE T G K EX c lo) (hh : GoodE T G K EX c hi) : GoodE T G K EX c (.slc a lo hi) := by
  intro S X W e O tk h
  cases e with
  | Subscript x y pos =>
    cases y with
    | Slice l u st p =>
      cases st with
      | none =>
        simp only [chkE, Bool.and_eq_true] at h
        obtain ⟨h1, h2, h3⟩ := h
        refine PE.imp (pe_slice (r := rSlc X.K) (SlR.or sl_tupA sl_list) (ha S X W x O tk h1) (part_run O tk hl h2) (part_run O tk hh h3)) fun σ H Q q => ?_
        obtain ⟨I, env, e, q⟩ := q
        simp only [evalE] at q
        refine ⟨I, env, e, tAt.mono (tAt.bind old_arg q) fun x H1 ⟨r, env1, I1, e1, s1, p1, q⟩ => ?_⟩
        refine ⟨I1, env1, e1, ?_⟩
        cases z : optInt (!lo.isNop) (evalE c lo env1) env1 with
        | ok pp =>
          obtain ⟨i, env2⟩ := pp
          simp only [z, ok_bind] at q
          intro H2 I2 e2 s2
          have q := tAt.later old_arg s2 q
          refine ⟨I2, env2, e2, ?_⟩
          cases z2 : optInt (!hi.isNop) (evalE c hi env2) env2 with
          | ok pp =>
            obtain ⟨j, env3⟩ := pp
            simp only [z2, ok_bind] at q
            intro H3 I3 e3 s3
            have q := tAt.later old_arg s3 q
            obtain ⟨dx, hx, q⟩ := tAt.calc (see_nx r env3) q
            obtain ⟨rr, hr, q⟩ := tAt.calc (slc3_nx dx i j) q
            have rb := see_rep e3 ((p1.1.step s2).step s3) hx
            rw [O.kk]
            cases dx with
            | tuple ds =>
              cases hr
              obtain ⟨pa, vs, rfl, k1, k2, k3⟩ := rb.tup e3.le
              refine .inl ⟨pa, vs, rfl, k1, fun w => ?_, fun w p n => give_tup e3 q (Nat.le_trans (cut_le _ _ _) k2) (cut_rep k3) n⟩
              have e5 : cut ds i j = ds := by
                rw [cut_eq, k3.length, w.1, w.2, List.drop_zero, Nat.sub_zero, ← k3.length, List.take_length]
              rw [e5] at q
              exact give e3 q (show Rep K I3 (.tuple ds) (.ref pa) from rb)
            | list ds =>
              cases hr
              obtain ⟨pa, vs, rfl, k1, k2, k3⟩ := rb
              exact .inr ⟨pa, vs, rfl, SqL.of k1, fun p n => give_lst e3 q (Nat.le_trans (cut_le _ _ _) k2) (cut_rep k3) n⟩
            | _ => cases hr
          | exn k fs =>
            simp only [z2, exn_bind] at q
            exact q
          | stk => simp only [z2, stk_bind] at q; exact q.elim
        | exn k fs =>
          simp only [z, exn_bind] at q
          exact q
        | stk => simp only [z, stk_bind] at q; exact q.elim
      | some st => simp only [chkE] at h; cases h
    | _ => simp only [chkE] at h; cases h
  | _ => simp only [chkE] at h; cases h
theorem good_rev (ha : GoodE T G K EX c a) : GoodE T G K EX c (.rev a) := by
  intro S X W e O tk h
  simp only [chkE] at h
  split at h
  · rename_i x _ _ _ _ _
    refine PE.imp (pe_revL (ha S X W _ O tk h)) fun σ H Q q => ?_
    obtain ⟨I, env, e, q⟩ := eval1 (F := fun x env => match x with
      | .list ds => pure (.lst ds.reverse, env)
      | _ => .stk) old_arg (by unfold tR at q ⊢; simp only [evalE] at q; exact q)
    refine ⟨I, env, e, tAt.mono q fun x H1 q1 => ?_⟩
    obtain ⟨dx, I1, env1, e1, rb, q1⟩ := q1
    rw [O.kk]
    cases dx with
    | list ds =>
      obtain ⟨pa, vs, rfl, k1, k2, k3⟩ := rb
      exact ⟨pa, vs, rfl, SqL.of k1, fun p n => give_lst e1 q1 (by rw [List.length_reverse]; exact k2) k3.reverse n⟩
    | _ => exact q1.elim
  · cases h

/-! ### -a, not a, a and b, a or b -/
theorem good_neg (ha : GoodE T G K EX c a) : GoodE T G K EX c (.neg a) := by
  intro S X W e O tk h
  cases e with
  | UnaryOp op x pos =>
    cases op with
    | USub =>
      simp only [chkE] at h
      refine PE.imp (pe_un un_neg (ha S X W x O tk h)) fun σ H Q q => ?_
      obtain ⟨I, env, e, q⟩ := eval1 (F := fun x env => int1 x >>= fun i => pure (.val (.int (-i)), env)) old_arg (by unfold tR at q ⊢; simp only [evalE] at q; exact q)
      refine ⟨I, env, e, tAt.mono q fun x H1 q1 => ?_⟩
      obtain ⟨dx, I1, env1, e1, rb, q1⟩ := q1
      obtain ⟨i, hi, q1⟩ := tAt.calc (int1_nx dx) q1
      rw [int1_ok hi] at rb
      exact ⟨i, rb.int, give e1 q1 (.int _)⟩
    | _ => simp only [chkE] at h; cases h
  | _ => simp only [chkE] at h; cases h
theorem good_not (ha : GoodE T G K EX c a) : GoodE T G K EX c (.not a) := by
  intro S X W e O tk h
  cases e with
  | UnaryOp op x pos =>
    cases op with
    | Not =>
      simp only [chkE] at h
      refine PE.imp (pe_not (ha S X W x O tk h)) fun σ H Q q => ?_
      obtain ⟨I, env, e, q⟩ := eval1 (F := fun x env => bool1 x >>= fun i => pure (.val (.bool (!i)), env)) old_arg (by unfold tR at q ⊢; simp only [evalE] at q; exact q)
      refine ⟨I, env, e, tAt.mono q fun x H1 q1 => ?_⟩
      obtain ⟨dx, I1, env1, e1, rb, q1⟩ := q1
      obtain ⟨i, hi, q1⟩ := tAt.calc (bool1_nx dx) q1
      rw [bool1_ok hi] at rb
      exact ⟨i, rb.bl, give e1 q1 (.bl _)⟩
    | _ => simp only [chkE] at h; cases h
  | _ => simp only [chkE] at h; cases h
/-- the second part of and, or: a bool as it comes -/
theorem second {dx : PyData} (h : tR K EX W lk (PArg K) (fun env => evalE c b env >>= fun p => p.1.see p.2 >>= fun y => bool1 y >>= fun t => pure (.val (.bool t), p.2)) σ H Q) : tR K EX W lk (PArg K) (evalE c b) σ H Q := by
  obtain ⟨I, env, e, q⟩ := eval1 (c := c) (a := b) (F := fun y env => bool1 y >>= fun t => pure (.val (.bool t), env)) old_arg h
  refine ⟨I, env, e, tAt.mono q fun x H1 q1 => ?_⟩
  obtain ⟨dx, I1, env1, e1, rb, q1⟩ := q1
  obtain ⟨i, hi, q1⟩ := tAt.calc (bool1_nx dx) q1
  rw [bool1_ok hi] at rb
  rw [rb.bl]
  exact give e1 q1 (.bl _)
theorem and_red {σ : L2.St} {H : Hp} {Q : V → Hp → Prop} (q : tR K EX W lk (PArg K) (evalE c (.and a b)) σ H Q) : tAndV (tR K EX W lk (PArg K) (evalE c a)) (tR K EX W lk (PArg K) (evalE c b)) σ H Q := by
  obtain ⟨I, env, e, q⟩ := eval1 (c := c) (a := a) (F := fun x env => bool1 x >>= fun t => match t with
    | true => evalE c b env >>= fun p => p.1.see p.2 >>= fun y => bool1 y >>= fun t => pure (.val (.bool t), p.2)
    | false => pure (.val (.bool false), env)) old_arg (by unfold tR at q ⊢; simp only [evalE] at q; exact q)
  refine ⟨I, env, e, tAt.mono q fun x H1 q1 => ?_⟩
  obtain ⟨dx, I1, env1, e1, rb, q1⟩ := q1
  obtain ⟨i, hi, q1⟩ := tAt.calc (bool1_nx dx) q1
  rw [bool1_ok hi] at rb
  refine ⟨i, rb.bl, ?_⟩
  cases i with
  | true =>
    rw [if_pos rfl]
    exact second (dx := .none) ⟨I1, env1, e1, q1⟩
  | false =>
    rw [if_neg Bool.false_ne_true]
    exact give e1 q1 (.bl _)
theorem or_red {σ : L2.St} {H : Hp} {Q : V → Hp → Prop} (q : tR K EX W lk (PArg K) (evalE c (.or a b)) σ H Q) : tOrV (tR K EX W lk (PArg K) (evalE c a)) (tR K EX W lk (PArg K) (evalE c b)) σ H Q := by
  obtain ⟨I, env, e, q⟩ := eval1 (c := c) (a := a) (F := fun x env => bool1 x >>= fun t => match t with
    | true => pure (.val (.bool true), env)
    | false => evalE c b env >>= fun p => p.1.see p.2 >>= fun y => bool1 y >>= fun t => pure (.val (.bool t), p.2)) old_arg (by unfold tR at q ⊢; simp only [evalE] at q; exact q)
  refine ⟨I, env, e, tAt.mono q fun x H1 q1 => ?_⟩
  obtain ⟨dx, I1, env1, e1, rb, q1⟩ := q1
  obtain ⟨i, hi, q1⟩ := tAt.calc (bool1_nx dx) q1
  rw [bool1_ok hi] at rb
  refine ⟨i, rb.bl, ?_⟩
  cases i with
  | true =>
    rw [if_pos rfl]
    exact give e1 q1 (.bl _)
  | false =>
    rw [if_neg Bool.false_ne_true]
    exact second (dx := .none) ⟨I1, env1, e1, q1⟩
theorem good_and (ha : GoodE T G K EX c a) (hb : GoodE T G K EX c b) : GoodE T G K EX c (.and a b) := by
  intro S X W e O tk h
  simp only [chkE] at h
  split at h
  · simp only [Bool.and_eq_true] at h
    exact PE.imp (pe_and (ha S X W _ O tk h.1) (pe_one (hb S X W _ O tk h.2))) fun σ H Q q => and_red q
  · simp only [Bool.and_eq_true] at h
    exact PE.imp (pe_and (ha S X W _ O tk h.1) (hb S X W _ O tk h.2)) fun σ H Q q => and_red q
  · cases h
theorem good_or (ha : GoodE T G K EX c a) (hb : GoodE T G K EX c b) : GoodE T G K EX c (.or a b) := by
  intro S X W e O tk h
  simp only [chkE] at h
  split at h
  · simp only [Bool.and_eq_true] at h
    exact PE.imp (pe_or (ha S X W _ O tk h.1) (pe_one (hb S X W _ O tk h.2))) fun σ H Q q => or_red q
  · simp only [Bool.and_eq_true] at h
    exact PE.imp (pe_or (ha S X W _ O tk h.1) (hb S X W _ O tk h.2)) fun σ H Q q => or_red q
  · cases h
end
end Mi

set_option Elab.async false
set_option linter.all false
set_option maxRecDepth 100000
set_option maxHeartbeats 1000000
/-! Mi, part H: comparisons, tests, conditional expressions. -/
namespace Mi
open L2 PySem PySem.Spec PyProof.Rows

/-! ### comparisons, by data -/
def rCmp (K : PySem.W.Frag) : CmpOp → R2
  | .Eq => fun x y H Q => ∃ d e, Dp K H x d ∧ Dp K H y e ∧ d.plain = true ∧ e.plain = true ∧ min d.depth e.depth ≤ 100 ∧ Q (.bl (PyData.eqv d e)) H
  | .NotEq => fun x y H Q => ∃ d e, Dp K H x d ∧ Dp K H y e ∧ d.plain = true ∧ e.plain = true ∧ min d.depth e.depth ≤ 100 ∧ Q (.bl (!PyData.eqv d e)) H
  | .Lt => rI0 fun i j => .bl (decide (i < j))
  | .LtE => rI0 fun i j => .bl (decide (i ≤ j))
  | .Gt => rI0 fun i j => .bl (decide (j < i))
  | .GtE => rI0 fun i j => .bl (decide (j ≤ i))
  | .In => fun x y H Q => ∃ d es, Dp K H x d ∧ (Dp K H y (.list es) ∨ Dp K H y (.tuple es)) ∧ d.plain = true ∧ PyData.plainAll es = true ∧ min (PyData.depthAll es) d.depth ≤ 100 ∧ Q (.bl (es.any fun z => PyData.eqv z d)) H
  | .NotIn => fun x y H Q => ∃ d es, Dp K H x d ∧ (Dp K H y (.list es) ∨ Dp K H y (.tuple es)) ∧ d.plain = true ∧ PyData.plainAll es = true ∧ min (PyData.depthAll es) d.depth ≤ 100 ∧ Q (.bl (!es.any fun z => PyData.eqv z d)) H
  | .Is => fun x y H Q => (y = .non ∧ Q (.bl (decide (x = .non))) H) ∨ ∃ a b, x = .bl a ∧ y = .bl b ∧ Q (.bl (decide (a = b))) H
  | .IsNot => fun x y H Q => (y = .non ∧ Q (.bl (!decide (x = .non))) H) ∨ ∃ a b, x = .bl a ∧ y = .bl b ∧ Q (.bl (!decide (a = b))) H
theorem op_cmp {X : Cx} {k : Nat} (hr : Room k X.A) (o : CmpOp) : OpR X (compareOp o) (rCmp X.K o) := by
  have hu := hr.un
  cases o with
  | Eq =>
    intro pins s σ H x y v u Q I rx ry h
    obtain ⟨d, e, hd, he, p1, p2, p3, q⟩ := h
    obtain ⟨as, r1⟩ := Dp.reads I d x v hd rx
    obtain ⟨bs, r2⟩ := Dp.reads I e y u he ry
    exact SeqAt.eq_plain r1 r2 p1 p2 (by omega) ⟨.bl _, H, I, rfl, q⟩
  | NotEq =>
    intro pins s σ H x y v u Q I rx ry h
    obtain ⟨d, e, hd, he, p1, p2, p3, q⟩ := h
    obtain ⟨as, r1⟩ := Dp.reads I d x v hd rx
    obtain ⟨bs, r2⟩ := Dp.reads I e y u he ry
    exact SeqAt.ne_plain r1 r2 p1 p2 (by omega) ⟨.bl _, H, I, rfl, q⟩
  | Lt => exact op_lt
  | LtE => exact op_le
  | Gt => exact op_gt
  | GtE => exact op_ge
  | Is =>
    intro pins s σ H x y v u Q I rx ry h
    rcases h with h | h
    · exact op_isN pins s σ H x y v u Q I rx ry h
    · exact op_is_bl pins s σ H x y v u Q I rx ry h
  | IsNot =>
    intro pins s σ H x y v u Q I rx ry h
    rcases h with h | h
    · exact op_notN pins s σ H x y v u Q I rx ry h
    · exact op_isnot_bl pins s σ H x y v u Q I rx ry h
  | In =>
    intro pins s σ H x y v u Q I rx ry h
    obtain ⟨d, e, hd, he, p1, p2, p3, q⟩ := h
    obtain ⟨as, r1⟩ := Dp.reads I d x v hd rx
    rcases he with he | he
    · obtain ⟨bs, r2⟩ := Dp.reads I _ y u he ry
      exact SeqAt.in_list_data r2 r1 p2 p1 (by omega) ⟨.bl _, H, I, rfl, q⟩
    · obtain ⟨bs, r2⟩ := Dp.reads I _ y u he ry
      exact SeqAt.in_tuple_data r2 r1 p2 p1 (by omega) ⟨.bl _, H, I, rfl, q⟩
  | NotIn =>
    intro pins s σ H x y v u Q I rx ry h
    obtain ⟨d, e, hd, he, p1, p2, p3, q⟩ := h
    obtain ⟨as, r1⟩ := Dp.reads I d x v hd rx
    rcases he with he | he
    · obtain ⟨bs, r2⟩ := Dp.reads I _ y u he ry
      exact SeqAt.notIn_list_data r2 r1 p2 p1 (by omega) ⟨.bl _, H, I, rfl, q⟩
    · obtain ⟨bs, r2⟩ := Dp.reads I _ y u he ry
      exact SeqAt.notIn_tuple_data r2 r1 p2 p1 (by omega) ⟨.bl _, H, I, rfl, q⟩
section
variable {T : Tab} {G : Glo} {K : PySem.W.Frag} {EX : EXT} {c : Cl} {W : WX} {lk : Option Nat} {σ : L2.St} {H I : Hp} {env : Env} {Q : V → Hp → Prop} {a b d : ME} {α : Type}
theorem dataEq_nx (x y : PyData) : Nx (dataEq x y) := nx_ite nx_ok nx_stk
theorem dataIn_nx (x y : PyData) : Nx (dataIn x y) := by
  cases y <;> first | exact nx_stk | exact nx_ite nx_ok nx_stk
theorem cmp2_nx (o : CmpOp) (x y : PyData) : Nx (cmp2 o x y) := by
  unfold cmp2
  split <;> first | exact nx_ok | exact nx_stk | exact dataEq_nx _ _ | exact dataIn_nx _ _ | exact nx_bind (dataEq_nx _ _) fun _ => nx_ok | exact nx_bind (dataIn_nx _ _) fun _ => nx_ok
theorem dataEq_ok {x y : PyData} {t : Bool} (h : dataEq x y = .ok t) : x.plain = true ∧ y.plain = true ∧ min x.depth y.depth ≤ 100 ∧ PyData.eqv x y = t := by
  unfold dataEq at h
  split at h
  · rename_i z
    simp only [Bool.and_eq_true, decide_eq_true_eq] at z
    cases h
    exact ⟨z.1, z.2.1, z.2.2, rfl⟩
  · cases h
theorem dataIn_ok {x y : PyData} {t : Bool} (h : dataIn x y = .ok t) : ∃ es, (y = .list es ∨ y = .tuple es) ∧ x.plain = true ∧ PyData.plainAll es = true ∧ min (PyData.depthAll es) x.depth ≤ 100 ∧ (es.any fun z => PyData.eqv z x) = t := by
  unfold dataIn at h
  split at h
  · split at h
    · rename_i z
      simp only [Bool.and_eq_true, decide_eq_true_eq] at z
      cases h
      exact ⟨_, .inl rfl, z.1, z.2.1, z.2.2, rfl⟩
    · cases h
  · split at h
    · rename_i z
      simp only [Bool.and_eq_true, decide_eq_true_eq] at z
      cases h
      exact ⟨_, .inr rfl, z.1, z.2.1, z.2.2, rfl⟩
    · cases h
  · cases h
theorem rep_none {x : PyData} {v : V} (r : RepB K H I x v) : (decide (v = .non)) = isNone x := by
  cases x with
  | none => rw [r.non]; rfl
  | bool b => rw [r.bl]; rfl
  | int i => rw [r.int]; rfl
  | str s => rw [r.str]; rfl
  | list ds =>
    obtain ⟨p, vs, rfl, _⟩ := r
    rfl
  | tuple ds =>
    cases (show Rep K I (.tuple ds) v from r)
    rfl
  | dict ds =>
    cases (show Rep K I (.dict ds) v from r)
    rfl
theorem list_dp {es : List PyData} {y : PyData} (h : y = .list es ∨ y = .tuple es) (p : PyData.plainAll es = true) : y.plain = true := by
  rcases h with rfl | rfl
  · simpa only [PyData.plain] using p
  · simpa only [PyData.plain] using p
theorem cmp2_ok {o : CmpOp} {x y : PyData} {v u : V} {t : Bool} (l : Le I H) (r1 : RepB K H I x v) (r2 : RepB K H I y u) (h : cmp2 o x y = .ok t) (q : Q (.bl t) H) : rCmp K o v u H Q := by
  unfold cmp2 at h
  split at h
  · obtain ⟨p1, p2, p3, rfl⟩ := dataEq_ok h
    exact ⟨_, _, r1.dp l p1, r2.dp l p2, p1, p2, p3, q⟩
  · obtain ⟨k, hk, h⟩ := bind_ok h
    obtain ⟨p1, p2, p3, rfl⟩ := dataEq_ok hk
    cases h
    exact ⟨_, _, r1.dp l p1, r2.dp l p2, p1, p2, p3, q⟩
  · cases h
    exact ⟨_, _, r1.int, r2.int, q⟩
  · cases h
    exact ⟨_, _, r1.int, r2.int, q⟩
  · cases h
    exact ⟨_, _, r1.int, r2.int, q⟩
  · cases h
    exact ⟨_, _, r1.int, r2.int, q⟩
  · obtain ⟨es, g, p1, p2, p3, rfl⟩ := dataIn_ok h
    have g2 := r2.dp l (list_dp g p2)
    refine ⟨_, es, r1.dp l p1, ?_, p1, p2, p3, q⟩
    rcases g with rfl | rfl
    · exact .inl g2
    · exact .inr g2
  · obtain ⟨k, hk, h⟩ := bind_ok h
    obtain ⟨es, g, p1, p2, p3, rfl⟩ := dataIn_ok hk
    cases h
    have g2 := r2.dp l (list_dp g p2)
    refine ⟨_, es, r1.dp l p1, ?_, p1, p2, p3, q⟩
    rcases g with rfl | rfl
    · exact .inl g2
    · exact .inr g2
  · cases h
    refine .inl ⟨r2.non, ?_⟩
    rw [rep_none r1]
    exact q
  · cases h
    refine .inl ⟨r2.non, ?_⟩
    rw [rep_none r1]
    exact q
  · cases h
    exact .inr ⟨_, _, r1.bl, r2.bl, q⟩
  · cases h
    exact .inr ⟨_, _, r1.bl, r2.bl, q⟩
  · cases h
theorem OkX.room {S : Sc} {X : Cx} (O : OkX T G K EX c S X) : ∃ k, Room k X.A := by
  obtain ⟨k, h, _⟩ := O.fns
  exact ⟨k, h⟩
theorem cmp_red {o : CmpOp} (q : tR K EX W lk (PArg K) (evalE c (.cmp o a b)) σ H Q) : tOp (rCmp K o) (tR K EX W lk (PArg K) (evalE c a)) (tR K EX W lk (PArg K) (evalE c b)) σ H Q := by
  obtain ⟨I, env, e, q⟩ := eval2 (c := c) (a := a) (b := b) (F := fun x y env => cmp2 o x y >>= fun t => pure (.val (.bool t), env)) old_arg (by unfold tR at q ⊢; simp only [evalE] at q; exact q)
  refine ⟨I, env, e, tAt.mono q fun x H1 q1 => ?_⟩
  obtain ⟨I1, env1, e1, q1⟩ := q1
  refine ⟨I1, env1, e1, tAt.mono q1 fun y H2 q2 => ?_⟩
  obtain ⟨d1, d2, I2, env2, e2, r1, r2, q2⟩ := q2
  obtain ⟨t, ht, q2⟩ := tAt.calc (cmp2_nx o d1 d2) q2
  exact cmp2_ok e2.le r1 r2 ht (give e2 q2 (.bl _))
theorem good_cmp {o : CmpOp} (ha : GoodE T G K EX c a) (hb : GoodE T G K EX c b) : GoodE T G K EX c (.cmp o a b) := by
  intro S X W e O tk h
  simp only [chkE] at h
  split at h
  · simp only [Bool.and_eq_true, decide_eq_true_eq] at h
    obtain ⟨h1, h2, h3⟩ := h
    subst h1
    obtain ⟨k, hr⟩ := O.room
    exact PE.imp (pe_cmpR (op_cmp hr o) (ha S X W _ O tk h2) (hb S X W _ O tk h3) (mark_of (chk_form h3).2.1 _)) fun σ H Q q => by rw [O.kk]; exact cmp_red q
  · cases h
theorem chn_red {o p : CmpOp} (q : tR K EX W lk (PArg K) (evalE c (.chn o p a b d)) σ H Q) : tChain (rCmp K o) (rCmp K p) (tR K EX W lk (PArg K) (evalE c a)) (tR K EX W lk (PArg K) (evalE c b)) (tR K EX W lk (PArg K) (evalE c d)) σ H Q := by
  obtain ⟨I, env, e, q⟩ := q
  simp only [evalE] at q
  refine ⟨I, env, e, tAt.mono (tAt.bind old_arg q) fun x H1 ⟨r, env1, I1, e1, s1, p1, q⟩ => ?_⟩
  refine ⟨I1, env1, e1, tAt.mono (tAt.bind old_arg q) fun y H2 ⟨r2, env2, I2, e2, s2, p2, q2⟩ => ?_⟩
  obtain ⟨d1, hd1, q2⟩ := tAt.calc (see_nx r env2) q2
  obtain ⟨d2, hd2, q2⟩ := tAt.calc (see_nx r2 env2) q2
  obtain ⟨t, ht, q2⟩ := tAt.calc (cmp2_nx o d1 d2) q2
  refine cmp2_ok e2.le (see_rep e2 (p1.1.step s2) hd1) (see_rep e2 p2.1 hd2) ht ⟨t, rfl, ?_⟩
  cases t with
  | true =>
    rw [if_pos rfl]
    refine ⟨I2, env2, e2, tAt.mono (tAt.bind old_arg q2) fun z H3 ⟨r3, env3, I3, e3, s3, p3, q3⟩ => ?_⟩
    obtain ⟨d3, hd3, q3⟩ := tAt.calc (see_nx r3 env3) q3
    obtain ⟨d4, hd4, q3⟩ := tAt.calc (see_nx r2 env3) q3
    obtain ⟨t2, ht2, q3⟩ := tAt.calc (cmp2_nx p d4 d3) q3
    exact cmp2_ok e3.le (see_rep e3 (p2.1.step s3) hd4) (see_rep e3 p3.1 hd3) ht2 (give e3 q3 (.bl _))
  | false =>
    rw [if_neg Bool.false_ne_true]
    exact give e2 q2 (.bl _)
theorem marks_of {e1 e2 : Expr} (h : isSetE e2 = false) (o p : CmpOp) : lastMarks [o, p] [e1, e2] = false := by
  show behindInMarks p e2 = false
  exact mark_of h p
theorem good_chn {o p : CmpOp} (ha : GoodE T G K EX c a) (hb : GoodE T G K EX c b) (hd : GoodE T G K EX c d) : GoodE T G K EX c (.chn o p a b d) := by
  intro S X W e O tk h
  simp only [chkE] at h
  split at h
  · simp only [Bool.and_eq_true, decide_eq_true_eq] at h
    obtain ⟨h1, h2, h3, h4, h5⟩ := h
    subst h1 h2
    obtain ⟨k, hr⟩ := O.room
    exact PE.imp (pe_chain (op_cmp hr o) (op_cmp hr p) (ha S X W _ O tk h3) (hb S X W _ O tk h4) (hd S X W _ O tk h5) (marks_of (chk_form h5).2.1 _ _)) fun σ H Q q => by rw [O.kk]; exact chn_red q
  · cases h

/-! ### tests -/
def isTestForm : Expr → Bool
  | .UnaryOp .Not _ _ => true
  | .BoolOp _ _ _ => true
  | .IfExp _ _ _ _ => true
  | .Compare _ _ _ _ => true
  | _ => false
theorem pt_plain {X : Cx} {e : Expr} {t : TE} (h : isTestForm e = false) (p : PE X e t) : PT X e (tB t) := by
  cases e with
  | UnaryOp op x pos => cases op <;> first | exact pt_val p | cases h
  | BoolOp a b p => cases h
  | IfExp a b c p => cases h
  | Compare a b c p => cases h
  | _ => exact pt_val p
theorem good_plain {m : ME} (hm : GoodE T G K EX c m) (hf : ∀ S e, chkE T G S m e = true → isTestForm e = false) : GoodT T G K EX c m := by
  intro S X W e O tk h
  exact PT.imp (pt_plain (hf S e h) (hm S X W e O tk h)) fun σ H Q q => test_of q
theorem r_assoc {β γ : Type} {x : R α} {f : α → R β} {g : β → R γ} : (x >>= f) >>= g = x >>= fun a => f a >>= g := by
  cases x <;> rfl
theorem test_not {env : Env} : testE c (.not a) env = testE c a env >>= fun p => .ok (!p.1, p.2) := by
  unfold testE
  simp only [evalE]
  cases evalE c a env with
  | ok p =>
    obtain ⟨r, env1⟩ := p
    simp only [ok_bind]
    cases r.see env1 with
    | ok x =>
      simp only [ok_bind]
      cases bool1 x <;> rfl
    | exn k fs => rfl
    | stk => rfl
  | exn k fs => rfl
  | stk => rfl
theorem test_bools {r : R (Bool × Env)} : ((r >>= fun p => (.ok (.val (.bool p.1), p.2) : R (Arg × Env))) >>= fun p => p.1.see p.2 >>= fun x => bool1 x >>= fun b => pure (b, p.2)) = r := by
  cases r <;> rfl
theorem test_and {env : Env} : testE c (.and a b) env = testE c a env >>= fun p => match p.1 with
    | true => testE c b p.2
    | false => .ok (false, p.2) := by
  unfold testE
  simp only [evalE]
  cases evalE c a env with
  | ok p =>
    obtain ⟨r, env1⟩ := p
    simp only [ok_bind]
    cases r.see env1 with
    | ok x =>
      simp only [ok_bind]
      cases bool1 x with
      | ok k =>
        cases k with
        | true =>
          simp only [ok_bind, pure_ok]
          cases evalE c b env1 with
          | ok p =>
            obtain ⟨r2, env2⟩ := p
            simp only [ok_bind]
            cases r2.see env2 with
            | ok y =>
              simp only [ok_bind]
              cases bool1 y <;> rfl
            | exn k fs => rfl
            | stk => rfl
          | exn k fs => rfl
          | stk => rfl
        | false => rfl
      | exn k fs => rfl
      | stk => rfl
    | exn k fs => rfl
    | stk => rfl
  | exn k fs => rfl
  | stk => rfl
theorem test_or {env : Env} : testE c (.or a b) env = testE c a env >>= fun p => match p.1 with
    | true => .ok (true, p.2)
    | false => testE c b p.2 := by
  unfold testE
  simp only [evalE]
  cases evalE c a env with
  | ok p =>
    obtain ⟨r, env1⟩ := p
    simp only [ok_bind]
    cases r.see env1 with
    | ok x =>
      simp only [ok_bind]
      cases bool1 x with
      | ok k =>
        cases k with
        | false =>
          simp only [ok_bind, pure_ok]
          cases evalE c b env1 with
          | ok p =>
            obtain ⟨r2, env2⟩ := p
            simp only [ok_bind]
            cases r2.see env2 with
            | ok y =>
              simp only [ok_bind]
              cases bool1 y <;> rfl
            | exn k fs => rfl
            | stk => rfl
          | exn k fs => rfl
          | stk => rfl
        | true => rfl
      | exn k fs => rfl
      | stk => rfl
    | exn k fs => rfl
    | stk => rfl
  | exn k fs => rfl
  | stk => rfl
theorem test_ite {t : ME} {env : Env} : testE c (.ite t a b) env = testE c t env >>= fun p => match p.1 with
    | true => testE c a p.2
    | false => testE c b p.2 := by
  unfold testE
  simp only [evalE]
  cases evalE c t env with
  | ok p =>
    obtain ⟨r, env1⟩ := p
    simp only [ok_bind]
    cases r.see env1 with
    | ok x =>
      simp only [ok_bind]
      cases bool1 x with
      | ok k => cases k <;> rfl
      | exn k fs => rfl
      | stk => rfl
    | exn k fs => rfl
    | stk => rfl
  | exn k fs => rfl
  | stk => rfl
/-- a test, then what follows it -/
theorem tT_bind {f : Env → R (Bool × Env)} {k : Bool × Env → R (Bool × Env)} {Qb : Bool → Hp → Prop} (h : tT K EX W lk (fun env => f env >>= k) σ H Qb) : tT K EX W lk f σ H fun t H1 => tT K EX W lk (fun env => k (t, env)) σ H1 Qb := by
  obtain ⟨I, env, e, q⟩ := h
  refine ⟨I, env, e, ?_⟩
  cases z : f env with
  | ok p =>
    obtain ⟨t, env1⟩ := p
    simp only [z, ok_bind] at q
    intro H1 I1 e1 s1
    refine ⟨I1, env1, e1, ?_⟩
    simp only []
    cases z2 : k (t, env1) with
    | ok p2 =>
      simp only [z2] at q
      exact fun H2 I2 e2 s2 => q H2 I2 e2 (s1.trans s2)
    | exn n fs =>
      simp only [z2] at q
      exact fun C d H2 e2 k2 => q C d H2 e2 (k2.later s1)
    | stk => simp only [z2] at q
  | exn n fs =>
    simp only [z, exn_bind] at q
    exact q
  | stk => simp only [z, stk_bind] at q
theorem tT_mono {f : Env → R (Bool × Env)} {Q1 Q2 : Bool → Hp → Prop} (h : tT K EX W lk f σ H Q1) (m : ∀ b H', Q1 b H' → Q2 b H') : tT K EX W lk f σ H Q2 := by
  obtain ⟨I, env, e, q⟩ := h
  refine ⟨I, env, e, ?_⟩
  cases z : f env with
  | ok p =>
    simp only [z] at q
    exact fun H1 I1 e1 s1 => m _ _ (q H1 I1 e1 s1)
  | exn n fs =>
    simp only [z] at q
    exact q
  | stk => simp only [z] at q
theorem tT_ok {t : Bool} {Qb : Bool → Hp → Prop} (h : tT K EX W lk (fun env => .ok (t, env)) σ H Qb) : Qb t H := by
  obtain ⟨I, env, e, q⟩ := h
  exact q H I e .refl
theorem tT_eq {f g : Env → R (Bool × Env)} {Qb : Bool → Hp → Prop} (h : tT K EX W lk f σ H Qb) (e : f = g) : tT K EX W lk g σ H Qb := e ▸ h
theorem goodT_not (ha : GoodT T G K EX c a) : GoodT T G K EX c (.not a) := by
  intro S X W e O tk h
  cases e with
  | UnaryOp op x pos =>
    cases op with
    | Not =>
      simp only [chkE] at h
      refine PT.imp (pt_not (ha S X W x O tk h)) fun σ H Q q => ?_
      have q2 := tT_bind (tT_eq q (funext fun env => test_not))
      exact tT_mono q2 fun t H1 q3 => tT_ok q3
    | _ => simp only [chkE] at h; cases h
  | _ => simp only [chkE] at h; cases h
theorem pw_of {X : Cx} {o : BoolOp} {vs : List Expr} {p : Pos} {t : TT} (h : PT X (.BoolOp o vs p) t) : PW X (.BoolOp o vs p) t := ⟨fun wh pins s σ H Q I q => h.run pins s σ H Q I q⟩
theorem tand_red {Qb : Bool → Hp → Prop} (q : tT K EX W lk (testE c (.and a b)) σ H Qb) : tAnd (tT K EX W lk (testE c a)) (tT K EX W lk (testE c b)) σ H Qb := by
  have q2 := tT_bind (tT_eq q (funext fun env => test_and))
  refine tT_mono q2 fun t H1 q3 => ?_
  cases t with
  | true =>
    rw [if_pos rfl]
    exact q3
  | false =>
    rw [if_neg Bool.false_ne_true]
    exact tT_ok q3
theorem tor_red {Qb : Bool → Hp → Prop} (q : tT K EX W lk (testE c (.or a b)) σ H Qb) : tOr (tT K EX W lk (testE c a)) (tT K EX W lk (testE c b)) σ H Qb := by
  have q2 := tT_bind (tT_eq q (funext fun env => test_or))
  refine tT_mono q2 fun t H1 q3 => ?_
  cases t with
  | true =>
    rw [if_pos rfl]
    exact tT_ok q3
  | false =>
    rw [if_neg Bool.false_ne_true]
    exact q3
theorem goodT_and (ha : GoodT T G K EX c a) (hb : GoodT T G K EX c b) : GoodT T G K EX c (.and a b) := by
  intro S X W e O tk h
  simp only [chkE] at h
  split at h
  · simp only [Bool.and_eq_true] at h
    exact PT.imp (pw_and (ha S X W _ O tk h.1) (pw_and1 (hb S X W _ O tk h.2))).pt fun σ H Q q => tand_red q
  · simp only [Bool.and_eq_true] at h
    exact PT.imp (pw_and (ha S X W _ O tk h.1) (pw_of (hb S X W _ O tk h.2))).pt fun σ H Q q => tand_red q
  · cases h
theorem goodT_or (ha : GoodT T G K EX c a) (hb : GoodT T G K EX c b) : GoodT T G K EX c (.or a b) := by
  intro S X W e O tk h
  simp only [chkE] at h
  split at h
  · simp only [Bool.and_eq_true] at h
    exact PT.imp (pw_or (ha S X W _ O tk h.1) (pw_or1 (hb S X W _ O tk h.2))).pt fun σ H Q q => tor_red q
  · simp only [Bool.and_eq_true] at h
    exact PT.imp (pw_or (ha S X W _ O tk h.1) (pw_of (hb S X W _ O tk h.2))).pt fun σ H Q q => tor_red q
  · cases h
theorem goodT_cmp {o : CmpOp} (ha : GoodE T G K EX c a) (hb : GoodE T G K EX c b) : GoodT T G K EX c (.cmp o a b) := by
  intro S X W e O tk h
  simp only [chkE] at h
  split at h
  · simp only [Bool.and_eq_true, decide_eq_true_eq] at h
    obtain ⟨h1, h2, h3⟩ := h
    subst h1
    obtain ⟨k, hr⟩ := O.room
    exact PT.imp (pt_cmpR (op_cmp hr o) (ha S X W _ O tk h2) (hb S X W _ O tk h3) (mark_of (chk_form h3).2.1 _)) fun σ H Q q => by rw [O.kk]; exact cmp_red (test_of q)
  · cases h
theorem goodT_chn {o p : CmpOp} (ha : GoodE T G K EX c a) (hb : GoodE T G K EX c b) (hd : GoodE T G K EX c d) : GoodT T G K EX c (.chn o p a b d) := by
  intro S X W e O tk h
  simp only [chkE] at h
  split at h
  · simp only [Bool.and_eq_true, decide_eq_true_eq] at h
    obtain ⟨h1, h2, h3, h4, h5⟩ := h
    subst h1 h2
    obtain ⟨k, hr⟩ := O.room
    exact PT.imp (pt_chain (op_cmp hr o) (op_cmp hr p) (ha S X W _ O tk h3) (hb S X W _ O tk h4) (hd S X W _ O tk h5) (marks_of (chk_form h5).2.1 _ _)) fun σ H Q q => by rw [O.kk]; exact chn_red (test_of q)
  · cases h
theorem pt_if {X : Cx} {t x y : Expr} {p : Pos} {tc ta tb : TT} (ht : PT X t tc) (ha : PT X x ta) (hb : PT X y tb) : PT X (.IfExp t x y p) (fun σ H Q => tc σ H fun k H1 => if k = true then ta σ H1 Q else tb σ H1 Q) := by
  refine ⟨fun pins s σ H Q I h => ?_⟩
  show wpAny _ _ (isTrue t X.env (eval t X.env) >>= fun k => if k = true then isTrue x X.env (eval x X.env) else isTrue y X.env (eval y X.env)) _ _ s
  refine wpAny_bind (thn (ht.run pins s σ H _ I h) fun k s1 ⟨H1, I1, q1⟩ => ?_)
  cases k with
  | true =>
    rw [if_pos rfl] at q1 ⊢
    exact ha.run pins s1 σ H1 Q I1 q1
  | false =>
    rw [if_neg Bool.false_ne_true] at q1 ⊢
    exact hb.run pins s1 σ H1 Q I1 q1
theorem goodT_ite {t : ME} (ht : GoodT T G K EX c t) (ha : GoodT T G K EX c a) (hb : GoodT T G K EX c b) : GoodT T G K EX c (.ite t a b) := by
  intro S X W e O tk h
  cases e with
  | IfExp x y z pos =>
    simp only [chkE, Bool.and_eq_true] at h
    refine PT.imp (pt_if (ht S X W x O tk h.1) (ha S X W y O tk h.2.1) (hb S X W z O tk h.2.2)) fun σ H Q q => ?_
    have q2 := tT_bind (tT_eq q (funext fun env => test_ite))
    refine tT_mono q2 fun t H1 q3 => ?_
    cases t with
    | true =>
      rw [if_pos rfl]
      exact q3
    | false =>
      rw [if_neg Bool.false_ne_true]
      exact q3
  | _ => simp only [chkE] at h; cases h
/-- a test, then a value -/
theorem tT_then {f : Env → R (Bool × Env)} {P : L2.St → Hp → Hp → Hp → Env → α → V → Prop} (o : Old P) {k : Bool × Env → R (α × Env)} (h : tR K EX W lk P (fun env => f env >>= k) σ H Q) : tT K EX W lk f σ H fun t H1 => tR K EX W lk P (fun env => k (t, env)) σ H1 Q := by
  obtain ⟨I, env, e, q⟩ := h
  refine ⟨I, env, e, ?_⟩
  cases z : f env with
  | ok p =>
    obtain ⟨t, env1⟩ := p
    simp only [z, ok_bind] at q
    exact fun H1 I1 e1 s1 => ⟨I1, env1, e1, tAt.later o s1 q⟩
  | exn n fs =>
    simp only [z, exn_bind] at q
    exact q
  | stk => simp only [z, stk_bind] at q; exact q.elim
theorem eval_ite {t : ME} {env : Env} : evalE c (.ite t a b) env = testE c t env >>= fun p => match p.1 with
    | true => evalE c a p.2
    | false => evalE c b p.2 := by
  unfold testE
  simp only [evalE]
  cases evalE c t env with
  | ok p =>
    obtain ⟨r, env1⟩ := p
    simp only [ok_bind]
    cases r.see env1 with
    | ok x =>
      simp only [ok_bind]
      cases bool1 x with
      | ok k => cases k <;> rfl
      | exn k fs => rfl
      | stk => rfl
    | exn k fs => rfl
    | stk => rfl
  | exn k fs => rfl
  | stk => rfl
theorem good_ite {t : ME} (ht : GoodT T G K EX c t) (ha : GoodE T G K EX c a) (hb : GoodE T G K EX c b) : GoodE T G K EX c (.ite t a b) := by
  intro S X W e O tk h
  cases e with
  | IfExp x y z pos =>
    simp only [chkE, Bool.and_eq_true] at h
    refine PE.imp (pe_ifExp (ht S X W x O tk h.1) (ha S X W y O tk h.2.1) (hb S X W z O tk h.2.2)) fun σ H Q q => ?_
    have e1 : evalE c (.ite t a b) = fun env => testE c t env >>= fun p => match p.1 with
      | true => evalE c a p.2
      | false => evalE c b p.2 := funext fun env => eval_ite
    rw [e1] at q
    refine tT_mono (tT_then old_arg q) fun k H1 q3 => ?_
    cases k with
    | true =>
      rw [if_pos rfl]
      exact q3
    | false =>
      rw [if_neg Bool.false_ne_true]
      exact q3
  | _ => simp only [chkE] at h; cases h
end
end Mi

set_option Elab.async false
set_option linter.all false
set_option maxRecDepth 100000
set_option maxHeartbeats 1000000
/-! Mi, part I: argument lists, displays, calls. -/
namespace Mi
open L2 PySem PySem.Spec PyProof.Rows
section
variable (T : Tab) (G : Glo) (K : PySem.W.Frag) (EX : EXT) (c : Cl)
/-- arguments as they come: values and slots -/
inductive ArgsOk (K : PySem.W.Frag) (σ : L2.St) (I : Hp) : List Arg → List V → Prop
  | nil : ArgsOk K σ I [] []
  | val {d : PyData} {x : V} {rs : List Arg} {xs : List V} : Rep K I d x → ArgsOk K σ I rs xs → ArgsOk K σ I (.val d :: rs) (x :: xs)
  | slot {i : Nat} {x : V} {rs : List Arg} {xs : List V} : σ[i]? = some (some x) → ArgsOk K σ I rs xs → ArgsOk K σ I (.slot i :: rs) (x :: xs)
def PArgs (σ : L2.St) (_ _ I' : Hp) (_ : Env) (rs : List Arg) (xs : List V) : Prop := ArgsOk K σ I' rs xs
def PVals (_ : L2.St) (_ _ I' : Hp) (_ : Env) (ds : List PyData) (xs : List V) : Prop := RepL K I' ds xs
def GoodA (m : MA) : Prop := ∀ (S : Sc) (X : Cx) (W : WX) (es : List Expr), OkX T G K EX c S X → Takes X W → chkA T G S m es = true → PA X es (tR K EX W S.lk (PArgs K) (evalA c m))
def GoodF (m : MA) : Prop := ∀ (S : Sc) (X : Cx) (W : WX) (es : List Expr), OkX T G K EX c S X → Takes X W → chkA T G S m es = true → PA X es (tR K EX W S.lk (PVals K) (evalF c m))
end
section
variable {T : Tab} {G : Glo} {K : PySem.W.Frag} {EX : EXT} {c : Cl} {W : WX} {lk : Option Nat} {σ : L2.St} {H H' I I' : Hp} {env env' : Env} {Q : V → Hp → Prop} {a b d : ME} {α ω : Type}
theorem ArgsOk.le (h : Le I I') : ∀ {rs : List Arg} {xs : List V}, ArgsOk K σ I rs xs → ArgsOk K σ I' rs xs
  | _, _, .nil => .nil
  | _, _, .val r s => .val (r.le h) (ArgsOk.le h s)
  | _, _, .slot r s => .slot r (ArgsOk.le h s)
theorem old_args : Old (PArgs K) := fun _ _ _ _ _ _ _ _ _ p => p
theorem old_vals : Old (PVals K) := fun _ _ _ _ _ _ _ _ _ p => p
theorem settle_nx (r : Arg) : Nx r.settle := by cases r <;> first | exact nx_ok | exact nx_stk
theorem settle_frz {r r' : Arg} (h : r.settle = .ok r') : (∃ d, r' = .val d ∧ r.frz env = .ok (d, env)) ∨ (∃ i, r = .slot i ∧ r' = .slot i) := by
  cases r with
  | val d =>
    cases h
    exact .inl ⟨d, rfl, rfl⟩
  | lst ds =>
    cases h
    exact .inl ⟨_, rfl, rfl⟩
  | dct kvs => cases h
  | slot i =>
    cases h
    exact .inr ⟨i, rfl, rfl⟩
/-- the first of two, the second's wish still told from the beginning -/
theorem tAt.bind0 {β ψ : Type} {P1 : L2.St → Hp → Hp → Hp → Env → α → ψ → Prop} {P2 : L2.St → Hp → Hp → Hp → Env → β → ω → Prop} {Qw : ω → Hp → Prop} {f : R (α × Env)} {k : α × Env → R (β × Env)} (h : tAt K EX W lk P2 (f >>= k) σ H I env Qw) :
    tAt K EX W lk P1 f σ H I env fun x H1 => ∃ a env1 I1, EnvOk K σ H1 I1 env1 ∧ SStep lk σ H I env σ H1 I1 env1 ∧ P1 σ H H1 I1 env1 a x ∧ tAt K EX W lk P2 (k (a, env1)) σ H I env Qw := by
  cases f with
  | ok p => exact fun x H1 I1 e1 s1 p1 => ⟨p.1, p.2, I1, e1, s1, p1, h⟩
  | exn n fs => exact h
  | stk => exact h
/-- what an expression gives, given away -/
theorem frz_tR {P : L2.St → Hp → Hp → Hp → Env → α → ω → Prop} {Qw : ω → Hp → Prop} (o : Old P) {k : PyData × Env → R (α × Env)} {m : ME} (h : tR K EX W lk P (fun env => frzR (evalE c m env) >>= k) σ H Qw) :
    tR K EX W lk (PArg K) (evalE c m) σ H fun x H1 => ∃ d I1 env1, EnvOk K σ H1 I1 env1 ∧ Rep K I1 d x ∧ tAt K EX W lk P (k (d, env1)) σ H1 I1 env1 Qw := by
  obtain ⟨I, env, e, h⟩ := h
  have h1 : tAt K EX W lk P (evalE c m env >>= fun p => p.1.frz p.2 >>= k) σ H I env Qw := by
    have h0 : tAt K EX W lk P ((evalE c m env >>= fun p => p.1.frz p.2) >>= k) σ H I env Qw := h
    rw [r_assoc] at h0
    exact h0
  refine ⟨I, env, e, tAt.mono (tAt.bind0 (P1 := PArg K) h1) fun x H1 ⟨r, env1, I1, e1, s1, p1, q⟩ => ?_⟩
  obtain ⟨p, hp, q⟩ := tAt.calc (frz_nx r env1) q
  obtain ⟨d, env2⟩ := p
  obtain ⟨I2, e2, rp, s2⟩ := frz_step e1 s1 p1.1 p1.2 hp
  exact ⟨d, I2, env2, e2, rp, tAt.later o s2 q⟩
theorem good_nilA : GoodA T G K EX c .nil := by
  intro S X W es O tk h
  simp only [chkA, List.isEmpty_iff] at h
  subst h
  exact PA.imp pa_nil fun σ H Q q => by
    obtain ⟨I, env, e, q⟩ := q
    exact q [] H I e .refl .nil
theorem good_consA {m : ME} {r : MA} (hm : GoodE T G K EX c m) (hr : GoodA T G K EX c r) : GoodA T G K EX c (.cons m r) := by
  intro S X W es O tk h
  cases es with
  | nil => simp only [chkA] at h; cases h
  | cons e es =>
    simp only [chkA, Bool.and_eq_true] at h
    refine PA.imp (pa_cons (hm S X W e O tk h.1) (hr S X W es O tk h.2) (star_of (chk_form h.1).1 _ _)) fun σ H Q q => ?_
    obtain ⟨I, env, e, q⟩ := q
    simp only [evalA] at q
    refine ⟨I, env, e, tAt.mono (tAt.bind0 (P1 := PArg K) q) fun x H1 ⟨r, env1, I1, e1, s1, p1, q⟩ => ?_⟩
    obtain ⟨r', hr', q⟩ := tAt.calc (settle_nx r) q
    have fin : ∀ I2, EnvOk K σ H1 I2 env1 → SStep S.lk σ H I env σ H1 I2 env1 → (∀ J rs xs, Le I2 J → ArgsOk K σ J rs xs → ArgsOk K σ J (r' :: rs) (x :: xs)) → ∃ I env, EnvOk K σ H1 I env ∧ tAt K EX W S.lk (PArgs K) (evalA c _ env) σ H1 I env fun xs H2 => Q (x :: xs) H2 := fun I2 e2 s2 hc => by
      refine ⟨I2, env1, e2, tAt.mono (tAt.bind (P1 := PArgs K) old_args (tAt.later old_args s2 q)) fun xs H2 ⟨rs, env2, I3, e3, s3, p3, q3⟩ => ?_⟩
      exact q3 _ H2 I3 e3 .refl (hc I3 rs xs s3.ile p3)
    rcases settle_frz (env := env1) hr' with ⟨d, rfl, hf⟩ | ⟨i, rfl, rfl⟩
    · obtain ⟨I2, e2, rp, s2⟩ := frz_step e1 s1 p1.1 p1.2 hf
      exact fin I2 e2 s2 fun J rs xs l h => .val (rp.le l) h
    · exact fin I1 e1 s1 fun J rs xs l h => .slot p1.1 h
theorem good_nilF : GoodF T G K EX c .nil := by
  intro S X W es O tk h
  simp only [chkA, List.isEmpty_iff] at h
  subst h
  exact PA.imp pa_nil fun σ H Q q => by
    obtain ⟨I, env, e, q⟩ := q
    exact q [] H I e .refl .nil
theorem good_consF {m : ME} {r : MA} (hm : GoodE T G K EX c m) (hr : GoodF T G K EX c r) : GoodF T G K EX c (.cons m r) := by
  intro S X W es O tk h
  cases es with
  | nil => simp only [chkA] at h; cases h
  | cons e es =>
    simp only [chkA, Bool.and_eq_true] at h
    refine PA.imp (pa_cons (hm S X W e O tk h.1) (hr S X W es O tk h.2) (star_of (chk_form h.1).1 _ _)) fun σ H Q q => ?_
    have q := frz_tR (P := PVals K) old_vals (k := fun p => evalF c r p.2 >>= fun p2 => pure (p.1 :: p2.1, p2.2)) (by unfold tR at q ⊢; simp only [evalF] at q; exact q)
    obtain ⟨I, env, e, q⟩ := q
    refine ⟨I, env, e, tAt.mono q fun x H1 q1 => ?_⟩
    obtain ⟨d, I1, env1, e1, rp, q1⟩ := q1
    refine ⟨I1, env1, e1, tAt.mono (tAt.bind (P1 := PVals K) old_vals q1) fun xs H2 ⟨ds, env2, I2, e2, s2, p2, q2⟩ => ?_⟩
    exact q2 _ H2 I2 e2 .refl (.cons (rp.le s2.ile) p2)
/-! ### displays -/
theorem evalF_len : ∀ {as : MA} {env : Env} {ds : List PyData} {env' : Env} {S : Sc} {es : List Expr}, chkA T G S as es = true → evalF c as env = .ok (ds, env') → ds.length = es.length
  | .nil, env, ds, env', S, es, h, q => by
    simp only [chkA, List.isEmpty_iff] at h
    simp only [evalF] at q
    cases q
    subst h
    rfl
  | .cons a r, env, ds, env', S, [], h, q => by
    simp only [chkA] at h
    cases h
  | .cons a r, env, ds, env', S, e :: es, h, q => by
    simp only [chkA, Bool.and_eq_true] at h
    simp only [evalF] at q
    obtain ⟨p, _, q⟩ := bind_ok q
    obtain ⟨p2, h2, q⟩ := bind_ok q
    cases q
    show (p2.1.length + 1) = es.length + 1
    rw [evalF_len h.2 h2]
theorem big1000 {n : Nat} (h : n ≤ 1000) : n ≤ big := Nat.le_trans h (by decide)
theorem good_tup {as : MA} (ha : GoodF T G K EX c as) : GoodE T G K EX c (.tup as) := by
  intro S X W e O tk h
  cases e with
  | Tuple es k pos =>
    simp only [chkE, Bool.and_eq_true, decide_eq_true_eq] at h
    refine PE.imp (pe_tup (ha S X W es O tk h.1)) fun σ H Q q => ?_
    obtain ⟨I, env, e, q⟩ := q
    simp only [evalE] at q
    refine ⟨I, env, e, ?_⟩
    cases z : evalF c as env with
    | ok p =>
      obtain ⟨ds, env1⟩ := p
      have z1 := evalF_len h.1 z
      rw [z] at q
      intro xs H1 I1 e1 s1 p1
      have q := tAt.later old_arg s1 q
      have l := p1.length
      have zb : ds.length ≤ big := big1000 (by omega)
      exact ⟨by rw [← big_eq]; omega, fun p n => give_tup e1 q zb p1 n⟩
    | exn k fs =>
      rw [z] at q
      exact q
    | stk =>
      rw [z] at q
      exact q
  | _ => simp only [chkE] at h; cases h
theorem good_lst {as : MA} (ha : GoodF T G K EX c as) : GoodE T G K EX c (.lst as) := by
  intro S X W e O tk h
  cases e with
  | List es pos =>
    simp only [chkE, Bool.and_eq_true, decide_eq_true_eq] at h
    refine PE.imp (pe_lst (ha S X W es O tk h.1)) fun σ H Q q => ?_
    obtain ⟨I, env, e, q⟩ := q
    simp only [evalE] at q
    refine ⟨I, env, e, ?_⟩
    cases z : evalF c as env with
    | ok p =>
      obtain ⟨ds, env1⟩ := p
      have z1 := evalF_len h.1 z
      rw [z] at q
      intro xs H1 I1 e1 s1 p1
      have q := tAt.later old_arg s1 q
      have l := p1.length
      have zb : ds.length ≤ big := big1000 (by omega)
      exact ⟨by rw [← big_eq]; omega, fun p n => give_lst e1 q zb p1 n⟩
    | exn k fs =>
      rw [z] at q
      exact q
    | stk =>
      rw [z] at q
      exact q
  | _ => simp only [chkE] at h; cases h

/-! ### calls of defs -/
/-- the callee runs -/
theorem run_g {X : Cx} {k : Nat} {f : Addr} {fd : FuncData} {ps : List Str} {sp : Sp} {pins : List (Addr × Obj)} {s : Shared} {us : List Value} {vs : List V} (F : FnG X.prog X.w X.K X.mg X.base k f fd ps sp) (hr : Room k X.A) (hg : X.A.guards = some []) (hb : L2.Binds X.K fd ps [])
    (tk : Takes X W) (J : Inv X pins σ H s) (r : Vals vs us) (h : sp vs H Q fun cls d H' => W cls d σ H') : wpAny (model X.prog X.w) X.A (call (.ref f) us) (EP X pins σ Q) X.xe s := by
  have hl : us.length = ps.length := by rw [← r.length]; exact F.len _ _ _ _ h
  have hb' := hb s us J.kIn (by rw [List.append_nil]; exact hl)
  rw [List.append_nil] at hb'
  refine wpAny_call (codeAny_mono (F.go X.A X.stack s H ⟨us, []⟩ us vs Q _ hr hg J.env0 hb' r h) fun res s' hq => ?_)
  cases res with
  | error e => exact tk e s' (XE.of_call J (fun _ _ _ z => z) hq)
  | ok fl =>
    cases fl with
    | ret u => exact J.after hq
    | next => exact False.elim hq
    | brk => exact False.elim hq
    | cont => exact False.elim hq
theorem pe_callG {X : Cx} {k : Nat} {f : Addr} {fd : FuncData} {ps : List Str} {sp : Sp} {x : Str} {e : Expr} {es : List Expr} {t : TA} {p pos : Pos} (F : FnG X.prog X.w X.K X.mg X.base k f fd ps sp) (hr : Room k X.A) (hgd : X.A.guards = some []) (hg : Gl X x) (hm : X.mg x = some (.ref f))
    (hk : PySem.W.keepIn X.K (.ref f) = true) (hb : L2.Binds X.K fd ps []) (tk : Takes X W) (ha : PA X (e :: es) t) (hdb : (x == ("__debug__" : Str)) = false) (h1 : isStar e = false) (h2 : (backTo pos (starEach es X.env)).any (·.1) = false) :
    PE X (.Call (.Name x p) (e :: es) [] pos) (fun σ H Q => t σ H fun vs H1 => sp vs H1 Q fun cls d H' => W cls d σ H') := by
  refine ⟨fun pins s σ H Q J h => ?_⟩
  refine wpAny_Call_Name_kw (ld_glob J hg hm ?_ hdb)
  exact PySem.W.callWith_K (h₀ := X.base) J.ok.mod.kin hk (thn (ha.run pos pins s σ H _ J h) fun us s1 ⟨vs, H1, J1, r, q⟩ => ⟨J1.kIn, run_g F hr hgd hb tk J1 r q⟩) (star_of h1 _ _) h2
theorem pe_callG0 {X : Cx} {k : Nat} {f : Addr} {fd : FuncData} {ps : List Str} {sp : Sp} {x : Str} {p pos : Pos} (F : FnG X.prog X.w X.K X.mg X.base k f fd ps sp) (hr : Room k X.A) (hgd : X.A.guards = some []) (hg : Gl X x) (hm : X.mg x = some (.ref f))
    (hk : PySem.W.keepIn X.K (.ref f) = true) (hb : L2.Binds X.K fd ps []) (tk : Takes X W) (hdb : (x == ("__debug__" : Str)) = false) :
    PE X (.Call (.Name x p) [] [] pos) (fun σ H Q => sp [] H Q fun cls d H' => W cls d σ H') := by
  refine ⟨fun pins s σ H Q J h => ?_⟩
  refine wpAny_Call_Name_kw (ld_glob J hg hm ?_ hdb)
  exact PySem.W.callWith_K0 J.kIn hk (run_g (us := []) F hr hgd hb tk J .nil h)

/-- all given away -/
theorem argsOf_nx : ∀ (rs : List Arg) (env : Env), Nx (argsOf rs env)
  | [], _ => nx_ok
  | r :: rs, env => nx_bind (frz_nx r env) fun p => nx_bind (argsOf_nx rs p.2) fun _ => nx_ok
theorem argsOf_ok : ∀ {rs : List Arg} {xs : List V} {I : Hp} {env : Env} {ds : List PyData} {env' : Env}, EnvOk K σ H I env → ArgsOk K σ I rs xs → argsOf rs env = .ok (ds, env') →
    ∃ I', EnvOk K σ H I' env' ∧ RepL K I' ds xs ∧ SStep lk σ H I env σ H I' env'
  | [], _, I, env, ds, env', e, .nil, h => by
    cases h
    exact ⟨I, e, .nil, .refl⟩
  | r :: rs, x :: xs, I, env, ds, env', e, p, h => by
    obtain ⟨⟨d, env1⟩, h1, h⟩ := bind_ok (show (r.frz env >>= fun p => argsOf rs p.2 >>= fun q => pure (p.1 :: q.1, q.2)) = _ from h)
    obtain ⟨⟨ds1, env2⟩, h2, h⟩ := bind_ok h
    cases h
    have pr : ArgOk K σ H I env r x ∧ ArgNew H r x ∧ ArgsOk K σ I rs xs := by
      cases p with
      | val a b => exact ⟨a, trivial, b⟩
      | slot a b => exact ⟨a, trivial, b⟩
    obtain ⟨I1, e1, rp, s1⟩ := frz_step (lk := lk) e .refl pr.1 pr.2.1 h1
    obtain ⟨I2, e2, rl, s2⟩ := argsOf_ok e1 (pr.2.2.le s1.ile) h2
    exact ⟨I2, e2, .cons (rp.le s2.ile) rl, s1.trans s2⟩
theorem inAll_vals (h : Le I H) : ∀ {ds : List PyData} {xs : List V}, RepL K I ds xs → InAll K H I (ds.map Slot.val) xs
  | _, _, .nil => .nil
  | _, _, .cons r s => .cons r (inAll_vals h s)
theorem no_own_vals : ∀ (ds : List PyData), ∀ s ∈ ds.map Slot.val, s.own = false := fun ds s hs => by
  obtain ⟨d, _, rfl⟩ := List.mem_map.mp hs
  rfl
theorem not_lent_vals {ds : List PyData} {xs : List V} {a : Addr} : ¬ Lent (ds.map Slot.val) xs a := by
  rintro ⟨s, r, w, h1, h2, _⟩
  have := no_own_vals ds s (by rw [h1]; exact List.mem_cons_self)
  rw [this] at h2
  cases h2
/-- a def without a lent argument -/
theorem call_plain {f : Nat} {rs : List Arg} {xs : List V} (hio : c.io f = false) (e : EnvOk K σ H I env) (p : ArgsOk K σ I rs xs) (q : tAt K EX W lk (PArg K) (callVals c f rs env) σ H I env Q) : spOf K EX c f xs H Q fun cls d H' => W cls d σ H' := by
  unfold callVals at q
  rw [if_neg (by rw [hio]; exact Bool.false_ne_true)] at q
  cases z : argsOf rs env with
  | exn k fs => exact absurd z (argsOf_nx rs env k fs)
  | stk =>
    rw [z] at q
    exact q.elim
  | ok pr =>
    obtain ⟨ds, env1⟩ := pr
    obtain ⟨I1, e1, rl, s1⟩ := argsOf_ok (lk := lk) e p z
    rw [z] at q
    have q := tAt.later old_arg s1 q
    refine ⟨I1, ds.map Slot.val, e1.le, inAll_vals e1.le rl, ?_, ?_, ?_⟩
    · rintro ⟨s, hs, ho⟩
      rw [no_own_vals ds s hs] at ho
      cases ho
    · intro h
      rw [hio] at h
      cases h
    · have keepE : ∀ {H2 : Hp} {a : Addr} {o : HO}, (∀ a o, H a = some o → ¬ Lent (ds.map Slot.val) xs a → H2 a = some o) → H a = some o → H2 a = some o := fun k h => k _ _ h not_lent_vals
      simp only [ok_bind] at q
      cases y : c.run f (ds.map Slot.val) with
      | exn k fs =>
        rw [y] at q
        exact fun C d H2 ex kp al => q C d H2 ex ⟨fun a o h _ => keepE kp h, al⟩
      | stk =>
        rw [y] at q
        exact q
      | ok pr2 =>
        obtain ⟨r, s⟩ := pr2
        rw [y] at q
        intro x H2 I2 l1 l2 kp nw al out _
        have kp' : ∀ a o, H a = some o → H2 a = some o := fun a o h => keepE kp h
        have fix : ∀ a, (∃ o, H a = some o) → I1 a = none → I2 a = none := fun a ⟨o, ho⟩ hi => by
          cases w : I2 a with
          | none => rfl
          | some u =>
            rcases nw a (by rw [w]; simp) with g | g | g
            · exact absurd hi g
            · rw [ho] at g
              cases g
            · exact absurd g not_lent_vals
        have e2 : EnvOk K σ H2 I2 env1 := by
          refine ⟨l2, e1.len, fun i d h => ?_, fun i es h => ?_, fun i kvs h => ?_, e1.sep⟩
          · obtain ⟨y, g1, g2⟩ := e1.val i d h
            exact ⟨y, g1, g2.le l1⟩
          · obtain ⟨a, vs, g1, g2, g3, g4, g5⟩ := e1.lst i es h
            exact ⟨a, vs, g1, kp' _ _ g2, fix a ⟨_, g2⟩ g3, g4, g5.le l1⟩
          · obtain ⟨a, g1, g2, g3⟩ := e1.dct i kvs h
            obtain ⟨u, hu⟩ := g3.some
            exact ⟨a, g1, fix a ⟨_, hu⟩ g2, by rw [kp' _ _ hu, ← hu]; exact g3.le l1⟩
        have s2 : SStep lk σ H I1 env1 σ H2 I2 env1 := ⟨l1, fun a o h _ => kp' a o h, fun a h => by
          rcases nw a h with g | g | g
          · exact .inl g
          · exact .inr (.inl g)
          · exact absurd g not_lent_vals, fun a h => .inl h, al, fun _ _ => rfl, rfl⟩
        refine q x H2 I2 e2 s2 ⟨?_, ?_⟩
        · cases r with
          | val d => exact out
          | lst es =>
            obtain ⟨a, vs, rfl, g1, g2, g3, g4, g5⟩ := out
            exact ⟨a, vs, rfl, g1, g2, g3, g4, no_own g5 e1⟩
          | dct kvs =>
            obtain ⟨a, rfl, g1, g2, g3⟩ := out
            exact ⟨a, rfl, g1, g2, no_own g3 e1⟩
          | slot i => exact out.elim
        · cases r with
          | val d => trivial
          | lst es =>
            obtain ⟨a, vs, rfl, g1, g2, g3, g4, g5⟩ := out
            exact fun b hb => by cases hb; exact g5
          | dct kvs =>
            obtain ⟨a, rfl, g1, g2, g3⟩ := out
            exact fun b hb => by cases hb; exact g3
          | slot i => trivial
/-- what the lent slot holds then -/
theorem in_own {s : Slot} {x : V} (h : InOk K H I s x) (o : s.own = true) : ∃ a u, x = .ref a ∧ H a = some u ∧ I a = none := by
  cases s with
  | lst ds =>
    obtain ⟨a, vs, rfl, g1, g2, _⟩ := h
    exact ⟨a, _, rfl, g1, g2⟩
  | dct kvs =>
    obtain ⟨a, rfl, g1, g2⟩ := h
    obtain ⟨u, hu⟩ := g1.some
    exact ⟨a, u, rfl, hu, g2⟩
  | val d => cases o
  | emp => cases o
theorem env_in {i : Nat} (e : EnvOk K σ H I env) (o : (Mi.get env i).own = true) : ∃ a, σ[i]? = some (some (V.ref a)) ∧ InOk K H I (Mi.get env i) (.ref a) := by
  cases q : Mi.get env i with
  | lst ds =>
    obtain ⟨a, vs, g1, g2, g3, g4, g5⟩ := e.lst i ds q
    exact ⟨a, g1, a, vs, rfl, g2, g3, g4, g5⟩
  | dct kvs =>
    obtain ⟨a, g1, g2, g3⟩ := e.dct i kvs q
    exact ⟨a, g1, a, rfl, g3, g2⟩
  | val d =>
    rw [q] at o
    cases o
  | emp =>
    rw [q] at o
    cases o
/-- a def with a lent argument -/
theorem call_lent {f : Nat} {rs : List Arg} {xs : List V} (hio : c.io f = true) (e : EnvOk K σ H I env) (p : ArgsOk K σ I rs xs) (q : tAt K EX W lk (PArg K) (callVals c f rs env) σ H I env Q) : spOf K EX c f xs H Q fun cls d H' => W cls d σ H' := by
  unfold callVals at q
  rw [if_pos hio] at q
  cases p with
  | nil => exact q.elim
  | val a b => exact q.elim
  | @slot i x rs xs hx p =>
    simp only [] at q
    cases z : argsOf rs env with
    | exn k fs => exact absurd z (argsOf_nx rs env k fs)
    | stk =>
      rw [z] at q
      exact q.elim
    | ok pr =>
      obtain ⟨ds, env1⟩ := pr
      obtain ⟨I1, e1, rl, s1⟩ := argsOf_ok (lk := lk) e p z
      rw [z] at q
      simp only [ok_bind] at q
      split at q
      · rename_i ow
        have q := tAt.later old_arg s1 q
        obtain ⟨a, ha, hin⟩ := env_in e1 ow
        have hxa : x = V.ref a := by
          rw [hx] at ha
          cases ha
          rfl
        subst hxa
        have hi : i < env1.length := get_lt env1 i (by
          intro w
          rw [w] at ow
          cases ow)
        have lent_iff : ∀ b, Lent (Mi.get env1 i :: ds.map Slot.val) (V.ref a :: xs) b → b = a := fun b hb => by
          obtain ⟨s, r, w, h1, h2, h3⟩ := hb
          cases h3
          rfl
        have lent_a : Lent (Mi.get env1 i :: ds.map Slot.val) (V.ref a :: xs) a := ⟨_, _, _, rfl, ow, rfl⟩
        have own_a : Owned σ env1 a := ⟨i, ow, ha⟩
        refine ⟨I1, Mi.get env1 i :: ds.map Slot.val, e1.le, .cons hin (inAll_vals e1.le rl), fun _ => ⟨hio, _, _, rfl, no_own_vals ds⟩, fun _ => ⟨_, _, rfl, ow⟩, ?_⟩
        cases y : c.run f (Mi.get env1 i :: ds.map Slot.val) with
        | exn k fs =>
          rw [y] at q
          exact fun C d H2 ex kp al => q C d H2 ex ⟨fun b o h n => kp b o h fun w => n (by rw [lent_iff b w]; exact own_a), al⟩
        | stk =>
          rw [y] at q
          exact q
        | ok pr2 =>
          obtain ⟨r, s⟩ := pr2
          rw [y] at q
          intro x H2 I2 l1 l2 kp nw al out hs
          have hs := hs a lent_a
          have kp' : ∀ b o, H b = some o → b ≠ a → H2 b = some o := fun b o h n => kp b o h fun w => n (lent_iff b w)
          have fix : ∀ b, (∃ o, H b = some o) → b ≠ a → I1 b = none → I2 b = none := fun b ⟨o, ho⟩ n hi => by
            cases w : I2 b with
            | none => rfl
            | some u =>
              rcases nw b (by rw [w]; simp) with g | g | g
              · exact absurd hi g
              · rw [ho] at g
                cases g
              · exact absurd (lent_iff b g) n
          have ne : ∀ j b, j ≠ i → (Mi.get env1 j).own = true → σ[j]? = some (some (V.ref b)) → b ≠ a := fun j b hj ho hb w => by
            subst w
            exact hj (e1.sep j i b ho ow hb ha)
          have gp : ∀ j, Mi.get (put env1 i s) j = if j = i then s else Mi.get env1 j := fun j => get_put env1 i j s hi
          have e2 : EnvOk K σ H2 I2 (put env1 i s) := by
            refine ⟨l2, (put_length _ _ _).trans e1.len, fun j d h => ?_, fun j es h => ?_, fun j kvs h => ?_, fun j k b h1 h2 h3 h4 => ?_⟩
            · rw [gp] at h
              by_cases hj : j = i
              · rw [if_pos hj] at h
                rw [h] at hs
                exact ⟨_, by rw [hj]; exact ha, hs⟩
              · rw [if_neg hj] at h
                obtain ⟨y, g1, g2⟩ := e1.val j d h
                exact ⟨y, g1, g2.le l1⟩
            · rw [gp] at h
              by_cases hj : j = i
              · rw [if_pos hj] at h
                rw [h] at hs
                obtain ⟨b, vs, g1, g2, g3, g4, g5⟩ := hs
                cases g1
                exact ⟨a, vs, by rw [hj]; exact ha, g2, g3, g4, g5⟩
              · rw [if_neg hj] at h
                obtain ⟨b, vs, g1, g2, g3, g4, g5⟩ := e1.lst j es h
                have nb := ne j b hj (by rw [h]; rfl) g1
                exact ⟨b, vs, g1, kp' _ _ g2 nb, fix b ⟨_, g2⟩ nb g3, g4, g5.le l1⟩
            · rw [gp] at h
              by_cases hj : j = i
              · rw [if_pos hj] at h
                rw [h] at hs
                obtain ⟨b, g1, g2, g3⟩ := hs
                cases g1
                exact ⟨a, by rw [hj]; exact ha, g3, g2⟩
              · rw [if_neg hj] at h
                obtain ⟨b, g1, g2, g3⟩ := e1.dct j kvs h
                have nb := ne j b hj (by rw [h]; rfl) g1
                obtain ⟨u, hu⟩ := g3.some
                exact ⟨b, g1, fix b ⟨_, hu⟩ nb g2, by rw [kp' _ _ hu nb, ← hu]; exact g3.le l1⟩
            · have old : ∀ j, (Mi.get (put env1 i s) j).own = true → σ[j]? = some (some (V.ref b)) → (Mi.get env1 j).own = true ∧ σ[j]? = some (some (V.ref b)) := fun j h h' => by
                rw [gp] at h
                by_cases hj : j = i
                · rw [hj]
                  rw [hj] at h'
                  exact ⟨ow, h'⟩
                · rw [if_neg hj] at h
                  exact ⟨h, h'⟩
              exact e1.sep j k b (old j h1 h3).1 (old k h2 h4).1 h3 h4
          have ownp : ∀ b, Owned σ (put env1 i s) b → Owned σ env1 b := fun b ⟨j, h1, h2⟩ => by
            rw [gp] at h1
            by_cases hj : j = i
            · rw [hj] at h2
              exact ⟨i, ow, h2⟩
            · rw [if_neg hj] at h1
              exact ⟨j, h1, h2⟩
          have s2 : SStep lk σ H I1 env1 σ H2 I2 (put env1 i s) := ⟨l1, fun b o h n => kp' b o h fun w => n (by rw [w]; exact own_a), fun b h => by
            rcases nw b h with g | g | g
            · exact .inl g
            · exact .inr (.inl g)
            · exact .inr (.inr (by rw [lent_iff b g]; exact own_a)), fun b h => .inl (ownp b h), al, fun _ _ => rfl, rfl⟩
          refine q x H2 I2 e2 s2 ⟨?_, ?_⟩
          · cases r with
            | val d => exact out
            | lst es =>
              obtain ⟨b, vs, rfl, g1, g2, g3, g4, g5⟩ := out
              exact ⟨b, vs, rfl, g1, g2, g3, g4, fun w => no_own g5 e1 (ownp b w)⟩
            | dct kvs =>
              obtain ⟨b, rfl, g1, g2, g3⟩ := out
              exact ⟨b, rfl, g1, g2, fun w => no_own g3 e1 (ownp b w)⟩
            | slot i => exact out.elim
          · cases r with
            | val d => trivial
            | lst es =>
              obtain ⟨b, vs, rfl, g1, g2, g3, g4, g5⟩ := out
              exact fun w hw => by cases hw; exact g5
            | dct kvs =>
              obtain ⟨b, rfl, g1, g2, g3⟩ := out
              exact fun w hw => by cases hw; exact g3
            | slot i => trivial
      · exact q.elim
theorem call_any {f : Nat} {rs : List Arg} {xs : List V} (e : EnvOk K σ H I env) (p : ArgsOk K σ I rs xs) (q : tAt K EX W lk (PArg K) (callVals c f rs env) σ H I env Q) : spOf K EX c f xs H Q fun cls d H' => W cls d σ H' := by
  cases hio : c.io f with
  | true => exact call_lent hio e p q
  | false => exact call_plain hio e p q
theorem good_call {f : Nat} {as : MA} (ha : GoodA T G K EX c as) : GoodE T G K EX c (.call f as) := by
  intro S X W e O tk h
  simp only [chkE] at h
  split at h
  · rename_i x p es pos
    simp only [Bool.and_eq_true] at h
    obtain ⟨h1, h2, h3, h4⟩ := h
    cases hT : T f with
    | none =>
      simp only [hT] at h3
      cases h3
    | some fd =>
      simp only [hT, decide_eq_true_eq] at h3
      obtain ⟨k, hr, fns⟩ := O.fns
      obtain ⟨a, fdat, ps, g1, g2, g3, g4⟩ := fns f fd hT
      rw [h3] at g1
      rw [← O.kk] at g2 g3 g4
      have gl : Gl X x := gl_ok (by rw [O.sc]; exact h1)
      cases es with
      | nil =>
        have has : as = .nil := by
          cases as with
          | nil => rfl
          | cons a r => simp only [chkA] at h4; cases h4
        subst has
        refine PE.imp (pe_callG0 g4 hr O.grd gl g1 g2 g3 tk (plain_ok h2).1) fun σ H Q q => ?_
        obtain ⟨I, env, e, q⟩ := q
        rw [O.kk]
        exact call_any e .nil q
      | cons e es =>
        have hs := h4
        cases as with
        | nil => simp only [chkA] at hs; cases hs
        | cons m r =>
          simp only [chkA, Bool.and_eq_true] at hs
          refine PE.imp (pe_callG g4 hr O.grd gl g1 g2 g3 tk (ha S X W (e :: es) O tk h4) (plain_ok h2).1 (chk_form hs.1).1 (stars_of X.env pos hs.2)) fun σ H Q q => ?_
          obtain ⟨I, env, e, q⟩ := q
          simp only [evalE] at q
          refine ⟨I, env, e, tAt.mono (tAt.bind (P1 := PArgs K) old_arg q) fun xs H1 ⟨rs, env1, I1, e1, s1, p1, q1⟩ => ?_⟩
          rw [O.kk]
          exact call_any e1 p1 q1
  · cases h
end
end Mi

set_option Elab.async false
set_option linter.all false
set_option maxRecDepth 100000
set_option maxHeartbeats 1000000
/-! Mi, part I2: sorted, sorted(set(..)) of ints, max. -/
namespace Mi
open L2 PySem PySem.Spec PyProof.Rows
/-! ### a new set of the ints of a list -/
abbrev freshS (w : World) : Obj := { cls := .type "set", dict := none, data := .set #[] 0 (.fresh 0 0 (!w.params.followText "set-order")) }
section
variable {P : Program} {w : World} {A : Around} {E : Value → Shared → Prop} {s : Shared}
theorem old_of_moved {S a : Addr} {h1 h2 : Heap} (hm : ∀ b o, b ∉ [S, a] → h1.get? b = some o → h2.get? b = some o) (ha : S < a) {b : Addr} {o : Obj} (hb : b < S) (e : h1.get? b = some o) : h2.get? b = some o := by
  refine hm b o ?_ e
  intro m
  rcases List.mem_cons.mp m with q | q
  · exact absurd q (Nat.ne_of_lt hb)
  · exact absurd (List.mem_singleton.mp q) (Nat.ne_of_lt (Nat.lt_trans hb ha))
set_option maxHeartbeats 3200000 in
theorem set_of_list {l : Addr} {its : Array Value} (ns : List Int) {Q : Value → Shared → Prop} (hh : A.handled = none) (hl : s.heap.IsList l its) (hi : IntsAre its.toList ns) (hb : ns.length + 1 < scanBound)
    (h : ∀ (h2 : Heap) (tk c : Nat), SetR w h2 s.heap.objs.size (fun j => decide (j ∈ ns)) c → (∀ b o, s.heap.get? b = some o → h2.get? b = some o) → Q (.ref s.heap.objs.size) { s with heap := h2, toks := tk }) :
    wpAny (model P w) A (call (.type "set") [.ref l]) Q E s := by
  have sizes : its.size = ns.length := by
    have q := IntsAre.length hi
    rwa [Array.length_toList] at q
  obtain ⟨_, _, hmro⟩ := F.called_set.mro
  have y1 := F.called_set.made
  have y2 := F.called_set.sub
  refine wpAny_call (codeAny_of_tree ?_)
  show wpAny _ _ (callAny (.type "set") _) _ _ _
  refine wpAny_pure ⟨Code.quiet_builtin _ (by decide +kernel), codeAny_builtin F.entry_type_call ?_⟩
  rw [Around.under_plain (weight_type_call_type "set" [.ref l] []) rfl]
  have y3 := F.called_set.notType
  have y4 := F.called_set.canCreate
  have y5 := F.typeCall_set_1 (.ref l)
  repeat (any_goals (first | assumption | wp_step))
  refine codeAny_mono (code_set_led1 (.ref l) (E := E) (Q₁ := fun obj z => obj = .ref s.heap.objs.size ∧ z = { s with heap := s.heap.push (freshS w) }) ⟨rfl, rfl⟩) fun r z hr => ?_
  cases r with
  | error e => exact hr
  | ok fl =>
    cases fl with
    | ret obj =>
      obtain ⟨rfl, rfl⟩ := hr
      have new : (s.heap.push (freshS w)).get? s.heap.objs.size = some (freshS w) := Heap.get?_push_size _ rfl
      have ty : Shared.TypeIs { s with heap := s.heap.push (freshS w) } (.ref s.heap.objs.size) "set" := ⟨_, new, rfl⟩
      have y6 := F.called_set.init.lookup
      have y7 := F.called_set.init.bind (.ref s.heap.objs.size)
      repeat (any_goals (first | assumption | wp_step))
      refine codeAny_mono (codeAny_call_builtin (R := wants (fun r z2 => r = .none ∧ ∃ h2 tk c, z2 = { s with heap := h2, toks := tk } ∧ SetR w h2 s.heap.objs.size (fun j => decide (j ∈ ns)) c ∧ (∀ b o, s.heap.get? b = some o → h2.get? b = some o)) E) F.called_set.init.plain F.entry_set_init (check_set_init_1 ty ?_)) fun r2 z2 hr2 => ?_
      · have y8 := F.sub_list_set
        have y9 := F.sub_list_frozenset
        have y10 : (Value.type "list" == Value.type "dict") = false := by decide
        have hl1 : (s.heap.push (freshS w)).IsList l its := hl.push _
        obtain ⟨o, ho, hc, n, hd⟩ := hl
        have hlS : l < s.heap.objs.size := Heap.lt_size ho
        obtain ⟨oc, od, oda, osl⟩ := o
        simp only at hc hd
        subst hc
        subst hd
        have ho1 : (s.heap.push (freshS w)).get? l = some { cls := .type "list", dict := od, data := .seq its n, slots := osl } := Heap.get?_push_of_some _ ho
        unfold Builtin.«set.__init__» noKeywords Builtin.Frozenset.updateFrom
        generalize it : pyIter = PI
        wp_walk
        subst it
        refine wpAny_pyIter_list hl1 ?_
        refine wpAny_bind (wpAny_runValue ?_)
        have nh : A.in1.in1.in1.handled = none := by simp [hh]
        have psz : (s.heap.push (freshS w)).objs.size = s.heap.objs.size + 1 := Heap.size_push ..
        have ne1 : l ≠ (s.heap.push (freshS w)).objs.size := by
          rw [psz]
          exact Nat.ne_of_lt (Nat.lt_succ_of_lt hlS)
        have ne2 : s.heap.objs.size ∉ [(s.heap.push (freshS w)).objs.size, l] := by
          rw [psz]
          intro m
          rcases List.mem_cons.mp m with q | q
          · exact absurd q (Nat.ne_of_lt (Nat.lt_succ_self _))
          · exact absurd (List.mem_singleton.mp q) (Nat.ne_of_gt hlS)
        have val : ∀ (i : Nat) (v : Value), its[i]? = some v → ∃ k t, ns[i]? = some k ∧ v = .int k t := fun i v hv => by
          have ii : i < ns.length := by
            rw [← sizes]
            exact (Array.getElem?_eq_some_iff.mp hv).1
          obtain ⟨t, e⟩ := IntsAre.int_at hi i v (by rw [Array.getElem?_toList]; exact hv)
          refine ⟨ns[i], t, List.getElem?_eq_getElem ii, ?_⟩
          rw [e, List.getD_eq_getElem?_getD, List.getElem?_eq_getElem ii] <;> rfl
        refine set_update_ints ((Walks.list nh _ l ne1 its).toS) s.heap.objs.size ne2 ns sizes hb val (its.size - 0) 0 _ (by omega) (Nat.zero_le _) ⟨⟨_, Heap.get?_push_size _ rfl, rfl, rfl⟩, (hl1.push _)⟩ ?start ?stop
        case start => exact ⟨0, Nat.le_refl 0, setR_new_at (Heap.get?_push_of_some _ new)⟩
        case stop =>
          intro s2 c2 hm _ hS
          obtain ⟨h2, g2, d2, tk2, os2⟩ := s2
          cases (show g2 = s.gens from hm.gens)
          cases (show d2 = s.drawn from hm.drawn)
          cases (show os2 = s.os from hm.os)
          show wpAny _ _ _ _ _ _
          refine wpAny_pure ?_
          show wpAny _ _ (ret Value.none) _ _ _
          refine wpAny_pure ⟨rfl, h2, tk2, c2, rfl, hS, fun b o e => ?_⟩
          exact old_of_moved hm.heap (by rw [psz]; exact Nat.lt_succ_self _) (Heap.lt_size e) (Heap.get?_push_of_some _ (Heap.get?_push_of_some _ e))
      · cases r2 with
        | error e => exact hr2
        | ok fl2 =>
          cases fl2 with
          | ret r =>
            obtain ⟨rfl, h2, tk2, c2, rfl, hS, kk⟩ := hr2
            repeat (any_goals (first | assumption | wp_step))
            exact h _ _ _ hS kk
          | _ => exact hr2.elim
    | _ => exact hr.elim
end
/-! ### ascending, each once -/
def insU (x : Int) : List Int → List Int
  | [] => [x]
  | y :: r => if x < y then x :: y :: r else if x = y then y :: r else y :: insU x r
def uniqI : List Int → List Int
  | [] => []
  | x :: r => insU x (uniqI r)
theorem insU_mem (x : Int) : ∀ (l : List Int) (k : Int), k ∈ insU x l ↔ k = x ∨ k ∈ l
  | [], k => by simp [insU]
  | y :: r, k => by
    unfold insU
    split
    · simp
    · split
      · rename_i h
        subst h
        simp
      · simp only [List.mem_cons, insU_mem x r k]
        constructor
        · rintro (h | h | h)
          · exact .inr (.inl h)
          · exact .inl h
          · exact .inr (.inr h)
        · rintro (h | h | h)
          · exact .inr (.inl h)
          · exact .inl h
          · exact .inr (.inr h)
theorem uniqI_mem : ∀ (l : List Int) (k : Int), k ∈ uniqI l ↔ k ∈ l
  | [], k => by simp [uniqI]
  | x :: r, k => by simp only [uniqI, insU_mem, uniqI_mem r k, List.mem_cons]
theorem insU_asc (x : Int) : ∀ (l : List Int), l.Pairwise (· < ·) → (insU x l).Pairwise (· < ·)
  | [], _ => by simp [insU]
  | y :: r, h => by
    have h1 := List.pairwise_cons.mp h
    unfold insU
    split
    · rename_i hx
      refine List.pairwise_cons.mpr ⟨fun z hz => ?_, h⟩
      rcases List.mem_cons.mp hz with q | q
      · omega
      · have := h1.1 z q
        omega
    · split
      · exact h
      · refine List.pairwise_cons.mpr ⟨fun z hz => ?_, insU_asc x r h1.2⟩
        rcases (insU_mem x r z).mp hz with q | q
        · omega
        · exact h1.1 z q
theorem uniqI_asc : ∀ (l : List Int), (uniqI l).Pairwise (· < ·)
  | [] => List.Pairwise.nil
  | x :: r => insU_asc x _ (uniqI_asc r)
/-- two ascending lists with the same members -/
theorem asc_same : ∀ (a b : List Int), a.Pairwise (· < ·) → b.Pairwise (· < ·) → (∀ k, k ∈ a ↔ k ∈ b) → a = b
  | [], [], _, _, _ => rfl
  | [], y :: r, _, _, h => absurd ((h y).mpr List.mem_cons_self) List.not_mem_nil
  | x :: r, [], _, _, h => absurd ((h x).mp List.mem_cons_self) List.not_mem_nil
  | x :: r, y :: t, ha, hb, h => by
    have h1 := List.pairwise_cons.mp ha
    have h2 := List.pairwise_cons.mp hb
    have e : x = y := by
      rcases List.mem_cons.mp ((h x).mp List.mem_cons_self) with q | q
      · exact q
      · rcases List.mem_cons.mp ((h y).mpr List.mem_cons_self) with q2 | q2
        · exact q2.symm
        · have := h2.1 x q
          have := h1.1 y q2
          omega
    subst e
    rw [asc_same r t h1.2 h2.2 fun k => ?_]
    constructor
    · intro hk
      rcases List.mem_cons.mp ((h k).mp (List.mem_cons_of_mem _ hk)) with q | q
      · have := h1.1 k hk
        omega
      · exact q
    · intro hk
      rcases List.mem_cons.mp ((h k).mpr (List.mem_cons_of_mem _ hk)) with q | q
      · have := h2.1 k hk
        omega
      · exact q
section
variable {X : Cx}
def rSetL (K : PySem.W.Frag) (w : World) : List V → Hp → VK → Prop := fun xs H Q => ∃ (l : Addr) (ns : List Int), xs = [.ref l] ∧ SqL K H l (ns.map V.int) ∧ ns.length ≤ 1000 ∧ ∀ p c, H p = none → c ≤ (uniqI ns).length → Q (.ref p) (upd H p (SetO w p (fun j => decide (j ∈ ns)) c))
theorem setR_card {w : World} {h : Heap} {a : Addr} {ns : List Int} {c : Nat} (R : SetR w h a (fun j => decide (j ∈ ns)) c) : c ≤ (uniqI ns).length := by
  obtain ⟨o, es, ep, t, _, _, _, _, nd, mem, _, _, sz, _⟩ := R
  rw [← sz]
  have e : es.size = (es.toList.map keyOf).length := by rw [List.length_map, Array.length_toList]
  rw [e]
  refine nd.length_le_of_subset fun k hk => ?_
  have := (mem k).mpr hk
  exact (uniqI_mem ns k).mpr (of_decide_eq_true this)
theorem cr_setL (hc : X.calm = true) : CallR X (.type "set") (rSetL X.K X.w) := by
  intro pins s σ H xs us Q I r h
  obtain ⟨l, ns, rfl, hs, z, q⟩ := h
  obtain ⟨its, rv, hl, _⟩ := I.list hs
  rw [Vals.ref1 r]
  refine set_of_list ns (I.ok.hd hc) hl.isList rv.ints (Nat.lt_of_le_of_lt (Nat.succ_le_succ z) (by decide)) fun h2 tk c R k => ?_
  exact ⟨.ref _, upd H s.heap.objs.size (SetO X.w s.heap.objs.size (fun j => decide (j ∈ ns)) c), I.laid (t' := tk) k (Nat.le_refl _) (setO_new R), rfl, q _ c (I.hok.fresh (Nat.le_refl _)) (setR_card R)⟩
end
end Mi

set_option Elab.async false
set_option linter.all false
set_option maxRecDepth 100000
set_option maxHeartbeats 1000000
/-! Mi, part J: built-ins, isinstance, a list that grows. -/
namespace Mi
open L2 PySem PySem.Spec PyProof.Rows
/-- all seen -/
inductive RepBs (K : PySem.W.Frag) (H I : Hp) : List PyData → List V → Prop
  | nil : RepBs K H I [] []
  | cons {d : PyData} {x : V} {ds : List PyData} {xs : List V} : RepB K H I d x → RepBs K H I ds xs → RepBs K H I (d :: ds) (x :: xs)
section
variable {T : Tab} {G : Glo} {K : PySem.W.Frag} {EX : EXT} {c : Cl} {W : WX} {lk : Option Nat} {σ : L2.St} {H H' I I' : Hp} {env env' : Env} {Q : V → Hp → Prop} {a b d : ME} {α ω : Type}
theorem seeAll_nx : ∀ (rs : List Arg) (env : Env), Nx (seeAll rs env)
  | [], _ => nx_ok
  | r :: rs, env => nx_bind (see_nx r env) fun _ => nx_bind (seeAll_nx rs env) fun _ => nx_ok
theorem seeAll_ok (e : EnvOk K σ H I env) : ∀ {rs : List Arg} {xs : List V} {ds : List PyData}, ArgsOk K σ I rs xs → seeAll rs env = .ok ds → RepBs K H I ds xs
  | [], _, _, .nil, h => by
    cases h
    exact .nil
  | r :: rs, x :: xs, ds, p, h => by
    obtain ⟨d, h1, h⟩ := bind_ok (show (r.see env >>= fun d => seeAll rs env >>= fun ds => pure (d :: ds)) = _ from h)
    obtain ⟨ds1, h2, h⟩ := bind_ok h
    cases h
    have pr : ArgOk K σ H I env r x ∧ ArgsOk K σ I rs xs := by
      cases p with
      | val a b => exact ⟨a, b⟩
      | slot a b => exact ⟨a, b⟩
    exact .cons (see_rep e pr.1 h1) (seeAll_ok e pr.2 h2)

/-- what a built-in asks and gives -/
def rBlt (K : PySem.W.Frag) : Blt → List V → Hp → VK → Prop
  | .len => fun xs H Q => ∃ p ys, xs = [.ref p] ∧ (SqL K H p ys ∨ SqT K H p ys) ∧ Q (.int ys.length) H
  | .abs => fun xs H Q => ∃ i, xs = [.int i] ∧ Q (.int (if i < 0 then -i else i)) H
  | .int => fun xs H Q => (∃ i, xs = [.int i] ∧ Q (.int i) H) ∨ ∃ k, xs = [.bl k] ∧ Q (.int (if k then 1 else 0)) H
  | .list => fun xs H Q => ∃ p ys, xs = [.ref p] ∧ (SqL K H p ys ∨ SqT K H p ys) ∧ ∀ l, H l = none → Q (.ref l) (upd H l (.lst ys))
  | .tuple => fun xs H Q => ∃ p ys, xs = [.ref p] ∧ ((SqL K H p ys ∧ ∀ l, H l = none → Q (.ref l) (upd H l (.tup ys))) ∨ (SqT K H p ys ∧ Q (.ref p) H))
  | .all => rAll K
  | .any => rAny K
  | .repr => fun xs H Q => ∃ x d, xs = [x] ∧ Dp K H x d ∧ d.plain = true ∧ d.showable = true ∧ d.depth ≤ 100 ∧ d.shown.length ≤ big ∧ Q (.str d.shown) H
  | .sum => rSum K
  | .max2 => fun xs H Q => ∃ i j, xs = [.int i, .int j] ∧ Q (.int (if j > i then j else i)) H
  | .min2 => fun xs H Q => ∃ i j, xs = [.int i, .int j] ∧ Q (.int (if j < i then j else i)) H
  | .bool => fun _ _ _ => False
mutual
theorem noDict_of_plain : ∀ {d : PyData}, d.plain = true → d.hasDict = false
  | .none, _ => rfl
  | .bool _, _ => rfl
  | .int _, _ => rfl
  | .str _, _ => rfl
  | .list ds, h => by
    simp only [PyData.plain] at h
    simp only [PyData.hasDict]
    exact noDicts_of_plain h
  | .tuple ds, h => by
    simp only [PyData.plain] at h
    simp only [PyData.hasDict]
    exact noDicts_of_plain h
  | .dict _, h => by
    simp only [PyData.plain] at h
    cases h
theorem noDicts_of_plain : ∀ {ds : List PyData}, PyData.plainAll ds = true → PyData.hasDictAll ds = false
  | [], _ => rfl
  | d :: ds, h => by
    simp only [PyData.plainAll, Bool.and_eq_true] at h
    simp only [PyData.hasDictAll, noDict_of_plain h.1, noDicts_of_plain h.2, Bool.or_self]
end
theorem call_repr {X : Cx} {k : Nat} (hr : Room k X.A) (hg : X.A.guards = some []) : CallR X (.builtin "repr") (rBlt X.K .repr) := by
  intro pins s σ H xs us Q J r h
  obtain ⟨x, d, rfl, hd, p1, p2, p3, p4, q⟩ := h
  obtain ⟨u, rfl, ru⟩ := vals1 r
  have hu := hr.un
  cases hd with
  | non =>
    cases ru
    exact PySem.P.repr_of_none ⟨.str _, H, J.tok _, ⟨_, rfl⟩, q⟩
  | bl b =>
    cases ru
    exact PySem.P.repr_of_bool ⟨.str _, H, J.tok _, ⟨_, rfl⟩, q⟩
  | int i =>
    obtain ⟨t, rfl⟩ := ru
    exact PySem.P.repr_of_int (by simpa [PyData.showable] using p2) ⟨.str _, H, J.tok _, ⟨_, rfl⟩, q⟩
  | str y =>
    obtain ⟨t, rfl⟩ := ru
    exact PySem.P.repr_of_str ⟨.str _, H, J.tok _, ⟨_, rfl⟩, q⟩ (hsz := by rw [← big_eq]; exact p4)
  | lst g1 g2 =>
    have hd : Dp X.K H (.ref _) (.list _) := .lst g1 g2
    cases ru
    obtain ⟨as, rd⟩ := Dp.reads J _ _ _ hd rfl
    refine repr_of_reads' rd p2 (fun z => by rw [noDict_of_plain p1] at z; cases z) hg (by omega) (fun b o z => z) (fun h' u tk hk => ?_) (by rw [← big_eq]; exact p4)
    exact ⟨.str _, H, J.kept (t' := tk) hk, ⟨u, rfl⟩, q⟩
  | tup g1 g2 =>
    have hd : Dp X.K H (.ref _) (.tuple _) := .tup g1 g2
    cases ru
    obtain ⟨as, rd⟩ := Dp.reads J _ _ _ hd rfl
    refine repr_of_reads' rd p2 (fun z => by rw [noDict_of_plain p1] at z; cases z) hg (by omega) (fun b o z => z) (fun h' u tk hk => ?_) (by rw [← big_eq]; exact p4)
    exact ⟨.str _, H, J.kept (t' := tk) hk, ⟨u, rfl⟩, q⟩
/-- the built-in by its value -/
def bltV : Blt → Value
  | .len => .builtin "len"
  | .abs => .builtin "abs"
  | .int => .type "int"
  | .list => .type "list"
  | .tuple => .type "tuple"
  | .all => .builtin "all"
  | .any => .builtin "any"
  | .repr => .builtin "repr"
  | .sum => .builtin "sum"
  | .max2 => .builtin "max"
  | .min2 => .builtin "min"
  | .bool => .type "bool"
theorem boot_blt (b : Blt) : bootBuiltins (bltN b : Str) = some (bltV b) := by cases b <;> decide +kernel
theorem call_blt {X : Cx} {k : Nat} (hr : Room k X.A) (hg : X.A.guards = some []) (hc : X.calm = true) (b : Blt) : CallR X (bltV b) (rBlt X.K b) := by
  cases b with
  | len => exact call_len_seq
  | abs => exact call_abs
  | int => exact call_int1
  | list => exact call_list_of
  | tuple => exact call_tuple_of
  | all => exact cr_all hc
  | any => exact cr_any hc
  | repr => exact call_repr hr hg
  | sum => exact cr_sum hc
  | max2 => exact call_max2 hc
  | min2 => exact call_min2 hc
  | bool => exact fun _ _ _ _ _ _ _ _ _ h => h.elim
theorem pe_blt {X : Cx} {k : Nat} {x : Str} {p pos : Pos} {e : Expr} {es : List Expr} {t : TA} (hr : Room k X.A) (hg : X.A.guards = some []) (hc : X.calm = true) (b : Blt) (hx : x = (bltN b : Str)) (gl : Gl X x) (hm : X.mg x = none) (hn : x ≠ "__name__") (hdb : (x == ("__debug__" : Str)) = false)
    (ha : PA X (e :: es) t) (h1 : isStar e = false) (h2 : (backTo pos (starEach es X.env)).any (·.1) = false) : PE X (.Call (.Name x p) (e :: es) [] pos) (tCB (rBlt X.K b) t) := by
  have hv := boot_blt b
  rw [← hx] at hv
  have hcall := call_blt hr hg hc b
  cases b <;> first
    | exact pe_callB hcall gl hm hv ha hn hdb (star_of h1 _ _) h2
    | exact pe_callTy hcall gl hm hv ha hn hdb (star_of h1 _ _) h2
theorem bltF_nx (b : Blt) (ds : List PyData) : Nx (bltF b ds) := by
  have bo : ∀ ds : List PyData, Nx (boolsOf ds) := fun ds => by
    induction ds with
    | nil => exact nx_ok
    | cons d r ih => cases d <;> first | exact nx_stk | exact nx_bind ih fun _ => nx_ok
  have io : ∀ ds : List PyData, Nx (intsOf ds) := fun ds => by
    induction ds with
    | nil => exact nx_ok
    | cons d r ih => cases d <;> first | exact nx_stk | exact nx_bind ih fun _ => nx_ok
  unfold bltF
  split <;> first | exact nx_ok | exact nx_stk | exact nx_ite nx_ok nx_stk | exact nx_bind (bo _) fun _ => nx_ok | exact nx_bind (io _) fun _ => nx_ok
theorem repBs1 {d : PyData} {xs : List V} (h : RepBs K H I [d] xs) : ∃ x, xs = [x] ∧ RepB K H I d x := by
  cases h with
  | cons a b =>
    cases b
    exact ⟨_, rfl, a⟩
theorem repBs2 {d d' : PyData} {xs : List V} (h : RepBs K H I [d, d'] xs) : ∃ x y, xs = [x, y] ∧ RepB K H I d x ∧ RepB K H I d' y := by
  cases h with
  | cons a b =>
    obtain ⟨y, rfl, b2⟩ := repBs1 b
    exact ⟨_, y, rfl, a, b2⟩
theorem bltF_ok {b : Blt} {ds : List PyData} {xs : List V} {r : Arg} (e : EnvOk K σ H I env) (p : RepBs K H I ds xs) (h : bltF b ds = .ok r) (q : tAt K EX W lk (PArg K) (.ok (r, env)) σ H I env Q) : rBlt K b xs H Q := by
  unfold bltF at h
  split at h
  · cases h
    obtain ⟨x, rfl, r1⟩ := repBs1 p
    obtain ⟨a, vs, rfl, g1, g2, g3⟩ := r1
    exact ⟨a, vs, rfl, .inl (SqL.of g1), by rw [← g3.length]; exact give e q (.int _)⟩
  · cases h
    obtain ⟨x, rfl, r1⟩ := repBs1 p
    obtain ⟨a, vs, rfl, g1, g2, g3⟩ := r1.tup e.le
    exact ⟨a, vs, rfl, .inr g1, by rw [← g3.length]; exact give e q (.int _)⟩
  · cases h
    obtain ⟨x, rfl, r1⟩ := repBs1 p
    exact ⟨_, by rw [r1.int], give e q (.int _)⟩
  · cases h
    obtain ⟨x, rfl, r1⟩ := repBs1 p
    exact .inl ⟨_, by rw [r1.int], give e q (.int _)⟩
  · cases h
    obtain ⟨x, rfl, r1⟩ := repBs1 p
    exact .inr ⟨_, by rw [r1.bl], give e q (.int _)⟩
  · cases h
    obtain ⟨x, rfl, r1⟩ := repBs1 p
    obtain ⟨a, vs, rfl, g1, g2, g3⟩ := r1
    exact ⟨a, vs, rfl, .inl (SqL.of g1), fun l n => give_lst e q g2 g3 n⟩
  · cases h
    obtain ⟨x, rfl, r1⟩ := repBs1 p
    obtain ⟨a, vs, rfl, g1, g2, g3⟩ := r1.tup e.le
    exact ⟨a, vs, rfl, .inr g1, fun l n => give_lst e q g2 g3 n⟩
  · rename_i ds
    cases h
    obtain ⟨x, rfl, r1⟩ := repBs1 p
    cases (show Rep K I (.dict [(.none, .list ds)]) x from r1) with
    | scr s z => exact ⟨_, _, rfl, .inl (sqL_le e.le s), fun l n => give_lst e q (by rw [List.length_map]; exact z) .ints n⟩
  · cases h
    obtain ⟨x, rfl, r1⟩ := repBs1 p
    obtain ⟨a, vs, rfl, g1, g2, g3⟩ := r1
    exact ⟨a, vs, rfl, .inl ⟨SqL.of g1, fun l n => give_tup e q g2 g3 n⟩⟩
  · cases h
    obtain ⟨x, rfl, r1⟩ := repBs1 p
    have r2 := r1
    obtain ⟨a, vs, rfl, g1, g2, g3⟩ := r1.tup e.le
    exact ⟨a, vs, rfl, .inr ⟨g1, give e q r2⟩⟩
  · obtain ⟨bs, hb, h⟩ := bind_ok h
    cases h
    obtain ⟨x, rfl, r1⟩ := repBs1 p
    obtain ⟨a, vs, rfl, g1, g2, g3⟩ := r1
    rw [boolsOf_ok hb] at g3
    rw [g3.of_bools] at g1
    exact ⟨a, bs, rfl, SqL.of g1, give e q (.bl _)⟩
  · obtain ⟨bs, hb, h⟩ := bind_ok h
    cases h
    obtain ⟨x, rfl, r1⟩ := repBs1 p
    obtain ⟨a, vs, rfl, g1, g2, g3⟩ := r1
    rw [boolsOf_ok hb] at g3
    rw [g3.of_bools] at g1
    exact ⟨a, bs, rfl, SqL.of g1, give e q (.bl _)⟩
  · split at h
    · rename_i z
      cases h
      unfold reprOk at z
      simp only [Bool.and_eq_true, decide_eq_true_eq] at z
      obtain ⟨x, rfl, r1⟩ := repBs1 p
      exact ⟨x, _, rfl, r1.dp e.le z.1, z.1, z.2.1, z.2.2.1, z.2.2.2, give e q (.str _)⟩
    · cases h
  · obtain ⟨ns, hb, h⟩ := bind_ok h
    cases h
    obtain ⟨x, rfl, r1⟩ := repBs1 p
    obtain ⟨a, vs, rfl, g1, g2, g3⟩ := r1
    rw [intsOf_ok hb] at g3
    rw [g3.of_ints] at g1
    exact ⟨a, ns, rfl, SqL.of g1, give e q (.int _)⟩
  · cases h
    obtain ⟨x, y, rfl, r1, r2⟩ := repBs2 p
    exact ⟨_, _, by rw [r1.int, r2.int], give e q (.int _)⟩
  · cases h
    obtain ⟨x, y, rfl, r1, r2⟩ := repBs2 p
    exact ⟨_, _, by rw [r1.int, r2.int], give e q (.int _)⟩
  · cases h
theorem good_blt {b : Blt} {as : MA} (ha : GoodA T G K EX c as) : GoodE T G K EX c (.blt b as) := by
  intro S X W e O tk h
  simp only [chkE] at h
  split at h
  · rename_i x p es pos
    simp only [Bool.and_eq_true, decide_eq_true_eq] at h
    obtain ⟨h1, h2, h3, h4⟩ := h
    obtain ⟨gl, hm, hdb, hn⟩ := free_ok O h2
    obtain ⟨k, hr⟩ := O.room
    cases es with
    | nil => cases h3
    | cons e es =>
      have hs := h4
      cases as with
      | nil => simp only [chkA] at hs; cases hs
      | cons m r =>
        simp only [chkA, Bool.and_eq_true] at hs
        refine PE.imp (pe_blt hr O.grd O.calm b h1 gl hm hn hdb (ha S X W (e :: es) O tk h4) (chk_form hs.1).1 (stars_of X.env pos hs.2)) fun σ H Q q => ?_
        obtain ⟨I, env, e, q⟩ := q
        simp only [evalE] at q
        refine ⟨I, env, e, tAt.mono (tAt.bind (P1 := PArgs K) old_arg q) fun xs H1 ⟨rs, env1, I1, e1, s1, p1, q1⟩ => ?_⟩
        obtain ⟨ds, hd, q1⟩ := tAt.calc (seeAll_nx rs env1) q1
        obtain ⟨rr, hrr, q1⟩ := tAt.calc (bltF_nx b ds) q1
        rw [O.kk]
        exact bltF_ok e1 (seeAll_ok e1 p1 hd) hrr q1
  · cases h

/-! ### isinstance -/
theorem kit_of_b {s t : String} {b : Bool} (h : PySem.W.kitOne ([] : PySem.W.Frag) (.type s) (.type t) = some b) : PySem.W.kitOne K (.type s) (.type t) = some b := h
theorem ty_of {d : PyData} {x : V} {t : Ty} {b : Bool} (l : Le I H) (r : RepB K H I d x) (h : isTy d t = .ok b) : ∃ w, TyX K H x w ∧ PySem.W.kitOne K w (.type (tyN t)) = some b := by
  cases d with
  | none =>
    rw [r.non]
    refine ⟨_, .base .non, ?_⟩
    cases t <;> (cases h; exact kit_of_b (by decide +kernel))
  | bool k =>
    rw [r.bl]
    refine ⟨_, .base (.bl k), ?_⟩
    cases t <;> (cases h; exact kit_of_b (by decide +kernel))
  | int k =>
    rw [r.int]
    refine ⟨_, .base (.int k), ?_⟩
    cases t <;> (cases h; exact kit_of_b (by decide +kernel))
  | str k =>
    rw [r.str]
    refine ⟨_, .base (.str k), ?_⟩
    cases t <;> (cases h; exact kit_of_b (by decide +kernel))
  | list ds =>
    obtain ⟨a, vs, rfl, g1, _⟩ := r
    refine ⟨_, .base (.lst g1), ?_⟩
    cases t <;> (cases h; exact kit_of_b (by decide +kernel))
  | tuple ds =>
    obtain ⟨a, vs, rfl, g1, _⟩ := r.tup l
    have z : PySem.W.kitOne K (.type "tuple") (.type (tyN t)) = some b := by cases t <;> (cases h; exact kit_of_b (by decide +kernel))
    rcases g1 with (g | ⟨o, g⟩) | ⟨o, its, n, g, gc, _⟩
    · exact ⟨_, .base (.tup g), z⟩
    · exact ⟨_, .fTuple g, z⟩
    · exact ⟨_, .kTuple g gc, z⟩
  | dict kvs => cases h
theorem isTy_nx (d : PyData) (t : Ty) : Nx (isTy d t) := by cases d <;> cases t <;> first | exact nx_ok | exact nx_stk
theorem boot_ty (t : Ty) : bootBuiltins (tyN t : Str) = some (.type (tyN t)) := by cases t <;> decide +kernel
theorem good_isi {t : Ty} (ha : GoodE T G K EX c a) : GoodE T G K EX c (.isi a t) := by
  intro S X W e O tk h
  simp only [chkE] at h
  split at h
  · rename_i x p y z p2 pos
    simp only [Bool.and_eq_true, decide_eq_true_eq] at h
    obtain ⟨h1, h2, h3, h4, h5⟩ := h
    obtain ⟨gl, hm, hdb, hn⟩ := free_ok O h2
    obtain ⟨gl2, hm2, hdb2, hn2⟩ := free_ok O h4
    subst h1
    have hv := boot_ty t
    rw [← h3] at hv
    refine PE.imp (pe_callB call_isi gl hm (by decide +kernel) (pa_cons (ha S X W y O tk h5) (pa_cons (pe_bltn (v := .ty (tyN t)) gl2 hm2 hv rfl hn2 hdb2) pa_nil (star_of rfl _ _)) (star_of (chk_form h5).1 _ _)) hn hdb (star_of (chk_form h5).1 _ _) rfl) fun σ H Q q => ?_
    obtain ⟨I, env, e, q⟩ := eval1 (c := c) (a := a) (F := fun x env => isTy x t >>= fun b => pure (.val (.bool b), env)) old_arg (by unfold tR at q ⊢; simp only [evalE] at q; exact q)
    refine ⟨I, env, e, tAt.mono q fun x H1 q1 => ?_⟩
    obtain ⟨d1, I1, env1, e1, r1, q1⟩ := q1
    obtain ⟨bb, hb, q1⟩ := tAt.calc (isTy_nx d1 t) q1
    obtain ⟨w, k1, k2⟩ := ty_of e1.le r1 hb
    rw [O.kk]
    exact ⟨x, .ty (tyN t), w, .type (tyN t), bb, rfl, .ty _, k1, k2, give e1 q1 (.bl _)⟩
  · cases h

/-! ### a list that a slot holds alone, changed -/
theorem upd_own {i : Nat} {p : Addr} {vs ws : List V} {ds es : List PyData} (e : EnvOk K σ H I env) (hi : Mi.get env i = .lst ds) (hp : σ[i]? = some (some (V.ref p))) (hH : H p = some (.lst vs)) (z : es.length ≤ big) (r : RepL K I es ws) :
    EnvOk K σ (upd H p (.lst ws)) I (put env i (.lst es)) ∧ SStep lk σ H I env σ (upd H p (.lst ws)) I (put env i (.lst es)) := by
  have own_i : (Mi.get env i).own = true := own_lst hi
  have il : i < env.length := get_lt env i (by rw [hi]; intro w; cases w)
  obtain ⟨p', vs', g1, g2, gI, g4, g5⟩ := e.lst i ds hi
  rw [hp] at g1
  cases g1
  have gp : ∀ j, Mi.get (put env i (.lst es)) j = if j = i then .lst es else Mi.get env j := fun j => get_put env i j _ il
  have ne : ∀ j b, j ≠ i → (Mi.get env j).own = true → σ[j]? = some (some (V.ref b)) → b ≠ p := fun j b hj ho hb w => by
    subst w
    exact hj (e.sep j i b ho own_i hb hp)
  have ownp : ∀ b, Owned σ (put env i (.lst es)) b → Owned σ env b := fun b ⟨j, h1, h2⟩ => by
    rw [gp] at h1
    by_cases hj : j = i
    · rw [hj] at h2
      exact ⟨i, own_i, h2⟩
    · rw [if_neg hj] at h1
      exact ⟨j, h1, h2⟩
  refine ⟨⟨fun b o q => ?_, (put_length _ _ _).trans e.len, fun j d q => ?_, fun j fs q => ?_, fun j kvs q => ?_, fun j k b h1 h2 h3 h4 => ?_⟩, ⟨Le.refl _, fun b o q n => ?_, fun b q => .inl q, fun b q => .inl (ownp b q), fun b q w => ?_, fun _ _ => rfl, rfl⟩⟩
  · rw [upd_ne (fun w => by rw [w, gI] at q; cases q)]
    exact e.le b o q
  · rw [gp] at q
    by_cases hj : j = i
    · rw [if_pos hj] at q
      cases q
    · rw [if_neg hj] at q
      exact e.val j d q
  · rw [gp] at q
    by_cases hj : j = i
    · rw [if_pos hj] at q
      cases q
      exact ⟨p, ws, by rw [hj]; exact hp, upd_same, gI, z, r⟩
    · rw [if_neg hj] at q
      obtain ⟨b, us, k1, k2, k3, k4, k5⟩ := e.lst j fs q
      exact ⟨b, us, k1, by rw [upd_ne (ne j b hj (own_lst q) k1)]; exact k2, k3, k4, k5⟩
  · rw [gp] at q
    by_cases hj : j = i
    · rw [if_pos hj] at q
      cases q
    · rw [if_neg hj] at q
      obtain ⟨b, k1, k2, k3⟩ := e.dct j kvs q
      exact ⟨b, k1, k2, by rw [upd_ne (ne j b hj (by rw [q]; rfl) k1)]; exact k3⟩
  · have old : ∀ j, (Mi.get (put env i (.lst es)) j).own = true → (Mi.get env j).own = true := fun j h => by
      rw [gp] at h
      by_cases hj : j = i
      · rw [hj]
        exact own_i
      · rw [if_neg hj] at h
        exact h
    exact e.sep j k b (old j h1) (old k h2) h3 h4
  · rw [upd_ne (fun w => n ⟨i, own_i, by rw [w]; exact hp⟩)]
    exact q
  · by_cases hb : b = p
    · rw [hb, upd_same] at w
      cases w
    · rw [upd_ne hb] at w
      exact q w
/-- the receiver of a changing method: a name of the frame -/
theorem pe_recv {S : Sc} {X : Cx} {i : Nat} {x : Str} {p : Pos} (O : OkX T G K EX c S X) (h1 : S.N[i]? = some x) (h2 : visB S.sc x = true) (h3 : plainB x = true) : PE X (.Name x p) (tVar i) :=
  pe_var (by rw [O.N]; exact h1) (by rw [O.sc]; exact vis_ok h2) (plain_ok h3).1 (plain_ok h3).2.1
theorem own_here {i : Nat} {ds : List PyData} (e : EnvOk K σ H I env) (h : Mi.get env i = .lst ds) : ∃ p vs, σ[i]? = some (some (V.ref p)) ∧ H p = some (.lst vs) ∧ ds.length ≤ big ∧ RepL K I ds vs := by
  obtain ⟨p, vs, g1, g2, _, g4, g5⟩ := e.lst i ds h
  exact ⟨p, vs, g1, g2, g4, g5⟩
theorem good_app {i : Nat} (ha : GoodE T G K EX c a) : GoodE T G K EX c (.app i a) := by
  intro S X W e O tk h
  simp only [chkE] at h
  split at h
  · rename_i x p m ap y pos
    simp only [Bool.and_eq_true, decide_eq_true_eq] at h
    obtain ⟨h1, h2, h3, h4, h5, h6⟩ := h
    subst h1
    refine PE.imp (pe_bm PySem.F.plainAttrs_list PySem.F.slot_list_append PySem.F.type_list_append mt_append (pe_recv O h2 h3 h4) (pa_cons (ha S X W y O tk h6) pa_nil (star_of (chk_form h6).1 _ _)) rfl (by rw [star_of (chk_form h6).1]; rfl) h5 (star_of (chk_form h6).1 _ _) rfl) fun σ H Q q => ?_
    obtain ⟨I, env, e, q⟩ := q
    simp only [evalE] at q
    cases z : Mi.get env i with
    | lst ds =>
      simp only [z] at q
      obtain ⟨p0, vs0, g1, g2, g4, g5⟩ := own_here e z
      refine ⟨.ref p0, g1, .inl ⟨rfl, vs0, SqL.of g2⟩, ?_⟩
      have q := frz_tR (c := c) (m := a) (P := PArg K) old_arg (k := fun p => match Mi.get p.2 i with
        | .lst ds => if ds.length < big then pure (.val .none, put p.2 i (.lst (ds ++ [p.1]))) else .stk
        | _ => .stk) ⟨I, env, e, q⟩
      obtain ⟨I, env, e, q⟩ := q
      refine ⟨I, env, e, tAt.mono q fun x H1 q1 => ?_⟩
      obtain ⟨d, I1, env1, e1, rp, q1⟩ := q1
      simp only [] at q1
      cases z1 : Mi.get env1 i with
      | lst es =>
        simp only [z1] at q1
        split at q1
        · rename_i sz
          obtain ⟨p1, vs1, k1, k2, k4, k5⟩ := own_here e1 z1
          rw [g1] at k1
          cases k1
          have zb : (es ++ [d]).length ≤ big := by rw [List.length_append]; exact sz
          obtain ⟨e2, s2⟩ := upd_own (lk := S.lk) e1 z1 g1 k2 zb (k5.append (.cons rp .nil))
          exact ⟨p0, vs1, x, rfl, rfl, k2, by rw [← big_eq, ← k5.length]; exact sz, q1 _ _ I1 e2 s2 ⟨.non, trivial⟩⟩
        · exact q1.elim
      | val d => simp only [z1] at q1; exact q1.elim
      | dct d => simp only [z1] at q1; exact q1.elim
      | emp => simp only [z1] at q1; exact q1.elim
    | val d => simp only [z] at q; exact q.elim
    | dct d => simp only [z] at q; exact q.elim
    | emp => simp only [z] at q; exact q.elim
  · cases h
theorem good_pop {i : Nat} : GoodE T G K EX c (.pop i) := by
  intro S X W e O tk h
  simp only [chkE] at h
  split at h
  · rename_i x p m ap pos
    simp only [Bool.and_eq_true, decide_eq_true_eq] at h
    obtain ⟨h1, h2, h3, h4, h5⟩ := h
    subst h1
    refine PE.imp (pe_bm0 PySem.F.plainAttrs_list PySem.F.slot_list_pop PySem.F.type_list_pop mt_pop (pe_recv O h2 h3 h4) rfl h5) fun σ H Q q => ?_
    obtain ⟨I, env, e, q⟩ := q
    simp only [evalE] at q
    cases z : Mi.get env i with
    | lst ds =>
      simp only [z] at q
      obtain ⟨p0, vs0, g1, g2, g4, g5⟩ := own_here e z
      refine ⟨.ref p0, g1, .inl ⟨rfl, vs0, SqL.of g2⟩, ?_⟩
      cases y : ds[ds.length - 1]? with
      | none => simp only [y] at q; exact q.elim
      | some d =>
        simp only [y] at q
        obtain ⟨v, k1, k2⟩ := g5.get y
        rw [g5.length] at k1
        have zb : ds.dropLast.length ≤ big := by rw [List.length_dropLast]; omega
        obtain ⟨e2, s2⟩ := upd_own (lk := S.lk) e z g1 g2 zb g5.dropLast
        exact ⟨p0, vs0, v, rfl, rfl, g2, k1, q _ _ I e2 s2 ⟨k2, trivial⟩⟩
    | val d => simp only [z] at q; exact q.elim
    | dct d => simp only [z] at q; exact q.elim
    | emp => simp only [z] at q; exact q.elim
  · cases h
theorem good_popAt {i : Nat} (ha : GoodE T G K EX c a) : GoodE T G K EX c (.popAt i a) := by
  intro S X W e O tk h
  simp only [chkE] at h
  split at h
  · rename_i x p m ap y pos
    simp only [Bool.and_eq_true, decide_eq_true_eq] at h
    obtain ⟨h1, h2, h3, h4, h5, h6⟩ := h
    subst h1
    refine PE.imp (pe_bm PySem.F.plainAttrs_list PySem.F.slot_list_pop PySem.F.type_list_pop mt_popAt (pe_recv O h2 h3 h4) (pa_cons (ha S X W y O tk h6) pa_nil (star_of (chk_form h6).1 _ _)) rfl (by rw [star_of (chk_form h6).1]; rfl) h5 (star_of (chk_form h6).1 _ _) rfl) fun σ H Q q => ?_
    obtain ⟨I, env, e, q⟩ := q
    simp only [evalE] at q
    cases z : Mi.get env i with
    | lst ds =>
      simp only [z] at q
      obtain ⟨p0, vs0, g1, g2, g4, g5⟩ := own_here e z
      refine ⟨.ref p0, g1, .inl ⟨rfl, vs0, SqL.of g2⟩, ?_⟩
      have q := eval1 (c := c) (a := a) (P := PArg K) old_arg (F := fun x env => int1 x >>= fun k => match Mi.get env i with
        | .lst ds => match ixAt ds.length k with
          | some j => match ds[j]? with
            | some d => if -(2 ^ 63) ≤ k ∧ k < 2 ^ 63 then .ok (.val d, put env i (.lst (ds.eraseIdx j))) else .stk
            | none => .stk
          | none => .stk
        | _ => .stk) ⟨I, env, e, q⟩
      obtain ⟨I, env, e, q⟩ := q
      refine ⟨I, env, e, tAt.mono q fun x H1 q1 => ?_⟩
      obtain ⟨dx, I1, env1, e1, rb, q1⟩ := q1
      obtain ⟨k, hk, q1⟩ := tAt.calc (int1_nx dx) q1
      rw [int1_ok hk] at rb
      cases z1 : Mi.get env1 i with
      | lst es =>
        simp only [z1] at q1
        obtain ⟨p1, vs1, k1, k2, k4, k5⟩ := own_here e1 z1
        rw [g1] at k1
        cases k1
        cases w : ixAt es.length k with
        | none => simp only [w] at q1; exact q1.elim
        | some j =>
          simp only [w] at q1
          cases w2 : es[j]? with
          | none => simp only [w2] at q1; exact q1.elim
          | some d =>
            simp only [w2] at q1
            split at q1
            · rename_i kb
              obtain ⟨v, l1, l2⟩ := k5.get w2
              have zb : (es.eraseIdx j).length ≤ big := Nat.le_trans (len_erase es j) k4
              obtain ⟨e2, s2⟩ := upd_own (lk := S.lk) e1 z1 g1 k2 zb (k5.eraseIdx j)
              refine ⟨p0, vs1, k, j, v, rfl, by rw [rb.int], k2, kb.1, kb.2, ?_, l1, q1 _ _ I1 e2 s2 ⟨l2, trivial⟩⟩
              rw [k5.length, ixAt_eq] at w
              exact (ixN_seq w).1
            · exact q1.elim
      | val d => simp only [z1] at q1; exact q1.elim
      | dct d => simp only [z1] at q1; exact q1.elim
      | emp => simp only [z1] at q1; exact q1.elim
    | val d => simp only [z] at q; exact q.elim
    | dct d => simp only [z] at q; exact q.elim
    | emp => simp only [z] at q; exact q.elim
  · cases h
end
end Mi

set_option Elab.async false
set_option linter.all false
set_option maxRecDepth 100000
set_option maxHeartbeats 1000000
/-! Mi, part K: what a loop walks. -/
namespace Mi
open L2 PySem PySem.Spec PyProof.Rows

/-! ### a list or a tuple -/
def iSeq (K : PySem.W.Frag) (tl : TE) : TI := fun σ H R => tl σ H fun x H1 => ∃ a, x = .ref a ∧ (((∃ xs, SqL K H1 a xs) ∧ R (Itl K a) H1) ∨ ((∃ xs, SqT K H1 a xs) ∧ R (Itt K a) H1))
theorem pi_seq {X : Cx} {tg l : Expr} {tl : TE} (hl : PE X l tl) : PI X tg l (iSeq X.K tl) := by
  refine ⟨fun pins s σ H R I h => ?_⟩
  refine thn (hl.run pins s σ H _ I h) fun v s1 ⟨x, H1, I1, r1, q1⟩ => ?_
  obtain ⟨a, e, q⟩ := q1
  subst e
  cases r1
  have fr : ∀ b ∈ [s1.heap.objs.size], FpOk X pins H1 b := fun b hb => by
    have e : b = s1.heap.objs.size := by simpa using hb
    subst e
    exact I1.fpOk (Nat.le_refl _) (I1.hok.fresh (Nat.le_refl _))
  rcases q with ⟨⟨xs, hq⟩, q⟩ | ⟨⟨xs, hq⟩, q⟩
  · obtain ⟨its, rv, p, hz⟩ := I1.list hq
    refine wpAny_pyIter_list p.isList ?_
    exact ⟨s1.heap.objs.size, [s1.heap.objs.size], _, _, H1, rfl, I1.kept (t' := s1.toks) fun b o e => Heap.get?_push_of_some _ e, turn_list a _, ⟨_, Heap.get?_push_size _ rfl, rfl, rfl⟩, fr, q⟩
  · obtain ⟨its, rv, p, hz⟩ := I1.tuple hq
    refine wpAny_pyIter_tuple (show s1.heap.IsTuple a its.toArray from p) ?_
    exact ⟨s1.heap.objs.size, [s1.heap.objs.size], _, _, H1, rfl, I1.kept (t' := s1.toks) fun b o e => Heap.get?_push_of_some _ e, turn_tuple a _, ⟨_, Heap.get?_push_size _ rfl, rfl, rfl⟩, fr, q⟩
/-! ### enumerate of a tuple -/
def IteT (K : PySem.W.Frag) (a : Addr) : It :=
  ⟨fun i H => ∃ (xs : List V) (x : V), SqT K H a xs ∧ xs[i]? = some x, fun i H v H' => ∃ T x, v = .ref T ∧ H T = none ∧ H' = upd H T (.tup [.int (i : Nat), x]) ∧ ∀ xs, SqT K H a xs → xs[i]? = some x, fun i H => ∃ xs : List V, SqT K H a xs ∧ xs.length ≤ i⟩
theorem turn_enumT {P : Program} {w : World} {K : PySem.W.Frag} {elts : List Expr} {kk : Nat} {tpos : Pos} (a e it : Addr) :
    Turn P w K (.Tuple elts kk tpos) (IteT K a) [e, it] e (fun i h => (∃ old, IsEnum h e it ((i : Nat) : Int) old) ∧ h.IsTupleIter it a i ∧ (e ≠ it ∧ a ≠ it ∧ a ≠ e)) where
  mem := by simp
  obj := fun i h st b hb => by
    obtain ⟨⟨old, he⟩, ⟨o, ho, hc, hd⟩, _⟩ := st
    have e' : b = e ∨ b = it := by simpa using hb
    rcases e' with z | z
    · rw [z]; exact ⟨_, he, fun v q => nomatch q⟩
    · rw [z]; exact ⟨o, ho, fun v q => by rw [hd] at q; cases q⟩
  keep := fun i h h' st k => let ⟨⟨old, he⟩, hi, hne⟩ := st; ⟨⟨old, k e (by simp) _ he⟩, hi.at fun o q => k it (by simp) o q, hne⟩
  item := by
    intro X hP hw hK hc i pins s σ H E I hf st hg
    subst hP hw hK
    obtain ⟨⟨old, he⟩, hit, hne, ha1, ha2⟩ := st
    obtain ⟨xs, x, hq, hx⟩ := hg
    obtain ⟨its, rv, p, hz⟩ := I.tuple hq
    obtain ⟨u, hu, ru⟩ := rv.get hx
    have hel : e < s.heap.objs.size := Heap.lt_size he
    have hil : it < s.heap.objs.size := by obtain ⟨_, q, _⟩ := hit; exact Heap.lt_size q
    have hlt : i < its.toArray.size := by
      rw [List.size_toArray]
      exact (List.getElem?_eq_some_iff.mp hu).1
    refine wpAny_pyNext_enum_itemC (Draws.tuple (prog := X.prog) (w := X.w) (A := X.A.in1) (I.ok.hd hc) it a ha1 its.toArray) he ⟨hit, p⟩ hlt hne (by simp [hne, Ne.symm ha2]) fun y h' tk hy ho hst' hT hsz hk => ?_
    have hy' : y = u := by
      have : its[i]? = some y := by simpa using hy
      rw [hu] at this
      cases this
      rfl
    subst hy'
    refine ⟨_, rfl, wpAny_letOwnedTupleGo_enum (s := { s with heap := h', toks := tk + 1 }) ho fun h'' he' sb => ?_⟩
    have hT2 : h''.get? s.heap.objs.size = some { cls := .type "tuple", data := .seq #[.int i tk, y] } := (sb.2 _ (Nat.ne_of_gt hel)).trans hT
    have new : ObjOk X.prog X.w (upd H s.heap.objs.size (.tup [.int (i : Nat), x])) h'' s.heap.objs.size (.tup [.int (i : Nat), x]) :=
      ⟨by show 2 ≤ sizeLine; decide, [.int i tk, y], .cons ⟨_, rfl⟩ (.cons ru .nil), ⟨_, hT2, rfl, _, rfl⟩⟩
    have I1 : Inv X pins σ (upd H s.heap.objs.size (.tup [.int (i : Nat), x])) { s with heap := h'', toks := tk + 1 } :=
      I.turnedNew (ch := [e, it]) (fun b ob hb q => (sb.2 b (fun z => hb (by simp [z]))).trans (hk b ob (fun z => hb (by simp [z])) (fun z => hb (by simp [z])) q)) hf (Nat.le_refl _) new
    refine ⟨.ref s.heap.objs.size, _, I1, rfl, ⟨_, x, rfl, I.hok.fresh (Nat.le_refl _), rfl, fun ys hy => by rw [I.tuple_inj hy hq]; exact hx⟩, ⟨⟨y, ?_⟩, hst'.1.at fun o q => (sb.2 it (Ne.symm hne)).trans q, hne, ha1, ha2⟩, fun b hb => ?_⟩
    · have e1 : ((i + 1 : Nat) : Int) = (i : Int) + 1 := by omega
      rw [e1]; exact he'
    · have hb' : b < s.heap.objs.size := by
        have e' : b = e ∨ b = it := by simpa using hb
        rcases e' with z | z
        · rw [z]; exact hel
        · rw [z]; exact hil
      rw [upd_ne (Nat.ne_of_lt hb')]
      exact (hf b hb).1
  done := by
    intro X hP hw hK hc i pins s σ H E I hf st hg
    subst hP hw hK
    obtain ⟨⟨old, he⟩, hit, hne, ha1, ha2⟩ := st
    obtain ⟨xs, hq, hx⟩ := hg
    obtain ⟨its, rv, p, hz⟩ := I.tuple hq
    obtain ⟨f0, f1, f2, f3, f4, f5⟩ := hf it (by simp)
    have hl := rv.length
    have hge : its.toArray.size ≤ i := by rw [List.size_toArray]; omega
    have D : Draws X.prog X.w X.A.in1 it [it, a] i (fun _ _ => True) (fun j h => (h.IsTupleIter it a j ∧ h.IsTuple a its.toArray) ∧ j = i) := {
      live := fun j h st => let ⟨o, ho, _⟩ := st.1.1; ⟨o, ho⟩
      frame := fun j h h' st hk => ⟨⟨st.1.1.at fun o e => hk it (by simp) o e, st.1.2.at fun o e => hk a (by simp) o e⟩, st.2⟩
      item := fun j s Q E hj st hQ => absurd st.2 (Nat.ne_of_lt hj)
      done := fun s Q E st hE => wpAny_nextOf_tuple_end (I.ok.hd hc) st.1.1 st.1.2 (by simp at hge ⊢; omega) hE }
    exact wpAny_pyNext_enum_endD D he ⟨⟨hit, p⟩, rfl⟩ fun h' eb => ⟨rfl, I.turned (t' := s.toks) (fun b o hb q => eb b o hb q) f0 f1 f3 f4 f5⟩
  self := fun A i s Q E st h => let ⟨⟨_, he⟩, _⟩ := st; wpAny_pyIter_enum he h
theorem meets_enum1 {v : Value} {o : Obj} {Hc : Heap → Prop} (B : Begins v o Hc) :
    Meets (Builtin.«enumerate.__new__» ⟨[.type "enumerate", v], []⟩) (fun _ R s => Hc s.heap ∧
      R (.ok (.ret (.ref (s.heap.push o).objs.size))) { s with heap := (s.heap.push o).push { cls := .type "enumerate", data := .fields #[.none, .bool false, .ref s.heap.objs.size, rawInt 0, .none, .none] } }) :=
  .of_wp fun prog w A R s h => by
    obtain ⟨hp, g, d, tk, os⟩ := s
    obtain ⟨h1, h⟩ := h
    have hsub := PySem.sub_enumerate
    have q1 : ∀ {A' : Around} {E : Value → Shared → Prop} {Q : Value → Shared → Prop}, Q (.ref hp.objs.size) ⟨hp.push o, g, d, tk, os⟩ → wpAny (model prog w) A' (pyIter v) Q E ⟨hp, g, d, tk, os⟩ :=
      fun q => B.iter prog w _ _ ⟨hp, g, d, tk, os⟩ _ h1 q
    wp_walk using q1
    refine wpAny_stack_any fun st => wpAny_pure ?_
    split
    · rename_i c _ _ _ _ _
      cases (c == Value.type "enumerate")
      · wp_walk using q1
        exact ⟨_, rfl, h⟩
      · wp_walk using q1
        exact ⟨_, rfl, h⟩
    · wp_walk using q1
      exact ⟨_, rfl, h⟩
theorem enum_begins1 {prog : Program} {w : World} {A : Around} {E : Value → Shared → Prop} {s : Shared} {v : Value} {o : Obj} {Hc : Heap → Prop} {Q : Value → Shared → Prop} (B : Begins v o Hc) (h1 : Hc s.heap)
    (h : ∀ h', IsEnum h' (s.heap.objs.size + 1) s.heap.objs.size 0 .none → h'.get? s.heap.objs.size = some o → h'.objs.size = s.heap.objs.size + 2 →
      (∀ b o, s.heap.get? b = some o → h'.get? b = some o) → Q (.ref (s.heap.objs.size + 1)) { s with heap := h' }) :
    wpAny (model prog w) A (call (.type "enumerate") [v]) Q E s := by
  refine callType_new F.called_enumerate (by decide) (F.typeCall_enumerate_1 _) (F.newCall_enumerate_1 _) (fun obj => F.args_object_init_2 obj _) F.entry_enumerate_new
    (meets_enum1 B) ⟨h1, ?_⟩
  have hz : (s.heap.push o).objs.size = s.heap.objs.size + 1 := Heap.size_push ..
  show _ ∧ _
  rw [hz]
  have he : IsEnum ((s.heap.push o).push { cls := .type "enumerate", data := .fields #[.none, .bool false, .ref s.heap.objs.size, rawInt 0, .none, .none] }) (s.heap.objs.size + 1) s.heap.objs.size 0 .none := by
    have q := Heap.get?_push_size (s.heap.push o) (o := { cls := .type "enumerate", data := .fields #[.none, .bool false, .ref s.heap.objs.size, rawInt 0, .none, .none] }) rfl
    rw [hz] at q
    exact q
  refine ⟨⟨_, he, rfl⟩, h _ he (Heap.get?_push_of_some _ (Heap.get?_push_size _ B.free)) (by rw [Heap.size_push, hz]) fun b o x => Heap.get?_push_of_some _ (Heap.get?_push_of_some _ x)⟩
def iEnm (K : PySem.W.Frag) (ta : TA) : TI := fun σ H R => ta σ H fun vs H1 => ∃ a xs, vs = [.ref a] ∧ ((SqL K H1 a xs ∧ R (Ite K a) H1) ∨ (SqT K H1 a xs ∧ R (IteT K a) H1))
theorem pi_enm {X : Cx} {e : Expr} {ta : TA} {p pos tpos : Pos} {elts : List Expr} {kk : Nat} (hg : Gl X "enumerate") (hm : X.mg "enumerate" = none) (ha : PA X [e] ta) (hs : starEach [e] X.env = [(false, eval e X.env)]) :
    PI X (.Tuple elts kk tpos) (.Call (.Name "enumerate" p) [e] [] pos) (iEnm X.K ta) := by
  refine ⟨fun pins s σ H R I h => ?_⟩
  refine Call_ (ld_blt I hg hm boot_enumerate (PyProof.Rows.callWith_type1 (thn (ha.run pos pins s σ H _ I h) fun us s1 ⟨vs, H1, I1, r1, q1⟩ => ?_) hs rfl))
  obtain ⟨a, xs, ex, q⟩ := q1
  subst ex
  cases r1 with
  | cons r rr =>
    cases rr
    cases r
    have fr : ∀ b ∈ [s1.heap.objs.size + 1, s1.heap.objs.size], FpOk X pins H1 b := fun b hb => by
      have e' : b = s1.heap.objs.size + 1 ∨ b = s1.heap.objs.size := by simpa using hb
      have hle : s1.heap.objs.size ≤ b := by
        rcases e' with z | z
        · rw [z]; exact Nat.le_add_right _ _
        · rw [z]; exact Nat.le_refl _
      exact I1.fpOk hle (I1.hok.fresh hle)
    rcases q with ⟨hq, q⟩ | ⟨hq, q⟩
    · obtain ⟨its, rv, p', hz⟩ := I1.list hq
      refine call_enumerate_list p'.isList fun h' he hit hsz hk => wpAny_pyIter_enum he ?_
      have I2 : Inv X pins σ H1 { s1 with heap := h' } := I1.kept (t' := s1.toks) hk
      exact ⟨s1.heap.objs.size + 1, [s1.heap.objs.size + 1, s1.heap.objs.size], _, _, H1, rfl, I2, turn_enum a (s1.heap.objs.size + 1) s1.heap.objs.size, ⟨⟨.none, he⟩, hit, Nat.succ_ne_self _⟩, fr, q⟩
    · obtain ⟨its, rv, p', hz⟩ := I1.tuple hq
      have hal : a < s1.heap.objs.size := by obtain ⟨o, ho, _⟩ := id p'; exact Heap.lt_size ho
      refine enum_begins1 (begins_tuple a its.toArray) p' fun h' he hit hsz hk => wpAny_pyIter_enum he ?_
      have I2 : Inv X pins σ H1 { s1 with heap := h' } := I1.kept (t' := s1.toks) hk
      exact ⟨s1.heap.objs.size + 1, [s1.heap.objs.size + 1, s1.heap.objs.size], _, _, H1, rfl, I2, turn_enumT a (s1.heap.objs.size + 1) s1.heap.objs.size, ⟨⟨.none, he⟩, ⟨_, hit, rfl, rfl⟩, Nat.succ_ne_self _, Nat.ne_of_lt hal, Nat.ne_of_lt (Nat.lt_succ_of_lt hal)⟩, fr, q⟩

/-! ### what it walks, as data -/
structure ItOk (K : PySem.W.Frag) (I0 : Hp) (J : It) (ds : List PyData) : Prop where
  go : ∀ i H I, Le I0 I → Le I H → i < ds.length → J.go i H
  stop : ∀ i H I, Le I0 I → Le I H → ds.length ≤ i → J.stop i H
  yld : ∀ i H I x H' d, Le I0 I → Le I H → ds[i]? = some d → J.yld i H x H' → (H' = H ∧ Rep K I d x) ∨ (∃ T vs es, H T = none ∧ H' = upd H T (.tup vs) ∧ x = .ref T ∧ d = .tuple es ∧ es.length ≤ big ∧ RepL K I es vs)
def PIt (K : PySem.W.Frag) (_ : L2.St) (_ _ I' : Hp) (_ : Env) (ds : List PyData) (J : It) : Prop := ItOk K I' J ds ∧ ds.length ≤ big
section
variable {K : PySem.W.Frag} {I I' H : Hp}
theorem old_it : Old (PIt K) := fun _ _ _ _ _ _ _ _ _ p => p
theorem getI {α : Type} {l : List α} {i : Nat} (h : i < l.length) : ∃ x, l[i]? = some x := ⟨_, List.getElem?_eq_getElem h⟩
theorem it_list {a : Addr} {vs : List V} {ds : List PyData} (s : I a = some (.lst vs)) (r : RepL K I ds vs) : ItOk K I (Itl K a) ds where
  go := fun i H J l1 l2 hi => by
    obtain ⟨x, hx⟩ := getI (l := vs) (i := i) (by rw [← r.length]; exact hi)
    exact ⟨vs, x, SqL.of (l2 _ _ (l1 _ _ s)), hx⟩
  stop := fun i H J l1 l2 hi => ⟨vs, SqL.of (l2 _ _ (l1 _ _ s)), by rw [← r.length]; exact hi⟩
  yld := fun i H J x H' d l1 l2 hd y => by
    obtain ⟨e, y⟩ := y
    obtain ⟨v, h1, h2⟩ := r.get hd
    have q := y vs (SqL.of (l2 _ _ (l1 _ _ s)))
    rw [h1] at q
    cases q
    exact .inl ⟨e, h2.le l1⟩
theorem it_tup {a : Addr} {vs : List V} {ds : List PyData} (s : SqT K I a vs) (r : RepL K I ds vs) : ItOk K I (Itt K a) ds where
  go := fun i H J l1 l2 hi => by
    obtain ⟨x, hx⟩ := getI (l := vs) (i := i) (by rw [← r.length]; exact hi)
    exact ⟨vs, x, sqT_le l2 (sqT_le l1 s), hx⟩
  stop := fun i H J l1 l2 hi => ⟨vs, sqT_le l2 (sqT_le l1 s), by rw [← r.length]; exact hi⟩
  yld := fun i H J x H' d l1 l2 hd y => by
    obtain ⟨e, y⟩ := y
    obtain ⟨v, h1, h2⟩ := r.get hd
    have q := y vs (sqT_le l2 (sqT_le l1 s))
    rw [h1] at q
    cases q
    exact .inl ⟨e, h2.le l1⟩
theorem it_rng {lo : Int} {n : Nat} : ItOk K I (Itr lo n) ((List.range n).map fun (i : Nat) => PyData.int (lo + (i : Int))) where
  go := fun i H J l1 l2 hi => by
    show i < n
    simpa using hi
  stop := fun i H J l1 l2 hi => by
    show n ≤ i
    simpa using hi
  yld := fun i H J x H' d l1 l2 hd y => by
    obtain ⟨e, y⟩ := y
    have hi : i < n := by
      have := (List.getElem?_eq_some_iff.mp hd).1
      simpa using this
    have : d = .int (lo + (i : Int)) := by
      simp [hi] at hd
      exact hd.symm
    subst this
    subst y
    exact .inl ⟨e, .int _⟩
theorem enumF_len : ∀ (n : Nat) (ds : List PyData), (enumF n ds).length = ds.length
  | _, [] => rfl
  | n, d :: r => congrArg (· + 1) (enumF_len (n + 1) r)
theorem enumF_get : ∀ {n i : Nat} {ds : List PyData} {x : PyData}, (enumF n ds)[i]? = some x → ∃ d, ds[i]? = some d ∧ x = .tuple [.int ((n + i : Nat) : Int), d]
  | _, _, [], _, h => by simp [enumF] at h
  | n, 0, d :: r, x, h => by
    simp [enumF] at h
    exact ⟨d, rfl, by rw [← h]; rfl⟩
  | n, i + 1, d :: r, x, h => by
    obtain ⟨e, h1, h2⟩ := enumF_get (n := n + 1) (i := i) (ds := r) (by simpa [enumF] using h)
    exact ⟨e, by simpa using h1, by rw [h2]; congr 3; omega⟩
theorem it_enml {a : Addr} {vs : List V} {ds : List PyData} (s : I a = some (.lst vs)) (r : RepL K I ds vs) : ItOk K I (Ite K a) (enumF 0 ds) where
  go := fun i H J l1 l2 hi => by
    rw [enumF_len] at hi
    obtain ⟨x, hx⟩ := getI (l := vs) (i := i) (by rw [← r.length]; exact hi)
    exact ⟨vs, x, SqL.of (l2 _ _ (l1 _ _ s)), hx⟩
  stop := fun i H J l1 l2 hi => ⟨vs, SqL.of (l2 _ _ (l1 _ _ s)), by rw [← r.length, ← enumF_len 0]; exact hi⟩
  yld := fun i H J x H' d l1 l2 hd y => by
    obtain ⟨T, z, e1, e2, e3, y⟩ := y
    obtain ⟨d', hd', rfl⟩ := enumF_get hd
    obtain ⟨v, h1, h2⟩ := r.get hd'
    have q := y vs (SqL.of (l2 _ _ (l1 _ _ s)))
    rw [h1] at q
    cases q
    rw [Nat.zero_add]
    exact .inr ⟨T, _, _, e2, e3, e1, rfl, (by decide : (2 : Nat) ≤ big), .cons (.int _) (.cons (h2.le l1) .nil)⟩
theorem it_enmt {a : Addr} {vs : List V} {ds : List PyData} (s : SqT K I a vs) (r : RepL K I ds vs) : ItOk K I (IteT K a) (enumF 0 ds) where
  go := fun i H J l1 l2 hi => by
    rw [enumF_len] at hi
    obtain ⟨x, hx⟩ := getI (l := vs) (i := i) (by rw [← r.length]; exact hi)
    exact ⟨vs, x, sqT_le l2 (sqT_le l1 s), hx⟩
  stop := fun i H J l1 l2 hi => ⟨vs, sqT_le l2 (sqT_le l1 s), by rw [← r.length, ← enumF_len 0]; exact hi⟩
  yld := fun i H J x H' d l1 l2 hd y => by
    obtain ⟨T, z, e1, e2, e3, y⟩ := y
    obtain ⟨d', hd', rfl⟩ := enumF_get hd
    obtain ⟨v, h1, h2⟩ := r.get hd'
    have q := y vs (sqT_le l2 (sqT_le l1 s))
    rw [h1] at q
    cases q
    rw [Nat.zero_add]
    exact .inr ⟨T, _, _, e2, e3, e1, rfl, (by decide : (2 : Nat) ≤ big), .cons (.int _) (.cons (h2.le l1) .nil)⟩
theorem zipF_len : ∀ (ds es : List PyData), (zipF ds es).length = min ds.length es.length
  | [], _ => by simp [zipF]
  | _ :: _, [] => by simp [zipF]
  | d :: r, e :: q => by
    show (zipF r q).length + 1 = _
    rw [zipF_len r q]
    simp only [List.length_cons]
    omega
theorem zipF_get : ∀ {i : Nat} {ds es : List PyData} {x : PyData}, (zipF ds es)[i]? = some x → ∃ d e, ds[i]? = some d ∧ es[i]? = some e ∧ x = .tuple [d, e]
  | _, [], _, _, h => by simp [zipF] at h
  | _, _ :: _, [], _, h => by simp [zipF] at h
  | 0, d :: r, e :: q, x, h => by
    simp [zipF] at h
    exact ⟨d, e, rfl, rfl, h.symm⟩
  | i + 1, d :: r, e :: q, x, h => by
    obtain ⟨d', e', h1, h2, h3⟩ := zipF_get (i := i) (ds := r) (es := q) (by simpa [zipF] using h)
    exact ⟨d', e', by simpa using h1, by simpa using h2, h3⟩
theorem it_zipl {a b : Addr} {vs ws : List V} {ds es : List PyData} (s : I a = some (.lst vs)) (r : RepL K I ds vs) (s2 : I b = some (.lst ws)) (r2 : RepL K I es ws) : ItOk K I (Itz K a b) (zipF ds es) where
  go := fun i H J l1 l2 hi => by
    rw [zipF_len] at hi
    obtain ⟨x, hx⟩ := getI (l := vs) (i := i) (by rw [← r.length]; omega)
    obtain ⟨y, hy⟩ := getI (l := ws) (i := i) (by rw [← r2.length]; omega)
    exact ⟨vs, ws, x, y, SqL.of (l2 _ _ (l1 _ _ s)), SqL.of (l2 _ _ (l1 _ _ s2)), hx, hy⟩
  stop := fun i H J l1 l2 hi => ⟨vs, ws, SqL.of (l2 _ _ (l1 _ _ s)), SqL.of (l2 _ _ (l1 _ _ s2)), by rw [zipF_len] at hi; rw [← r.length, ← r2.length]; omega⟩
  yld := fun i H J x H' d l1 l2 hd y => by
    obtain ⟨T, z, z2, e1, e2, e3, y, y2⟩ := y
    obtain ⟨d1, d2, hd1, hd2, rfl⟩ := zipF_get hd
    obtain ⟨v, h1, h2⟩ := r.get hd1
    obtain ⟨v2, h3, h4⟩ := r2.get hd2
    have q := y vs (SqL.of (l2 _ _ (l1 _ _ s)))
    have q2 := y2 ws (SqL.of (l2 _ _ (l1 _ _ s2)))
    rw [h1] at q
    cases q
    rw [h3] at q2
    cases q2
    exact .inr ⟨T, _, _, e2, e3, e1, rfl, (by decide : (2 : Nat) ≤ big), .cons (h2.le l1) (.cons (h4.le l1) .nil)⟩
theorem it_zipt {a b : Addr} {vs ws : List V} {ds es : List PyData} (s : SqT K I a vs) (r : RepL K I ds vs) (s2 : SqT K I b ws) (r2 : RepL K I es ws) : ItOk K I (RZ.ItzT K a b) (zipF ds es) where
  go := fun i H J l1 l2 hi => by
    rw [zipF_len] at hi
    obtain ⟨x, hx⟩ := getI (l := vs) (i := i) (by rw [← r.length]; omega)
    obtain ⟨y, hy⟩ := getI (l := ws) (i := i) (by rw [← r2.length]; omega)
    exact ⟨vs, ws, x, y, sqT_le l2 (sqT_le l1 s), sqT_le l2 (sqT_le l1 s2), hx, hy⟩
  stop := fun i H J l1 l2 hi => ⟨vs, ws, sqT_le l2 (sqT_le l1 s), sqT_le l2 (sqT_le l1 s2), by rw [zipF_len] at hi; rw [← r.length, ← r2.length]; omega⟩
  yld := fun i H J x H' d l1 l2 hd y => by
    obtain ⟨T, z, z2, e1, e2, e3, y, y2⟩ := y
    obtain ⟨d1, d2, hd1, hd2, rfl⟩ := zipF_get hd
    obtain ⟨v, h1, h2⟩ := r.get hd1
    obtain ⟨v2, h3, h4⟩ := r2.get hd2
    have q := y vs (sqT_le l2 (sqT_le l1 s))
    have q2 := y2 ws (sqT_le l2 (sqT_le l1 s2))
    rw [h1] at q
    cases q
    rw [h3] at q2
    cases q2
    exact .inr ⟨T, _, _, e2, e3, e1, rfl, (by decide : (2 : Nat) ≤ big), .cons (h2.le l1) (.cons (h4.le l1) .nil)⟩
end
section
variable {T : Tab} {G : Glo} {K : PySem.W.Frag} {EX : EXT} {c : Cl} {W : WX} {lk : Option Nat} {σ : L2.St} {H I : Hp} {env : Env} {a b : ME} {α : Type}
theorem PI.imp {X : Cx} {tg e : Expr} {t t' : TI} (h : PI X tg e t) (m : ∀ σ H Q, t' σ H Q → t σ H Q) : PI X tg e t' := ⟨fun pins s σ H Q I q => h.run pins s σ H Q I (m σ H Q q)⟩
def GoodI (T : Tab) (G : Glo) (K : PySem.W.Frag) (EX : EXT) (c : Cl) (m : MI) : Prop := ∀ (S : Sc) (X : Cx) (W : WX) (tp : Bool) (tg e : Expr), OkX T G K EX c S X → Takes X W → (tp = true → ∃ elts kk tpos, tg = .Tuple elts kk tpos) → chkI T G S m tp e = true →
  PI X tg e (tR K EX W S.lk (PIt K) (evalI c m))
/-- what an expression gives, given away, with the step told -/
theorem frz_tAt {ω : Type} {P : L2.St → Hp → Hp → Hp → Env → α → ω → Prop} {Qw : ω → Hp → Prop} (o : Old P) {k : PyData × Env → R (α × Env)} {m : ME} (e : EnvOk K σ H I env) (h : tAt K EX W lk P (frzR (evalE c m env) >>= k) σ H I env Qw) :
    tAt K EX W lk (PArg K) (evalE c m env) σ H I env fun x H1 => ∃ d I1 env1, EnvOk K σ H1 I1 env1 ∧ SStep lk σ H I env σ H1 I1 env1 ∧ Rep K I1 d x ∧ tAt K EX W lk P (k (d, env1)) σ H1 I1 env1 Qw := by
  have h1 : tAt K EX W lk P (evalE c m env >>= fun p => p.1.frz p.2 >>= k) σ H I env Qw := by
    have h0 : tAt K EX W lk P ((evalE c m env >>= fun p => p.1.frz p.2) >>= k) σ H I env Qw := h
    rw [r_assoc] at h0
    exact h0
  refine tAt.mono (tAt.bind0 (P1 := PArg K) h1) fun x H1 ⟨r, env1, I1, e1, s1, p1, q⟩ => ?_
  obtain ⟨p, hp, q⟩ := tAt.calc (frz_nx r env1) q
  obtain ⟨d, env2⟩ := p
  obtain ⟨I2, e2, rp, s2⟩ := frz_step e1 s1 p1.1 p1.2 hp
  exact ⟨d, I2, env2, e2, s2, rp, tAt.later o s2 q⟩
theorem zip2_nx (x y : PyData) : Nx (zip2 x y) := by
  unfold zip2
  split <;> first | exact nx_ok | exact nx_stk
theorem rng_nx (i j : Int) : Nx (rng i j) := nx_ite nx_ok nx_stk
theorem good_seq (ha : GoodE T G K EX c a) : GoodI T G K EX c (.seq a) := by
  intro S X W tp tg e O tk ht h
  simp only [chkI] at h
  refine PI.imp (pi_seq (ha S X W e O tk h)) fun σ H Q q => ?_
  have q := frz_tR (P := PIt K) old_it (k := fun p => seqOf p.1 >>= fun ds => pure (ds, p.2)) (by unfold tR at q ⊢; simp only [evalI] at q; exact q)
  obtain ⟨I, env, e, q⟩ := q
  refine ⟨I, env, e, tAt.mono q fun x H1 ⟨d, I1, env1, e1, rp, q1⟩ => ?_⟩
  obtain ⟨ds, hds, q1⟩ := tAt.calc (seqOf_nx d) q1
  rw [O.kk]
  cases rp with
  | lst s z r =>
    cases hds
    exact ⟨_, rfl, .inl ⟨⟨_, SqL.of (e1.le _ _ s)⟩, tAt.done (P1 := PIt K) q1 e1 .refl ⟨it_list s r, z⟩⟩⟩
  | tup s z r =>
    cases hds
    exact ⟨_, rfl, .inr ⟨⟨_, sqT_le e1.le s⟩, tAt.done (P1 := PIt K) q1 e1 .refl ⟨it_tup s r, z⟩⟩⟩
  | _ => cases hds
theorem good_rng1 (ha : GoodE T G K EX c a) : GoodI T G K EX c (.rng1 a) := by
  intro S X W tp tg e O tk ht h
  simp only [chkI] at h
  split at h
  · rename_i x p y pos
    simp only [Bool.and_eq_true, decide_eq_true_eq] at h
    obtain ⟨rfl, h2, h3⟩ := h
    obtain ⟨g1, g2, _, _⟩ := free_ok O h2
    refine PI.imp (pi_range1 g1 g2 (pa_cons (ha S X W y O tk h3) pa_nil (star_of (chk_form h3).1 _ _)) (star_of (chk_form h3).1 _ _)) fun σ H Q q => ?_
    obtain ⟨I, env, e, q⟩ := q
    simp only [evalI] at q
    refine ⟨I, env, e, tAt.mono (tAt.bind (P1 := PArg K) old_it q) fun x H1 ⟨r, env1, I1, e1, s1, p1, q1⟩ => ?_⟩
    obtain ⟨d, hd, q1⟩ := tAt.calc (see_nx r env1) q1
    obtain ⟨i, hi, q1⟩ := tAt.calc (int1_nx d) q1
    obtain ⟨ds, hds, q1⟩ := tAt.calc (rng_nx 0 i) q1
    have rb := see_rep e1 p1.1 hd
    rw [int1_ok hi] at rb
    unfold rng at hds
    split at hds
    · rename_i z
      cases hds
      rw [Int.sub_zero] at z q1
      refine ⟨i, by rw [rb.int], z.2.2.1, z.2.2.2.1, tAt.done (P1 := PIt K) q1 e1 .refl ⟨it_rng, ?_⟩⟩
      rw [List.length_map, List.length_range]
      exact z.2.2.2.2
    · cases hds
  · cases h
theorem rgV_rep (n : Nat) (i : Int) (h : n = (i - 0).toNat) : RepL K I ((List.range n).map fun (j : Nat) => PyData.int (0 + (j : Int))) (rgV 0 i) := by
  unfold rgV
  rw [← h]
  have : ((List.range n).map fun (j : Nat) => PyData.int (0 + (j : Int))) = ((List.range n).map fun (j : Nat) => (0 + (j : Int))).map PyData.int := by
    rw [List.map_map]
    rfl
  have h2 : ((List.range n).map fun (j : Nat) => V.int (0 + (j : Int))) = ((List.range n).map fun (j : Nat) => (0 + (j : Int))).map V.int := by
    rw [List.map_map]
    rfl
  rw [this, h2]
  exact RepL.ints
theorem good_trg (ha : GoodE T G K EX c a) : GoodE T G K EX c (.trg a) := by
  intro S X W e O tk h
  simp only [chkE] at h
  split at h
  · rename_i x p y p2 z p3 pos
    simp only [Bool.and_eq_true, decide_eq_true_eq] at h
    obtain ⟨rfl, h2, rfl, h4, h5⟩ := h
    obtain ⟨g1, g2, _, _⟩ := free_ok O h2
    obtain ⟨g3, g4, _, _⟩ := free_ok O h4
    refine PE.imp (pe_tupRg O.calm g1 g2 (prg_1 g3 g4 (ha S X W z O tk h5) (star_of (chk_form h5).1 _ _)) rfl) fun σ H Q q => ?_
    obtain ⟨I, env, e, q⟩ := q
    simp only [evalE] at q
    refine ⟨I, env, e, tAt.mono (tAt.bind (P1 := PArg K) old_arg q) fun x H1 ⟨r, env1, I1, e1, s1, p1, q1⟩ => ?_⟩
    obtain ⟨d, hd, q1⟩ := tAt.calc (see_nx r env1) q1
    obtain ⟨i, hi, q1⟩ := tAt.calc (int1_nx d) q1
    obtain ⟨ds, hds, q1⟩ := tAt.calc (rng_nx 0 i) q1
    have rb := see_rep e1 p1.1 hd
    rw [int1_ok hi] at rb
    unfold rng at hds
    split at hds
    · rename_i z
      cases hds
      refine ⟨i, rb.int, ⟨z.1, z.2.1, z.2.2.1, z.2.2.2.1, ?_⟩, fun p n => give_tup e1 q1 ?_ (rgV_rep _ i rfl) n⟩
      · exact z.2.2.2.2
      · rw [List.length_map, List.length_range]
        exact z.2.2.2.2
    · cases hds
  · cases h
theorem good_rng2 (ha : GoodE T G K EX c a) (hb : GoodE T G K EX c b) : GoodI T G K EX c (.rng2 a b) := by
  intro S X W tp tg e O tk ht h
  simp only [chkI] at h
  split at h
  · rename_i x p y y2 pos
    simp only [Bool.and_eq_true, decide_eq_true_eq] at h
    obtain ⟨rfl, h2, h3, h4⟩ := h
    obtain ⟨g1, g2, _, _⟩ := free_ok O h2
    have st2 := star_of (chk_form h4).1 [] X.env
    refine PI.imp (pi_range2 g1 g2 (pa_cons (ha S X W y O tk h3) (pa_cons (hb S X W y2 O tk h4) pa_nil st2) (star_of (chk_form h3).1 _ _)) (by rw [star_of (chk_form h3).1, st2]; rfl) st2) fun σ H Q q => ?_
    obtain ⟨I, env, e, q⟩ := q
    simp only [evalI] at q
    refine ⟨I, env, e, tAt.mono (tAt.bind (P1 := PArg K) old_it q) fun x H1 ⟨r, env1, I1, e1, s1, p1, q1⟩ => ?_⟩
    refine ⟨I1, env1, e1, tAt.mono (tAt.bind (P1 := PArg K) old_it q1) fun x2 H2 ⟨r2, env2, I2, e2, s2, p2, q1⟩ => ?_⟩
    obtain ⟨d, hd, q1⟩ := tAt.calc (see_nx r env2) q1
    obtain ⟨d2, hd2, q1⟩ := tAt.calc (see_nx r2 env2) q1
    obtain ⟨i, hi, q1⟩ := tAt.calc (int1_nx d) q1
    obtain ⟨i2, hi2, q1⟩ := tAt.calc (int1_nx d2) q1
    obtain ⟨ds, hds, q1⟩ := tAt.calc (rng_nx i i2) q1
    have rb := see_rep e2 (p1.1.step s2) hd
    have rb2 := see_rep e2 p2.1 hd2
    rw [int1_ok hi] at rb
    rw [int1_ok hi2] at rb2
    unfold rng at hds
    split at hds
    · rename_i z
      cases hds
      refine ⟨i, i2, by rw [rb.int, rb2.int], ⟨z.1, z.2.1, z.2.2.1, z.2.2.2.1⟩, tAt.done (P1 := PIt K) q1 e2 .refl ⟨it_rng, ?_⟩⟩
      rw [List.length_map, List.length_range]
      exact z.2.2.2.2
    · cases hds
  · cases h
theorem good_enm (ha : GoodE T G K EX c a) : GoodI T G K EX c (.enm a) := by
  intro S X W tp tg e O tk ht h
  simp only [chkI] at h
  split at h
  · rename_i x p y pos
    simp only [Bool.and_eq_true, decide_eq_true_eq] at h
    obtain ⟨h0, rfl, h2, h3⟩ := h
    obtain ⟨elts, kk, tpos, rfl⟩ := ht h0
    obtain ⟨g1, g2, _, _⟩ := free_ok O h2
    refine PI.imp (pi_enm g1 g2 (pa_cons (ha S X W y O tk h3) pa_nil (star_of (chk_form h3).1 _ _)) (star_of (chk_form h3).1 _ _)) fun σ H Q q => ?_
    have q := frz_tR (P := PIt K) old_it (k := fun p => seqOf p.1 >>= fun ds => pure (enumF 0 ds, p.2)) (by unfold tR at q ⊢; simp only [evalI] at q; exact q)
    obtain ⟨I, env, e, q⟩ := q
    refine ⟨I, env, e, tAt.mono q fun x H1 ⟨d, I1, env1, e1, rp, q1⟩ => ?_⟩
    obtain ⟨ds, hds, q1⟩ := tAt.calc (seqOf_nx d) q1
    rw [O.kk]
    cases rp with
    | lst s z r =>
      cases hds
      exact ⟨_, _, rfl, .inl ⟨SqL.of (e1.le _ _ s), tAt.done (P1 := PIt K) q1 e1 .refl ⟨it_enml s r, by rw [enumF_len]; exact z⟩⟩⟩
    | tup s z r =>
      cases hds
      exact ⟨_, _, rfl, .inr ⟨sqT_le e1.le s, tAt.done (P1 := PIt K) q1 e1 .refl ⟨it_enmt s r, by rw [enumF_len]; exact z⟩⟩⟩
    | _ => cases hds
  · cases h
theorem good_zip (ha : GoodE T G K EX c a) (hb : GoodE T G K EX c b) : GoodI T G K EX c (.zip a b) := by
  intro S X W tp tg e O tk ht h
  simp only [chkI] at h
  split at h
  · rename_i x p y y2 pos
    simp only [Bool.and_eq_true, decide_eq_true_eq] at h
    obtain ⟨h0, rfl, h2, h3, h4⟩ := h
    obtain ⟨elts, kk, tpos, rfl⟩ := ht h0
    obtain ⟨g1, g2, _, _⟩ := free_ok O h2
    have st2 := star_of (chk_form h4).1 [] X.env
    refine PI.imp (RZ.pi_zipA g1 g2 (pa_cons (ha S X W y O tk h3) (pa_cons (hb S X W y2 O tk h4) pa_nil st2) (star_of (chk_form h3).1 _ _)) (star_of (chk_form h3).1 _ _) (by rw [st2]; rfl)) fun σ H Q q => ?_
    have q := frz_tR (P := PIt K) old_it (k := fun p => frzR (evalE c b p.2) >>= fun p2 => zip2 p.1 p2.1 >>= fun ds => pure (ds, p2.2)) (by unfold tR at q ⊢; simp only [evalI] at q; exact q)
    obtain ⟨I, env, e, q⟩ := q
    refine ⟨I, env, e, tAt.mono q fun x H1 ⟨d, I1, env1, e1, rp, q1⟩ => ?_⟩
    refine ⟨I1, env1, e1, tAt.mono (frz_tAt old_it e1 q1) fun x2 H2 ⟨d2, I2, env2, e2, s2, rp2, q2⟩ => ?_⟩
    obtain ⟨ds, hds, q2⟩ := tAt.calc (zip2_nx d d2) q2
    have rp := rp.le s2.ile
    rw [O.kk]
    cases rp with
    | lst s z r =>
      cases rp2 with
      | lst s' z' r' =>
        cases hds
        exact ⟨_, _, _, _, rfl, .inl ⟨SqL.of (e2.le _ _ s), SqL.of (e2.le _ _ s'), tAt.done (P1 := PIt K) q2 e2 .refl ⟨it_zipl s r s' r', by rw [zipF_len]; exact Nat.le_trans (Nat.min_le_left _ _) z⟩⟩⟩
      | _ => cases hds
    | tup s z r =>
      cases rp2 with
      | tup s' z' r' =>
        cases hds
        exact ⟨_, _, _, _, rfl, .inr ⟨sqT_le e2.le s, sqT_le e2.le s', tAt.done (P1 := PIt K) q2 e2 .refl ⟨it_zipt s r s' r', by rw [zipF_len]; exact Nat.le_trans (Nat.min_le_left _ _) z⟩⟩⟩
      | _ => cases hds
    | _ => cases hds
  · cases h
end
end Mi

set_option Elab.async false
set_option linter.all false
set_option maxRecDepth 100000
set_option maxHeartbeats 1000000
/-! Mi, part L: targets, comprehensions. -/
namespace Mi
open L2 PySem PySem.Spec PyProof.Rows
section
variable {T : Tab} {G : Glo} {K : PySem.W.Frag} {EX : EXT} {c : Cl} {W : WX} {lk : Option Nat} {σ σ' : L2.St} {H H' I I' : Hp} {env env' : Env}
/-! ### targets -/
theorem get_put_at (e : Env) (i j : Nat) (s : Slot) : Mi.get (put e i s) j = if j = i ∧ i < e.length then s else Mi.get e j := by
  by_cases h : i < e.length
  · rw [get_put' h]
    by_cases z : j = i
    · rw [if_pos z, if_pos ⟨z, h⟩]
    · rw [if_neg z, if_neg (fun q => z q.1)]
  · rw [if_neg (fun q => h q.2)]
    have : ∀ (e : Env) (i : Nat), ¬ i < e.length → put e i s = e := by
      intro e
      induction e with
      | nil => intro i _; rfl
      | cons a r ih =>
        intro i hi
        cases i with
        | zero => exact absurd (Nat.zero_lt_succ _) hi
        | succ n =>
          show a :: put r n s = a :: r
          rw [ih n (fun q => hi (Nat.succ_lt_succ q))]
    rw [this e i h]
theorem own_put_val {i : Nat} {d : PyData} {v : V} {a : Addr} (h : Owned (σ.set i (some v)) (put env i (.val d)) a) (hl : env.length = σ.length) : Owned σ env a := by
  obtain ⟨j, h1, h2⟩ := h
  rw [get_put_at] at h1
  by_cases hj : j = i ∧ i < env.length
  · rw [if_pos hj] at h1
    cases h1
  · rw [if_neg hj] at h1
    by_cases z : i = j
    · subst z
      have hlt : ¬ i < env.length := fun q => hj ⟨rfl, q⟩
      have : i < env.length := get_lt env i fun q => by
        rw [q] at h1
        cases h1
      exact absurd this hlt
    · rw [List.getElem?_set_ne z] at h2
      exact ⟨j, h1, h2⟩
theorem put_val {i : Nat} {d : PyData} {v : V} (e : EnvOk K σ H I env) (r : Rep K I d v) (hi : i < env.length) (hk : lk ≠ some i) : EnvOk K (σ.set i (some v)) H I (put env i (.val d)) ∧ SStep lk σ H I env (σ.set i (some v)) H I (put env i (.val d)) := by
  have other : ∀ {j : Nat} {s : Slot}, j ≠ i → Mi.get (put env i (.val d)) j = s → Mi.get env j = s := fun {j s} h q => by
    rw [get_put' hi, if_neg h] at q
    exact q
  have hσ : i < σ.length := by rw [← e.len]; exact hi
  have isv : ∀ {j : Nat}, (Mi.get (put env i (.val d)) j).own = true → j ≠ i := fun {j} q z => by
    rw [z, get_put' hi, if_pos rfl] at q
    cases q
  refine ⟨⟨e.le, by rw [put_length, List.length_set]; exact e.len, fun j d' q => ?_, fun j ds q => ?_, fun j kvs q => ?_, fun j k a hj hk' q1 q2 => ?_⟩, ⟨Le.refl _, fun _ _ h _ => h, fun _ h => .inl h, fun a h => .inl (own_put_val h e.len), fun _ h => h, fun k h => ?_, List.length_set⟩⟩
  · by_cases z : j = i
    · subst z
      rw [get_put' hi, if_pos rfl] at q
      cases q
      exact ⟨v, List.getElem?_set_self hσ, r⟩
    · obtain ⟨x, h1, h2⟩ := e.val j d' (other z q)
      exact ⟨x, by rw [List.getElem?_set_ne (Ne.symm z)]; exact h1, h2⟩
  · have z : j ≠ i := isv (by rw [q]; rfl)
    obtain ⟨a, vs, h1, h2⟩ := e.lst j ds (other z q)
    exact ⟨a, vs, by rw [List.getElem?_set_ne (Ne.symm z)]; exact h1, h2⟩
  · have z : j ≠ i := isv (by rw [q]; rfl)
    obtain ⟨a, h1, h2⟩ := e.dct j kvs (other z q)
    exact ⟨a, by rw [List.getElem?_set_ne (Ne.symm z)]; exact h1, h2⟩
  · have z1 := isv hj
    have z2 := isv hk'
    rw [get_put' hi, if_neg z1] at hj
    rw [get_put' hi, if_neg z2] at hk'
    rw [List.getElem?_set_ne (Ne.symm z1)] at q1
    rw [List.getElem?_set_ne (Ne.symm z2)] at q2
    exact e.sep j k a hj hk' q1 q2
  · rw [List.getElem?_set_ne]
    rintro rfl
    exact hk h
def tG (K : PySem.W.Frag) (lk : Option Nat) (ss : List Nat) (f : PyData → Env → R Env) : TG := fun v σ H Q => ∃ I env d env', EnvOk K σ H I env ∧ Rep K I d v ∧ f d env = .ok env' ∧
  ∀ σ', EnvOk K σ' H I env' → SStep lk σ H I env σ' H I env' → (∀ j, j ∉ ss → σ'[j]? = σ[j]?) → Q σ' H
def tGs (K : PySem.W.Frag) (lk : Option Nat) (ss : List Nat) (f : List PyData → Env → R Env) : TGs := fun vs σ H Q => ∃ I env ds env', EnvOk K σ H I env ∧ RepL K I ds vs ∧ f ds env = .ok env' ∧
  ∀ σ', EnvOk K σ' H I env' → SStep lk σ H I env σ' H I env' → (∀ j, j ∉ ss → σ'[j]? = σ[j]?) → Q σ' H
theorem PG.imp {X : Cx} {e : Expr} {t t' : TG} (h : PG X e t) (m : ∀ v σ H Q, t' v σ H Q → t v σ H Q) : PG X e t' := ⟨fun pins s σ H v u Q I r q => h.run pins s σ H v u Q I r (m v σ H Q q)⟩
theorem PGs.imp {X : Cx} {e : List Expr} {t t' : TGs} (h : PGs X e t) (m : ∀ v σ H Q, t' v σ H Q → t v σ H Q) : PGs X e t' := ⟨fun pins s σ H v u Q I r q => h.run pins s σ H v u Q I r (m v σ H Q q)⟩
theorem each_of {S : Sc} {t : MT} {e : Expr} (h : chkT S t e = true) (es : List Expr) (env : PySem.Env) : assignEach (e :: es) env = (false, assign e env) :: assignEach es env := by
  cases e <;> first | rfl | (cases t <;> (simp only [chkT] at h; cases h))
theorem eachs_of {S : Sc} : ∀ {ts : MTs} {es : List Expr} (env : PySem.Env), chkTs S ts es = true → (assignEach es env).length = es.length ∧ (assignEach es env).findIdx? (·.1) = none
  | .nil, es, env, h => by
    simp only [chkTs, List.isEmpty_iff] at h
    subst h
    exact ⟨rfl, rfl⟩
  | .cons t r, [], env, h => by
    simp only [chkTs] at h
    cases h
  | .cons t r, e :: es, env, h => by
    simp only [chkTs, Bool.and_eq_true] at h
    obtain ⟨h1, h2⟩ := eachs_of env h.2
    rw [each_of h.1]
    refine ⟨by rw [List.length_cons, h1, List.length_cons], ?_⟩
    rw [List.findIdx?_cons]
    simp only [Bool.false_eq_true, if_false, h2]
    rfl
theorem loc_ok {S : Sc} {X : Cx} {i : Nat} {x : Str} (O : OkX T G K EX c S X) (h : locB S i x = true) : X.N[i]? = some x ∧ S.lk ≠ some i ∧ Loc X.env.scope x ∧ (X.fn x = true ∨ X.env.scope.names.lookup x = some .local) := by
  unfold locB at h
  simp only [Bool.and_eq_true, decide_eq_true_eq] at h
  obtain ⟨h1, h2, h3⟩ := h
  refine ⟨by rw [O.N]; exact h1, h2, ?_⟩
  rw [O.sc]
  cases q : S.sc.names.lookup x with
  | none =>
    rw [q] at h3
    cases h3
  | some k =>
    rw [q] at h3
    cases k <;> first
      | exact ⟨.inl q, .inr rfl⟩
      | exact ⟨.inr q, .inl (O.wr x (by simpa using h3))⟩
      | cases h3
mutual
theorem good_t {S : Sc} {X : Cx} (O : OkX T G K EX c S X) : ∀ {t : MT} {e : Expr}, chkT S t e = true → PG X e (tG K S.lk (slotsT t) (putT t))
  | .nm i, e, h => by
    cases e with
    | Name x p =>
      simp only [chkT] at h
      obtain ⟨h1, h2, h3, h4⟩ := loc_ok O h
      refine PG.imp (pg_name (by rw [O.N]; exact O.nd) h1 h3 h4) fun v σ H Q q => ?_
      obtain ⟨I, env, d, env', e, r, hp, q⟩ := q
      simp only [putT] at hp
      split at hp
      · rename_i hi
        cases hp
        obtain ⟨e', s'⟩ := put_val (lk := S.lk) e r hi h2
        exact q _ e' s' fun j hj => List.getElem?_set_ne (fun z => hj (by rw [slotsT, z]; exact List.mem_singleton.mpr rfl))
      · cases hp
    | _ => simp only [chkT] at h; cases h
  | .tp ts, e, h => by
    cases e with
    | Tuple es k p =>
      simp only [chkT] at h
      obtain ⟨h1, h2⟩ := eachs_of X.env h
      refine PG.imp (pg_tup O.calm (good_ts O h) h1 h2) fun v σ H Q q => ?_
      obtain ⟨I, env, d, env', e, r, hp, q⟩ := q
      cases r with
      | tup s z r =>
        simp only [putT] at hp
        refine ⟨_, _, rfl, by rw [O.kk]; exact sqT_le e.le s, ?_, I, env, _, env', e, r, hp, q⟩
        rw [← r.length]
        exact putTs_len h hp
      | _ => simp only [putT] at hp; cases hp
    | _ => simp only [chkT] at h; cases h
theorem good_ts {S : Sc} {X : Cx} (O : OkX T G K EX c S X) : ∀ {ts : MTs} {es : List Expr}, chkTs S ts es = true → PGs X es (tGs K S.lk (slotsTs ts) (putTs ts))
  | .nil, es, h => by
    simp only [chkTs, List.isEmpty_iff] at h
    subst h
    refine PGs.imp pgs_nil fun v σ H Q q => ?_
    obtain ⟨I, env, ds, env', e, r, hp, q⟩ := q
    cases r with
    | nil =>
      simp only [putTs] at hp
      cases hp
      exact ⟨rfl, q σ e .refl fun _ _ => rfl⟩
    | cons r s => simp only [putTs] at hp; cases hp
  | .cons t r, [], h => by
    simp only [chkTs] at h
    cases h
  | .cons t r, e :: es, h => by
    simp only [chkTs, Bool.and_eq_true] at h
    refine PGs.imp (pgs_cons (good_t O h.1) (good_ts O h.2) (by rw [each_of h.1]; rfl)) fun v σ H Q q => ?_
    obtain ⟨I, env, ds, env', e, rl, hp, q⟩ := q
    cases rl with
    | nil => simp only [putTs] at hp; cases hp
    | cons r1 r2 =>
      simp only [putTs] at hp
      obtain ⟨env1, g1, g2⟩ := bind_ok hp
      refine ⟨_, _, rfl, I, env, _, env1, e, r1, g1, fun σ1 e1 s1 k1 => ⟨I, env1, _, env', e1, r2, g2, fun σ2 e2 s2 k2 => q σ2 e2 (s1.trans s2) fun j hj => ?_⟩⟩
      rw [slotsTs, List.mem_append] at hj
      rw [k2 j (fun z => hj (.inr z)), k1 j (fun z => hj (.inl z))]
theorem putTs_len {S : Sc} : ∀ {ts : MTs} {es : List Expr} {ds : List PyData} {env env' : Env}, chkTs S ts es = true → putTs ts ds env = .ok env' → ds.length = es.length
  | .nil, es, ds, env, env', h, q => by
    simp only [chkTs, List.isEmpty_iff] at h
    subst h
    cases ds with
    | nil => rfl
    | cons d r => simp only [putTs] at q; cases q
  | .cons t r, [], ds, env, env', h, q => by
    simp only [chkTs] at h
    cases h
  | .cons t r, e :: es, ds, env, env', h, q => by
    simp only [chkTs, Bool.and_eq_true] at h
    cases ds with
    | nil => simp only [putTs] at q; cases q
    | cons d r =>
      simp only [putTs] at q
      obtain ⟨env1, g1, g2⟩ := bind_ok q
      rw [List.length_cons, List.length_cons, putTs_len h.2 g2]
end
mutual
theorem putT_nx : ∀ (t : MT) (d : PyData) (env : Env), Nx (putT t d env)
  | .nm i, d, env => by
    simp only [putT]
    exact nx_ite nx_ok nx_stk
  | .tp ts, d, env => by
    cases d with
    | tuple ds =>
      simp only [putT]
      exact putTs_nx ts ds env
    | _ => simp only [putT]; exact nx_stk
theorem putTs_nx : ∀ (t : MTs) (d : List PyData) (env : Env), Nx (putTs t d env)
  | .nil, [], env => by
    simp only [putTs]
    exact nx_ok
  | .nil, _ :: _, env => by simp only [putTs]; exact nx_stk
  | .cons t r, [], env => by simp only [putTs]; exact nx_stk
  | .cons t r, d :: ds, env => by
    simp only [putTs]
    exact nx_bind (putT_nx t d env) fun e => putTs_nx r ds e
end
mutual
theorem putT_len : ∀ {t : MT} {d : PyData} {env env' : Env}, putT t d env = .ok env' → env'.length = env.length
  | .nm i, d, env, env', h => by
    simp only [putT] at h
    split at h
    · cases h
      exact put_length _ _ _
    · cases h
  | .tp ts, d, env, env', h => by
    cases d with
    | tuple ds =>
      simp only [putT] at h
      exact putTs_length h
    | _ => simp only [putT] at h; cases h
theorem putTs_length : ∀ {t : MTs} {d : List PyData} {env env' : Env}, putTs t d env = .ok env' → env'.length = env.length
  | .nil, [], env, env', h => by
    simp only [putTs] at h
    cases h
    rfl
  | .nil, _ :: _, env, env', h => by simp only [putTs] at h; cases h
  | .cons t r, [], env, env', h => by simp only [putTs] at h; cases h
  | .cons t r, d :: ds, env, env', h => by
    simp only [putTs] at h
    obtain ⟨env1, g1, g2⟩ := bind_ok h
    rw [putTs_length g2, putT_len g1]
end
end
end Mi

set_option Elab.async false
set_option linter.all false
set_option maxRecDepth 100000
set_option maxHeartbeats 1000000
/-! Mi, part M: list comprehensions. -/
namespace Mi
open L2 PySem PySem.Spec PyProof.Rows
section
variable {T : Tab} {G : Glo} {K : PySem.W.Frag} {EX : EXT} {c : Cl} {W : WX} {lk : Option Nat} {σ σ' : L2.St} {H H' I I' : Hp} {env env' : Env}

/-! ### the block's names -/
theorem wipeE_length (env : Env) : ∀ vs : List Nat, (wipeE env vs).length = env.length
  | [] => rfl
  | v :: vs => by
    unfold wipeE
    rw [put_length, wipeE_length env vs]
theorem wipeE_in : ∀ {vs : List Nat} {i : Nat}, i ∈ vs → Mi.get (wipeE env vs) i = .emp
  | [], i, h => nomatch h
  | v :: vs, i, h => by
    unfold wipeE
    rw [get_put_at]
    by_cases q : i = v ∧ v < (wipeE env vs).length
    · rw [if_pos q]
    · rw [if_neg q]
      by_cases z : i = v
      · cases e : Mi.get (wipeE env vs) i with
        | emp => rfl
        | _ =>
          have := get_lt (wipeE env vs) i (by rw [e]; intro z; cases z)
          exact absurd ⟨z, by rw [← z]; exact this⟩ q
      · rcases List.mem_cons.mp h with h | h
        · exact absurd h z
        · exact wipeE_in h
theorem wipeE_out : ∀ {vs : List Nat} {i : Nat}, i ∉ vs → Mi.get (wipeE env vs) i = Mi.get env i
  | [], i, h => rfl
  | v :: vs, i, h => by
    unfold wipeE
    rw [get_put_at, if_neg (fun q => h (by rw [q.1]; exact List.mem_cons_self))]
    exact wipeE_out fun z => h (List.mem_cons_of_mem _ z)
theorem backE_length (old env : Env) : ∀ vs : List Nat, (backE old env vs).length = env.length
  | [] => rfl
  | v :: vs => by
    unfold backE
    rw [put_length, backE_length old env vs]
theorem backE_in {old : Env} (hl : old.length = env.length) : ∀ {vs : List Nat} {i : Nat}, i ∈ vs → Mi.get (backE old env vs) i = Mi.get old i
  | [], i, h => nomatch h
  | v :: vs, i, h => by
    unfold backE
    rw [get_put_at]
    by_cases q : i = v ∧ v < (backE old env vs).length
    · rw [if_pos q, q.1]
    · rw [if_neg q]
      by_cases z : i = v
      · have ge : ¬ i < env.length := fun y => q ⟨z, by rw [backE_length, ← z]; exact y⟩
        have e1 : Mi.get (backE old env vs) i = .emp := by
          cases e : Mi.get (backE old env vs) i with
          | emp => rfl
          | _ =>
            have := get_lt (backE old env vs) i (by rw [e]; intro z; cases z)
            rw [backE_length] at this
            exact absurd this ge
        have e2 : Mi.get old i = .emp := by
          cases e : Mi.get old i with
          | emp => rfl
          | _ =>
            have := get_lt old i (by rw [e]; intro z; cases z)
            rw [hl] at this
            exact absurd this ge
        rw [e1, e2]
      · rcases List.mem_cons.mp h with h | h
        · exact absurd h z
        · exact backE_in hl h
theorem backE_out {old : Env} : ∀ {vs : List Nat} {i : Nat}, i ∉ vs → Mi.get (backE old env vs) i = Mi.get env i
  | [], i, h => rfl
  | v :: vs, i, h => by
    unfold backE
    rw [get_put_at, if_neg (fun q => h (by rw [q.1]; exact List.mem_cons_self))]
    exact backE_out fun z => h (List.mem_cons_of_mem _ z)
theorem noOwn_at {vs : List Nat} (h : noOwn env vs = true) {i : Nat} (hi : i ∈ vs) : (Mi.get env i).own = false := by
  unfold noOwn at h
  rw [List.all_eq_true] at h
  simpa using h i hi
theorem not_in_wipe {vs : List Nat} {i : Nat} {s : Slot} (h : Mi.get (wipeE env vs) i = s) (n : s ≠ .emp) : i ∉ vs ∧ Mi.get env i = s := by
  by_cases z : i ∈ vs
  · rw [wipeE_in z] at h
    exact absurd h.symm n
  · rw [wipeE_out z] at h
    exact ⟨z, h⟩
theorem own_ne {s : Slot} (h : s.own = true) : s ≠ .emp := by
  rintro rfl
  cases h
theorem wipe_own {vs : List Nat} {a : Addr} (h : Owned (wipe σ vs) (wipeE env vs) a) : Owned σ env a := by
  obtain ⟨i, h1, h2⟩ := h
  obtain ⟨z, e⟩ := not_in_wipe rfl (own_ne h1)
  rw [← e] at h1
  rw [wipe_out z] at h2
  exact ⟨i, h1, h2⟩
theorem wipe_ok {vs : List Nat} (hk : ∀ v ∈ vs, lk ≠ some v) (e : EnvOk K σ H I env) : EnvOk K (wipe σ vs) H I (wipeE env vs) ∧ SStep lk σ H I env (wipe σ vs) H I (wipeE env vs) := by
  refine ⟨⟨e.le, by rw [wipe_length, wipeE_length]; exact e.len, fun j d q => ?_, fun j ds q => ?_, fun j kvs q => ?_, fun i j a hi hj q1 q2 => ?_⟩, ⟨Le.refl _, fun _ _ h _ => h, fun _ h => .inl h, fun a h => .inl (wipe_own h), fun _ h => h, fun k h => wipe_out fun z => hk k z h, wipe_length _ _⟩⟩
  · obtain ⟨z, q⟩ := not_in_wipe q (by intro z; cases z)
    rw [wipe_out z]
    exact e.val j d q
  · obtain ⟨z, q⟩ := not_in_wipe q (by intro z; cases z)
    rw [wipe_out z]
    exact e.lst j ds q
  · obtain ⟨z, q⟩ := not_in_wipe q (by intro z; cases z)
    rw [wipe_out z]
    exact e.dct j kvs q
  · obtain ⟨z1, e1⟩ := not_in_wipe rfl (own_ne hi)
    obtain ⟨z2, e2⟩ := not_in_wipe rfl (own_ne hj)
    rw [← e1] at hi
    rw [← e2] at hj
    rw [wipe_out z1] at q1
    rw [wipe_out z2] at q2
    exact e.sep i j a hi hj q1 q2
/-- behind the block -/
theorem back_ok {vs : List Nat} {H0 I0 : Hp} {env0 : Env} (hk : ∀ v ∈ vs, lk ≠ some v) (e0 : EnvOk K σ H0 I0 env0) (le : Le I0 I) (no : noOwn env0 vs = true) (e : EnvOk K (wipe σ vs) H I env) :
    EnvOk K σ H I (backE env0 env vs) ∧ SStep lk (wipe σ vs) H I env σ H I (backE env0 env vs) := by
  have hl : env0.length = env.length := by rw [e0.len, e.len, wipe_length]
  have out : ∀ {i : Nat}, (Mi.get (backE env0 env vs) i).own = true → i ∉ vs := fun {i} q z => by
    rw [backE_in hl z, noOwn_at no z] at q
    cases q
  refine ⟨⟨e.le, by rw [backE_length, e.len, wipe_length], fun j d q => ?_, fun j ds q => ?_, fun j kvs q => ?_, fun i j a hi hj q1 q2 => ?_⟩, ⟨Le.refl _, fun _ _ h _ => h, fun _ h => .inl h, fun a h => .inl ?_, fun _ h => h, fun k h => (wipe_out fun z => hk k z h).symm, (wipe_length _ _).symm⟩⟩
  · by_cases z : j ∈ vs
    · rw [backE_in hl z] at q
      obtain ⟨x, h1, h2⟩ := e0.val j d q
      exact ⟨x, h1, h2.le le⟩
    · rw [backE_out z] at q
      have := e.val j d q
      rw [wipe_out z] at this
      exact this
  · have z := out (i := j) (by rw [q]; rfl)
    rw [backE_out z] at q
    have := e.lst j ds q
    rw [wipe_out z] at this
    exact this
  · have z := out (i := j) (by rw [q]; rfl)
    rw [backE_out z] at q
    have := e.dct j kvs q
    rw [wipe_out z] at this
    exact this
  · have z1 := out hi
    have z2 := out hj
    rw [backE_out z1] at hi
    rw [backE_out z2] at hj
    rw [← wipe_out z1] at q1
    rw [← wipe_out z2] at q2
    exact e.sep i j a hi hj q1 q2
  · obtain ⟨i, h1, h2⟩ := h
    have z := out h1
    rw [backE_out z] at h1
    rw [← wipe_out z] at h2
    exact ⟨i, h1, h2⟩
theorem wipe_in {vs : List Nat} : ∀ {i : Nat}, i ∈ vs → (wipe σ vs)[i]? = if i < σ.length then some none else none := by
  induction vs with
  | nil => intro i h; cases h
  | cons v vs ih =>
    intro i h
    unfold wipe
    by_cases z : v = i
    · subst z
      rw [List.getElem?_set, if_pos rfl, wipe_length]
    · rw [List.getElem?_set_ne z]
      rcases List.mem_cons.mp h with h | h
      · exact absurd h.symm z
      · exact ih h
theorem wipe_eq {vs : List Nat} (hl : σ'.length = σ.length) (h : ∀ j, j ∉ vs → σ'[j]? = σ[j]?) : wipe σ' vs = wipe σ vs := by
  apply List.ext_getElem?
  intro i
  by_cases z : i ∈ vs
  · rw [wipe_in z, wipe_in z, hl]
  · rw [wipe_out z, wipe_out z, h i z]
theorem wipe_idem {vs : List Nat} : wipe (wipe σ vs) vs = wipe σ vs := wipe_eq (wipe_length _ _) fun _ h => wipe_out h

/-! ### the list that grows -/
theorem stepL {ds : List PyData} {x : V} (h : ArgOk K σ H I env (.lst ds) x) (s : SStep lk σ H I env σ' H' I' env') : ArgOk K σ' H' I' env' (.lst ds) x := by
  obtain ⟨a, vs, rfl, e, n, l, r, w⟩ := h
  have h1 : H a ≠ none := by rw [e]; simp
  refine ⟨a, vs, rfl, s.keep a _ e w, ?_, l, r.le s.ile, fun q => ?_⟩
  · cases z : I' a with
    | none => rfl
    | some o =>
      rcases s.new a (by rw [z]; simp) with q | q | q
      · exact absurd n q
      · exact absurd q h1
      · exact absurd q w
  · rcases s.own a q with y | y
    · exact w y
    · exact h1 y
theorem set_other {p : Addr} {o : HO} (e : EnvOk K σ H I env) (h1 : I p = none) (h2 : ¬ Owned σ env p) : EnvOk K σ (upd H p o) I env := by
  refine ⟨fun b u q => ?_, e.len, e.val, fun i ds q => ?_, fun i kvs q => ?_, e.sep⟩
  · rw [upd_ne (ne_of_none q h1)]
    exact e.le b u q
  · obtain ⟨a, vs, g1, g2, g3⟩ := e.lst i ds q
    have : a ≠ p := fun z => h2 ⟨i, by rw [q]; rfl, by rw [← z]; exact g1⟩
    exact ⟨a, vs, g1, by rw [upd_ne this]; exact g2, g3⟩
  · obtain ⟨a, g1, g2, g3⟩ := e.dct i kvs q
    have : a ≠ p := fun z => h2 ⟨i, by rw [q]; rfl, by rw [← z]; exact g1⟩
    exact ⟨a, g1, g2, by rw [upd_ne this]; exact g3⟩
theorem step_other {H0 I0 : Hp} {σ0 : L2.St} {env0 : Env} {p : Addr} {o : HO} (s : SStep lk σ0 H0 I0 env0 σ H I env) (n : H0 p = none) : SStep lk σ0 H0 I0 env0 σ (upd H p o) I env := by
  refine ⟨s.ile, fun a u q w => ?_, s.new, s.own, fun a q => ?_, s.lkk, s.len⟩
  · rw [upd_ne (ne_of_none q n)]
    exact s.keep a u q w
  · have : a ≠ p := fun z => q (by rw [z]; exact n)
    rw [upd_ne this]
    exact s.alive a q
theorem it_yld {J : It} {ds : List PyData} {I0 : Hp} {i : Nat} {x : V} {d : PyData} (t : ItOk K I0 J ds) (e : EnvOk K σ H I env) (le : Le I0 I) (hd : ds[i]? = some d) (y : J.yld i H x H') :
    ∃ I', EnvOk K σ H' I' env ∧ SStep lk σ H I env σ H' I' env ∧ Rep K I' d x := by
  rcases t.yld i H I x H' d le e.le hd y with ⟨rfl, r⟩ | ⟨p, vs, es, n, rfl, rfl, rfl, z, r⟩
  · exact ⟨I, e, .refl, r⟩
  · have n' := no_fix n e
    have up : Le I (upd I p (.tup vs)) := fun b u q => by
      rw [upd_ne (ne_of_none q n')]
      exact q
    exact ⟨_, fix_upd n e, fix_step n e, .tup (SqT.of upd_same) z (r.le up)⟩
/-- a turn: the target takes the item, the test, the element -/
def condR (c : Cl) (cd : ME) (e : Env) : R (Bool × Env) := if cd.isNop then pure (true, e) else testE c cd e
def turn1 (c : Cl) (tg : MT) (vs : List Nat) (cd el : ME) (d : PyData) (e : Env) : R (Option PyData × Env) := do
  let e ← putT tg d e
  let (k, e) ← condR c cd e
  match k with
  | true => do
    let (y, e) ← frzR (evalE c el e)
    pure (some y, wipeE e vs)
  | false => pure (none, wipeE e vs)
def turn2 (c : Cl) (tg : MT) (vs : List Nat) (it1 : MI) (tg1 : MT) (vs1 : List Nat) (cd el : ME) (d : PyData) (e : Env) : R (List PyData × Env) := do
  let e ← putT tg d e
  let (ds1, e) ← evalI c it1 e
  let (r, e) ← lcL (turn1 c tg1 vs1 cd el) ds1 (wipeE e vs1)
  pure (r, wipeE e vs)
theorem evalE_lc {tg : MT} {vs : List Nat} {it : MI} {cd el : ME} : evalE c (.lc tg vs it cd el) env = evalI c it env >>= fun p => if noOwn p.2 vs then noX (lcL (turn1 c tg vs cd el) p.1 (wipeE p.2 vs)) >>= fun q => pure (.lst q.1, backE p.2 q.2 vs) else .stk := by
  simp only [evalE]
  rfl
theorem evalE_lc2 {tg tg1 : MT} {vs vs1 : List Nat} {it it1 : MI} {cd el : ME} : evalE c (.lc2 tg vs it tg1 vs1 it1 cd el) env = evalI c it env >>= fun p => if noOwn p.2 vs then noX (lcL2 (turn2 c tg vs it1 tg1 vs1 cd el) p.1 (wipeE p.2 vs)) >>= fun q => if q.1.length ≤ big then pure (.lst q.1, backE p.2 q.2 vs) else .stk else .stk := by
  simp only [evalE]
  rfl
def optC : Option PyData → List PyData → List PyData
  | some y, r => y :: r
  | none, r => r
def WF : WX := fun _ _ _ _ => False
def tC (K : PySem.W.Frag) (EX : EXT) (lk : Option Nat) (c : Cl) (cd : ME) : TT := if cd.isNop then tYes else tT K EX WF lk (testE c cd)
/-- the test, when it gives an answer -/
theorem tC_ok {cd : ME} {k : Bool} {Q : Bool → Hp → Prop} (e : EnvOk K σ H I env) (h : condR c cd env = .ok (k, env')) (q : ∀ H' I', EnvOk K σ H' I' env' → SStep lk σ H I env σ H' I' env' → Q k H') : tC K EX lk c cd σ H Q := by
  unfold tC
  unfold condR at h
  cases z : cd.isNop with
  | true =>
    rw [z] at h
    cases h
    rw [if_pos rfl]
    exact q H I e .refl
  | false =>
    rw [z] at h
    simp only [Bool.false_eq_true, if_false] at h ⊢
    refine ⟨I, env, e, ?_⟩
    rw [h]
    exact fun H' I' e' s' => q H' I' e' s'
/-- an expression, when it gives a value -/
theorem frz_val {el : ME} {y : PyData} {Q : V → Hp → Prop} (e : EnvOk K σ H I env) (h : frzR (evalE c el env) = .ok (y, env')) (q : ∀ x H' I', EnvOk K σ H' I' env' → SStep lk σ H I env σ H' I' env' → Rep K I' y x → Q x H') : tR K EX W lk (PArg K) (evalE c el) σ H Q := by
  obtain ⟨⟨r, env1⟩, h1, h2⟩ := bind_ok (show (evalE c el env >>= fun p => p.1.frz p.2) = .ok (y, env') from h)
  refine ⟨I, env, e, ?_⟩
  rw [h1]
  intro x H1 I1 e1 s1 p1
  obtain ⟨I2, e2, rp, s2⟩ := frz_step e1 s1 p1.1 p1.2 h2
  exact q x H1 I2 e2 s2 rp
theorem drop_cons {α : Type} {l : List α} {i : Nat} (h : i < l.length) : ∃ x, l[i]? = some x ∧ l.drop i = x :: l.drop (i + 1) := ⟨l[i], List.getElem?_eq_getElem h, List.drop_eq_getElem_cons h⟩
theorem loop1 {tg : MT} {vs : List Nat} {cd el : ME} {σ0 σs : L2.St} {H0 I0 Hs Is : Hp} {env0 envs envE : Env} {D : Addr} {acc rs ds : List PyData} {J : It} {Fin : Hp → Prop} (hk : ∀ v ∈ vs, lk ≠ some v) (hs : ∀ j ∈ slotsT tg, j ∈ vs) (idem : wipe σ0 vs = σ0)
    (e0 : EnvOk K σ0 H0 I0 env0) (s0 : SStep lk σs Hs Is envs σ0 H0 I0 env0) (hD : Hs D = none) (a0 : ArgOk K σ0 H0 I0 env0 (.lst acc) (.ref D)) (t : ItOk K I0 J ds) (h : lcL (turn1 c tg vs cd el) ds env0 = .ok (rs, envE)) (hb : (acc ++ rs).length ≤ big)
    (fin : ∀ H' I', EnvOk K σ0 H' I' envE → SStep lk σs Hs Is envs σ0 H' I' envE → ArgOk K σ0 H' I' envE (.lst (acc ++ rs)) (.ref D) → Fin H') :
    ∃ W : Nat → Nat → Hp → Prop, (∃ m, W 0 m H0) ∧ ∀ i m H, W i m H → (J.stop i H ∧ Fin H) ∨ (J.go i H ∧ ∃ Nx : Hp → Prop, (∀ H', Nx H' → ∃ m', m' < m ∧ W (i + 1) m' H') ∧ ∀ x H', J.yld i H x H' →
      tG K lk (slotsT tg) (putT tg) x σ0 H' fun σ2 H2 => wipe σ2 vs = σ0 ∧ tC K EX lk c cd σ2 H2 fun b H3 =>
        if b = true then tR K EX WF lk (PArg K) (evalE c el) σ2 H3 fun y H4 => ∃ acc, H4 D = some (.lst acc) ∧ acc.length < sizeLine ∧ Nx (upd H4 D (.lst (acc ++ [y]))) else Nx H3) := by
  refine ⟨fun i m H => m = ds.length - i ∧ i ≤ ds.length ∧ ∃ I env acc' rs', EnvOk K σ0 H I env ∧ SStep lk σs Hs Is envs σ0 H I env ∧ Le I0 I ∧ ArgOk K σ0 H I env (.lst acc') (.ref D) ∧ lcL (turn1 c tg vs cd el) (ds.drop i) env = .ok (rs', envE) ∧ acc' ++ rs' = acc ++ rs,
    ⟨ds.length, rfl, Nat.zero_le _, I0, env0, acc, rs, e0, s0, Le.refl _, a0, by rw [List.drop_zero]; exact h, rfl⟩, ?_⟩
  rintro i m H ⟨rfl, hi, I, env, acc', rs', e, s, le, ar, hl, hr⟩
  by_cases hlt : i < ds.length
  · obtain ⟨d, hd, hdr⟩ := drop_cons hlt
    rw [hdr] at hl
    simp only [lcL] at hl
    obtain ⟨⟨o, env1⟩, h1, h2⟩ := bind_ok hl
    obtain ⟨⟨rs2, envE'⟩, h3, h4⟩ := bind_ok h2
    have h5 : envE' = envE ∧ optC o rs2 = rs' := by
      cases o <;> (cases h4; exact ⟨rfl, rfl⟩)
    obtain ⟨rfl, h5⟩ := h5
    obtain ⟨env2, p1, p2⟩ := bind_ok h1
    obtain ⟨⟨k, env3⟩, p3, p4⟩ := bind_ok p2
    refine .inr ⟨t.go i H I le e.le hlt, fun H' => i + 1 ≤ ds.length ∧ ∃ I env acc' rs', EnvOk K σ0 H' I env ∧ SStep lk σs Hs Is envs σ0 H' I env ∧ Le I0 I ∧ ArgOk K σ0 H' I env (.lst acc') (.ref D) ∧ lcL (turn1 c tg vs cd el) (ds.drop (i + 1)) env = .ok (rs', envE') ∧ acc' ++ rs' = acc ++ rs,
      fun H' n => ⟨ds.length - (i + 1), by omega, rfl, n⟩, fun x H' y => ?_⟩
    obtain ⟨I1, e1, s1, r1⟩ := it_yld (lk := lk) t e le hd y
    refine ⟨I1, env, d, env2, e1, r1, p1, fun σ2 e2 s2 k2 => ?_⟩
    have w2 : wipe σ2 vs = σ0 := by
      rw [wipe_eq (σ := σ0) (by rw [← e2.len, ← e1.len]; exact putT_len p1) fun j hj => k2 j fun z => hj (hs j z), idem]
    refine ⟨w2, tC_ok (lk := lk) e2 p3 fun H3 I3 e3 s3 => ?_⟩
    have st3 := ((s.trans s1).trans s2).trans s3
    have ar3 := stepL (stepL (stepL ar s1) s2) s3
    have le3 : Le I0 I3 := le.trans ((s1.ile.trans s2.ile).trans s3.ile)
    cases k with
    | false =>
      simp only [Bool.false_eq_true, if_false]
      cases p4
      subst h5
      obtain ⟨e4, s4⟩ := wipe_ok hk e3
      rw [w2] at e4 s4
      exact ⟨hlt, I3, _, acc', rs2, e4, st3.trans s4, le3, stepL ar3 s4, h3, hr⟩
    | true =>
      simp only [if_true]
      obtain ⟨⟨y', env4⟩, p5, p6⟩ := bind_ok p4
      cases p6
      subst h5
      refine frz_val (lk := lk) e3 p5 fun yv H4 I4 e4 s4 ry => ?_
      obtain ⟨p, ws, q1, q2, q3, q4, q5, q6⟩ := stepL ar3 s4
      cases q1
      have hacc : acc'.length < big := by
        have q := hb
        rw [← hr, List.length_append] at q
        have q2 : (optC (some y') rs2).length = rs2.length + 1 := rfl
        omega
      obtain ⟨e5, s5⟩ := wipe_ok hk (set_other (o := .lst (ws ++ [yv])) e4 q3 q6)
      rw [w2] at e5 s5
      refine ⟨ws, q2, by rw [← big_eq, ← q5.length]; exact hacc, hlt, I4, _, acc' ++ [y'], rs2, e5, (step_other (st3.trans s4) hD).trans s5, le3.trans s4.ile, ⟨D, ws ++ [yv], rfl, upd_same, q3, ?_, q5.append (.cons ry .nil), fun z => q6 ?_⟩, h3, by rw [List.append_assoc]; exact hr⟩
      · rw [List.length_append]
        exact hacc
      · exact wipe_own (σ := σ2) (vs := vs) (by rw [w2]; exact z)
  · have hi' : i = ds.length := by omega
    subst hi'
    rw [List.drop_length] at hl
    cases hl
    rw [List.append_nil] at hr
    refine .inl ⟨t.stop _ H I le e.le (Nat.le_refl _), fin H I e s ?_⟩
    rw [← hr]
    exact ar
theorem optC_le (o : Option PyData) (r : List PyData) : (optC o r).length ≤ r.length + 1 := by
  cases o with
  | none => exact Nat.le_succ _
  | some y => exact Nat.le_refl _
theorem lcL_len {turn : PyData → Env → R (Option PyData × Env)} : ∀ {ds : List PyData} {env : Env} {rs : List PyData} {env' : Env}, lcL turn ds env = .ok (rs, env') → rs.length ≤ ds.length
  | [], env, rs, env', h => by
    cases h
    exact Nat.le_refl _
  | d :: ds, env, rs, env', h => by
    simp only [lcL] at h
    obtain ⟨⟨o, env1⟩, h1, h2⟩ := bind_ok h
    obtain ⟨⟨rs2, env2⟩, h3, h4⟩ := bind_ok h2
    have h5 : optC o rs2 = rs := by cases o <;> (cases h4; rfl)
    have := lcL_len h3
    have := optC_le o rs2
    rw [← h5, List.length_cons]
    omega
/-! ### the comprehension itself -/
theorem OkX.blk {S : Sc} {X : Cx} {scope : Scope} {own : List (Str × Nat)} (O : OkX T G K EX c S X) (ok : BlkOk X.N X.env.scope scope own) (s : Shared) (Hb : Hp) (C : Addr) (cl : List (Str × Addr)) (fp : List Addr) : OkX T G K EX c (S.blk scope) (X.blk s Hb scope (compEnvC scope cl C X.env) fp) where
  kk := O.kk
  N := O.N
  sc := by
    show relabel scope X.env = relS scope S.sc
    rw [← O.sc]
    rfl
  calm := O.calm
  grd := O.grd
  nd := O.nd
  free := O.free
  cst := O.cst
  wr := fun x hx => by
    obtain ⟨p, hp, rfl⟩ := List.mem_map.mp (show x ∈ (scope.names.filter fun p => p.2 == .cell).map (·.1) from hx)
    obtain ⟨h1, h2⟩ := List.mem_filter.mp hp
    show (scope.names.lookup p.1 == some .cell) = true
    rw [ok.uniq p h1]
    simpa using h2
  io := O.io
  top := fun h => nomatch (show false = true from h)
  ex := O.ex
  mke := O.mke
  isx := O.isx
  fns := O.fns
theorem takes_blk {X : Cx} {s : Shared} {Hb : Hp} {scope : Scope} {ce : PySem.Env} {fp : List Addr} : Takes (X.blk s Hb scope ce fp) WF := fun u s' ⟨a, B, sI, pins, σ, H, cls, d, e, I, nb, up, sky, na, os, ag, w⟩ => w
theorem own_snd (S : Sc) (vs : List Nat) : (ownOf S vs).map (·.2) = vs := by
  unfold ownOf
  rw [List.map_map]
  show vs.map id = vs
  exact List.map_id vs
theorem isTup_of {S : Sc} {t : MT} {e : Expr} (h : chkT S t e = true) (q : isTup t = true) : ∃ elts kk tpos, e = .Tuple elts kk tpos := by
  cases t with
  | nm i => cases q
  | tp ts =>
    cases e with
    | Tuple es k p => exact ⟨_, _, _, rfl⟩
    | _ => simp only [chkT] at h; cases h
theorem chkI_fold {tp : Bool} {m : MI} {S : Sc} {e : Expr} (h : chkI T G S m tp e = true) (env : PySem.Env) (x : Value) : foldedSetIterable e env x = pure x := by
  cases m with
  | seq a =>
    simp only [chkI] at h
    exact fold_of (chk_form h).2.1 env x
  | rng1 a => simp only [chkI] at h; split at h <;> first | rfl | cases h
  | rng2 a b => simp only [chkI] at h; split at h <;> first | rfl | cases h
  | enm a => simp only [chkI] at h; split at h <;> first | rfl | cases h
  | zip a b => simp only [chkI] at h; split at h <;> first | rfl | cases h
/-- from the evaluator to the loop -/
theorem lc_red {tg : MT} {vs : List Nat} {it : MI} {cd el : ME} {Q : V → Hp → Prop} (hk : ∀ v ∈ vs, lk ≠ some v) (hs : ∀ j ∈ slotsT tg, j ∈ vs) (q : tR K EX W lk (PArg K) (evalE c (.lc tg vs it cd el)) σ H Q) :
    tLc (tR K EX W lk (PIt K) (evalI c it)) (tG K lk (slotsT tg) (putT tg)) (tC K EX lk c cd) (tR K EX WF lk (PArg K) (evalE c el)) vs σ H Q := by
  obtain ⟨I, env, e, q⟩ := q
  rw [evalE_lc] at q
  refine ⟨I, env, e, tAt.mono (tAt.bind (P1 := PIt K) old_arg q) fun J H1 ⟨ds, env1, I1, e1, s1, ⟨t1, z1⟩, q1⟩ D hD => ?_⟩
  cases no : noOwn env1 vs with
  | false =>
    simp only [no, Bool.false_eq_true, if_false] at q1
    exact q1.elim
  | true =>
    simp only [no, if_true] at q1
    cases hL : lcL (turn1 c tg vs cd el) ds (wipeE env1 vs) with
    | exn k fs =>
      rw [hL] at q1
      exact (show False from q1).elim
    | stk =>
      rw [hL] at q1
      exact (show False from q1).elim
    | ok pr =>
      obtain ⟨rs, envE⟩ := pr
      rw [hL] at q1
      simp only [noX_ok, ok_bind, pure_ok] at q1
      have hlen : rs.length ≤ ds.length := lcL_len hL
      obtain ⟨e2, s2⟩ := wipe_ok hk e1
      exact loop1 (acc := []) (σs := wipe σ vs) (Hs := H1) (Is := I1) (envs := wipeE env1 vs) hk hs wipe_idem (own_upd (o := .lst []) hD e2) (step_upd hD) hD ⟨D, [], rfl, upd_same, no_fix hD e2, Nat.zero_le _, .nil, no_own hD e2⟩ t1 hL (by rw [List.nil_append]; exact Nat.le_trans hlen z1) fun H' I' e' s' a' => by
        obtain ⟨e3, s3⟩ := back_ok hk e1 s'.ile no e'
        have st := (s2.trans s').trans s3
        exact q1 _ _ _ e3 st ⟨stepL a' s3, fun a h => by cases h; exact hD⟩
theorem pts_of {X : Cx} {S : Sc} {cd : ME} {ifs : List Expr} (hc : GoodT T G K EX c cd) (O : OkX T G K EX c S X) (tk : Takes X WF) (h : (match ifs with
      | [] => cd.isNop
      | [c0] => !cd.isNop && chkE T G S cd c0
      | _ => false) = true) : PTs X ifs (tC K EX S.lk c cd) := by
  split at h
  · unfold tC
    rw [if_pos h]
    exact pts_nil
  · rename_i c0
    simp only [Bool.and_eq_true, Bool.not_eq_true'] at h
    unfold tC
    rw [h.1]
    simp only [Bool.false_eq_true, if_false]
    exact pts_one (hc S X WF c0 O tk h.2)
  · cases h
theorem good_lc {tg : MT} {vs : List Nat} {it : MI} {cd el : ME} (hi : GoodI T G K EX c it) (hc : GoodT T G K EX c cd) (he : GoodE T G K EX c el) : GoodE T G K EX c (.lc tg vs it cd el) := by
  intro S X W e O tk h
  simp only [chkE] at h
  split at h
  · rename_i x t i ifs scope pos
    simp only [Bool.and_eq_true, List.all_eq_true, decide_eq_true_eq] at h
    obtain ⟨h1, h2, h3, h4, h5, h6, h7⟩ := h
    have ok : BlkOk X.N X.env.scope scope (ownOf S vs) := blkOk_by (by rw [O.N, O.sc]; exact h1)
    have p := pe_lc O.calm (by rw [O.N]; exact O.nd) (pos := pos) (tt := tC K EX S.lk c cd) (hi S X W (isTup tg) t i O tk (isTup_of h5) h4) ok
      (fun s Hb C cl fp => good_t (O.blk ok s Hb C cl fp) h5)
      (fun s Hb C cl fp => pts_of (S := S.blk scope) hc (O.blk ok s Hb C cl fp) takes_blk h6)
      (fun s Hb C cl fp => he (S.blk scope) _ WF x (O.blk ok s Hb C cl fp) takes_blk h7) (fun y => chkI_fold h4 _ y)
    rw [own_snd] at p
    exact PE.imp p fun σ H Q q => lc_red (fun v hv => h3 v hv) (fun j hj => by simpa using h2 j hj) q
  · cases h
/-- two clauses -/
theorem loop2 {tg tg1 : MT} {vs vs1 : List Nat} {it1 : MI} {cd el : ME} {σ0 : L2.St} {H1 I1 : Hp} {env0 envE : Env} {D : Addr} {rs ds : List PyData} {J : It} {Fin : Hp → Prop} (hk : ∀ v ∈ vs, lk ≠ some v) (hs : ∀ j ∈ slotsT tg, j ∈ vs) (hv : ∀ v ∈ vs1, v ∈ vs) (hs1 : ∀ j ∈ slotsT tg1, j ∈ vs1) (idem : wipe σ0 vs = σ0)
    (e0 : EnvOk K σ0 H1 I1 env0) (hD : H1 D = none) (t : ItOk K I1 J ds) (h : lcL2 (turn2 c tg vs it1 tg1 vs1 cd el) ds env0 = .ok (rs, envE)) (hb : rs.length ≤ big)
    (fin : ∀ H' I', EnvOk K σ0 H' I' envE → SStep lk σ0 H1 I1 env0 σ0 H' I' envE → ArgOk K σ0 H' I' envE (.lst rs) (.ref D) → Fin H') :
    ∃ W : Nat → Nat → Hp → Prop, (∃ m, W 0 m (upd H1 D (.lst []))) ∧ ∀ i m H, W i m H → (J.stop i H ∧ Fin H) ∨ (J.go i H ∧ ∃ Nx : Hp → Prop, (∀ H', Nx H' → ∃ m', m' < m ∧ W (i + 1) m' H') ∧ ∀ x H', J.yld i H x H' →
      tG K lk (slotsT tg) (putT tg) x σ0 H' fun σ2 H2 => wipe σ2 vs = σ0 ∧ tYes σ2 H2 fun b H3 => if b = true then tR K EX WF lk (PIt K) (evalI c it1) σ2 H3 fun J1 H4 => ∃ W1 : Nat → Nat → Hp → Prop, (∃ m, W1 0 m H4) ∧ ∀ j k H, W1 j k H →
        (J1.stop j H ∧ Nx H) ∨ (J1.go j H ∧ ∃ Nx1 : Hp → Prop, (∀ H', Nx1 H' → ∃ k', k' < k ∧ W1 (j + 1) k' H') ∧ ∀ x H', J1.yld j H x H' → tG K lk (slotsT tg1) (putT tg1) x (wipe σ2 vs1) H' fun σ3 H5 => wipe σ3 vs1 = wipe σ2 vs1 ∧ tC K EX lk c cd σ3 H5 fun b H6 =>
          if b = true then tR K EX WF lk (PArg K) (evalE c el) σ3 H6 fun y H7 => ∃ acc, H7 D = some (.lst acc) ∧ acc.length < sizeLine ∧ Nx1 (upd H7 D (.lst (acc ++ [y]))) else Nx1 H6) else Nx H3) := by
  refine ⟨fun i m H => m = ds.length - i ∧ i ≤ ds.length ∧ ∃ I env acc' rs', EnvOk K σ0 H I env ∧ SStep lk σ0 H1 I1 env0 σ0 H I env ∧ ArgOk K σ0 H I env (.lst acc') (.ref D) ∧ lcL2 (turn2 c tg vs it1 tg1 vs1 cd el) (ds.drop i) env = .ok (rs', envE) ∧ acc' ++ rs' = rs,
    ⟨ds.length, rfl, Nat.zero_le _, I1, env0, [], rs, own_upd hD e0, step_upd hD, ⟨D, [], rfl, upd_same, no_fix hD e0, Nat.zero_le _, .nil, no_own hD e0⟩, by rw [List.drop_zero]; exact h, rfl⟩, ?_⟩
  rintro i m H ⟨rfl, hi, I, env, acc', rs', e, s, ar, hl, hr⟩
  have le := s.ile
  by_cases hlt : i < ds.length
  · obtain ⟨d, hd, hdr⟩ := drop_cons hlt
    rw [hdr] at hl
    simp only [lcL2] at hl
    obtain ⟨⟨o, env1⟩, h1, h2⟩ := bind_ok hl
    obtain ⟨⟨rs2, envE'⟩, h3, h4⟩ := bind_ok h2
    have h5 : envE' = envE ∧ o ++ rs2 = rs' := by
      cases h4
      exact ⟨rfl, rfl⟩
    obtain ⟨rfl, rfl⟩ := h5
    obtain ⟨env2, p1, p2⟩ := bind_ok h1
    obtain ⟨⟨ds1, env3⟩, p3, p4⟩ := bind_ok p2
    obtain ⟨⟨o', env4⟩, p5, p6⟩ := bind_ok p4
    cases p6
    refine .inr ⟨t.go i H I le e.le hlt, fun H' => i + 1 ≤ ds.length ∧ ∃ I env acc' rs', EnvOk K σ0 H' I env ∧ SStep lk σ0 H1 I1 env0 σ0 H' I env ∧ ArgOk K σ0 H' I env (.lst acc') (.ref D) ∧ lcL2 (turn2 c tg vs it1 tg1 vs1 cd el) (ds.drop (i + 1)) env = .ok (rs', envE') ∧ acc' ++ rs' = rs,
      fun H' n => ⟨ds.length - (i + 1), by omega, rfl, n⟩, fun x H' y => ?_⟩
    obtain ⟨I2, e1, s1, r1⟩ := it_yld (lk := lk) t e le hd y
    refine ⟨I2, env, d, env2, e1, r1, p1, fun σ2 e2 s2 k2 => ?_⟩
    have w2 : wipe σ2 vs = σ0 := by
      rw [wipe_eq (σ := σ0) (by rw [← e2.len, ← e1.len]; exact putT_len p1) fun j hj => k2 j fun z => hj (hs j z), idem]
    refine ⟨w2, ?_⟩
    simp only [tYes, if_true]
    refine ⟨I2, env2, e2, ?_⟩
    rw [p3]
    intro J1 H4 I4 e4 s4 ⟨t4, z4⟩
    have hk1 : ∀ v ∈ vs1, lk ≠ some v := fun v h => hk v (hv v h)
    obtain ⟨e5, s5⟩ := wipe_ok hk1 e4
    have st5 := ((((s.trans s1).trans s2).trans s4).trans s5)
    have ar5 := stepL (stepL (stepL (stepL ar s1) s2) s4) s5
    refine loop1 hk1 hs1 wipe_idem e5 st5 hD ar5 t4 p5 ?_ fun H' I' e' s' a' => ?_
    · have : (acc' ++ (o ++ rs2)).length ≤ big := by rw [hr]; exact hb
      rw [List.length_append, List.length_append] at this
      rw [List.length_append]
      omega
    · obtain ⟨e6, s6⟩ := wipe_ok hk e'
      have w3 : wipe (wipe σ2 vs1) vs = σ0 := by
        rw [← w2]
        exact wipe_eq (wipe_length _ _) fun j hj => wipe_out fun z => hj (hv j z)
      rw [w3] at e6 s6
      exact ⟨hlt, I', _, acc' ++ o, rs2, e6, s'.trans s6, stepL a' s6, h3, by rw [List.append_assoc]; exact hr⟩
  · have hi' : i = ds.length := by omega
    subst hi'
    rw [List.drop_length] at hl
    cases hl
    rw [List.append_nil] at hr
    subst hr
    exact .inl ⟨t.stop _ H I le e.le (Nat.le_refl _), fin H I e s ar⟩
theorem lc2_red {tg tg1 : MT} {vs vs1 : List Nat} {it it1 : MI} {cd el : ME} {Q : V → Hp → Prop} (hk : ∀ v ∈ vs, lk ≠ some v) (hs : ∀ j ∈ slotsT tg, j ∈ vs) (hv : ∀ v ∈ vs1, v ∈ vs) (hs1 : ∀ j ∈ slotsT tg1, j ∈ vs1) (q : tR K EX W lk (PArg K) (evalE c (.lc2 tg vs it tg1 vs1 it1 cd el)) σ H Q) :
    tLc2 (tR K EX W lk (PIt K) (evalI c it)) (tG K lk (slotsT tg) (putT tg)) tYes (tR K EX WF lk (PIt K) (evalI c it1)) (tG K lk (slotsT tg1) (putT tg1)) (tC K EX lk c cd) (tR K EX WF lk (PArg K) (evalE c el)) vs vs1 σ H Q := by
  obtain ⟨I, env, e, q⟩ := q
  rw [evalE_lc2] at q
  refine ⟨I, env, e, tAt.mono (tAt.bind (P1 := PIt K) old_arg q) fun J H1 ⟨ds, env1, I1, e1, s1, ⟨t1, z1⟩, q1⟩ D hD => ?_⟩
  cases no : noOwn env1 vs with
  | false =>
    simp only [no, Bool.false_eq_true, if_false] at q1
    exact q1.elim
  | true =>
    simp only [no, if_true] at q1
    cases hL : lcL2 (turn2 c tg vs it1 tg1 vs1 cd el) ds (wipeE env1 vs) with
    | exn k fs =>
      rw [hL] at q1
      exact (show False from q1).elim
    | stk =>
      rw [hL] at q1
      exact (show False from q1).elim
    | ok pr =>
      obtain ⟨rs, envE⟩ := pr
      rw [hL] at q1
      simp only [noX_ok, ok_bind, pure_ok] at q1
      by_cases hb : rs.length ≤ big
      · rw [if_pos hb] at q1
        obtain ⟨e2, s2⟩ := wipe_ok hk e1
        exact loop2 hk hs hv hs1 wipe_idem e2 hD t1 hL hb fun H' I' e' s' a' => by
          obtain ⟨e3, s3⟩ := back_ok hk e1 s'.ile no e'
          have st := (s2.trans s').trans s3
          exact q1 _ _ _ e3 st ⟨stepL a' s3, fun a h => by cases h; exact hD⟩
      · rw [if_neg hb] at q1
        exact q1.elim
theorem good_lc2 {tg tg1 : MT} {vs vs1 : List Nat} {it it1 : MI} {cd el : ME} (hi : GoodI T G K EX c it) (hi1 : GoodI T G K EX c it1) (hc : GoodT T G K EX c cd) (he : GoodE T G K EX c el) : GoodE T G K EX c (.lc2 tg vs it tg1 vs1 it1 cd el) := by
  intro S X W e O tk h
  simp only [chkE] at h
  split at h
  · rename_i x t i t1 i1 ifs scope pos
    simp only [Bool.and_eq_true, List.all_eq_true, decide_eq_true_eq] at h
    obtain ⟨h1, h2, h3, h3', h3'', h4, h5, h4', h5', h6, h7⟩ := h
    have ok : BlkOk X.N X.env.scope scope (ownOf S vs) := blkOk_by (by rw [O.N, O.sc]; exact h1)
    have p := pe_lc2 O.calm (by rw [O.N]; exact O.nd) (vs1 := vs1) (pos := pos) (tt := tYes) (tt1 := tC K EX S.lk c cd) (hi S X W (isTup tg) t i O tk (isTup_of h5) h4) ok (by rw [own_snd]; exact fun v hv => by simpa using h3' v hv)
      (fun s Hb C cl fp => good_t (O.blk ok s Hb C cl fp) h5) (fun s Hb C cl fp => pts_nil)
      (fun s Hb C cl fp => hi1 (S.blk scope) _ WF (isTup tg1) t1 i1 (O.blk ok s Hb C cl fp) takes_blk (isTup_of h5') h4')
      (fun s Hb C cl fp => good_t (O.blk ok s Hb C cl fp) h5')
      (fun s Hb C cl fp => pts_of (S := S.blk scope) hc (O.blk ok s Hb C cl fp) takes_blk h6)
      (fun s Hb C cl fp => he (S.blk scope) _ WF x (O.blk ok s Hb C cl fp) takes_blk h7) (fun y => chkI_fold h4 _ y) (fun env y => chkI_fold h4' env y)
    rw [own_snd] at p
    exact PE.imp p fun σ H Q q => lc2_red (fun v hv => h3 v hv) (fun j hj => by have := h2 j hj; simp at this; exact this.1) (fun v hv => by simpa using h3' v hv) (fun j hj => by simpa using h3'' j hj) q
  · cases h
end
end Mi

set_option Elab.async false
set_option linter.all false
set_option maxRecDepth 100000
set_option maxHeartbeats 1000000
/-! Mi, part N: statements, their check and their readings. -/
namespace Mi
open L2 PySem PySem.Spec PyProof.Rows

/-! ### the check -/
def kindB (S : Sc) : Bool := S.sc.kind == .function
def isComp : Expr → Bool
  | .ListComp _ _ _ _ => true
  | .SetComp _ _ _ _ => true
  | .DictComp _ _ _ _ _ => true
  | _ => false
/-- a name's store that stands within the comprehension's own end -/
def swB (v : Expr) (t : Str) (l : Nat) (sc : Scope) : Bool := match v with
  | .ListComp _ _ s p => sc.names.lookup t == some .local && (l == p.line && !(s.names.any fun (n, k) => n == t && (k == .local || k == .cell)))
  | _ => false
def isNm : Expr → Bool
  | .Name _ _ => true
  | _ => false
def isStarE : Expr → Bool
  | .Starred _ _ => true
  | _ => false
/-- stores from the right -/
def swN (ts vs : List Expr) (sc : Scope) : Option (Option (List Str)) :=
  if (ts.length == 2 || ts.length == 3) && (vs.length == ts.length) then
    if vs.any isStarE then none
    else
      let line := (ts.head?.map (·.pos.line)).getD 0
      let names := ts.filterMap fun
        | .Name id pos => if sc.names.lookup id == some .local && pos.line == line then some id else none
        | _ => none
      if names.length != ts.length || names.eraseDups.length != names.length then some none
      else if vs.all (foldedForSure 8) then some none
      else if vs.all (constantsAlone 8) then none
      else some (some names)
  else some none
def isTupE : Expr → Bool
  | .Tuple _ _ _ => true
  | _ => false
/-- plain different names that are locals -/
def locsB (S : Sc) : MTs → List Expr → Bool
  | .nil, [] => true
  | .cons (.nm i) r, .Name x _ :: es => locB S i x && (S.sc.names.lookup x == some .local && locsB S r es)
  | _, _ => false
def nmsT : MTs → List Nat
  | .nil => []
  | .cons (.nm i) r => i :: nmsT r
  | .cons (.tp _) r => nmsT r
def isCallE : Expr → Bool
  | .Call _ _ _ _ => true
  | _ => false
def isNilA : MA → Bool
  | .nil => true
  | _ => false
mutual
/-- an except clause's answer; i: the slot of the exception's name -/
def chkH (G : Glo) (S : Sc) (i : Nat) : HX → Expr → Bool
  | .cst d, e => match e with
    | .Constant k _ _ => cstB d k
    | _ => false
  | .isE ks, e => match e with
    | .Call (.Name x _) [.Name y _, .Name z _] [] _ => decide (x = ("isinstance" : Str)) && (freeB G S x && (decide (S.N[i]? = some y) && (visB S.sc y && (plainB y && (glB S.sc z && (plainB z && decide (G.isx z = some ks)))))))
    | _ => false
  | .ite t a b, e => match e with
    | .IfExp x y z _ => isCallE x && (chkH G S i t x && (chkH G S i a y && chkH G S i b z))
    | _ => false
  | .lst l, e => match e with
    | .List es _ => decide (es.length ≤ 1000) && chkHs G S i l es
    | _ => false
def chkHs (G : Glo) (S : Sc) (i : Nat) : HXs → List Expr → Bool
  | .nil, es => es.isEmpty
  | .cons h r, es => match es with
    | e :: es => chkH G S i h e && chkHs G S i r es
    | [] => false
end
def chkH0 : HX → Expr → Bool
  | .cst d, .Constant k _ _ => cstB d k
  | _, _ => false
mutual
def chkS (T : Tab) (G : Glo) (S : Sc) : MS → Stmt → Bool
  | .asg t e, st => match st with
    | .Assign [tg] v _ => kindB S && (chkT S t tg && (chkE T G S e v && !(isTupE v && isTup t)))
    | _ => false
  | .par ts as, st => match st with
    | .Assign [.Tuple es _ _] (.Tuple vs _ _) _ => kindB S && (chkTs S ts es && (chkA T G S as vs && (decide (vs.length ≤ 1000) && (match swN es vs S.sc with
      | some none => true
      | some (some _) => locsB S ts es && decide (nmsT ts).Nodup
      | none => false))))
    | _ => false
  | .aug i o e, st => match st with
    | .AugAssign (.Name x _) p v _ => op2B o p && ((match o with | .add => true | _ => false) && (locB S i x && chkE T G S e v))
    | _ => false
  | .sti i ix e, st => match st with
    | .Assign [.Subscript (.Name x _) j _] v _ => decide (S.N[i]? = some x) && (visB S.sc x && (plainB x && (chkE T G S ix j && (chkE T G S e v && !isComp v))))
    | _ => false
  | .exp e, st => match st with
    | .Expr v _ => chkE T G S e v && !isComp v
    | _ => false
  | .iff t a b, st => match st with
    | .If v x y _ => chkE T G S t v && (chkB T G S a x && chkB T G S b y)
    | _ => false
  | .whl t b, st => match st with
    | .While v x [] _ => chkE T G S t v && chkB T G S b x
    | _ => false
  | .for_ t it b, st => match st with
    | .For tg v x [] _ => chkT S t tg && (chkI T G S it (isTup t) v && chkB T G S b x)
    | _ => false
  | .ret e, st => match st with
    | .Return (some v) _ => chkE T G S e v
    | _ => false
  | .brk, st => match st with
    | .Break _ => true
    | _ => false
  | .cnt, st => match st with
    | .Continue _ => true
    | _ => false
  | .rse k as, st => match st with
    | .Raise (some (.Call (.Name x _) [.Constant (.str _) _ _] [] _)) none _ => isNilA as && (decide (G.exc k = some x) && (glB S.sc x && plainB x))
    | _ => false
  | .tryS b ks v h, st => match st with
    | .Try body [.ExceptHandler (some (.Name x _)) n [.Return (some e) _] _] [] [] _ => S.top && (S.lk.isNone && (chkB T G S b body && (decide (G.isx x = some ks) && (glB S.sc x && (plainB x && (match n, v with
      | some y, some i => decide (S.N[i]? = some y) && (visB S.sc y && (plainB y && (decide (S.sc.names.lookup y = some .local) && chkH G S i h e)))
      | none, none => chkH0 h e
      | _, _ => false))))))
    | _ => false
  | .nev, _ => true
def chkB (T : Tab) (G : Glo) (S : Sc) : MB → List Stmt → Bool
  | .nil, sts => sts.isEmpty
  | .cons s r, sts => match sts with
    | st :: sts => chkS T G S s st && chkB T G S r sts
    | [] => false
end

/-! ### readings -/
/-- what a def gives back -/
def RetOk (K : PySem.W.Frag) (lk : Option Nat) (σ' : L2.St) (H H' I' : Hp) (env' : Env) : Arg → V → Prop
  | .val d, x => Rep K I' d x
  | .lst ds, x => ∃ p vs, x = V.ref p ∧ H' p = some (.lst vs) ∧ I' p = none ∧ ds.length ≤ big ∧ RepL K I' ds vs ∧ (H p = none ∨ ∃ i, lk ≠ some i ∧ (Mi.get env' i).own = true ∧ σ'[i]? = some (some (V.ref p)))
  | .dct kvs, x => ∃ p, x = V.ref p ∧ DRep K I' kvs (H' p) ∧ I' p = none ∧ (H p = none ∨ ∃ i, lk ≠ some i ∧ (Mi.get env' i).own = true ∧ σ'[i]? = some (some (V.ref p)))
  | .slot _, _ => False
section
variable (K : PySem.W.Frag) (EX : EXT) (W : WX) (lk : Option Nat)
def tSA (r : R (Env × Mi.Flow)) (σ : L2.St) (H I : Hp) (env : Env) (D : Ends) : Prop := match r with
  | .ok (env', fl) => ∀ σ' H' I', EnvOk K σ' H' I' env' → SStep lk σ H I env σ' H' I' env' → (match fl with
    | .nx => D.nx σ' H'
    | .bk => D.bk σ' H'
    | .ct => D.ct σ' H'
    | .rt a => ∀ x, RetOk K lk σ' H H' I' env' a x → D.rt x H')
  | .exn k fs => ∀ C d σ' H', EX k fs C d H' → KeepX σ H env H' → σ'.length = σ.length → W C d σ' H'
  | .stk => False
def tS (f : Env → R (Env × Mi.Flow)) : TS := fun D σ H => ∃ I env, EnvOk K σ H I env ∧ tSA K EX W lk (f env) σ H I env D
end
section
variable {T : Tab} {G : Glo} {K : PySem.W.Frag} {EX : EXT} {c : Cl} {W : WX} {lk : Option Nat} {σ σ' : L2.St} {H H' I I' : Hp} {env env' : Env} {D : Ends} {α β ω : Type}
theorem PS.imp {X : Cx} {st : Stmt} {t t' : TS} (h : PS X st t) (m : ∀ D σ H, t' D σ H → t D σ H) : PS X st t' := ⟨fun pins s σ H D I q => h.run pins s σ H D I (m D σ H q)⟩
theorem PSs.imp {X : Cx} {st : List Stmt} {t t' : TS} (h : PSs X st t) (m : ∀ D σ H, t' D σ H → t D σ H) : PSs X st t' := ⟨fun pins s σ H D I q => h.run pins s σ H D I (m D σ H q)⟩
theorem RetOk.older {H0 : Hp} {a : Arg} {x : V} (h : RetOk K lk σ' H H' I' env' a x) (al : ∀ b, H0 b ≠ none → H b ≠ none) : RetOk K lk σ' H0 H' I' env' a x := by
  have up : ∀ b, H b = none → H0 b = none := fun b e => by
    cases q : H0 b with
    | none => rfl
    | some o => exact absurd e (al b (by rw [q]; simp))
  cases a with
  | val d => exact h
  | lst ds =>
    obtain ⟨p, vs, h1, h2, h3, h4, h5, h6⟩ := h
    exact ⟨p, vs, h1, h2, h3, h4, h5, h6.imp (up p) id⟩
  | dct kvs =>
    obtain ⟨p, h1, h2, h3, h6⟩ := h
    exact ⟨p, h1, h2, h3, h6.imp (up p) id⟩
  | slot i => exact h
theorem tSA.later {r : R (Env × Mi.Flow)} (s : SStep lk σ H I env σ' H' I' env') (h : tSA K EX W lk r σ H I env D) : tSA K EX W lk r σ' H' I' env' D := by
  cases r with
  | ok p =>
    obtain ⟨env2, fl⟩ := p
    intro σ2 H2 I2 e2 s2
    have q := h σ2 H2 I2 e2 (s.trans s2)
    cases fl with
    | nx => exact q
    | bk => exact q
    | ct => exact q
    | rt a => exact fun x r => q x (r.older s.alive)
  | exn k fs =>
    exact fun C d σ2 H2 e2 k2 l2 => h C d σ2 H2 e2 (k2.later s) (l2.trans s.len)
  | stk => exact h
theorem tSA.bind {P1 : L2.St → Hp → Hp → Hp → Env → α → ω → Prop} {f : R (α × Env)} {k : α × Env → R (Env × Mi.Flow)} (h : tSA K EX W lk (f >>= k) σ H I env D) :
    tAt K EX W lk P1 f σ H I env fun x H1 => ∃ a env1 I1, EnvOk K σ H1 I1 env1 ∧ SStep lk σ H I env σ H1 I1 env1 ∧ P1 σ H H1 I1 env1 a x ∧ tSA K EX W lk (k (a, env1)) σ H1 I1 env1 D := by
  cases f with
  | ok p => exact fun x H1 I1 e1 s1 p1 => ⟨p.1, p.2, I1, e1, s1, p1, tSA.later s1 h⟩
  | exn k fs => exact fun C d H1 e1 k1 => h C d σ H1 e1 k1 rfl
  | stk => exact h
theorem tSA.calc {γ : Type} {r : R γ} {k : γ → R (Env × Mi.Flow)} (n : Nx r) (h : tSA K EX W lk (r >>= k) σ H I env D) : ∃ a, r = .ok a ∧ tSA K EX W lk (k a) σ H I env D := by
  cases r with
  | ok a => exact ⟨a, rfl, h⟩
  | exn c fs => exact absurd rfl (n c fs)
  | stk => exact h.elim
/-- a test, then the rest -/
theorem tSA.test {f : R (Bool × Env)} {k : Bool × Env → R (Env × Mi.Flow)} (h : tSA K EX W lk (f >>= k) σ H I env D) (fe : Env → R (Bool × Env)) (hf : fe env = f) (e : EnvOk K σ H I env) :
    tT K EX W lk fe σ H fun b H1 => ∃ env1 I1, EnvOk K σ H1 I1 env1 ∧ SStep lk σ H I env σ H1 I1 env1 ∧ tSA K EX W lk (k (b, env1)) σ H1 I1 env1 D := by
  refine ⟨I, env, e, ?_⟩
  rw [hf]
  cases f with
  | ok p => exact fun H1 I1 e1 s1 => ⟨p.2, I1, e1, s1, tSA.later s1 h⟩
  | exn k fs => exact fun C d H1 e1 k1 => h C d σ H1 e1 k1 rfl
  | stk => exact h
/-- what is moved -/
theorem mv_nx (r : Arg) (env : Env) : Nx (r.mv env) := by
  cases r with
  | slot i => exact nx_bind (frz_nx _ _) fun _ => nx_ok
  | _ => exact nx_ok
theorem mv_ok {H0 I0 : Hp} {env0 : Env} {r r' : Arg} {x : V} (e : EnvOk K σ H I env) (st : SStep lk σ H0 I0 env0 σ H I env) (h : ArgOk K σ H I env r x) (n : ArgNew H0 r x) (m : r.mv env = .ok (r', env')) :
    ∃ I', EnvOk K σ H I' env' ∧ SStep lk σ H0 I0 env0 σ H I' env' ∧ ArgOk K σ H I' env' r' x ∧ ArgNew H0 r' x ∧ notSlot r' = true := by
  cases r with
  | slot i =>
    obtain ⟨⟨d, env1⟩, h1, h2⟩ := bind_ok (show ((Arg.slot i).frz env >>= fun p => pure (Arg.val p.1, p.2)) = _ from m)
    cases h2
    obtain ⟨I', e', rp, s'⟩ := frz_step e st h n h1
    exact ⟨I', e', s', rp, trivial, rfl⟩
  | val d =>
    cases m
    exact ⟨I, e, st, h, n, rfl⟩
  | lst ds =>
    cases m
    exact ⟨I, e, st, h, n, rfl⟩
  | dct kvs =>
    cases m
    exact ⟨I, e, st, h, n, rfl⟩

/-! ### stores -/
theorem own_put {i : Nat} {t : Slot} {v : V} {a : Addr} (h : Owned (σ.set i (some v)) (put env i t) a) (hl : env.length = σ.length) : Owned σ env a ∨ (t.own = true ∧ v = .ref a) := by
  obtain ⟨j, h1, h2⟩ := h
  rw [get_put_at] at h1
  by_cases hj : j = i ∧ i < env.length
  · rw [if_pos hj] at h1
    obtain ⟨rfl, hlt⟩ := hj
    rw [List.getElem?_set_self (by rw [← hl]; exact hlt)] at h2
    cases h2
    exact .inr ⟨h1, rfl⟩
  · rw [if_neg hj] at h1
    by_cases z : i = j
    · subst z
      have hlt : ¬ i < env.length := fun q => hj ⟨rfl, q⟩
      have : i < env.length := get_lt env i fun q => by
        rw [q] at h1
        cases h1
      exact absurd this hlt
    · rw [List.getElem?_set_ne z] at h2
      exact .inl ⟨j, h1, h2⟩
/-- a new list or dict, or a value, is stored -/
theorem put_arg {i : Nat} {a : Arg} {v : V} {H0 I0 : Hp} {σ0 : L2.St} {env0 : Env} (e : EnvOk K σ H I env) (st : SStep lk σ0 H0 I0 env0 σ H I env) (r : ArgOk K σ H I env a v) (n : ArgNew H0 a v) (ns : notSlot a = true) (hi : i < env.length) (hk : lk ≠ some i) :
    EnvOk K (σ.set i (some v)) H I (put env i (slotOf a)) ∧ SStep lk σ0 H0 I0 env0 (σ.set i (some v)) H I (put env i (slotOf a)) := by
  have hσ : i < σ.length := by rw [← e.len]; exact hi
  have other : ∀ {j : Nat} {s : Slot}, j ≠ i → Mi.get (put env i (slotOf a)) j = s → Mi.get env j = s := fun {j s} h q => by
    rw [get_put' hi, if_neg h] at q
    exact q
  have noO : ∀ p, (slotOf a).own = true → v = .ref p → ¬ Owned σ env p ∧ H0 p = none := fun p ho hv => by
    cases a with
    | val d => cases ho
    | lst ds =>
      obtain ⟨q, vs, h1, _, _, _, _, h2⟩ := r
      rw [hv] at h1
      cases h1
      exact ⟨h2, n _ hv⟩
    | dct kvs =>
      obtain ⟨q, h1, _, _, h2⟩ := r
      rw [hv] at h1
      cases h1
      exact ⟨h2, n _ hv⟩
    | slot j => cases ns
  refine ⟨⟨e.le, by rw [put_length, List.length_set]; exact e.len, fun j d' q => ?_, fun j ds q => ?_, fun j kvs q => ?_, fun j k p hj hk' q1 q2 => ?_⟩, ⟨st.ile, st.keep, st.new, fun p h => ?_, st.alive, fun k h => ?_, by rw [List.length_set]; exact st.len⟩⟩
  · by_cases z : j = i
    · subst z
      rw [get_put' hi, if_pos rfl] at q
      cases a with
      | val d =>
        cases q
        exact ⟨v, List.getElem?_set_self hσ, r⟩
      | lst ds => cases q
      | dct kvs => cases q
      | slot j => cases ns
    · obtain ⟨x, h1, h2⟩ := e.val j d' (other z q)
      exact ⟨x, by rw [List.getElem?_set_ne (Ne.symm z)]; exact h1, h2⟩
  · by_cases z : j = i
    · subst z
      rw [get_put' hi, if_pos rfl] at q
      cases a with
      | lst ds =>
        cases q
        obtain ⟨p, vs, rfl, h1, h2, h3, h4, h5⟩ := r
        exact ⟨p, vs, List.getElem?_set_self hσ, h1, h2, h3, h4⟩
      | val d => cases q
      | dct kvs => cases q
      | slot j => cases ns
    · obtain ⟨p, vs, h1, h2⟩ := e.lst j ds (other z q)
      exact ⟨p, vs, by rw [List.getElem?_set_ne (Ne.symm z)]; exact h1, h2⟩
  · by_cases z : j = i
    · subst z
      rw [get_put' hi, if_pos rfl] at q
      cases a with
      | dct ds =>
        cases q
        obtain ⟨p, rfl, h1, h2, h3⟩ := r
        exact ⟨p, List.getElem?_set_self hσ, h2, h1⟩
      | val d => cases q
      | lst kvs => cases q
      | slot j => cases ns
    · obtain ⟨p, h1, h2⟩ := e.dct j kvs (other z q)
      exact ⟨p, by rw [List.getElem?_set_ne (Ne.symm z)]; exact h1, h2⟩
  · by_cases z1 : j = i
    · by_cases z2 : k = i
      · rw [z1, z2]
      · subst z1
        rw [get_put' hi, if_pos rfl] at hj
        rw [List.getElem?_set_self hσ] at q1
        rw [List.getElem?_set_ne (Ne.symm z2)] at q2
        rw [get_put' hi, if_neg z2] at hk'
        cases q1
        exact absurd ⟨k, hk', q2⟩ (noO p hj rfl).1
    · by_cases z2 : k = i
      · subst z2
        rw [get_put' hi, if_pos rfl] at hk'
        rw [List.getElem?_set_self hσ] at q2
        rw [List.getElem?_set_ne (Ne.symm z1)] at q1
        rw [get_put' hi, if_neg z1] at hj
        cases q2
        exact absurd ⟨j, hj, q1⟩ (noO p hk' rfl).1
      · rw [get_put' hi, if_neg z1] at hj
        rw [get_put' hi, if_neg z2] at hk'
        rw [List.getElem?_set_ne (Ne.symm z1)] at q1
        rw [List.getElem?_set_ne (Ne.symm z2)] at q2
        exact e.sep j k p hj hk' q1 q2
  · rcases own_put h e.len with q | ⟨q1, q2⟩
    · exact st.own p q
    · exact .inr (noO p q1 q2).2
  · rw [List.getElem?_set_ne]
    · exact st.lkk k h
    · rintro rfl
      exact hk h
/-! ### several values, moved -/
inductive MovOk (K : PySem.W.Frag) (σ : L2.St) (H I : Hp) (env : Env) : List Arg → List V → Prop
  | nil : MovOk K σ H I env [] []
  | cons {a : Arg} {x : V} {as : List Arg} {xs : List V} : ArgOk K σ H I env a x → notSlot a = true → MovOk K σ H I env as xs → MovOk K σ H I env (a :: as) (x :: xs)
def newOf : Arg → V → List Addr
  | .lst _, .ref p => [p]
  | .dct _, .ref p => [p]
  | _, _ => []
def newA : List Arg → List V → List Addr
  | a :: as, x :: xs => newOf a x ++ newA as xs
  | _, _ => []
def PMv (K : PySem.W.Frag) (σ : L2.St) (H H' I' : Hp) (env' : Env) (as : List Arg) (xs : List V) : Prop := MovOk K σ H' I' env' as xs ∧ (newA as xs).Nodup ∧ ∀ p ∈ newA as xs, H p = none
theorem old_mv : Old (PMv K) := fun σ H0 H1 H' I' env' a x k p => ⟨p.1, p.2.1, fun b hb => by
  have e := p.2.2 b hb
  cases q : H0 b with
  | none => rfl
  | some o => exact absurd e (k b (by rw [q]; simp))⟩
theorem stepA {a : Arg} {x : V} (h : ArgOk K σ H I env a x) (ns : notSlot a = true) (s : SStep lk σ H I env σ' H' I' env') : ArgOk K σ' H' I' env' a x := by
  have no : ∀ p, H p ≠ none → I p = none → ¬ Owned σ env p → I' p = none := fun a h1 h2 h3 => by
    cases e : I' a with
    | none => rfl
    | some o =>
      rcases s.new a (by rw [e]; simp) with q | q | q
      · exact absurd h2 q
      · exact absurd q h1
      · exact absurd q h3
  have nw : ∀ p, H p ≠ none → ¬ Owned σ env p → ¬ Owned σ' env' p := fun a h1 h3 q => by
    rcases s.own a q with y | y
    · exact h3 y
    · exact h1 y
  cases a with
  | val d => exact Rep.le s.ile h
  | lst ds => exact stepL h s
  | dct kvs =>
    obtain ⟨p, rfl, r, n, w⟩ := h
    obtain ⟨u, e⟩ := r.some
    have h1 : H p ≠ none := by rw [e]; simp
    refine ⟨p, rfl, ?_, no p h1 n w, nw p h1 w⟩
    rw [s.keep p u e w, ← e]
    exact r.le s.ile
  | slot i => cases ns
theorem MovOk.step (s : SStep lk σ H I env σ' H' I' env') : ∀ {as : List Arg} {xs : List V}, MovOk K σ H I env as xs → MovOk K σ' H' I' env' as xs
  | _, _, .nil => .nil
  | _, _, .cons h n r => .cons (stepA h n s) n (MovOk.step s r)
theorem newOf_none {a : Arg} {x : V} (ns : notSlot a = true) (h : ArgNew H a x) : ∀ p ∈ newOf a x, H p = none := by
  intro p hp
  cases a with
  | val d => cases hp
  | lst ds =>
    cases x with
    | ref q =>
      have : p = q := by simpa [newOf] using hp
      subst this
      exact h p rfl
    | _ => cases hp
  | dct ds =>
    cases x with
    | ref q =>
      have : p = q := by simpa [newOf] using hp
      subst this
      exact h p rfl
    | _ => cases hp
  | slot i => cases ns
theorem new_of {a : Arg} {x : V} (ns : notSlot a = true) (h : ∀ p ∈ newOf a x, H p = none) : ArgNew H a x := by
  cases a with
  | val d => trivial
  | lst ds => exact fun p e => h p (by rw [e]; exact List.mem_singleton.mpr rfl)
  | dct ds => exact fun p e => h p (by rw [e]; exact List.mem_singleton.mpr rfl)
  | slot i => cases ns
theorem newOf_alive {a : Arg} {x : V} (h : ArgOk K σ H I env a x) (ns : notSlot a = true) : ∀ p ∈ newOf a x, H p ≠ none := by
  intro p hp
  cases a with
  | val d => cases hp
  | lst ds =>
    obtain ⟨q, vs, rfl, e, _⟩ := h
    have : p = q := by simpa [newOf] using hp
    subst this
    rw [e]
    simp
  | dct ds =>
    obtain ⟨q, rfl, r, _⟩ := h
    have : p = q := by simpa [newOf] using hp
    subst this
    obtain ⟨u, e⟩ := r.some
    rw [e]
    simp
  | slot i => cases ns
theorem newOf_nodup (a : Arg) (x : V) : (newOf a x).Nodup := by
  cases a <;> cases x <;> simp [newOf]
theorem movPut {i : Nat} {t : Slot} {v : V} (hl : env.length = σ.length) : ∀ {as : List Arg} {xs : List V}, MovOk K σ H I env as xs → (∀ p ∈ newA as xs, ¬ (t.own = true ∧ v = .ref p)) → MovOk K (σ.set i (some v)) H I (put env i t) as xs
  | _, _, .nil, _ => .nil
  | _, _, .cons (a := a) (x := x) h n r, d => by
    refine .cons ?_ n (movPut hl r fun p hp => d p (List.mem_append_right _ hp))
    cases a with
    | val d' => exact h
    | lst ds =>
      obtain ⟨q, vs, rfl, h1, h2, h3, h4, h5⟩ := h
      refine ⟨q, vs, rfl, h1, h2, h3, h4, fun z => ?_⟩
      rcases own_put z hl with y | y
      · exact h5 y
      · exact d q (List.mem_append_left _ (List.mem_singleton.mpr rfl)) y
    | dct ds =>
      obtain ⟨q, rfl, h1, h2, h5⟩ := h
      refine ⟨q, rfl, h1, h2, fun z => ?_⟩
      rcases own_put z hl with y | y
      · exact h5 y
      · exact d q (List.mem_append_left _ (List.mem_singleton.mpr rfl)) y
    | slot j => cases n
theorem own_newOf {a : Arg} {v : V} {p : Addr} (ho : (slotOf a).own = true) (hv : v = .ref p) : p ∈ newOf a v := by
  subst hv
  cases a with
  | lst ds => exact List.mem_singleton.mpr rfl
  | dct ds => exact List.mem_singleton.mpr rfl
  | _ => cases ho
/-- the first of several is stored -/
theorem put_first {i : Nat} {a : Arg} {v : V} {as : List Arg} {xs : List V} {H0 I0 : Hp} {σ0 : L2.St} {env0 : Env} (e : EnvOk K σ H I env) (st : SStep lk σ0 H0 I0 env0 σ H I env) (m : MovOk K σ H I env (a :: as) (v :: xs)) (nd : (newA (a :: as) (v :: xs)).Nodup) (nn : ∀ p ∈ newA (a :: as) (v :: xs), H0 p = none) (hi : i < env.length) (hk : lk ≠ some i) :
    EnvOk K (σ.set i (some v)) H I (put env i (slotOf a)) ∧ SStep lk σ0 H0 I0 env0 (σ.set i (some v)) H I (put env i (slotOf a)) ∧ MovOk K (σ.set i (some v)) H I (put env i (slotOf a)) as xs ∧ (newA as xs).Nodup ∧ ∀ p ∈ newA as xs, H0 p = none := by
  cases m with
  | cons h n r =>
    obtain ⟨e', s'⟩ := put_arg e st h (new_of n fun p hp => nn p (List.mem_append_left _ hp)) n hi hk
    have nd' : (newOf a v ++ newA as xs).Nodup := nd
    rw [List.nodup_append] at nd'
    exact ⟨e', s', movPut e.len r fun p hp ⟨q1, q2⟩ => nd'.2.2 p (own_newOf q1 q2) p hp rfl, nd'.2.1, fun p hp => nn p (List.mem_append_right _ hp)⟩
def tGM (K : PySem.W.Frag) (lk : Option Nat) (ts : MTs) : TGs := fun vs σ H Q => ∃ I env as env' σs Hs Is envs, EnvOk K σ H I env ∧ SStep lk σs Hs Is envs σ H I env ∧ MovOk K σ H I env as vs ∧ (newA as vs).Nodup ∧ (∀ p ∈ newA as vs, Hs p = none) ∧ asgAs ts as env = .ok env' ∧
  ∀ σ', EnvOk K σ' H I env' → SStep lk σs Hs Is envs σ' H I env' → Q σ' H
theorem good_tM {S : Sc} {X : Cx} (O : OkX T G K EX c S X) : ∀ {ts : MTs} {es : List Expr}, chkTs S ts es = true → PGs X es (tGM K S.lk ts)
  | .nil, es, h => by
    simp only [chkTs, List.isEmpty_iff] at h
    subst h
    refine PGs.imp pgs_nil fun v σ H Q q => ?_
    obtain ⟨I, env, as, env', σs, Hs, Is, envs, e, st, m, nd, nn, hp, q⟩ := q
    cases m with
    | nil =>
      simp only [asgAs] at hp
      cases hp
      exact ⟨rfl, q σ e st⟩
    | cons h n r => simp only [asgAs] at hp; cases hp
  | .cons t r, [], h => by
    simp only [chkTs] at h
    cases h
  | .cons (.nm i) r, e :: es, h => by
    simp only [chkTs, Bool.and_eq_true] at h
    obtain ⟨h0, h⟩ := h
    cases e with
    | Name x p =>
      have h0' := h0
      simp only [chkT] at h0
      obtain ⟨h1, h2, h3, h4⟩ := loc_ok O h0
      refine PGs.imp (pgs_cons (pg_name (by rw [O.N]; exact O.nd) h1 h3 h4) (good_tM O h) rfl) fun v σ H Q q => ?_
      obtain ⟨I, env, as, env', σs, Hs, Is, envs, e, st, m, nd, nn, hp, q⟩ := q
      have m0 := m
      cases m with
      | nil => simp only [asgAs] at hp; cases hp
      | cons ha n hr =>
        simp only [asgAs] at hp
        obtain ⟨env1, g1, g2⟩ := bind_ok hp
        simp only [asgM] at g1
        split at g1
        · rename_i hi
          cases g1
          obtain ⟨e', s', m', nd', nn'⟩ := put_first e st m0 nd nn hi.2 h2
          exact ⟨_, _, rfl, I, _, _, env', σs, Hs, Is, envs, e', s', m', nd', nn', g2, q⟩
        · cases g1
    | _ => simp only [chkT] at h0; cases h0
  | .cons (.tp ts) r, e :: es, h => by
    simp only [chkTs, Bool.and_eq_true] at h
    obtain ⟨h0, h⟩ := h
    refine PGs.imp (pgs_cons (good_t O h0) (good_tM O h) (by rw [each_of h0]; rfl)) fun v σ H Q q => ?_
    obtain ⟨I, env, as, env', σs, Hs, Is, envs, e, st, m, nd, nn, hp, q⟩ := q
    cases m with
    | nil => simp only [asgAs] at hp; cases hp
    | cons ha n hr =>
      rename_i a x as xs
      simp only [asgAs] at hp
      obtain ⟨env1, g1, g2⟩ := bind_ok hp
      cases a with
      | val d =>
        simp only [asgM] at g1
        exact ⟨_, _, rfl, I, env, d, env1, e, ha, g1, fun σ1 e1 s1 k1 => ⟨I, env1, as, env', σs, Hs, Is, envs, e1, st.trans s1, hr.step s1, nd, nn, g2, q⟩⟩
      | _ => simp only [asgM] at g1; cases g1

/-! ### each statement -/
section
variable (T : Tab) (G : Glo) (K : PySem.W.Frag) (EX : EXT) (c : Cl)
def GoodS (L : Nat) (m : MS) : Prop := ∀ (S : Sc) (X : Cx) (W : WX) (st : Stmt), OkX T G K EX c S X → Takes X W → PassesOwn (model X.prog X.w) X.A X.env X.xe → chkS T G S m st = true → PS X st (tS K EX W S.lk (execS c L S.lk m))
def GoodB (L : Nat) (m : MB) : Prop := ∀ (S : Sc) (X : Cx) (W : WX) (st : List Stmt), OkX T G K EX c S X → Takes X W → PassesOwn (model X.prog X.w) X.A X.env X.xe → chkB T G S m st = true → PSs X st (tS K EX W S.lk (execB c L S.lk m))
/-- name = e, with the comprehension's own store -/
def GoodN (m : ME) : Prop := ∀ (S : Sc) (X : Cx) (W : WX) (e : Expr) (i : Nat) (x : Str) (p pos : Pos), OkX T G K EX c S X → Takes X W → chkE T G S m e = true → kindB S = true → locB S i x = true → swB e x p.line S.sc = true →
  PS X (.Assign [.Name x p] e pos) (tAsg (tR K EX W S.lk (PArg K) (evalE c m)) (gName i))
def GoodM (m : MA) : Prop := ∀ (S : Sc) (X : Cx) (W : WX) (es : List Expr), OkX T G K EX c S X → Takes X W → chkA T G S m es = true → PA X es (tR K EX W S.lk (PMv K) (evalM c m))
end
theorem kind_ok {S : Sc} {X : Cx} (O : OkX T G K EX c S X) (h : kindB S = true) : X.env.scope.kind = .function := by
  rw [O.sc]
  unfold kindB at h
  revert h
  cases S.sc.kind <;> intro h <;> first | rfl | cases h
theorem blk_kind {X : Cx} (h : X.env.scope.kind = .function) : X.env.blockKind = .function := by
  unfold PySem.Env.blockKind
  rw [h]
  rfl
theorem swaps_no {e : Expr} (h : isComp e = false) (t : Option Expr) (l : Nat) (env : PySem.Env) : swapsWith e t l env = pure false := by
  cases e <;> first | rfl | cases h
theorem swaps_tup {e : Expr} {es : List Expr} {k : Nat} {p : Pos} {l : Nat} {env : PySem.Env} : swapsWithSole [.Tuple es k p] e l env = pure false := by
  cases e <;> rfl
theorem stores_tup {e : Expr} {es : List Expr} {k : Nat} {p : Pos} {env : PySem.Env} (h : isTupE e = false) : swappedStores [.Tuple es k p] e env = pure none := by
  cases e <;> first | rfl | cases h
theorem chk_noset {S : Sc} {m : ME} {e : Expr} (h : chkE T G S m e = true) : isComp e = true → ∃ elt gs s p, e = .ListComp elt gs s p := by
  cases e <;> intro q <;> first | cases q | skip
  · exact ⟨_, _, _, _, rfl⟩
  · cases m <;> (simp only [chkE] at h; cases h)
  · cases m <;> (simp only [chkE] at h; cases h)
theorem sw_name {S : Sc} {X : Cx} {m : ME} {e : Expr} {x : Str} {p : Pos} {l : Nat} (hk : X.env.scope.kind = .function) (O : OkX T G K EX c S X) (h : chkE T G S m e = true) : swapsWith e (some (.Name x p)) l X.env = pure (swB e x p.line S.sc) := by
  cases q : isComp e with
  | false =>
    rw [swaps_no q]
    cases e <;> first | rfl | cases q
  | true =>
    obtain ⟨elt, gs, s, p2, rfl⟩ := chk_noset h q
    unfold swapsWith swB
    have hkd : X.env.kindOf x = S.sc.names.lookup x := by rw [← O.sc]; rfl
    simp only [blk_kind hk, hkd, Expr.pos]
    show (pure _ : Sem Bool) = pure _
    congr 1
    cases (S.sc.names.lookup x == some .local) <;> cases (p.line == p2.line) <;> rfl
end
end Mi

set_option Elab.async false
set_option linter.all false
set_option maxRecDepth 100000
set_option maxHeartbeats 1000000
/-! Mi, part O: each statement's rule. -/
namespace Mi
open L2 PySem PySem.Spec PyProof.Rows
section
variable {T : Tab} {G : Glo} {K : PySem.W.Frag} {EX : EXT} {c : Cl} {W : WX} {lk : Option Nat} {σ σ' : L2.St} {H H' I I' : Hp} {env env' : Env} {D : Ends} {α β ω : Type} {L : Nat}
theorem tSA.bind0 {P1 : L2.St → Hp → Hp → Hp → Env → α → ω → Prop} {f : R (α × Env)} {k : α × Env → R (Env × Mi.Flow)} (h : tSA K EX W lk (f >>= k) σ H I env D) :
    tAt K EX W lk P1 f σ H I env fun x H1 => ∃ a env1 I1, EnvOk K σ H1 I1 env1 ∧ SStep lk σ H I env σ H1 I1 env1 ∧ P1 σ H H1 I1 env1 a x ∧ tSA K EX W lk (k (a, env1)) σ H I env D := by
  cases f with
  | ok p => exact fun x H1 I1 e1 s1 p1 => ⟨p.1, p.2, I1, e1, s1, p1, h⟩
  | exn k fs => exact fun C d H1 e1 k1 => h C d σ H1 e1 k1 rfl
  | stk => exact h
/-- an expression whose value is moved, then the rest -/
theorem tSA.mv {m : ME} {k : Arg × Env → R (Env × Mi.Flow)} (h : tSA K EX W lk (mvR (evalE c m env) >>= k) σ H I env D) :
    tAt K EX W lk (PArg K) (evalE c m env) σ H I env fun x H1 => ∃ a env1 I1, EnvOk K σ H1 I1 env1 ∧ SStep lk σ H I env σ H1 I1 env1 ∧ ArgOk K σ H1 I1 env1 a x ∧ ArgNew H a x ∧ notSlot a = true ∧ tSA K EX W lk (k (a, env1)) σ H I env D := by
  have h1 : tSA K EX W lk (evalE c m env >>= fun p => p.1.mv p.2 >>= k) σ H I env D := by
    have h0 : tSA K EX W lk ((evalE c m env >>= fun p => p.1.mv p.2) >>= k) σ H I env D := h
    rw [r_assoc] at h0
    exact h0
  refine tAt.mono (tSA.bind0 (P1 := PArg K) h1) fun x H1 ⟨r, env1, I1, e1, s1, p1, q⟩ => ?_
  obtain ⟨⟨a, env2⟩, hm, q⟩ := tSA.calc (mv_nx r env1) q
  obtain ⟨I2, e2, s2, ok, nw, ns⟩ := mv_ok e1 s1 p1.1 p1.2 hm
  exact ⟨a, env2, I2, e2, s2, ok, nw, ns, q⟩
theorem tSA.frz {m : ME} {k : PyData × Env → R (Env × Mi.Flow)} (h : tSA K EX W lk (frzR (evalE c m env) >>= k) σ H I env D) :
    tAt K EX W lk (PArg K) (evalE c m env) σ H I env fun x H1 => ∃ d env1 I1, EnvOk K σ H1 I1 env1 ∧ SStep lk σ H I env σ H1 I1 env1 ∧ Rep K I1 d x ∧ tSA K EX W lk (k (d, env1)) σ H1 I1 env1 D := by
  have h1 : tSA K EX W lk (evalE c m env >>= fun p => p.1.frz p.2 >>= k) σ H I env D := by
    have h0 : tSA K EX W lk ((evalE c m env >>= fun p => p.1.frz p.2) >>= k) σ H I env D := h
    rw [r_assoc] at h0
    exact h0
  refine tAt.mono (tSA.bind0 (P1 := PArg K) h1) fun x H1 ⟨r, env1, I1, e1, s1, p1, q⟩ => ?_
  obtain ⟨⟨d, env2⟩, hm, q⟩ := tSA.calc (frz_nx r env1) q
  obtain ⟨I2, e2, rp, s2⟩ := frz_step e1 s1 p1.1 p1.2 hm
  exact ⟨d, env2, I2, e2, s2, rp, tSA.later s2 q⟩
/-! ### moved arguments -/
theorem good_nilM : GoodM T G K EX c .nil := by
  intro S X W es O tk h
  simp only [chkA, List.isEmpty_iff] at h
  subst h
  exact PA.imp pa_nil fun σ H Q q => by
    obtain ⟨I, env, e, q⟩ := q
    exact q [] H I e .refl ⟨.nil, List.nodup_nil, fun _ h => nomatch h⟩
theorem good_consM {m : ME} {r : MA} (hm : GoodE T G K EX c m) (hr : GoodM T G K EX c r) : GoodM T G K EX c (.cons m r) := by
  intro S X W es O tk h
  cases es with
  | nil => simp only [chkA] at h; cases h
  | cons e es =>
    simp only [chkA, Bool.and_eq_true] at h
    refine PA.imp (pa_cons (hm S X W e O tk h.1) (hr S X W es O tk h.2) (star_of (chk_form h.1).1 _ _)) fun σ H Q q => ?_
    obtain ⟨I, env, e, q⟩ := q
    simp only [evalM] at q
    have q1 : tAt K EX W S.lk (PMv K) (evalE c m env >>= fun p => p.1.mv p.2 >>= fun p => evalM c r p.2 >>= fun p2 => pure (p.1 :: p2.1, p2.2)) σ H I env Q := by
      have h0 : tAt K EX W S.lk (PMv K) ((evalE c m env >>= fun p => p.1.mv p.2) >>= fun p => evalM c r p.2 >>= fun p2 => pure (p.1 :: p2.1, p2.2)) σ H I env Q := q
      rw [r_assoc] at h0
      exact h0
    refine ⟨I, env, e, tAt.mono (tAt.bind0 (P1 := PArg K) q1) fun x H1 ⟨r1, env1, I1, e1, s1, p1, q2⟩ => ?_⟩
    obtain ⟨⟨a, env2⟩, hm, q2⟩ := tAt.calc (mv_nx r1 env1) q2
    obtain ⟨I2, e2, s2, ok, nw, ns⟩ := mv_ok e1 s1 p1.1 p1.2 hm
    refine ⟨I2, env2, e2, ?_⟩
    cases z : evalM c r env2 with
    | ok pr =>
      obtain ⟨as, env3⟩ := pr
      simp only [z, ok_bind, pure_ok] at q2
      intro xs H3 I3 e3 s3 p3
      refine q2 (x :: xs) H3 I3 e3 (s2.trans s3) ⟨.cons (stepA ok ns s3) ns p3.1, ?_, fun p hp => ?_⟩
      · show (newOf a x ++ newA as xs).Nodup
        rw [List.nodup_append]
        exact ⟨newOf_nodup a x, p3.2.1, fun p hp p' hp' e => newOf_alive ok ns p hp (by rw [e]; exact p3.2.2 p' hp')⟩
      · rcases List.mem_append.mp (show p ∈ newOf a x ++ newA as xs from hp) with h | h
        · exact newOf_none ns nw p h
        · have := p3.2.2 p h
          cases y : H p with
          | none => rfl
          | some o => exact absurd this (s2.alive p (by rw [y]; simp))
    | exn k fs =>
      simp only [z, exn_bind] at q2
      exact tAt.later (r := R.exn k fs) old_mv s2 q2
    | stk =>
      simp only [z, stk_bind] at q2
      exact (show False from q2).elim
/-! ### stores -/
theorem ps_nm {m : ME} (hm : GoodE T G K EX c m) (hn : GoodN T G K EX c m) {S : Sc} {X : Cx} {W : WX} {e : Expr} {i : Nat} {x : Str} {p pos : Pos} (O : OkX T G K EX c S X) (tk : Takes X W) (h1 : chkE T G S m e = true) (h2 : kindB S = true) (h3 : locB S i x = true) :
    PS X (.Assign [.Name x p] e pos) (tAsg (tR K EX W S.lk (PArg K) (evalE c m)) (gName i)) := by
  have sw := sw_name (m := m) (e := e) (x := x) (p := p) (l := pos.line) (kind_ok O h2) O h1
  cases q : swB e x p.line S.sc with
  | true => exact hn S X W e i x p pos O tk h1 h2 h3 q
  | false =>
    rw [q] at sw
    obtain ⟨g1, g2, g3, g4⟩ := loc_ok O h3
    exact ps_set (by rw [O.N]; exact O.nd) g1 g3 (hm S X W e O tk h1) sw g4
theorem good_asg {t : MT} {m : ME} (hm : GoodE T G K EX c m) (hn : GoodN T G K EX c m) : GoodS T G K EX c L (.asg t m) := by
  intro S X W st O tk po h
  simp only [chkS] at h
  split at h
  · rename_i tg v pos
    simp only [Bool.and_eq_true] at h
    obtain ⟨h1, h2, h3, h4⟩ := h
    cases t with
    | nm i =>
      cases tg with
      | Name x p =>
        simp only [chkT] at h2
        refine PS.imp (ps_nm hm hn O tk h3 h1 h2) fun D σ H q => ?_
        obtain ⟨I, env, e, q⟩ := q
        simp only [execS] at q
        refine ⟨I, env, e, tAt.mono (tSA.mv q) fun x H1 ⟨a, env1, I1, e1, s1, ok, nw, ns, q1⟩ => ?_⟩
        simp only [asgM] at q1
        split at q1
        · rename_i hi
          obtain ⟨e2, s2⟩ := put_arg e1 s1 ok nw ns hi.2 (loc_ok O h2).2.1
          exact q1 _ H1 I1 e2 s2
        · exact q1.elim
      | _ => simp only [chkT] at h2; cases h2
    | tp ts =>
      cases tg with
      | Tuple es k p =>
        have hv : isTupE v = false := by
          cases z : isTupE v with
          | false => rfl
          | true =>
            rw [z] at h4
            cases h4
        refine PS.imp (ps_asg (hm S X W v O tk h3) (good_t O h2) swaps_tup (stores_tup hv) rfl) fun D σ H q => ?_
        obtain ⟨I, env, e, q⟩ := q
        simp only [execS] at q
        refine ⟨I, env, e, tAt.mono (tSA.mv q) fun x H1 ⟨a, env1, I1, e1, s1, ok, nw, ns, q1⟩ => ?_⟩
        cases a with
        | val d =>
          simp only [asgM] at q1
          cases z : putT (.tp ts) d env1 with
          | ok env2 =>
            simp only [z, ok_bind, pure_ok] at q1
            exact ⟨I1, env1, d, env2, e1, ok, z, fun σ2 e2 s2 _ => q1 σ2 H1 I1 e2 (s1.trans s2)⟩
          | exn k fs => exact absurd z (putT_nx _ _ _ _ _)
          | stk =>
            simp only [z, stk_bind] at q1
            exact (show False from q1).elim
        | _ => simp only [asgM, stk_bind] at q1; exact (show False from q1).elim
      | _ => simp only [chkT] at h2; cases h2
  · cases h
/-! ### several stores -/
theorem swN_ok {S : Sc} {X : Cx} {ts vs : List Expr} {k1 k2 : Nat} {p1 p2 : Pos} {r : Option (List Str)} (O : OkX T G K EX c S X) (hk : X.env.scope.kind = .function) (h : swN ts vs S.sc = some r) : swappedStores [.Tuple ts k1 p1] (.Tuple vs k2 p2) X.env = pure r := by
  unfold swN at h
  unfold swappedStores
  have hkd : ∀ x, X.env.kindOf x = S.sc.names.lookup x := fun x => by rw [← O.sc]; rfl
  have key : ∀ (f : Expr → Bool), (∀ e, f e = isStarE e) → vs.any f = vs.any isStarE := fun f hf => by
    rw [show f = isStarE from funext hf]
  simp only [blk_kind hk, hkd]
  show (if _ then _ else _) = _
  by_cases c1 : ((ts.length == 2 || ts.length == 3) && (vs.length == ts.length)) = true
  · rw [if_pos c1] at h
    rw [Bool.and_eq_true] at c1
    have c1b : vs.length = ts.length := by simpa using c1.2
    rw [if_neg (by simp [c1.1, c1b])]
    by_cases c2 : vs.any isStarE = true
    · rw [if_pos c2] at h
      cases h
    · rw [if_neg c2] at h
      refine Eq.trans (if_neg ?_) ?_
      · intro z
        rw [key _ (fun e => by cases e <;> rfl)] at z
        exact c2 z
      simp only at h
      split at h
      · rename_i c3
        cases h
        exact if_pos c3
      · rename_i c3
        refine (if_neg c3).trans ?_
        split at h
        · rename_i c4
          cases h
          exact if_pos c4
        · rename_i c4
          refine (if_neg c4).trans ?_
          split at h
          · cases h
          · rename_i c5
            cases h
            exact if_neg c5
  · rw [if_neg c1] at h
    cases h
    refine if_pos ?_
    simp only [Bool.and_eq_true, not_and, Bool.not_eq_true] at c1
    cases q : (ts.length == 2 || ts.length == 3) with
    | false => simp
    | true =>
      have := c1 q
      simp [bne, this]
theorem evalM_len : ∀ {as : MA} {env : Env} {ds : List Arg} {env' : Env} {S : Sc} {es : List Expr}, chkA T G S as es = true → evalM c as env = .ok (ds, env') → ds.length = es.length
  | .nil, env, ds, env', S, es, h, q => by
    simp only [chkA, List.isEmpty_iff] at h
    simp only [evalM] at q
    cases q
    subst h
    rfl
  | .cons a r, env, ds, env', S, [], h, q => by
    simp only [chkA] at h
    cases h
  | .cons a r, env, ds, env', S, e :: es, h, q => by
    simp only [chkA, Bool.and_eq_true] at h
    simp only [evalM] at q
    obtain ⟨p, _, q⟩ := bind_ok q
    obtain ⟨p2, h2, q⟩ := bind_ok q
    cases q
    show (p2.1.length + 1) = es.length + 1
    rw [evalM_len h.2 h2]
theorem MovOk.length : ∀ {as : List Arg} {xs : List V}, MovOk K σ H I env as xs → as.length = xs.length
  | _, _, .nil => rfl
  | _, _, .cons _ _ r => congrArg (· + 1) (MovOk.length r)
theorem asgAs_len {S : Sc} : ∀ {ts : MTs} {es : List Expr} {as : List Arg} {env env' : Env}, chkTs S ts es = true → asgAs ts as env = .ok env' → as.length = es.length
  | .nil, es, ds, env, env', h, q => by
    simp only [chkTs, List.isEmpty_iff] at h
    subst h
    cases ds with
    | nil => rfl
    | cons d r => simp only [asgAs] at q; cases q
  | .cons t r, [], ds, env, env', h, q => by
    simp only [chkTs] at h
    cases h
  | .cons t r, e :: es, ds, env, env', h, q => by
    simp only [chkTs, Bool.and_eq_true] at h
    cases ds with
    | nil => simp only [asgAs] at q; cases q
    | cons d r =>
      simp only [asgAs] at q
      obtain ⟨env1, g1, g2⟩ := bind_ok q
      rw [List.length_cons, List.length_cons, asgAs_len h.2 g2]
theorem asgAs_nx : ∀ (t : MTs) (d : List Arg) (env : Env), Nx (asgAs t d env)
  | .nil, [], env => by
    simp only [asgAs]
    exact nx_ok
  | .nil, _ :: _, env => by simp only [asgAs]; exact nx_stk
  | .cons t r, [], env => by simp only [asgAs]; exact nx_stk
  | .cons t r, d :: ds, env => by
    simp only [asgAs]
    refine nx_bind ?_ fun e => asgAs_nx r ds e
    cases t with
    | nm i =>
      simp only [asgM]
      exact nx_ite nx_ok nx_stk
    | tp ts =>
      simp only [asgM]
      cases d with
      | val d => exact putT_nx _ _ _
      | _ => exact nx_stk
/-- what the frame is behind the values -/
theorem par_red {ts : MTs} {as : MA} (q : tS K EX W lk (execS c L lk (.par ts as)) D σ H) : tR K EX W lk (PMv K) (evalM c as) σ H fun xs H1 => ∃ I env rs env' I1 env1, EnvOk K σ H I env ∧ evalM c as env = .ok (rs, env1) ∧ EnvOk K σ H1 I1 env1 ∧ SStep lk σ H I env σ H1 I1 env1 ∧ PMv K σ H H1 I1 env1 rs xs ∧ asgAs ts rs env1 = .ok env' ∧
    ∀ σ' H' I', EnvOk K σ' H' I' env' → SStep lk σ H I env σ' H' I' env' → D.nx σ' H' := by
  obtain ⟨I, env, e, q⟩ := q
  simp only [execS] at q
  refine ⟨I, env, e, ?_⟩
  cases z : evalM c as env with
  | ok pr =>
    obtain ⟨rs, env1⟩ := pr
    simp only [z, ok_bind] at q
    intro xs H1 I1 e1 s1 p1
    obtain ⟨env', hz, q⟩ := tSA.calc (asgAs_nx ts rs env1) q
    exact ⟨I, env, rs, env', I1, env1, e, z, e1, s1, p1, hz, fun σ' H' I' e' s' => q σ' H' I' e' s'⟩
  | exn k fs =>
    simp only [z, exn_bind] at q
    exact fun C d H1 e1 k1 => q C d σ H1 e1 k1 rfl
  | stk =>
    simp only [z, stk_bind] at q
    exact (show False from q).elim
theorem locs_step {S : Sc} {i : Nat} {r : MTs} {es : List Expr} (h : locsB S (.cons (.nm i) r) es = true) : ∃ x p es', es = .Name x p :: es' ∧ locB S i x = true ∧ S.sc.names.lookup x = some .local ∧ locsB S r es' = true := by
  cases es with
  | nil => simp only [locsB] at h; cases h
  | cons e es =>
    cases e with
    | Name x p =>
      simp only [locsB, Bool.and_eq_true] at h
      exact ⟨x, p, es, rfl, h.1, eq_of_beq h.2.1, h.2.2⟩
    | _ => simp only [locsB] at h; cases h
theorem locs_nm {S : Sc} {t : MT} {r : MTs} {es : List Expr} (h : locsB S (.cons t r) es = true) : ∃ i, t = .nm i := by
  cases t with
  | nm i => exact ⟨i, rfl⟩
  | tp ts => simp only [locsB] at h; cases h
theorem locs_nil {S : Sc} {es : List Expr} (h : locsB S .nil es = true) : es = [] := by
  cases es with
  | nil => rfl
  | cons e es => simp only [locsB] at h; cases h
theorem swN_len {ts vs : List Expr} {sc : Scope} {names : List Str} (h : swN ts vs sc = some (some names)) : (ts.length = 2 ∨ ts.length = 3) ∧ vs.length = ts.length := by
  unfold swN at h
  split at h
  · rename_i c1
    simp only [Bool.and_eq_true, Bool.or_eq_true, beq_iff_eq] at c1
    exact c1
  · cases h
theorem swN_names {ts vs : List Expr} {sc : Scope} {names : List Str} (h : swN ts vs sc = some (some names)) : names = (ts.filterMap fun
        | .Name id pos => if sc.names.lookup id == some .local && pos.line == (ts.head?.map (·.pos.line)).getD 0 then some id else none
        | _ => none) ∧ names.length = ts.length := by
  unfold swN at h
  split at h
  · split at h
    · cases h
    · simp only at h
      split at h
      · cases h
      · rename_i c3
        split at h
        · cases h
        · split at h
          · cases h
          · cases h
            refine ⟨rfl, ?_⟩
            simp only [Bool.or_eq_true, not_or, bne_iff_ne, ne_eq, Decidable.not_not] at c3
            exact c3.1
  · cases h
theorem names2 {x y : Str} {px py : Pos} {vs : List Expr} {sc : Scope} {names : List Str} (h : swN [.Name x px, .Name y py] vs sc = some (some names)) : names = [x, y] := by
  obtain ⟨h1, h2⟩ := swN_names h
  rw [h1] at h2 ⊢
  simp only [List.filterMap_cons, List.filterMap_nil] at h2 ⊢
  split at h2 <;> split at h2 <;> simp_all
theorem names3 {x y z : Str} {px py pz : Pos} {vs : List Expr} {sc : Scope} {names : List Str} (h : swN [.Name x px, .Name y py, .Name z pz] vs sc = some (some names)) : names = [x, y, z] := by
  obtain ⟨h1, h2⟩ := swN_names h
  rw [h1] at h2 ⊢
  simp only [List.filterMap_cons, List.filterMap_nil] at h2 ⊢
  split at h2 <;> split at h2 <;> split at h2 <;> simp_all
theorem asg_nm {i : Nat} {a : Arg} {env1 : Env} (h : asgM (.nm i) a env = .ok env1) : notSlot a = true ∧ i < env.length ∧ env1 = put env i (slotOf a) := by
  simp only [asgM] at h
  split at h
  · rename_i z
    cases h
    exact ⟨z.1, z.2, rfl⟩
  · cases h
theorem good_par {ts : MTs} {as : MA} (ha : GoodM T G K EX c as) : GoodS T G K EX c L (.par ts as) := by
  intro S X W st O tk po h
  simp only [chkS] at h
  split at h
  · rename_i es k1 p1 vs k2 p2 pos
    simp only [Bool.and_eq_true, decide_eq_true_eq] at h
    obtain ⟨h1, h2, h3, h4, h5⟩ := h
    have pa := ha S X W vs O tk h3
    split at h5
    · rename_i hsw
      obtain ⟨g1, g2⟩ := eachs_of X.env h2
      refine PS.imp (ps_asg (pe_tup pa) (pg_tup O.calm (good_tM O h2) g1 g2) swaps_tup (swN_ok O (kind_ok O h1) hsw) rfl) fun D σ H q => ?_
      obtain ⟨I, env, e, q⟩ := par_red q
      refine ⟨I, env, e, tAt.mono q fun xs H1 ⟨J, envs, rs, env', I1, env1, e0, z, e1, s1, p1, hz, q1⟩ => ?_⟩
      have l1 := evalM_len h3 z
      have l2 := p1.1.length
      have l3 := asgAs_len h2 hz
      have hb := big1000 h4
      refine ⟨by rw [← big_eq]; omega, fun p hp => ?_⟩
      refine ⟨p, xs, rfl, SqT.of upd_same, by omega, ?_⟩
      have st1 : SStep S.lk σ H1 I1 env1 σ (upd H1 p (.tup xs)) I1 env1 := step_upd hp
      exact ⟨I1, env1, rs, env', σ, H, J, envs, own_upd hp e1, s1.trans st1, p1.1.step st1, p1.2.1, p1.2.2, hz, fun σ' e' s' => q1 σ' _ I1 e' s'⟩
    · rename_i names hsw
      simp only [Bool.and_eq_true, decide_eq_true_eq] at h5
      obtain ⟨h5, h6⟩ := h5
      obtain ⟨hl, hv⟩ := swN_len hsw
      have hw := swN_ok (k1 := k1) (k2 := k2) (p1 := p1) (p2 := p2) O (kind_ok O h1) hsw
      have hN : X.N.Nodup := by rw [O.N]; exact O.nd
      cases ts with
      | nil =>
        have := locs_nil h5
        subst this
        rcases hl with hl | hl <;> cases hl
      | cons t1 r1 =>
        obtain ⟨i, rfl⟩ := locs_nm h5
        obtain ⟨x, px, es1, rfl, b1, c1, d1⟩ := locs_step h5
        cases r1 with
        | nil =>
          have := locs_nil d1
          subst this
          rcases hl with hl | hl <;> cases hl
        | cons t2 r2 =>
          obtain ⟨j, rfl⟩ := locs_nm d1
          obtain ⟨y, py, es2, rfl, b2, c2, d2⟩ := locs_step d1
          have n12 : i ≠ j := fun e => by
            subst e
            simp [nmsT] at h6
          cases r2 with
          | nil =>
            have := locs_nil d2
            subst this
            rw [names2 hsw] at hw
            cases vs with
            | nil => cases hv
            | cons v1 vs =>
              cases vs with
              | nil => cases hv
              | cons v2 vs =>
                cases vs with
                | cons v3 vs => cases hv
                | nil =>
                  refine PS.imp (ps_par O.calm hN (loc_ok O b1).1 (loc_ok O b2).1 n12 (by rw [O.sc]; exact c1) (by rw [O.sc]; exact c2) pa hw swaps_tup) fun D σ H q => ?_
                  obtain ⟨I, env, e, q⟩ := par_red q
                  refine ⟨I, env, e, tAt.mono q fun xs H1 ⟨J, envs, rs, env', I1, env1, e0, z, e1, s1, ⟨m, nd, nn⟩, hz, q1⟩ => ?_⟩
                  cases m with
                  | nil => simp only [asgAs] at hz; cases hz
                  | cons a1 a2 m2 =>
                    cases m2 with
                    | nil =>
                      simp only [asgAs] at hz
                      obtain ⟨_, _, hz⟩ := bind_ok hz
                      cases hz
                    | cons a3 a4 m3 =>
                      cases m3 with
                      | cons a5 a6 m4 =>
                        simp only [asgAs] at hz
                        obtain ⟨_, _, hz⟩ := bind_ok hz
                        obtain ⟨_, _, hz⟩ := bind_ok hz
                        cases hz
                      | nil =>
                        simp only [asgAs] at hz
                        obtain ⟨env2, g1, hz⟩ := bind_ok hz
                        obtain ⟨env3, g2, hz⟩ := bind_ok hz
                        cases hz
                        obtain ⟨_, i1, rfl⟩ := asg_nm g1
                        obtain ⟨_, i2, rfl⟩ := asg_nm g2
                        obtain ⟨e2, s2, m2, nd2, nn2⟩ := put_first e1 s1 (.cons a1 a2 (.cons a3 a4 .nil)) nd nn i1 (loc_ok O b1).2.1
                        obtain ⟨e3, s3, m3, nd3, nn3⟩ := put_first e2 s2 m2 nd2 nn2 i2 (loc_ok O b2).2.1
                        exact ⟨_, _, rfl, q1 _ _ _ e3 s3⟩
          | cons t3 r3 =>
            obtain ⟨l, rfl⟩ := locs_nm d2
            obtain ⟨w, pw, es3, rfl, b3, c3, d3⟩ := locs_step d2
            have n13 : i ≠ l := fun e => by
              subst e
              simp [nmsT] at h6
            have n23 : j ≠ l := fun e => by
              subst e
              simp [nmsT] at h6
            cases r3 with
            | cons t4 r4 =>
              obtain ⟨l4, rfl⟩ := locs_nm d3
              obtain ⟨w4, pw4, es4, rfl, _⟩ := locs_step d3
              rcases hl with hl | hl <;> simp at hl
            | nil =>
              have := locs_nil d3
              subst this
              rw [names3 hsw] at hw
              cases vs with
              | nil => cases hv
              | cons v1 vs =>
                cases vs with
                | nil => cases hv
                | cons v2 vs =>
                  cases vs with
                  | nil => cases hv
                  | cons v3 vs =>
                    cases vs with
                    | cons v4 vs => cases hv
                    | nil =>
                      refine PS.imp (ps_par3 O.calm hN (loc_ok O b1).1 (loc_ok O b2).1 (loc_ok O b3).1 n12 n13 n23 (by rw [O.sc]; exact c1) (by rw [O.sc]; exact c2) (by rw [O.sc]; exact c3) pa hw swaps_tup) fun D σ H q => ?_
                      obtain ⟨I, env, e, q⟩ := par_red q
                      refine ⟨I, env, e, tAt.mono q fun xs H1 ⟨J, envs, rs, env', I1, env1, e0, z, e1, s1, ⟨m, nd, nn⟩, hz, q1⟩ => ?_⟩
                      cases m with
                      | nil => simp only [asgAs] at hz; cases hz
                      | cons a1 a2 m2 =>
                        cases m2 with
                        | nil =>
                          simp only [asgAs] at hz
                          obtain ⟨_, _, hz⟩ := bind_ok hz
                          cases hz
                        | cons a3 a4 m3 =>
                          cases m3 with
                          | nil =>
                            simp only [asgAs] at hz
                            obtain ⟨_, _, hz⟩ := bind_ok hz
                            obtain ⟨_, _, hz⟩ := bind_ok hz
                            cases hz
                          | cons a5 a6 m4 =>
                            cases m4 with
                            | cons a7 a8 m5 =>
                              simp only [asgAs] at hz
                              obtain ⟨_, _, hz⟩ := bind_ok hz
                              obtain ⟨_, _, hz⟩ := bind_ok hz
                              obtain ⟨_, _, hz⟩ := bind_ok hz
                              cases hz
                            | nil =>
                              simp only [asgAs] at hz
                              obtain ⟨env2, g1, hz⟩ := bind_ok hz
                              obtain ⟨env3, g2, hz⟩ := bind_ok hz
                              obtain ⟨env4, g3, hz⟩ := bind_ok hz
                              cases hz
                              obtain ⟨_, i1, rfl⟩ := asg_nm g1
                              obtain ⟨_, i2, rfl⟩ := asg_nm g2
                              obtain ⟨_, i3, rfl⟩ := asg_nm g3
                              obtain ⟨e2, s2, m2, nd2, nn2⟩ := put_first e1 s1 (.cons a1 a2 (.cons a3 a4 (.cons a5 a6 .nil))) nd nn i1 (loc_ok O b1).2.1
                              obtain ⟨e3, s3, m3, nd3, nn3⟩ := put_first e2 s2 m2 nd2 nn2 i2 (loc_ok O b2).2.1
                              obtain ⟨e4, s4, m4, nd4, nn4⟩ := put_first e3 s3 m3 nd3 nn3 i3 (loc_ok O b3).2.1
                              exact ⟨_, _, _, rfl, q1 _ _ _ e4 s4⟩
    · cases h5
  · cases h
end
end Mi

set_option Elab.async false
set_option linter.all false
set_option maxRecDepth 100000
set_option maxHeartbeats 1000000
/-! Mi, part P: the other statements; all together. -/
namespace Mi
open L2 PySem PySem.Spec PyProof.Rows
section
variable {T : Tab} {G : Glo} {K : PySem.W.Frag} {EX : EXT} {c : Cl} {W : WX} {lk : Option Nat} {σ σ' : L2.St} {H H' I I' : Hp} {env env' : Env} {D : Ends} {α β ω : Type} {L : Nat}
/-! ### if, while, for -/
theorem good_brk : GoodS T G K EX c L .brk := by
  intro S X W st O tk po h
  simp only [chkS] at h
  split at h
  · exact PS.imp ps_break fun D σ H q => by
      obtain ⟨I, env, e, q⟩ := q
      exact q σ H I e .refl
  · cases h
theorem good_cnt : GoodS T G K EX c L .cnt := by
  intro S X W st O tk po h
  simp only [chkS] at h
  split at h
  · exact PS.imp ps_continue fun D σ H q => by
      obtain ⟨I, env, e, q⟩ := q
      exact q σ H I e .refl
  · cases h
theorem good_nev : GoodS T G K EX c L .nev := by
  intro S X W st O tk po h
  exact PS.imp ps_never fun D σ H q => by
    obtain ⟨I, env, e, q⟩ := q
    exact q
theorem good_exp {m : ME} (hm : GoodE T G K EX c m) : GoodS T G K EX c L (.exp m) := by
  intro S X W st O tk po h
  simp only [chkS] at h
  split at h
  · rename_i v pos
    simp only [Bool.and_eq_true, Bool.not_eq_true'] at h
    refine PS.imp (ps_expr (hm S X W v O tk h.1) (swaps_no h.2 _ _ _)) fun D σ H q => ?_
    obtain ⟨I, env, e, q⟩ := q
    simp only [execS] at q
    exact ⟨I, env, e, tAt.mono (tSA.bind0 (P1 := PArg K) q) fun x H1 ⟨a, env1, I1, e1, s1, p1, q1⟩ => q1 σ H1 I1 e1 s1⟩
  · cases h
theorem good_ret {m : ME} (hm : GoodE T G K EX c m) : GoodS T G K EX c L (.ret m) := by
  intro S X W st O tk po h
  simp only [chkS] at h
  split at h
  · rename_i v pos
    refine PS.imp (ps_ret (hm S X W v O tk h)) fun D σ H q => ?_
    obtain ⟨I, env, e, q⟩ := q
    simp only [execS] at q
    refine ⟨I, env, e, tAt.mono (tSA.bind0 (P1 := PArg K) q) fun x H1 ⟨a, env1, I1, e1, s1, p1, q1⟩ => ?_⟩
    cases a with
    | val d =>
      exact q1 σ H1 I1 e1 s1 x p1.1
    | lst ds =>
      obtain ⟨p, vs, rfl, g1, g2, g3, g4, g5⟩ := p1.1
      exact q1 σ H1 I1 e1 s1 _ ⟨p, vs, rfl, g1, g2, g3, g4, .inl (p1.2 p rfl)⟩
    | dct kvs =>
      obtain ⟨p, rfl, g1, g2, g5⟩ := p1.1
      exact q1 σ H1 I1 e1 s1 _ ⟨p, rfl, g1, g2, .inl (p1.2 p rfl)⟩
    | slot i =>
      simp only [retA] at q1
      by_cases hl : S.lk = some i
      · rw [if_pos hl] at q1
        cases z : (Arg.slot i).frz env1 with
        | ok pr =>
          obtain ⟨d, env2⟩ := pr
          simp only [z, ok_bind, pure_ok] at q1
          obtain ⟨I2, e2, rp, s2⟩ := frz_step e1 s1 p1.1 p1.2 z
          exact q1 σ H1 I2 e2 s2 x rp
        | exn k fs => exact absurd z (frz_nx _ _ _ _)
        | stk =>
          simp only [z, stk_bind] at q1
          exact (show False from q1).elim
      · rw [if_neg hl] at q1
        have hs : σ[i]? = some (some x) := p1.1
        cases z : Mi.get env1 i with
        | val d =>
          simp only [z, ok_bind, pure_ok] at q1
          obtain ⟨y, g1, g2⟩ := e1.val i d z
          rw [hs] at g1
          cases g1
          exact q1 σ H1 I1 e1 s1 x g2
        | lst ds =>
          simp only [z, ok_bind, pure_ok] at q1
          obtain ⟨p, vs, g1, g2, g3, g4, g5⟩ := e1.lst i ds z
          rw [hs] at g1
          cases g1
          exact q1 σ H1 I1 e1 s1 _ ⟨p, vs, rfl, g2, g3, g4, g5, .inr ⟨i, hl, by rw [z]; rfl, hs⟩⟩
        | dct kvs =>
          simp only [z, ok_bind, pure_ok] at q1
          obtain ⟨p, g1, g2, g3⟩ := e1.dct i kvs z
          rw [hs] at g1
          cases g1
          exact q1 σ H1 I1 e1 s1 _ ⟨p, rfl, g3, g2, .inr ⟨i, hl, by rw [z]; rfl, hs⟩⟩
        | emp =>
          simp only [z, stk_bind] at q1
          exact (show False from q1).elim
  · cases h
theorem good_iff {t : ME} {a b : MB} (ht : GoodT T G K EX c t) (ha : GoodB T G K EX c L a) (hb : GoodB T G K EX c L b) : GoodS T G K EX c L (.iff t a b) := by
  intro S X W st O tk po h
  simp only [chkS] at h
  split at h
  · rename_i v x y pos
    simp only [Bool.and_eq_true] at h
    refine PS.imp (ps_if (ht S X W v O tk h.1) (ha S X W x O tk po h.2.1) (hb S X W y O tk po h.2.2)) fun D σ H q => ?_
    obtain ⟨I, env, e, q⟩ := q
    simp only [execS] at q
    refine tT_mono (tSA.test q (testE c t) rfl e) fun k H1 ⟨env1, I1, e1, s1, q1⟩ => ?_
    cases k with
    | true => exact ⟨I1, env1, e1, q1⟩
    | false => exact ⟨I1, env1, e1, q1⟩
  · cases h
theorem good_nilB : GoodB T G K EX c L .nil := by
  intro S X W st O tk po h
  simp only [chkB, List.isEmpty_iff] at h
  subst h
  exact PSs.imp pss_nil fun D σ H q => by
    obtain ⟨I, env, e, q⟩ := q
    exact q σ H I e .refl
theorem good_consB {s : MS} {r : MB} (hs : GoodS T G K EX c L s) (hr : GoodB T G K EX c L r) : GoodB T G K EX c L (.cons s r) := by
  intro S X W st O tk po h
  cases st with
  | nil => simp only [chkB] at h; cases h
  | cons st sts =>
    simp only [chkB, Bool.and_eq_true] at h
    refine PSs.imp (pss_cons (hs S X W st O tk po h.1) (hr S X W sts O tk po h.2)) fun D σ H q => ?_
    obtain ⟨I, env, e, q⟩ := q
    simp only [execB] at q
    refine ⟨I, env, e, ?_⟩
    cases z : execS c L S.lk s env with
    | ok pr =>
      obtain ⟨env1, fl⟩ := pr
      simp only [z, ok_bind] at q
      intro σ1 H1 I1 e1 s1
      cases fl with
      | nx => exact ⟨I1, env1, e1, tSA.later s1 q⟩
      | rt a => exact q σ1 H1 I1 e1 s1
      | bk => exact q σ1 H1 I1 e1 s1
      | ct => exact q σ1 H1 I1 e1 s1
    | exn k fs =>
      simp only [z, exn_bind] at q
      exact q
    | stk =>
      simp only [z, stk_bind] at q
      exact q
theorem good_whl {t : ME} {b : MB} (ht : GoodT T G K EX c t) (hb : GoodB T G K EX c L b) : GoodS T G K EX c L (.whl t b) := by
  intro S X W st O tk po h
  simp only [chkS] at h
  split at h
  · rename_i v x pos
    simp only [Bool.and_eq_true] at h
    refine PS.imp (ps_while po (ht S X W v O tk h.1) (hb S X W x O tk po h.2)) fun D σ H q => ?_
    obtain ⟨I, env, e, q⟩ := q
    simp only [execS] at q
    refine ⟨fun m σ H => ∃ I env, EnvOk K σ H I env ∧ tSA K EX W S.lk (whlL (fun e => testE c t e) (fun e => execB c L S.lk b e) m env) σ H I env D, ⟨L, I, env, e, q⟩, ?_⟩
    rintro m σ1 H1 ⟨I1, env1, e1, q1⟩
    cases m with
    | zero => exact q1.elim
    | succ m =>
      simp only [whlL] at q1
      refine tT_mono (tSA.test q1 (testE c t) rfl e1) fun k H2 ⟨env2, I2, e2, s2, q2⟩ => ?_
      cases k with
      | false =>
        simp only [Bool.false_eq_true, if_false]
        exact q2 σ1 H2 I2 e2 .refl
      | true =>
        simp only [if_true]
        refine ⟨fun σ H => ∃ I env, EnvOk K σ H I env ∧ tSA K EX W S.lk (whlL (fun e => testE c t e) (fun e => execB c L S.lk b e) m env) σ H I env D, fun σ' H' n => ⟨m, Nat.lt_succ_self m, n⟩, I2, env2, e2, ?_⟩
        simp only at q2
        cases z : execB c L S.lk b env2 with
        | ok pr =>
          obtain ⟨env3, fl⟩ := pr
          simp only [z, ok_bind] at q2
          intro σ3 H3 I3 e3 s3
          cases fl with
          | nx => exact ⟨I3, env3, e3, tSA.later s3 q2⟩
          | ct => exact ⟨I3, env3, e3, tSA.later s3 q2⟩
          | bk => exact q2 σ3 H3 I3 e3 s3
          | rt a => exact q2 σ3 H3 I3 e3 s3
        | exn k fs =>
          simp only [z, exn_bind] at q2
          exact q2
        | stk =>
          simp only [z, stk_bind] at q2
          exact q2
  · cases h
theorem good_for {t : MT} {it : MI} {b : MB} (hi : GoodI T G K EX c it) (hb : GoodB T G K EX c L b) : GoodS T G K EX c L (.for_ t it b) := by
  intro S X W st O tk po h
  simp only [chkS] at h
  split at h
  · rename_i tg v x pos
    simp only [Bool.and_eq_true] at h
    obtain ⟨h1, h2, h3⟩ := h
    refine PS.imp (ps_for po O.calm (hi S X W (isTup t) tg v O tk (isTup_of h1) h2) (good_t O h1) (hb S X W x O tk po h3) (fun y => chkI_fold h2 _ y)) fun D σ H q => ?_
    obtain ⟨I, env, e, q⟩ := q
    simp only [execS] at q
    refine ⟨I, env, e, tAt.mono (tSA.bind (P1 := PIt K) q) fun J H1 ⟨ds, env1, I1, e1, s1, ⟨t1, z1⟩, q1⟩ => ?_⟩
    refine ⟨fun i m σ H => m = ds.length - i ∧ i ≤ ds.length ∧ ∃ I env, EnvOk K σ H I env ∧ Le I1 I ∧ tSA K EX W S.lk (forL (fun d e => putT t d e >>= fun e => execB c L S.lk b e) (ds.drop i) env) σ H I env D, ⟨ds.length, rfl, Nat.zero_le _, I1, env1, e1, Le.refl _, by rw [List.drop_zero]; exact q1⟩, ?_⟩
    rintro i m σ2 H2 ⟨rfl, hle, I2, env2, e2, le, q2⟩
    by_cases hlt : i < ds.length
    · obtain ⟨d, hd, hdr⟩ := drop_cons hlt
      rw [hdr] at q2
      simp only [forL] at q2
      refine .inr ⟨t1.go i H2 I2 le e2.le hlt, fun σ H => i + 1 ≤ ds.length ∧ ∃ I env, EnvOk K σ H I env ∧ Le I1 I ∧ tSA K EX W S.lk (forL (fun d e => putT t d e >>= fun e => execB c L S.lk b e) (ds.drop (i + 1)) env) σ H I env D, fun σ' H' n => ⟨ds.length - (i + 1), by omega, rfl, n⟩, fun y H3 yl => ?_⟩
      obtain ⟨I3, e3, s3, r3⟩ := it_yld (lk := S.lk) t1 e2 le hd yl
      cases z : putT t d env2 with
      | exn k fs => exact absurd z (putT_nx _ _ _ _ _)
      | stk =>
        simp only [z, stk_bind] at q2
        exact (show False from q2).elim
      | ok env4 =>
        simp only [z, ok_bind] at q2
        refine ⟨I3, env2, d, env4, e3, r3, z, fun σ4 e4 s4 k4 => ⟨I3, env4, e4, ?_⟩⟩
        have q3 := tSA.later (s3.trans s4) q2
        cases y2 : execB c L S.lk b env4 with
        | ok pr =>
          obtain ⟨env5, fl⟩ := pr
          simp only [y2, ok_bind] at q3
          intro σ5 H5 I5 e5 s5
          cases fl with
          | nx => exact ⟨hlt, I5, env5, e5, le.trans (s3.ile.trans (s4.ile.trans s5.ile)), tSA.later s5 q3⟩
          | ct => exact ⟨hlt, I5, env5, e5, le.trans (s3.ile.trans (s4.ile.trans s5.ile)), tSA.later s5 q3⟩
          | bk => exact q3 σ5 H5 I5 e5 s5
          | rt a => exact q3 σ5 H5 I5 e5 s5
        | exn k fs =>
          simp only [y2, exn_bind] at q3
          exact q3
        | stk =>
          simp only [y2, stk_bind] at q3
          exact q3
    · have hi' : i = ds.length := by omega
      subst hi'
      rw [List.drop_length] at q2
      exact .inl ⟨t1.stop _ H2 I2 le e2.le (Nat.le_refl _), q2 σ2 H2 I2 e2 .refl⟩
  · cases h
/-! ### name += e, name[i] = e -/
def rAug : TIp := fun x y H Q => (∃ i j, x = .int i ∧ y = .int j ∧ Q (.int (i + j)) H) ∨ rExt2 x y H Q
theorem ip_aug {X : Cx} : PIp X .Add rAug := by
  intro pins s σ H x y v u Q I rx ry h
  rcases h with h | h
  · exact ip_add pins s σ H x y v u Q I rx ry h
  · exact iop_ext pins s σ H x y v u Q I rx ry h
theorem augF_nx (o : Op2) (s : Slot) (y : PyData) : Nx (augF o s y) := by
  unfold augF
  split <;> first | exact nx_ok | exact nx_stk | exact nx_ite nx_ok nx_stk
theorem good_aug {i : Nat} {o : Op2} {m : ME} (hm : GoodE T G K EX c m) : GoodS T G K EX c L (.aug i o m) := by
  intro S X W st O tk po h
  simp only [chkS] at h
  split at h
  · rename_i x p op v pos
    simp only [Bool.and_eq_true] at h
    obtain ⟨h1, h2, h3, h4⟩ := h
    cases o <;> first | (cases h2; done) | skip
    have hop : op = .Add := by
      cases op <;> first | rfl | cases h1
    subst hop
    obtain ⟨g1, g2, g3, g4⟩ := loc_ok O h3
    refine PS.imp (ps_aug (by rw [O.N]; exact O.nd) g1 g3 (hm S X W v O tk h4) ip_aug g4) fun D σ H q => ?_
    obtain ⟨I, env, e, q⟩ := q
    have hx : ∃ x, σ[i]? = some (some x) := by
      cases z : Mi.get env i with
      | val d =>
        obtain ⟨x, g, _⟩ := e.val i d z
        exact ⟨x, g⟩
      | lst ds =>
        obtain ⟨p, vs, g, _⟩ := e.lst i ds z
        exact ⟨_, g⟩
      | dct ds =>
        obtain ⟨p, g, _⟩ := e.dct i ds z
        exact ⟨_, g⟩
      | emp =>
        simp only [execS, z] at q
        exact q.elim
    have q : tSA K EX W S.lk (frzR (evalE c m env) >>= fun p => augF .add (Mi.get p.2 i) p.1 >>= fun s => pure (put p.2 i s, Mi.Flow.nx)) σ H I env D := by
      cases z : Mi.get env i with
      | emp =>
        simp only [execS, z] at q
        exact q.elim
      | _ =>
        simp only [execS, z] at q
        exact q
    have q0 := tSA.frz q
    obtain ⟨x, hx⟩ := hx
    refine ⟨x, hx, I, env, e, tAt.mono q0 fun y H1 ⟨d, env1, I1, e1, s1, rp, q1⟩ => ?_⟩
    obtain ⟨s, hs, q1⟩ := tSA.calc (augF_nx _ _ _) q1
    cases z : Mi.get env1 i with
    | val d' =>
      rw [z] at hs
      cases d' <;> first | (cases hs; done) | skip
      cases d <;> first | (cases hs; done) | skip
      rename_i a b q1
      cases hs
      obtain ⟨x', gx, rx⟩ := e1.val i _ z
      rw [hx] at gx
      cases gx
      cases rx
      cases rp
      refine .inl ⟨a, b, rfl, rfl, ?_⟩
      obtain ⟨e2, s2⟩ := put_val (lk := S.lk) (d := .int (a + b)) (v := .int (a + b)) e1 (.int _) (get_lt env1 i (by rw [z]; intro w; cases w)) g2
      exact q1 _ H1 I1 e2 s2
    | lst ds =>
      rw [z] at hs
      cases d <;> first | (cases hs; done) | skip
      rename_i es q1
      simp only [augF] at hs
      split at hs
      · rename_i hb
        cases hs
        obtain ⟨p, vs, gp, gH, gI, gl, gr⟩ := e1.lst i ds z
        rw [hx] at gp
        cases gp
        cases rp with
        | lst s' z' r' =>
          refine .inr ⟨p, _, vs, _, rfl, rfl, gH, e1.le _ _ s', by rw [← big_eq, ← gr.length, ← r'.length]; exact hb, ?_⟩
          obtain ⟨e2, s2⟩ := upd_own (lk := S.lk) (es := ds ++ es) e1 z hx gH (by rw [List.length_append]; exact hb) (gr.append r')
          have hset : σ.set i (some (V.ref p)) = σ := by
            apply List.ext_getElem?
            intro j
            by_cases hj : i = j
            · subst hj
              rw [hx]
              exact List.getElem?_set_self (List.getElem?_eq_some_iff.mp hx).1
            · rw [List.getElem?_set_ne hj]
          rw [hset]
          exact q1 σ _ I1 e2 s2
      · cases hs
    | dct ds =>
      rw [z] at hs
      cases d <;> cases hs
    | emp =>
      rw [z] at hs
      cases d <;> cases hs
  · cases h
theorem good_sti {i : Nat} {ix m : ME} (hx : GoodE T G K EX c ix) (hm : GoodE T G K EX c m) : GoodS T G K EX c L (.sti i ix m) := by
  intro S X W st O tk po h
  simp only [chkS] at h
  split at h
  · rename_i x p j p2 v pos
    simp only [Bool.and_eq_true, decide_eq_true_eq, Bool.not_eq_true'] at h
    obtain ⟨h1, h2, h3, h4, h5, h6⟩ := h
    have hj : isSlc j = false := (chk_form h4).2.2
    refine PS.imp (ps_asg (hm S X W v O tk h5) (pg_sub (pe_recv O h1 h2 h3) (hx S X W j O tk h4) set_list (by cases j <;> first | (intro _; rfl) | cases hj)) (by unfold swapsWithSole; exact swaps_no h6 _ _ _) (by cases v <;> rfl) rfl) fun D σ H q => ?_
    obtain ⟨I, env, e, q⟩ := q
    simp only [execS] at q
    refine ⟨I, env, e, tAt.mono (tSA.frz q) fun y H1 ⟨d, env1, I1, e1, s1, rp, q1⟩ => ?_⟩
    cases z0 : Mi.get env1 i with
    | emp =>
      simp only [z0] at q1
      exact q1.elim
    | val d0 =>
      simp only [z0] at q1
      exact q1.elim
    | dct d0 =>
      simp only [z0] at q1
      exact q1.elim
    | lst d0 =>
    simp only [z0] at q1
    obtain ⟨p0, vs0, ho, _⟩ := e1.lst i d0 z0
    refine ⟨V.ref p0, ho, I1, env1, e1, tAt.mono (tSA.bind (P1 := PArg K) q1) fun k H2 ⟨r, env2, I2, e2, s2, p2, q2⟩ => ?_⟩
    obtain ⟨dx, hdx, q2⟩ := tSA.calc (see_nx r env2) q2
    obtain ⟨kk, hkk, q2⟩ := tSA.calc (int1_nx dx) q2
    have rb := see_rep e2 p2.1 hdx
    rw [int1_ok hkk] at rb
    cases z : Mi.get env2 i with
    | lst ds =>
      simp only [z] at q2
      obtain ⟨p, vs, gp, gH, gI, gl, gr⟩ := e2.lst i ds z
      rw [ho] at gp
      cases gp
      cases w : ixAt ds.length kk with
      | none =>
        simp only [w] at q2
        exact q2.elim
      | some jj =>
        simp only [w] at q2
        refine ⟨_, vs, kk, jj, rfl, rb.int, gH, by rw [← gr.length, ← ixAt_eq]; exact w, ?_⟩
        obtain ⟨e3, s3⟩ := upd_own (lk := S.lk) (es := ds.set jj d) e2 z ho gH (by rw [List.length_set]; exact gl) (gr.set (rp.le s2.ile) jj)
        exact q2 σ _ I2 e3 s3
    | _ =>
      simp only [z] at q2
      exact q2.elim
  · cases h
/-! ### name = [..] on one line -/
theorem swB_parts {elt : Expr} {gs : List Comprehension} {s : Scope} {p : Pos} {t : Str} {l : Nat} {sc : Scope} (h : swB (.ListComp elt gs s p) t l sc = true) : sc.names.lookup t = some .local := by
  simp only [swB, Bool.and_eq_true] at h
  exact eq_of_beq h.1
theorem goodN_lc {tg : MT} {vs : List Nat} {it : MI} {cd el : ME} (hi : GoodI T G K EX c it) (hc : GoodT T G K EX c cd) (he : GoodE T G K EX c el) : GoodN T G K EX c (.lc tg vs it cd el) := by
  intro S X W e i x p pos O tk h hk hl hsw
  have sw := sw_name (x := x) (p := p) (l := pos.line) (kind_ok O hk) O h
  rw [hsw] at sw
  obtain ⟨g1, g2, g3, g4⟩ := loc_ok O hl
  simp only [chkE] at h
  split at h
  · rename_i y t it0 ifs scope p2
    simp only [Bool.and_eq_true, List.all_eq_true, decide_eq_true_eq] at h
    obtain ⟨h1, h2, h3, h4, h5, h6, h7⟩ := h
    have ok : BlkOk X.N X.env.scope scope (ownOf S vs) := blkOk_by (by rw [O.N, O.sc]; exact h1)
    have q := ps_setLc O.calm (by rw [O.N]; exact O.nd) (pos := p2) (tt := tC K EX S.lk c cd) g1 (by rw [O.sc]; exact swB_parts hsw) sw (hi S X W (isTup tg) t it0 O tk (isTup_of h5) h4) ok
      (fun s Hb C cl fp => good_t (O.blk ok s Hb C cl fp) h5)
      (fun s Hb C cl fp => pts_of (S := S.blk scope) hc (O.blk ok s Hb C cl fp) takes_blk h6)
      (fun s Hb C cl fp => he (S.blk scope) _ WF y (O.blk ok s Hb C cl fp) takes_blk h7) (fun y => chkI_fold h4 _ y)
    rw [own_snd] at q
    exact PS.imp q fun D σ H q => lc_red (fun v hv => h3 v hv) (fun j hj => by simpa using h2 j hj) q
  · cases h
theorem goodN_lc2 {tg tg1 : MT} {vs vs1 : List Nat} {it it1 : MI} {cd el : ME} (hi : GoodI T G K EX c it) (hi1 : GoodI T G K EX c it1) (hc : GoodT T G K EX c cd) (he : GoodE T G K EX c el) : GoodN T G K EX c (.lc2 tg vs it tg1 vs1 it1 cd el) := by
  intro S X W e i x p pos O tk h hk hl hsw
  have sw := sw_name (x := x) (p := p) (l := pos.line) (kind_ok O hk) O h
  rw [hsw] at sw
  obtain ⟨g1, g2, g3, g4⟩ := loc_ok O hl
  simp only [chkE] at h
  split at h
  · rename_i y t it0 t1 i1 ifs scope p2
    simp only [Bool.and_eq_true, List.all_eq_true, decide_eq_true_eq] at h
    obtain ⟨h1, h2, h3, h3', h3'', h4, h5, h4', h5', h6, h7⟩ := h
    have ok : BlkOk X.N X.env.scope scope (ownOf S vs) := blkOk_by (by rw [O.N, O.sc]; exact h1)
    have q := ps_setLc2 O.calm (by rw [O.N]; exact O.nd) (vs1 := vs1) (pos := p2) (tt := tYes) (tt1 := tC K EX S.lk c cd) g1 (by rw [O.sc]; exact swB_parts hsw) sw (hi S X W (isTup tg) t it0 O tk (isTup_of h5) h4) ok (by rw [own_snd]; exact fun v hv => by simpa using h3' v hv)
      (fun s Hb C cl fp => good_t (O.blk ok s Hb C cl fp) h5) (fun s Hb C cl fp => pts_nil)
      (fun s Hb C cl fp => hi1 (S.blk scope) _ WF (isTup tg1) t1 i1 (O.blk ok s Hb C cl fp) takes_blk (isTup_of h5') h4')
      (fun s Hb C cl fp => good_t (O.blk ok s Hb C cl fp) h5')
      (fun s Hb C cl fp => pts_of (S := S.blk scope) hc (O.blk ok s Hb C cl fp) takes_blk h6)
      (fun s Hb C cl fp => he (S.blk scope) _ WF y (O.blk ok s Hb C cl fp) takes_blk h7) (fun y => chkI_fold h4 _ y) (fun env y => chkI_fold h4' env y)
    rw [own_snd] at q
    exact PS.imp q fun D σ H q => lc2_red (fun v hv => h3 v hv) (fun j hj => by have := h2 j hj; simp at this; exact this.1) (fun v hv => by simpa using h3' v hv) (fun j hj => by simpa using h3'' j hj) q
  · cases h
/-- a text that is no comprehension -/
theorem goodN_other {m : ME} (hm : ∀ S elt gs s p, chkE T G S m (.ListComp elt gs s p) = false) : GoodN T G K EX c m := by
  intro S X W e i x p pos O tk h hk hl hsw
  cases e with
  | ListComp elt gs s p2 =>
    rw [hm] at h
    cases h
  | _ => cases hsw
def isTestM : ME → Bool
  | .not _ => true
  | .and _ _ => true
  | .or _ _ => true
  | .cmp _ _ _ => true
  | .chn _ _ _ _ _ => true
  | .ite _ _ _ => true
  | _ => false
def isLcM : ME → Bool
  | .lc _ _ _ _ _ => true
  | .lc2 _ _ _ _ _ _ _ _ => true
  | _ => false
theorem form_no {m : ME} (hm : isTestM m = false) {S : Sc} {e : Expr} (h : chkE T G S m e = true) : isTestForm e = false := by
  cases e with
  | UnaryOp op x p =>
    cases op <;> first | rfl | (cases m <;> first | (cases hm; done) | (simp only [chkE] at h; cases h; done))
  | BoolOp o xs p => cases m <;> first | (cases hm; done) | (simp only [chkE] at h; cases h; done)
  | IfExp x y z p => cases m <;> first | (cases hm; done) | (simp only [chkE] at h; cases h; done)
  | Compare x o y p => cases m <;> first | (cases hm; done) | (simp only [chkE] at h; cases h; done)
  | _ => rfl
theorem lc_no {m : ME} (hm : isLcM m = false) {S : Sc} {elt : Expr} {gs : List Comprehension} {s : Scope} {p : Pos} : chkE T G S m (.ListComp elt gs s p) = false := by
  cases m <;> first | (cases hm; done) | (simp only [chkE]; done)
def Good3 (T : Tab) (G : Glo) (K : PySem.W.Frag) (EX : EXT) (c : Cl) (m : ME) : Prop := GoodE T G K EX c m ∧ GoodT T G K EX c m ∧ GoodN T G K EX c m
theorem good3 {m : ME} (h : GoodE T G K EX c m) (hf : isTestM m = false) (hm : isLcM m = false) : Good3 T G K EX c m := ⟨h, good_plain h fun _ _ q => form_no hf q, goodN_other fun _ _ _ _ _ => lc_no hm⟩
theorem good3t {m : ME} (h : GoodE T G K EX c m) (ht : GoodT T G K EX c m) (hm : isLcM m = false) : Good3 T G K EX c m := ⟨h, ht, goodN_other fun _ _ _ _ _ => lc_no hm⟩
theorem good_nop : GoodE T G K EX c .nop := by
  intro S X W e O tk h
  simp only [chkE] at h
  cases h
theorem good_mth {m : Mth} {a : ME} {as : MA} : GoodE T G K EX c (.mth m a as) := by
  intro S X W e O tk h
  simp only [chkE] at h
  cases h
mutual
theorem all_E : ∀ m : ME, Good3 T G K EX c m
  | .var i => good3 (good_var i) rfl rfl
  | .cst d => good3 (good_cst d) rfl rfl
  | .gbl x d => good3 (good_gbl x d) rfl rfl
  | .nop => good3 good_nop rfl rfl
  | .tup as => good3 (good_tup (all_A as).2.1) rfl rfl
  | .lst as => good3 (good_lst (all_A as).2.1) rfl rfl
  | .sub a b => good3 (good_sub (all_E a).1 (all_E b).1) rfl rfl
  | .slc a lo hi => good3 (good_slc (all_E a).1 (all_E lo).1 (all_E hi).1) rfl rfl
  | .rev a => good3 (good_rev (all_E a).1) rfl rfl
  | .op2 o a b => good3 (good_op2 (all_E a).1 (all_E b).1) rfl rfl
  | .neg a => good3 (good_neg (all_E a).1) rfl rfl
  | .not a => good3t (good_not (all_E a).1) (goodT_not (all_E a).2.1) rfl
  | .and a b => good3t (good_and (all_E a).1 (all_E b).1) (goodT_and (all_E a).2.1 (all_E b).2.1) rfl
  | .or a b => good3t (good_or (all_E a).1 (all_E b).1) (goodT_or (all_E a).2.1 (all_E b).2.1) rfl
  | .cmp o a b => good3t (good_cmp (all_E a).1 (all_E b).1) (goodT_cmp (all_E a).1 (all_E b).1) rfl
  | .chn o p a b d => good3t (good_chn (all_E a).1 (all_E b).1 (all_E d).1) (goodT_chn (all_E a).1 (all_E b).1 (all_E d).1) rfl
  | .ite t a b => good3t (good_ite (all_E t).2.1 (all_E a).1 (all_E b).1) (goodT_ite (all_E t).2.1 (all_E a).2.1 (all_E b).2.1) rfl
  | .call f as => good3 (good_call (all_A as).1) rfl rfl
  | .blt b as => good3 (good_blt (all_A as).1) rfl rfl
  | .isi a t => good3 (good_isi (all_E a).1) rfl rfl
  | .lc tg vs it cd el => ⟨good_lc (all_I it) (all_E cd).2.1 (all_E el).1, good_plain (good_lc (all_I it) (all_E cd).2.1 (all_E el).1) fun _ _ q => form_no rfl q, goodN_lc (all_I it) (all_E cd).2.1 (all_E el).1⟩
  | .lc2 tg vs it tg1 vs1 it1 cd el => ⟨good_lc2 (all_I it) (all_I it1) (all_E cd).2.1 (all_E el).1, good_plain (good_lc2 (all_I it) (all_I it1) (all_E cd).2.1 (all_E el).1) fun _ _ q => form_no rfl q, goodN_lc2 (all_I it) (all_I it1) (all_E cd).2.1 (all_E el).1⟩
  | .mth m a as => good3 good_mth rfl rfl
  | .app i e => good3 (good_app (all_E e).1) rfl rfl
  | .pop i => good3 good_pop rfl rfl
  | .popAt i e => good3 (good_popAt (all_E e).1) rfl rfl
  | .trg a => good3 (good_trg (all_E a).1) rfl rfl
theorem all_A : ∀ m : MA, GoodA T G K EX c m ∧ GoodF T G K EX c m ∧ GoodM T G K EX c m
  | .nil => ⟨good_nilA, good_nilF, good_nilM⟩
  | .cons e r => ⟨good_consA (all_E e).1 (all_A r).1, good_consF (all_E e).1 (all_A r).2.1, good_consM (all_E e).1 (all_A r).2.2⟩
theorem all_I : ∀ m : MI, GoodI T G K EX c m
  | .seq e => good_seq (all_E e).1
  | .rng1 a => good_rng1 (all_E a).1
  | .rng2 a b => good_rng2 (all_E a).1 (all_E b).1
  | .enm e => good_enm (all_E e).1
  | .zip a b => good_zip (all_E a).1 (all_E b).1
end
/-! ### raise -/
theorem good_rse {k : Nat} {as : MA} : GoodS T G K EX c L (.rse k as) := by
  intro S X W st O tk po h
  simp only [chkS] at h
  split at h
  · rename_i x p m j p2 pos pos2
    simp only [Bool.and_eq_true, decide_eq_true_eq] at h
    obtain ⟨h0, h1, h2, h3⟩ := h
    obtain ⟨C, g1, g2, g3, g4, g5, g6⟩ := O.mke k x h1
    rw [← O.kk] at g2 g3 g4 g5
    refine PS.imp (ps_raise O.calm tk (pmk_own PySem.F.excBase_ValueError g2 g1 g3 (raises_own g4 g5) (gl_ok (by rw [O.sc]; exact h2)) (plain_ok h3).1)) fun D σ H q => ?_
    obtain ⟨I, env, e, q⟩ := q
    have hn : as = .nil := by
      cases as with
      | nil => rfl
      | cons a r => cases h0
    subst hn
    simp only [execS, evalF, ok_bind] at q
    exact q (.ref C) none σ H (g6 H) .refl rfl
  · cases h
/-! ### try -/
theorem evalHs_len {S : Sc} {i n : Nat} : ∀ {l : HXs} {es : List Expr} {ds : List PyData}, chkHs G S i l es = true → evalHs l n = .ok ds → ds.length = es.length
  | .nil, es, ds, h, q => by
    simp only [chkHs, List.isEmpty_iff] at h
    simp only [evalHs] at q
    cases q
    subst h
    rfl
  | .cons a r, [], ds, h, q => by
    simp only [chkHs] at h
    cases h
  | .cons a r, e :: es, ds, h, q => by
    simp only [chkHs, Bool.and_eq_true] at h
    simp only [evalHs] at q
    obtain ⟨g, _, q⟩ := bind_ok q
    cases g with
    | val d =>
      obtain ⟨ds1, h1, h2⟩ := bind_ok q
      cases h2
      rw [List.length_cons, List.length_cons, evalHs_len h.2 h1]
    | _ => cases q
/-- the answer of an except clause, in the heap H, at a heap that has grown -/
def HdOk (K : PySem.W.Frag) (H H2 : Hp) : Arg → V → Prop
  | .val d, x => ∀ I, Rep K I d x
  | .lst ds, x => ∃ p vs, x = V.ref p ∧ H2 p = some (.lst vs) ∧ H p = none ∧ ds.length ≤ big ∧ ∀ I, RepL K I ds vs
  | _, _ => False
theorem hd_older {H H1 H2 : Hp} {g : Arg} {x : V} (up : Le H H1) (h : HdOk K H1 H2 g x) : HdOk K H H2 g x := by
  cases g with
  | val d => exact h
  | lst ds =>
    obtain ⟨p, vs, e, h1, h2, h3⟩ := h
    refine ⟨p, vs, e, h1, ?_, h3⟩
    cases y : H p with
    | none => rfl
    | some o =>
      have := up p o y
      rw [h2] at this
      cases this
  | dct kvs => exact h
  | slot j => exact h
/-- the reading; n the exception's number, i the slot of its name -/
def tH (K : PySem.W.Frag) (i : Nat) (a : Addr) (r : R Arg) : TE := fun σ H Q => σ[i]? = some (some (V.ref a)) ∧ ∃ g, r = .ok g ∧ ∀ x H2, Le H H2 → HdOk K H H2 g x → Q x H2
def tHs (K : PySem.W.Frag) (i : Nat) (a : Addr) (r : R (List PyData)) : TA := fun σ H Q => σ[i]? = some (some (V.ref a)) ∧ ∃ ds, r = .ok ds ∧ ∀ xs H2, Le H H2 → (∀ I, RepL K I ds xs) → Q xs H2
theorem cst_rep {d : PyData} {k : Const} (h : cstB d k = true) : ∃ v, (∀ I, Rep K I d v) ∧ ∀ (X : Cx) (n : Nat) (p : Pos), PE X (.Constant k n p) (fun σ H Q => Q v H) := by
  cases d <;> cases k <;> first | (simp only [cstB] at h; cases h; done) | skip
  · exact ⟨.non, fun _ => .non, fun X n p => pe_non⟩
  · rename_i a b
    have e1 : a = b := by simpa only [cstB, beq_iff_eq] using h
    subst e1
    exact ⟨.bl a, fun _ => .bl a, fun X n p => pe_bl⟩
  · rename_i a b
    have e1 : a = b := by simpa only [cstB, decide_eq_true_eq] using h
    subst e1
    exact ⟨.int a, fun _ => .int a, fun X n p => pe_int⟩
  · rename_i a b
    have e1 : a = b := by simpa only [cstB, decide_eq_true_eq] using h
    subst e1
    exact ⟨.str a, fun _ => .str a, fun X n p => pe_str⟩
section
variable {S : Sc} {X : Cx} {a D : Addr} {oe : Obj} {pn : List (Addr × Obj)} {n i : Nat} {fs : List PyData}
theorem isE_ok {ks : List Nat} {x y z : Str} {p1 p2 p3 p4 : Pos} (O : OkX T G K EX c S X) (hz : L2.Zc (.ref D) none oe) (hf : ∃ vs, oe.data = .fields vs) (hD : ExcC K D) (hE : ∃ H, EX n fs (.ref D) none H)
    (h1 : x = ("isinstance" : Str)) (h2 : freeB G S x = true) (h3 : S.N[i]? = some y) (h4 : visB S.sc y = true) (h5 : plainB y = true) (h6 : glB S.sc z = true) (h7 : plainB z = true) (h8 : G.isx z = some ks) :
    PE (X.suite a ((a, oe) :: pn)) (.Call (.Name x p1) [.Name y p2, .Name z p3] [] p4) (fun σ H Q => σ[i]? = some (some (V.ref a)) ∧ Q (.bl (ks.contains n)) H) := by
  obtain ⟨gl, hm, hdb, hn⟩ := free_ok O h2
  obtain ⟨C, m1, m2⟩ := O.isx z ks h8
  obtain ⟨H0, hE⟩ := hE
  obtain ⟨_, k2⟩ := m2 n fs D H0 hE
  subst h1
  have hc := call_isE (X := X) (pn := pn) (a := a) (by rw [O.kk]; exact hD) hz hf
  have py : PE (X.suite a ((a, oe) :: pn)) (.Name y p2) (tVar i) := pe_var (by show X.N[i]? = _; rw [O.N]; exact h3) (show Vis X.env.scope y by rw [O.sc]; exact vis_ok h4) (plain_ok h5).1 (plain_ok h5).2.1
  have gz : Gl X z := gl_ok (by rw [O.sc]; exact h6)
  have pz : PE (X.suite a ((a, oe) :: pn)) (.Name z p3) (fun σ H Q => Q (.ref C) H) := pe_glob (X := X.suite a ((a, oe) :: pn)) gz m1 rfl (plain_ok h7).1
  refine PE.imp (pe_callB hc gl hm (by decide +kernel) (pa_cons py (pa_cons pz pa_nil rfl) rfl) hn hdb rfl rfl) fun σ H Q q => ?_
  refine ⟨V.ref a, q.1, .ref C, .ref C, ks.contains n, rfl, fun u hu => hu, ?_, q.2⟩
  rw [O.kk]
  exact k2
mutual
theorem good_H (O : OkX T G K EX c S X) (hz : L2.Zc (.ref D) none oe) (hf : ∃ vs, oe.data = .fields vs) (hD : ExcC K D) (hE : ∃ H, EX n fs (.ref D) none H) : ∀ {h : HX} {e : Expr}, chkH G S i h e = true → PE (X.suite a ((a, oe) :: pn)) e (tH K i a (evalH h n))
  | .cst d, e, h => by
    simp only [chkH] at h
    split at h
    · obtain ⟨v, v1, v2⟩ := cst_rep (K := K) h
      refine PE.imp (v2 _ _ _) fun σ H Q q => ?_
      obtain ⟨_, g, hg, q⟩ := q
      simp only [evalH] at hg
      cases hg
      exact q v H (Le.refl _) v1
    · cases h
  | .isE ks, e, h => by
    simp only [chkH] at h
    split at h
    · simp only [Bool.and_eq_true, decide_eq_true_eq] at h
      obtain ⟨h1, h2, h3, h4, h5, h6, h7, h8⟩ := h
      refine PE.imp (isE_ok O hz hf hD hE h1 h2 h3 h4 h5 h6 h7 h8) fun σ H Q q => ?_
      obtain ⟨q0, g, hg, q⟩ := q
      simp only [evalH] at hg
      cases hg
      exact ⟨q0, q _ H (Le.refl _) fun I => .bl _⟩
    · cases h
  | .ite t u v, e, h => by
    simp only [chkH] at h
    split at h
    · rename_i x y z pos
      simp only [Bool.and_eq_true] at h
      obtain ⟨h0, h1, h2, h3⟩ := h
      have px := good_H O hz hf hD hE h1
      have pt : PT (X.suite a ((a, oe) :: pn)) x (tB (tH K i a (evalH t n))) := pt_plain (by cases x <;> first | rfl | cases h0) px
      refine PE.imp (pe_ifExp pt (good_H O hz hf hD hE h2) (good_H O hz hf hD hE h3)) fun σ H Q q => ?_
      obtain ⟨q0, g, hg, q⟩ := q
      simp only [evalH] at hg
      obtain ⟨r, hr, hg⟩ := bind_ok hg
      refine ⟨q0, r, hr, fun w H2 up ok => ?_⟩
      cases r with
      | val d =>
        cases d with
        | bool bb =>
          have hw : w = .bl bb := by
            cases ok (fun _ => none)
            rfl
          subst hw
          refine ⟨bb, rfl, ?_⟩
          cases bb with
          | true =>
            rw [if_pos rfl]
            exact ⟨q0, g, hg, fun y H3 up3 ok3 => q y H3 (up.trans up3) (hd_older up ok3)⟩
          | false =>
            rw [if_neg Bool.false_ne_true]
            exact ⟨q0, g, hg, fun y H3 up3 ok3 => q y H3 (up.trans up3) (hd_older up ok3)⟩
        | _ => cases hg
      | _ => cases hg
    · cases h
  | .lst l, e, h => by
    simp only [chkH] at h
    split at h
    · rename_i es pos
      simp only [Bool.and_eq_true, decide_eq_true_eq] at h
      refine PE.imp (pe_lst (good_Hs O hz hf hD hE h.2)) fun σ H Q q => ?_
      obtain ⟨q0, g, hg, q⟩ := q
      simp only [evalH] at hg
      obtain ⟨ds, hds, hg⟩ := bind_ok hg
      cases hg
      refine ⟨q0, ds, hds, fun xs H1 up rl => ?_⟩
      have hl := evalHs_len h.2 hds
      have hx := (rl (fun _ => none)).length
      have hb := big1000 h.1
      have old : ∀ p, H1 p = none → H p = none := fun p hp => by
        cases y : H p with
        | none => rfl
        | some o =>
          have := up p o y
          rw [hp] at this
          cases this
      exact ⟨by rw [← big_eq]; omega, fun p hp => q (.ref p) _ (fun b o w => by rw [upd_ne (ne_of_none (up b o w) hp)]; exact up b o w) ⟨p, xs, rfl, upd_same, old p hp, by omega, rl⟩⟩
    · cases h
theorem good_Hs (O : OkX T G K EX c S X) (hz : L2.Zc (.ref D) none oe) (hf : ∃ vs, oe.data = .fields vs) (hD : ExcC K D) (hE : ∃ H, EX n fs (.ref D) none H) : ∀ {l : HXs} {es : List Expr}, chkHs G S i l es = true → PA (X.suite a ((a, oe) :: pn)) es (tHs K i a (evalHs l n))
  | .nil, es, h => by
    simp only [chkHs, List.isEmpty_iff] at h
    subst h
    refine PA.imp pa_nil fun σ H Q q => ?_
    obtain ⟨_, ds, hds, q⟩ := q
    simp only [evalHs] at hds
    cases hds
    exact q [] H (Le.refl _) fun _ => .nil
  | .cons hx r, [], h => by
    simp only [chkHs] at h
    cases h
  | .cons hx r, e :: es, h => by
    simp only [chkHs, Bool.and_eq_true] at h
    have hstar : isStar e = false := by
      cases e <;> first | rfl | (cases hx <;> (simp only [chkH] at h; cases h.1))
    refine PA.imp (pa_cons (good_H O hz hf hD hE h.1) (good_Hs O hz hf hD hE h.2) (star_of hstar _ _)) fun σ H Q q => ?_
    obtain ⟨q0, ds, hds, q⟩ := q
    simp only [evalHs] at hds
    obtain ⟨g, hg, hds⟩ := bind_ok hds
    cases g with
    | val d =>
      obtain ⟨ds1, h1, h2⟩ := bind_ok hds
      cases h2
      exact ⟨q0, .val d, hg, fun x H2 up ok => ⟨q0, ds1, h1, fun xs H3 up3 rl => q (x :: xs) H3 (up.trans up3) fun I => .cons (ok I) (rl I)⟩⟩
    | _ => cases hds
end
end
/-- the frame of which nothing is known -/
theorem emps_ok {n : Nat} (le : Le I H) (hn : n = σ.length) : EnvOk K σ H I (List.replicate n Slot.emp) := by
  have none_ : ∀ i, Mi.get (List.replicate n Slot.emp) i = .emp := fun i => by
    induction n generalizing i σ with
    | zero => rfl
    | succ m ih =>
      cases i with
      | zero => rfl
      | succ j =>
        show Mi.get (List.replicate m Slot.emp) j = .emp
        exact ih (σ := List.replicate m none) (by simp) j
  refine ⟨le, by rw [List.length_replicate]; exact hn, fun i d q => ?_, fun i ds q => ?_, fun i kvs q => ?_, fun i j a q => ?_⟩
  · rw [none_ i] at q
    cases q
  · rw [none_ i] at q
    cases q
  · rw [none_ i] at q
    cases q
  · rw [none_ i] at q
    cases q
theorem emps_own {n : Nat} {a : Addr} : ¬ Owned σ (List.replicate n Slot.emp) a := by
  have none_ : ∀ n i, Mi.get (List.replicate n Slot.emp) i = .emp := fun n => by
    induction n with
    | zero => intro i; rfl
    | succ m ih =>
      intro i
      cases i with
      | zero => rfl
      | succ j => exact ih j
  rintro ⟨i, h, _⟩
  rw [none_ n i] at h
  cases h
theorem fix_kept {H2 : Hp} (e : EnvOk K σ H I env) (k : KeepX σ H env H') (up : Le H' H2) : Le I H2 := by
  intro a o h
  refine up a o (k.1 a o (e.le a o h) ?_)
  rintro ⟨i, h1, h2⟩
  cases q : Mi.get env i with
  | lst ds =>
    obtain ⟨p, vs, g1, _, g3, _⟩ := e.lst i ds q
    rw [h2] at g1
    cases g1
    rw [h] at g3
    cases g3
  | dct ds =>
    obtain ⟨p, g1, g3, _⟩ := e.dct i ds q
    rw [h2] at g1
    cases g1
    rw [h] at g3
    cases g3
  | val d =>
    rw [q] at h1
    cases h1
  | emp =>
    rw [q] at h1
    cases h1
mutual
theorem evalH_nx : ∀ (h : HX) (n : Nat), Nx (evalH h n)
  | .cst d, n => by
    simp only [evalH]
    exact nx_ok
  | .isE ks, n => by
    simp only [evalH]
    exact nx_ok
  | .ite t a b, n => by
    simp only [evalH]
    refine nx_bind (evalH_nx t n) fun r => ?_
    split
    · exact evalH_nx a n
    · exact evalH_nx b n
    · exact nx_stk
  | .lst l, n => by
    simp only [evalH]
    exact nx_bind (evalHs_nx l n) fun _ => nx_ok
theorem evalHs_nx : ∀ (h : HXs) (n : Nat), Nx (evalHs h n)
  | .nil, n => by
    simp only [evalHs]
    exact nx_ok
  | .cons h r, n => by
    simp only [evalHs]
    refine nx_bind (evalH_nx h n) fun g => ?_
    cases g with
    | val d => exact nx_bind (evalHs_nx r n) fun _ => nx_ok
    | _ => exact nx_stk
end
theorem chkH0_ok {h : HX} {e : Expr} (q : chkH0 h e = true) : ∃ d k n p, h = .cst d ∧ e = .Constant k n p ∧ cstB d k = true := by
  unfold chkH0 at q
  split at q
  · exact ⟨_, _, _, _, rfl, rfl, q⟩
  · cases q
theorem good_tryS {b : MB} {ks : List Nat} {v : Option Nat} {h0 : HX} (hb : GoodB T G K EX c L b) : GoodS T G K EX c L (.tryS b ks v h0) := by
  intro S X W st O tk po h
  simp only [chkS] at h
  split at h
  · rename_i body x np n e rp pos' pos
    simp only [Bool.and_eq_true, Option.isNone_iff_eq_none, decide_eq_true_eq] at h
    obtain ⟨h1, h2, h3, h4, h5, h6, h7⟩ := h
    obtain ⟨st1, st2⟩ := O.top h1
    obtain ⟨Cx, m1, m2⟩ := O.isx x ks h4
    have gx : Gl X x := gl_ok (by rw [O.sc]; exact h5)
    have nm : L2.Names X x (.ref Cx) := ⟨gx, (plain_ok h6).1, .inl m1⟩
    have bodyOk : ∀ (W' : WX) (pn : List (Addr × Obj)) (xe : Value → Shared → Prop), Takes (X.tr pn xe) W' → PassesOwn (model X.prog X.w) X.A X.env xe → PSs (X.tr pn xe) body (tS K EX W' S.lk (execB c L S.lk b)) := fun W' pn xe t' p' =>
      hb S (X.tr pn xe) W' body ⟨O.kk, O.N, O.sc, O.calm, O.grd, O.nd, O.free, O.cst, O.wr, O.io, O.top, O.ex, O.mke, O.isx, O.fns⟩ t' p' h3
    -- what the clause wishes
    have red : ∀ (W' : WX) {D : Ends} {σ : L2.St} {H : Hp}, (∀ C d σ' H' k fs a, EX k fs C d H' → ks.contains k = false → W C d σ' H' → W' C d σ' H') →
        (∀ C d σ' H' k fs g, EX k fs C d H' → ks.contains k = true → σ'.length = σ.length → evalH h0 k = .ok g → (∀ y H2, Le H' H2 → HdOk K H' H2 g y → D.rt y H2) → W' C d σ' H') →
        tS K EX W S.lk (execS c L S.lk (.tryS b ks v h0)) D σ H → tS K EX W' S.lk (execB c L S.lk b) D σ H := fun W' {D σ H} w1 w2 q => by
      obtain ⟨I, env, e0, q⟩ := q
      simp only [execS] at q
      refine ⟨I, env, e0, ?_⟩
      cases z : execB c L S.lk b env with
      | ok r =>
        rw [z] at q
        exact q
      | stk =>
        rw [z] at q
        exact q
      | exn k fs =>
        rw [z] at q
        intro C d σ' H' ex kp hl
        cases hk : ks.contains k with
        | false =>
          simp only [hk, Bool.false_eq_true, if_false] at q
          exact w1 C d σ' H' k fs 0 ex hk (q C d σ' H' ex kp hl)
        | true =>
          simp only [hk, if_true] at q
          cases hg : evalH h0 k with
          | exn _ _ => exact absurd hg (evalH_nx _ _ _ _)
          | stk =>
            simp only [hg, stk_bind] at q
            exact (show False from q).elim
          | ok g =>
            simp only [hg, ok_bind, pure_ok] at q
            refine w2 C d σ' H' k fs g ex hk hl hg fun y H2 up ok => ?_
            have le2 := fix_kept e0 kp up
            refine q σ H2 I (emps_ok le2 e0.len) ⟨Le.refl _, fun a o w n => up a o (kp.1 a o w n), fun a w => .inl w, fun a w => absurd w emps_own, fun a w => ?_, fun k' hk' => ?_, rfl⟩ y ?_
            · have := kp.2 a w
              cases y2 : H' a with
              | none => exact absurd y2 this
              | some o =>
                rw [up a o y2]
                simp
            · rw [h2] at hk'
            · cases g with
              | val d' => exact ok I
              | lst ds =>
                obtain ⟨p, vs, rfl, g1, g2, g3, g4⟩ := ok
                have hp : H p = none := by
                  cases y2 : H p with
                  | none => rfl
                  | some o => exact absurd g2 (kp.2 p (by rw [y2]; simp))
                refine ⟨p, vs, rfl, g1, ?_, g3, g4 I, .inl hp⟩
                cases y3 : I p with
                | none => rfl
                | some o =>
                  have := e0.le p o y3
                  rw [hp] at this
                  cases this
              | dct kvs => exact ok.elim
              | slot j => exact ok.elim
    split at h7
    · rename_i y i
      simp only [Bool.and_eq_true, decide_eq_true_eq] at h7
      obtain ⟨k1, k2, k3, k4, k5⟩ := h7
      have hi : i < X.N.length := by
        rw [O.N]
        exact (List.getElem?_eq_some_iff.mp k1).1
      let ts : Addr → Value → Option Addr → TS := fun a cls d D σ H => ∃ k fs g, EX k fs cls d H ∧ σ[i]? = some (some (V.ref a)) ∧ evalH h0 k = .ok g ∧ ∀ y H2, Le H H2 → HdOk K H H2 g y → D.rt y H2
      have p := ps_try_as (pos := pos) (pos' := pos') (np := np) (i := i) (n := y) (b₀ := .Return (some e) rp) (suite := []) (ts := ts) st1 st2 (by rw [O.N]; exact O.nd) (by rw [O.N]; exact k1) (show X.env.scope.names.lookup y = _ by rw [O.sc]; exact k4) nm tk bodyOk
        (fun a oe cls d pn hz hf => ⟨fun pins s σ H Dn J hts => by
          obtain ⟨k, fs, g, ex, hs, hg, q⟩ := hts
          obtain ⟨rfl, D, rfl, hD⟩ := O.ex k fs cls d H ex
          exact (pss_one (ps_ret (good_H O hz hf hD ⟨H, ex⟩ k5))).run pins s σ H Dn J ⟨hs, g, hg, q⟩⟩)
      refine ⟨fun pins s σ H Dn J q => p.run pins s σ H Dn J ?_⟩
      have lenN := J.len
      have q0 := q
      obtain ⟨I, env, e0, _⟩ := q0
      refine red _ (fun C d σ' H' k fs a ex hk w => ?_) (fun C d σ' H' k fs g ex hk hl hg w => ?_) q
      · obtain ⟨rfl, D, rfl, hD⟩ := O.ex k fs C d H' ex
        obtain ⟨e1, e2⟩ := m2 k fs D H' ex
        refine ⟨false, by rw [O.kk, e1, hk], fun z => Bool.noConfusion z, fun _ => w⟩
      · have ex' := ex
        obtain ⟨rfl, D, rfl, hD⟩ := O.ex k fs C d H' ex
        obtain ⟨e1, e2⟩ := m2 k fs D H' ex
        refine ⟨true, by rw [O.kk, e1, hk], fun _ a na => ⟨k, fs, g, ex', List.getElem?_set_self (by rw [hl, lenN]; exact hi), hg, w⟩, fun z => Bool.noConfusion z⟩
    · let ts : Addr → Value → Option Addr → TS := fun a cls d D σ H => ∃ k fs g, EX k fs cls d H ∧ evalH h0 k = .ok g ∧ ∀ y H2, Le H H2 → HdOk K H H2 g y → D.rt y H2
      have p := ps_try_only (pos := pos) (pos' := pos') (np := np) (b₀ := .Return (some e) rp) (suite := []) (ts := ts) st1 st2 nm tk bodyOk
        (fun a oe cls d pn hz hf => ⟨fun pins s σ H Dn J hts => by
          obtain ⟨k, fs, g, ex, hg, q⟩ := hts
          obtain ⟨d0, kk0, nn0, pp0, rfl, rfl, hcst⟩ := chkH0_ok h7
          obtain ⟨v0, v1, v2⟩ := cst_rep (K := K) hcst
          simp only [evalH] at hg
          cases hg
          exact (pss_one (ps_ret (v2 _ nn0 pp0))).run pins s σ H Dn J (q v0 H (Le.refl _) v1)⟩)
      refine ⟨fun pins s σ H Dn J q => p.run pins s σ H Dn J ?_⟩
      refine red _ (fun C d σ' H' k fs a ex hk w => ?_) (fun C d σ' H' k fs g ex hk hl hg w => ?_) q
      · obtain ⟨rfl, D, rfl, hD⟩ := O.ex k fs C d H' ex
        obtain ⟨e1, e2⟩ := m2 k fs D H' ex
        refine ⟨false, by rw [O.kk, e1, hk], fun z => Bool.noConfusion z, fun _ => w⟩
      · have ex' := ex
        obtain ⟨rfl, D, rfl, hD⟩ := O.ex k fs C d H' ex
        obtain ⟨e1, e2⟩ := m2 k fs D H' ex
        refine ⟨true, by rw [O.kk, e1, hk], fun _ a na => ⟨k, fs, g, ex', hg, w⟩, fun z => Bool.noConfusion z⟩
    · cases h7
  · cases h
mutual
theorem all_S : ∀ m : MS, GoodS T G K EX c L m
  | .asg t e => good_asg (all_E e).1 (all_E e).2.2
  | .par ts as => good_par (all_A as).2.2
  | .aug i o e => good_aug (all_E e).1
  | .sti i ix e => good_sti (all_E ix).1 (all_E e).1
  | .exp e => good_exp (all_E e).1
  | .iff t a b => good_iff (all_E t).2.1 (all_B a) (all_B b)
  | .whl t b => good_whl (all_E t).2.1 (all_B b)
  | .for_ t it b => good_for (all_I it) (all_B b)
  | .ret e => good_ret (all_E e).1
  | .brk => good_brk
  | .cnt => good_cnt
  | .rse k as => good_rse
  | .tryS b k v h => good_tryS (all_B b)
  | .nev => good_nev
theorem all_B : ∀ m : MB, GoodB T G K EX c L m
  | .nil => good_nilB
  | .cons s r => good_consB (all_S s) (all_B r)
end
end
end Mi

set_option Elab.async false
set_option linter.all false
set_option maxRecDepth 100000
set_option maxHeartbeats 1000000
/-! Mi, part Q: defs, the law's call. -/
namespace Mi
open L2 PySem PySem.Spec PyProof.Rows
example (A : Around) (e : PySem.Env) : (A.deeper e).guards = A.guards := rfl
example : callerA.guards = some [] := rfl
/-! ### a def's entry -/
section
variable {K : PySem.W.Frag} {lk : Option Nat} {H I : Hp}
theorem inAll_len : ∀ {ss : List Slot} {vs : List V}, InAll K H I ss vs → ss.length = vs.length
  | _, _, .nil => rfl
  | _, _, .cons _ r => congrArg (· + 1) (inAll_len r)
theorem inAll_get : ∀ {ss : List Slot} {vs : List V} {i : Nat}, InAll K H I ss vs → i < ss.length → ∃ v, vs[i]? = some v ∧ InOk K H I (Mi.get ss i) v
  | _, _, i, .nil, h => absurd h (Nat.not_lt_zero i)
  | _, _, 0, .cons r _, _ => ⟨_, rfl, r⟩
  | _, _, i + 1, .cons _ r, h => by
    obtain ⟨v, h1, h2⟩ := inAll_get (i := i) r (Nat.lt_of_succ_lt_succ h)
    exact ⟨v, by simpa using h1, h2⟩
theorem get_append : ∀ (as bs : List Slot) (i : Nat), Mi.get (as ++ bs) i = if i < as.length then Mi.get as i else Mi.get bs (i - as.length)
  | [], bs, i => by simp
  | a :: as, bs, 0 => rfl
  | a :: as, bs, i + 1 => by
    show Mi.get (as ++ bs) i = _
    rw [get_append as bs i]
    by_cases h : i < as.length
    · rw [if_pos h, if_pos (show i + 1 < (a :: as).length from Nat.succ_lt_succ h)]
      rfl
    · rw [if_neg h, if_neg (show ¬ i + 1 < (a :: as).length from fun q => h (Nat.lt_of_succ_lt_succ q))]
      congr 1
      simp only [List.length_cons]
      omega
theorem get_emps : ∀ (n i : Nat), Mi.get (List.replicate n Slot.emp) i = .emp
  | 0, _ => rfl
  | n + 1, 0 => rfl
  | n + 1, i + 1 => get_emps n i
theorem get_fill {n i : Nat} {ss : List Slot} {s : Slot} (h : Mi.get (fill n ss) i = s) (ne : s ≠ .emp) : i < ss.length ∧ Mi.get ss i = s := by
  unfold fill at h
  rw [get_append] at h
  by_cases q : i < ss.length
  · rw [if_pos q] at h
    exact ⟨q, h⟩
  · rw [if_neg q, get_emps] at h
    exact absurd h.symm ne
theorem start_get {N : List Str} {vs : List V} {i : Nat} {v : V} (h : vs[i]? = some v) : (start N vs)[i]? = some (some v) := by
  unfold L2.start
  have hi : i < vs.length := (List.getElem?_eq_some_iff.mp h).1
  rw [List.getElem?_append_left (by simpa using hi), List.getElem?_map, h]
  rfl
theorem get_mem : ∀ {ss : List Slot} {i : Nat}, i < ss.length → Mi.get ss i ∈ ss
  | [], i, h => absurd h (Nat.not_lt_zero i)
  | s :: r, 0, _ => List.mem_cons_self
  | s :: r, i + 1, h => List.mem_cons_of_mem _ (get_mem (Nat.lt_of_succ_lt_succ h))
/-- what is owned at the entry is lent -/
def OneOwn (ss : List Slot) : Prop := (∃ s ∈ ss, s.own = true) → ∃ s r, ss = s :: r ∧ ∀ t ∈ r, t.own = false
theorem own_zero {ss : List Slot} {n i : Nat} (o : OneOwn ss) (h : (Mi.get (fill n ss) i).own = true) : i = 0 ∧ ∃ s r, ss = s :: r ∧ s.own = true := by
  obtain ⟨h1, h2⟩ := get_fill rfl (own_ne h)
  rw [← h2] at h
  obtain ⟨s, r, rfl, hr⟩ := o ⟨_, get_mem h1, h⟩
  cases i with
  | zero => exact ⟨rfl, s, r, rfl, h⟩
  | succ j =>
    have h3 : (Mi.get r j).own = true := h
    rw [hr _ (get_mem (Nat.lt_of_succ_lt_succ h1))] at h3
    cases h3
theorem owned_lent {N : List Str} {ss : List Slot} {vs : List V} {n : Nat} {a : Addr} (A : InAll K H I ss vs) (o : OneOwn ss) (h : Owned (start N vs) (fill n ss) a) : Lent ss vs a := by
  obtain ⟨i, h1, h2⟩ := h
  obtain ⟨rfl, s, r, rfl, hs⟩ := own_zero o h1
  cases A with
  | cons ok rest =>
    rw [start_get (v := _) rfl] at h2
    cases h2
    exact ⟨s, r, _, rfl, hs, rfl⟩
theorem entry_ok {N : List Str} {ss : List Slot} {vs : List V} (le : Le I H) (A : InAll K H I ss vs) (o : OneOwn ss) (hl : ss.length ≤ N.length) : EnvOk K (start N vs) H I (fill N.length ss) := by
  have lv := inAll_len A
  refine ⟨le, ?_, fun i d q => ?_, fun i ds q => ?_, fun i kvs q => ?_, fun i j a hi hj _ _ => ?_⟩
  · unfold fill L2.start
    rw [List.length_append, List.length_append, List.length_replicate, List.length_replicate, List.length_map]
    omega
  · obtain ⟨h1, h2⟩ := get_fill q (by intro z; cases z)
    obtain ⟨v, g1, g2⟩ := inAll_get A h1
    rw [h2] at g2
    exact ⟨v, start_get g1, g2⟩
  · obtain ⟨h1, h2⟩ := get_fill q (by intro z; cases z)
    obtain ⟨v, g1, g2⟩ := inAll_get A h1
    rw [h2] at g2
    obtain ⟨a, ws, rfl, k1, k2, k3, k4⟩ := g2
    exact ⟨a, ws, start_get g1, k1, k2, k3, k4⟩
  · obtain ⟨h1, h2⟩ := get_fill q (by intro z; cases z)
    obtain ⟨v, g1, g2⟩ := inAll_get A h1
    rw [h2] at g2
    obtain ⟨a, rfl, k1, k2⟩ := g2
    exact ⟨a, start_get g1, k2, k1⟩
  · rw [(own_zero o hi).1, (own_zero o hj).1]
end
/-! ### a def's end -/
section
variable {T : Tab} {G : Glo} {K : PySem.W.Frag} {EX : EXT}
/-- the end of a body, as the caller wants it -/
theorem body_end {k f : Nat} {fd : FnDef} {N : List Str} {vs : List V} {H : Hp} {Q : VK} {E : XK} (hT : T f = some fd) (hN : fd.nl = N.length) (h : spOf K EX ⟨ioOf T, callF T (k + 1)⟩ f vs H Q E) (hnp : fd.np ≤ N.length) :
    vs.length = fd.np ∧ tS K EX (fun cls d _ H' => E cls d H') (if fd.io then some 0 else none) (execB ⟨ioOf T, callF T k⟩ loops (if fd.io then some 0 else none) fd.body) { nx := fun _ H' => Q .non H', rt := Q } (start N vs) H := by
  obtain ⟨I, ss, le, A, o1, o2, q⟩ := h
  have hio : ioOf T f = fd.io := by
    unfold ioOf
    rw [hT]
  simp only [callF, hT] at q
  by_cases hl : ss.length = fd.np
  · simp only [if_pos hl] at q
    have o : OneOwn ss := fun z => (o1 z).2
    refine ⟨by rw [← inAll_len A, hl], I, fill N.length ss, entry_ok le A o (by omega), ?_⟩
    have lent : ∀ a, Owned (start N vs) (fill N.length ss) a → Lent ss vs a := fun a z => owned_lent A o z
    rw [hN] at q
    cases z : execB ⟨ioOf T, callF T k⟩ loops (if fd.io then some 0 else none) fd.body (fill N.length ss) with
    | stk =>
      simp only [z, stk_bind] at q
    | exn n fs =>
      simp only [z, exn_bind] at q
      exact fun C d σ' H' ex kp _ => q C d H' ex (fun a u hu nl => kp.1 a u hu fun w => nl (lent a w)) kp.2
    | ok pr =>
      obtain ⟨env', fl⟩ := pr
      simp only [z, ok_bind] at q
      intro σ' H' I' e' s'
      -- the lent slot at the end
      have kp : ∀ a u, H a = some u → ¬ Lent ss vs a → H' a = some u := fun a u hu nl => s'.keep a u hu fun w => nl (lent a w)
      have nw : ∀ a, I' a ≠ none → I a ≠ none ∨ H a = none ∨ Lent ss vs a := fun a hz => by
        rcases s'.new a hz with w | w | w
        · exact .inl w
        · exact .inr (.inl w)
        · exact .inr (.inr (lent a w))
      cases hs : ioS fd.io env' with
      | stk =>
        simp only [hs, stk_bind] at q
      | exn n fs =>
        unfold ioS at hs
        split at hs
        · split at hs <;> cases hs
        · cases hs
      | ok s =>
        simp only [hs, ok_bind] at q
        -- which slot is lent
        have back : ∀ a, Lent ss vs a → fd.io = true ∧ σ'[0]? = some (some (V.ref a)) ∧ (Mi.get env' 0).own = true ∧ s = Mi.get env' 0 := fun a ⟨s0, r, w, e1, e2, e3⟩ => by
          have hi : fd.io = true := by
            rw [← hio]
            exact (o1 ⟨s0, by rw [e1]; exact List.mem_cons_self, e2⟩).1
          have hl0 := s'.lkk 0 (by rw [hi]; rfl)
          unfold ioS at hs
          rw [hi] at hs
          simp only [if_true] at hs
          split at hs
          · rename_i ow
            cases hs
            refine ⟨hi, ?_, ow, rfl⟩
            rw [hl0, e3]
            exact start_get rfl
          · cases hs
        have lentOk : ∀ a, Lent ss vs a → InOk K H' I' s (.ref a) := fun a hz => by
          obtain ⟨b1, b2, b3, b4⟩ := back a hz
          rw [b4]
          cases y : Mi.get env' 0 with
          | lst ds =>
            obtain ⟨p, ws, g1, g2, g3, g4, g5⟩ := e'.lst 0 ds y
            rw [b2] at g1
            cases g1
            exact ⟨a, ws, rfl, g2, g3, g4, g5⟩
          | dct kvs =>
            obtain ⟨p, g1, g2, g3⟩ := e'.dct 0 kvs y
            rw [b2] at g1
            cases g1
            exact ⟨a, rfl, g3, g2⟩
          | val d =>
            rw [y] at b3
            cases b3
          | emp =>
            rw [y] at b3
            cases b3
        have freshR : ∀ p, (H p = none ∨ ∃ i, (if fd.io then some 0 else none) ≠ some i ∧ (Mi.get env' i).own = true ∧ σ'[i]? = some (some (V.ref p))) → H p = none := fun p hz => by
          rcases hz with hz | ⟨i, n1, n2, n3⟩
          · exact hz
          · rcases s'.own p ⟨i, n2, n3⟩ with w | w
            · obtain ⟨b1, b2, b3, b4⟩ := back p (lent p w)
              have := e'.sep i 0 p n2 b3 n3 b2
              subst this
              rw [b1] at n1
              exact absurd rfl n1
            · exact w
        cases fl with
        | rt a =>
          simp only [pure_ok] at q
          intro x rx
          refine q x H' I' s'.ile e'.le kp nw s'.alive ?_ lentOk
          cases a with
          | val d => exact rx
          | lst ds =>
            obtain ⟨p, ws, rfl, g1, g2, g3, g4, g5⟩ := rx
            exact ⟨p, ws, rfl, g1, g2, g3, g4, freshR p g5⟩
          | dct kvs =>
            obtain ⟨p, rfl, g1, g2, g5⟩ := rx
            exact ⟨p, rfl, g1, g2, freshR p g5⟩
          | slot i => exact rx
        | nx =>
          simp only [pure_ok] at q
          exact q .non H' I' s'.ile e'.le kp nw s'.alive .non lentOk
        | bk => exact q
        | ct => exact q
  · simp only [if_neg hl] at q
end
end Mi

set_option Elab.async false
set_option linter.all false
set_option maxRecDepth 100000
set_option maxHeartbeats 1000000
/-! Mi, part R: all defs of a text at once; the law's call. -/
namespace Mi
open L2 PySem PySem.Spec PyProof.Rows
def cellsOf (sc : Scope) : List Str := (sc.names.filter fun p => p.2 == .cell).map (·.1)
def scOf (N : List Str) (sc : Scope) (io : Bool) : Sc := ⟨N, sc, cellsOf sc, if io then some 0 else none, true⟩
/-- a def of the text, where it stands and against what it was checked -/
structure Made (T : Tab) (G : Glo) (K : PySem.W.Frag) (mg : Str → Option Value) (fd : FnDef) (a : Addr) (fdat : FuncData) (ps : List Str) : Prop where
  glob : mg fd.name = some (.ref a)
  ex : ∃ qual params body scope N, FunD K fd.name qual params body scope [] [] a fdat ∧ FnScope N ps scope ∧ fd.np = ps.length ∧ fd.nl = N.length ∧ chkB T G (scOf N scope fd.io) fd.body body = true
  bind : L2.Binds K fdat ps []
structure Base (T : Tab) (G : Glo) (K : PySem.W.Frag) (EX : EXT) (mg : Str → Option Value) : Prop where
  free : ∀ x ∈ G.free, mg x = none
  cst : ∀ x d, G.has x d = true → ∃ u v, mg x = some u ∧ RelV v u ∧ ∀ I, Rep K I d v
  ex : ∀ k fs C d H, EX k fs C d H → d = none ∧ ∃ D, C = .ref D ∧ ExcC K D
  mke : ∀ k x, G.exc k = some x → ∃ C, mg x = some (.ref C) ∧ PySem.W.excIn K C veTop "ValueError.__new__" = true ∧ PySem.W.keepIn K (.ref C) = true ∧ PySem.W.subIn K (.ref C) (.type "BaseException") = some true ∧ PySem.W.typeIn K (.ref C) = some (.type "type") ∧ ∀ H, EX k [] (.ref C) none H
  isx : ∀ x ks, G.isx x = some ks → ∃ C, mg x = some (.ref C) ∧ ∀ k fs D H, EX k fs (.ref D) none H → PySem.W.exmOne K (.ref D) (.ref C) = some (ks.contains k) ∧ PySem.W.kitOne K (.ref D) (.ref C) = some (ks.contains k)
  made : ∀ f fd, T f = some fd → ∃ a fdat ps, Made T G K mg fd a fdat ps
section
variable {T : Tab} {G : Glo} {K : PySem.W.Frag} {EX : EXT} {P : Program} {w : World} {mg : Str → Option Value} {base : Heap}
theorem fnG_zero {f : Nat} {a : Addr} {fdat : FuncData} {ps : List Str} : FnG P w K mg base 0 a fdat ps (spOf K EX ⟨ioOf T, callF T 0⟩ f) := by
  have no : ∀ vs H Q E, ¬ spOf K EX ⟨ioOf T, callF T 0⟩ f vs H Q E := fun vs H Q E h => by
    obtain ⟨I, ss, _, _, _, _, q⟩ := h
    exact q
  exact ⟨fun vs H Q E h => (no _ _ _ _ h).elim, fun A outer s H args us vs Q E _ _ _ _ _ h => (no _ _ _ _ h).elim⟩
/-- one more call deep -/
theorem fnG_succ {k f : Nat} {fd : FnDef} {a : Addr} {fdat : FuncData} {ps : List Str} (B : Base T G K EX mg) (hT : T f = some fd) (M : Made T G K mg fd a fdat ps)
    (ih : ∀ g gd, T g = some gd → ∃ a fdat ps, mg gd.name = some (.ref a) ∧ PySem.W.keepIn K (.ref a) = true ∧ L2.Binds K fdat ps [] ∧ FnG P w K mg base k a fdat ps (spOf K EX ⟨ioOf T, callF T k⟩ g)) :
    FnG P w K mg base (k + 1) a fdat ps (spOf K EX ⟨ioOf T, callF T (k + 1)⟩ f) := by
  obtain ⟨qual, params, body, scope, N, FD, S, h1, h2, h3⟩ := M.ex
  have hpl : ps.length ≤ N.length := by
    have := congrArg List.length S.pre
    rw [List.length_take] at this
    omega
  have be : ∀ {vs H Q E}, spOf K EX ⟨ioOf T, callF T (k + 1)⟩ f vs H Q E → _ := fun {vs H Q E} h => body_end (N := N) hT h2 h (by rw [h1]; exact hpl)
  refine ⟨fun vs H Q E h => by rw [(be h).1, h1], fun A outer s H args us vs Q E room gs env0 bnd rel sp => ?_⟩
  obtain ⟨nlen, body_q⟩ := be sp
  rw [h1] at nlen
  obtain ⟨oc, od, dV, kV, doc, pm, an, cdv, ct, osl, rfl, look, code, _, _⟩ := FD.ex
  have here : K.In s.heap := env0.mod.kin.keeps fun b o e => (env0.bs b o e).1
  have roof : s.heap.NoLimit := env0.mod.nolimit.keeps fun b o e => (env0.bs b o e).1
  refine codeAny_call_function room.depth (here a _ look) rfl S.co S.gen rfl (PySem.W.codeRec_of here code) (bnd _ _ _ _ ?_)
  have kinds : ∀ y ∈ ps.zip us, scope.names.lookup y.1 = some .local ∨ (scope.names.lookup y.1 = some .cell ∧ ((cellsFrom (s.heap.objs.size + 1) scope.names []).lookup y.1).isSome = true) := by
    rintro ⟨n, v⟩ hy
    exact (S.par n (List.of_mem_zip hy).1).imp id fun q => ⟨q, PySem.W.cellsFrom_some _ _ _ (.inl q)⟩
  refine wpAny_newFunctionEnv_cells S.kind kinds ?_
  rintro env rfl s1 frame
  refine ⟨roof.keeps frame.toInCall.keep, codeAny_func ?_⟩
  have room1 : Room k (A.deeper (envOfC qual scope s.heap.objs.size a cdv)) := room.deeper _
  -- the frame's context
  have inv : Inv (cxOf (CX P w) P w K mg base N qual scope a cdv A outer s H E) [] (L2.start N vs) H s1 := inv_start S room.hd env0 nlen rel frame
  have O : OkX T G K EX ⟨ioOf T, callF T k⟩ (scOf N scope fd.io) (cxOf (CX P w) P w K mg base N qual scope a cdv A outer s H E) :=
    ⟨rfl, rfl, rfl, rfl, gs, S.nd, B.free, B.cst, fun _ _ => rfl, fun _ => rfl, fun _ => ⟨rfl, rfl⟩, B.ex, B.mke, B.isx, k, room1, ih⟩
  have tk : Takes (cxOf (CX P w) P w K mg base N qual scope a cdv A outer s H E) (fun cls d _ H' => E cls d H') := takes_of rfl rfl rfl rfl
  have good := all_B (T := T) (G := G) (K := K) (EX := EX) (c := ⟨ioOf T, callF T k⟩) (L := loops) fd.body (scOf N scope fd.io) _ _ body O tk (passes_of rfl) h3
  refine wpAny_mono (good.run [] s1 _ H { nx := fun _ H' => Q .non H', rt := Q } inv body_q) ?_ fun e s' z => z
  intro fl s' z
  cases fl with
  | ret u =>
    obtain ⟨v, σ', H', J, rv, q⟩ := z
    exact ⟨v, H', J.os, J.bare, J.base, J.hok, rv, q⟩
  | next =>
    obtain ⟨σ', H', J, q⟩ := z
    exact ⟨V.non, H', J.os, J.bare, J.base, J.hok, rfl, q⟩
  | brk =>
    obtain ⟨_, _, _, q⟩ := z
    exact q.elim
  | cont =>
    obtain ⟨_, _, _, q⟩ := z
    exact q.elim
theorem fnG_all (B : Base T G K EX mg) : ∀ (k f : Nat) (fd : FnDef) (a : Addr) (fdat : FuncData) (ps : List Str), T f = some fd → Made T G K mg fd a fdat ps → FnG P w K mg base k a fdat ps (spOf K EX ⟨ioOf T, callF T k⟩ f)
  | 0, _, _, _, _, _, _, _ => fnG_zero
  | k + 1, f, fd, a, fdat, ps, hT, M => fnG_succ B hT M fun g gd hg => by
    obtain ⟨a', fdat', ps', M'⟩ := B.made g gd hg
    obtain ⟨_, _, _, _, _, FD, _⟩ := M'.ex
    exact ⟨a', fdat', ps', M'.glob, FD.kp, M'.bind, fnG_all B k g gd a' fdat' ps' hg M'⟩
/-! ### the law's own call -/
/-- the abstract heap of the script alone -/
def solo (a : Addr) (o : Obj) (xs : List V) : Hp := fun b => if b = a then some (.frz o (.lst xs)) else none
theorem end_at {k : Nat} {fa a : Addr} {fd : FuncData} {x : Str} {sp : Sp} {s1 : Shared} {vs : List Value} {ns : List Int} {mb : Str → Option Value} (H : Hp)
    (kin : K.In s1.heap) (ng : s1.heap.Ns mainGlobals mg) (nb : s1.heap.Ns builtinsNs mb) (same : ∀ x : Str, x ≠ "__name__" → mb x = bootBuiltins x) (roof : s1.heap.NoLimit) (none_left : s1.gens = #[])
    (scr : s1.heap.get? a = some { cls := .type "list", data := .seq vs.toArray }) (room : Room k callerA) (F : ∀ base : Heap, K.In base → base.Ns mainGlobals mg → FnG P w K mg base k fa fd [x] sp) (bnd : ∀ (s : Shared) (u : Value), BindsTo s fd ⟨[u], []⟩ [(x, u)])
    (wish : sp [.ref a] H (fun v _ => v = .bl true) fun _ _ _ => False) (hok : HOk P w H s1.heap) (only : ∀ b, H b = none ∨ (b = a ∧ K.lookup a = none ∧ ∃ o xs, H b = some (.frz o (.lst xs)))) :
    codeAny (model P w) callerA (.call (.ref fa) ⟨[.ref a], []⟩) (fun r s' => r = .ok (.ret (.bool true)) ∧ OldK s1.heap s'.heap ∧ s'.os = s1.os ∧ AllBare s'.gens) s1 := by
  have unseen : ∀ {b : Addr} {o : Obj}, s1.heap.get? b = some o → (∀ its n, o.data ≠ .seq its n) → H b = none := by
    intro b o e nd
    rcases only b with z | ⟨rfl, _, _⟩
    · exact z
    · rw [scr] at e
      cases e
      exact absurd rfl (nd _ _)
  have down : ∀ {b : Addr} {m : Str → Option Value}, s1.heap.Ns b m → (hidT s1.heap H).Ns b m := by
    rintro b m ⟨o, es, ep, e, d, r⟩
    exact ⟨o, es, ep, hidT_get e (unseen e fun its n z => by rw [d] at z; cases z), d, r⟩
  have kin' : K.In (hidT s1.heap H) := by
    intro b o e
    refine hidT_get (kin b o e) ?_
    rcases only b with z | ⟨rfl, z, _⟩
    · exact z
    · rw [z] at e
      cases e
  have roof' : (hidT s1.heap H).NoLimit := by
    obtain ⟨mc, r1, r2⟩ := roof
    exact ⟨mc, down r1, r2⟩
  have env0 : Env0 P w K mg (hidT s1.heap H) callerA [] s1 H := by
    refine ⟨rfl, ⟨kin', down ng, ⟨mb, down nb, same⟩, roof'⟩, fun b o e => of_hidT e, Nat.le_of_eq (hidT_size _ _), trivial, ?_, hok, .of_eq none_left⟩
    intro b hb
    cases hb
  have run := (F _ kin' (down ng)).go callerA [] s1 H ⟨[.ref a], []⟩ [.ref a] [.ref a] _ _ room rfl env0 (bnd s1 (.ref a)) (.cons rfl .nil) wish
  refine codeAny_mono run ?_
  intro r s' z
  match r, z with
  | .error e, z =>
    obtain ⟨_, _, _, _, _, _, _, _, _, _, _, _, no⟩ := z
    exact no.elim
  | .ok .next, z => exact z.elim
  | .ok .brk, z => exact z.elim
  | .ok .cont, z => exact z.elim
  | .ok (.ret u), z =>
    obtain ⟨v, H', os, bare, un, hok', rv, q⟩ := z
    have qv : v = .bl true := q
    subst qv
    have hu : u = Value.bool true := rv
    subst hu
    refine ⟨rfl, OldK.of_keep ?_, os, bare⟩
    intro b o e
    rcases only b with z | ⟨_, _, ob, xs, z⟩
    · exact un.keep b o e z (fun y => nomatch y) (fun y => nomatch y)
    · obtain ⟨f1, _⟩ := hok b _ z
      obtain ⟨f2, _⟩ := hok' b _ (un.frzs b ob _ z)
      rw [e] at f1
      cases f1
      exact f2
theorem end_call {k : Nat} {fa a : Addr} {fd : FuncData} {x : Str} {sp : Sp} {s1 : Shared} {vs : List Value} {ns : List Int} {mb : Str → Option Value}
    (kin : K.In s1.heap) (ng : s1.heap.Ns mainGlobals mg) (nb : s1.heap.Ns builtinsNs mb) (same : ∀ x : Str, x ≠ "__name__" → mb x = bootBuiltins x) (roof : s1.heap.NoLimit) (none_left : s1.gens = #[])
    (scr : s1.heap.get? a = some { cls := .type "list", data := .seq vs.toArray }) (isn : IntsAre vs ns) (short : ns.length ≤ sizeLine) (room : Room k callerA) (F : ∀ base : Heap, K.In base → base.Ns mainGlobals mg → FnG P w K mg base k fa fd [x] sp)
    (bnd : ∀ (s : Shared) (u : Value), BindsTo s fd ⟨[u], []⟩ [(x, u)]) (wish : ∀ H : Hp, SqL K H a (ns.map V.int) → sp [.ref a] H (fun v _ => v = .bl true) fun _ _ _ => False) :
    codeAny (model P w) callerA (.call (.ref fa) ⟨[.ref a], []⟩) (fun r s' => r = .ok (.ret (.bool true)) ∧ OldK s1.heap s'.heap ∧ s'.os = s1.os ∧ AllBare s'.gens) s1 := by
  have rel := vals_ints isn
  cases hk : K.lookup a with
  | some o =>
    have e := kin a o hk
    rw [scr] at e
    cases e
    refine end_at (ns := ns) (fun _ => none) kin ng nb same roof none_left scr room F bnd (wish _ (.inr ⟨_, vs.toArray, _, hk, rfl, rfl, rfl, ?_, by simpa using rel⟩)) (fun b u z => nomatch z) fun b => .inl rfl
    rw [List.size_toArray, isn.length]
    exact short
  | none =>
    refine end_at (ns := ns) (solo a { cls := .type "list", data := .seq vs.toArray } (ns.map V.int)) kin ng nb same roof none_left scr room F bnd (wish _ (.inl (.inr ⟨_, if_pos rfl⟩))) ?_ ?_
    · intro b u z
      unfold solo at z
      split at z
      · rename_i hb
        cases z
        subst hb
        exact ⟨scr, by rw [List.length_map]; exact short, vs, _, rel, scr⟩
      · cases z
    · intro b
      by_cases hb : b = a
      · exact .inr ⟨hb, hk, _, _, if_pos hb⟩
      · exact .inl (if_neg hb)
/-- a law by its promise -/
theorem walk_mi {l : PySem.W.OpenLaw} {n k : Nat} {q : Program} {loose : List Str} {XP : (Str → Option Value) → Heap → Prop} {YP : World → Heap → Prop} {d : DefRec} {x : Str} (hn : l.most = some n) (hn2 : n ≤ sizeLine) (hdf : d.params.defaults = []) (room : Room k callerA)
    (F : ∀ (w : World) (mg : Str → Option Value) (fa : Addr) (h : Heap), YP w h → h.Ns mainGlobals mg → mg d.name = some (.ref fa) → ∃ (K : PySem.W.Frag) (fd : FuncData) (sp : Sp), K.In h ∧ (∀ (s : Shared) (u : Value), BindsTo s fd ⟨[u], []⟩ [(x, u)]) ∧
      (∀ (H : Hp) (a : Addr) (ns : List Int), ns.length ≤ n → SqL K H a (ns.map V.int) → sp [.ref a] H (fun v _ => v = .bl true) fun _ _ _ => False) ∧ ∀ base : Heap, K.In base → base.Ns mainGlobals mg → FnG l.prog w K mg base k fa fd [x] sp) :
    PySem.W.WalkO q loose XP YP l.row.toRowW d [] (fun f vs => PySem.call f vs) := by
  refine Att.attach_call hn hdf ?_
  intro w s0 s1 mg mb fa o pm cd doc a vs ns G Y _ _ _ hmg scr isn short gens
  obtain ⟨K, fd, sp, kin, bnd, wish, all⟩ := F w mg fa _ Y G.T.g hmg
  exact end_call kin G.T.g G.T.b G.T.builtins G.T.nolimit gens scr isn (Nat.le_trans short hn2) room all bnd fun H hS => wish H a ns short hS
/-- the promise at the script -/
theorem wish_of {k f : Nat} {H : Hp} {a : Addr} {ns : List Int} (hio : ioOf T f = false) (hs : SqL K H a (ns.map V.int)) (hb : ns.length ≤ big) (law : callF T k f [.val (.dict [(.none, .list (ns.map .int))])] = .ok (.val (.bool true), .emp)) :
    spOf K EX ⟨ioOf T, callF T k⟩ f [.ref a] H (fun v _ => v = .bl true) fun _ _ _ => False := by
  refine ⟨H, [.val (.dict [(.none, .list (ns.map .int))])], Le.refl _, .cons (.scr hs hb) .nil, fun ⟨s, hs, ho⟩ => ?_, fun h => ?_, ?_⟩
  · rw [List.mem_singleton.mp hs] at ho
    cases ho
  · rw [show ioOf T f = true from h] at hio
    cases hio
  · show (match callF T k f [.val (.dict [(.none, .list (ns.map .int))])] with | .ok (r, s) => _ | .exn k fs => _ | .stk => _)
    rw [law]
    intro x H' I' _ _ _ _ _ out _
    cases (show Rep K I' (.bool true) x from out)
    rfl
end
end Mi

set_option Elab.async false
set_option linter.all false
set_option maxRecDepth 100000
set_option maxHeartbeats 1000000
/-! Mi, part S: the head's facts, for any law of this kind. -/
namespace Mi
open L2 PySem PySem.Spec PyProof.Rows
/-! ### constants -/
mutual
/-- the value u of the module's heap K is the data d (no lists, no dicts) -/
def repB (K : PySem.W.Frag) : PyData → Value → Bool
  | .none, .none => true
  | .bool b, .bool c => b == c
  | .int i, .int j _ => decide (i = j)
  | .str x, .str y _ => decide (x = y)
  | .tuple ds, .ref a => match K.lookup a with
    | some ⟨.type c, _, .seq its _, _⟩ => decide (c = "tuple") && (decide (its.size ≤ big) && repBs K ds its.toList)
    | _ => false
  | _, _ => false
def repBs (K : PySem.W.Frag) : List PyData → List Value → Bool
  | [], [] => true
  | d :: ds, u :: us => repB K d u && repBs K ds us
  | _, _ => false
end
theorem repBs_len {K : PySem.W.Frag} : ∀ {ds : List PyData} {us : List Value}, repBs K ds us = true → ds.length = us.length
  | [], [], _ => rfl
  | [], _ :: _, h => by simp only [repBs] at h; cases h
  | _ :: _, [], h => by simp only [repBs] at h; cases h
  | d :: ds, u :: us, h => by
    simp only [repBs, Bool.and_eq_true] at h
    rw [List.length_cons, List.length_cons, repBs_len h.2]
mutual
theorem repB_ok {K : PySem.W.Frag} : ∀ {d : PyData} {u : Value}, repB K d u = true → ∃ v, RelV v u ∧ ∀ I, Rep K I d v
  | .none, u, h => by
    cases u <;> first | (simp only [repB] at h; cases h; done) | skip
    exact ⟨.non, rfl, fun _ => .non⟩
  | .bool b, u, h => by
    cases u <;> first | (simp only [repB] at h; cases h; done) | skip
    simp only [repB, beq_iff_eq] at h
    subst h
    exact ⟨.bl b, rfl, fun _ => .bl b⟩
  | .int b, u, h => by
    cases u <;> first | (simp only [repB] at h; cases h; done) | skip
    rename_i j t
    simp only [repB, decide_eq_true_eq] at h
    subst h
    exact ⟨.int b, ⟨t, rfl⟩, fun _ => .int b⟩
  | .str b, u, h => by
    cases u <;> first | (simp only [repB] at h; cases h; done) | skip
    rename_i j t
    simp only [repB, decide_eq_true_eq] at h
    subst h
    exact ⟨.str b, ⟨t, rfl⟩, fun _ => .str b⟩
  | .tuple ds, u, h => by
    cases u <;> first | (simp only [repB] at h; cases h; done) | skip
    rename_i a
    simp only [repB] at h
    split at h
    · rename_i c d' its n sl hk
      simp only [Bool.and_eq_true, decide_eq_true_eq] at h
      obtain ⟨rfl, h2, h3⟩ := h
      obtain ⟨vs, v1, v2⟩ := repBs_ok h3
      refine ⟨.ref a, rfl, fun I => .tup (.inr ⟨_, its, n, hk, rfl, rfl, by rw [← big_eq]; exact h2, v1⟩) ?_ (v2 I)⟩
      rw [repBs_len h3, Array.length_toList]
      exact h2
    · cases h
  | .list ds, u, h => by cases u <;> (simp only [repB] at h; cases h)
  | .dict ds, u, h => by cases u <;> (simp only [repB] at h; cases h)
theorem repBs_ok {K : PySem.W.Frag} : ∀ {ds : List PyData} {us : List Value}, repBs K ds us = true → ∃ vs, Vals vs us ∧ ∀ I, RepL K I ds vs
  | [], [], _ => ⟨[], .nil, fun _ => .nil⟩
  | [], _ :: _, h => by simp only [repBs] at h; cases h
  | _ :: _, [], h => by simp only [repBs] at h; cases h
  | d :: ds, u :: us, h => by
    simp only [repBs, Bool.and_eq_true] at h
    obtain ⟨v, v1, v2⟩ := repB_ok h.1
    obtain ⟨vs, w1, w2⟩ := repBs_ok h.2
    exact ⟨v :: vs, .cons v1 w1, fun I => .cons (v2 I) (w2 I)⟩
end
/-- a constant of the module -/
def cnB (K : PySem.W.Frag) (p : Str × PyData) : Bool := match PySem.W.nsIn K mainGlobals p.1 with
  | some (some u) => repB K p.2 u
  | _ => false
mutual
def dEq : PyData → PyData → Bool
  | .none, .none => true
  | .bool b, .bool c => b == c
  | .int i, .int j => decide (i = j)
  | .str x, .str y => decide (x = y)
  | .tuple ds, .tuple es => dEqs ds es
  | _, _ => false
def dEqs : List PyData → List PyData → Bool
  | [], [] => true
  | d :: ds, e :: es => dEq d e && dEqs ds es
  | _, _ => false
end
mutual
theorem dEq_ok : ∀ {d e : PyData}, dEq d e = true → d = e
  | .none, e, h => by cases e <;> first | rfl | (simp only [dEq] at h; cases h)
  | .bool b, e, h => by
    cases e <;> first | (simp only [dEq] at h; cases h; done) | skip
    simp only [dEq, beq_iff_eq] at h
    rw [h]
  | .int b, e, h => by
    cases e <;> first | (simp only [dEq] at h; cases h; done) | skip
    simp only [dEq, decide_eq_true_eq] at h
    rw [h]
  | .str b, e, h => by
    cases e <;> first | (simp only [dEq] at h; cases h; done) | skip
    simp only [dEq, decide_eq_true_eq] at h
    rw [h]
  | .tuple b, e, h => by
    cases e <;> first | (simp only [dEq] at h; cases h; done) | skip
    simp only [dEq] at h
    rw [dEqs_ok h]
  | .list b, e, h => by cases e <;> (simp only [dEq] at h; cases h)
  | .dict b, e, h => by cases e <;> (simp only [dEq] at h; cases h)
theorem dEqs_ok : ∀ {d e : List PyData}, dEqs d e = true → d = e
  | [], [], _ => rfl
  | [], _ :: _, h => by simp only [dEqs] at h; cases h
  | _ :: _, [], h => by simp only [dEqs] at h; cases h
  | d :: ds, e :: es, h => by
    simp only [dEqs, Bool.and_eq_true] at h
    rw [dEq_ok h.1, dEqs_ok h.2]
end
/-! ### exception classes -/
def clsB (K : PySem.W.Frag) (x : Str) : Bool :=
  He.Fa.ok K (.glo x) && (PySem.W.excIn K (He.ga K x) veTop "ValueError.__new__" && (PySem.W.keepIn K (.ref (He.ga K x)) && (decide (PySem.W.subIn K (.ref (He.ga K x)) (.type "BaseException") = some true) && (decide (PySem.W.typeIn K (.ref (He.ga K x)) = some (.type "type")) &&
  (decide (PySem.W.findIn K (.ref (He.ga K x)) "__getattribute__" = some (some (.builtin "BaseException.__getattribute__"))) && (decide (PySem.W.findIn K (.ref (He.ga K x)) "__getattr__" = some none) && (PySem.W.hasDictIn K (He.ga K x) && (decide (PySem.W.findIn K (.ref (He.ga K x)) "__class__" = some (some (.builtin "object.__class__"))) &&
  (decide (PySem.W.specialIn K (.builtin "object.__class__") "__get__" = some (some (.builtin "getset_descriptor.__get__"))) && (decide (PySem.W.takesIn K (.builtin "object.__class__") = some true) && decide (PySem.W.mroIn K (He.ga K x) (.type "object") = some true)))))))))))
def relB2 (K : PySem.W.Frag) (y x : Str) (b : Bool) : Bool := decide (PySem.W.exmOne K (.ref (He.ga K y)) (.ref (He.ga K x)) = some b) && decide (PySem.W.kitOne K (.ref (He.ga K y)) (.ref (He.ga K x)) = some b)
/-- what is asked of a module -/
structure Ask where
  free : List Str
  cst : List (Str × PyData)
  exc : List Str
  isx : List (Str × List Nat)
def Ask.glo (A : Ask) : Glo where
  free := A.free
  has := fun x d => A.cst.any fun p => decide (p.1 = x) && dEq p.2 d
  exc := fun k => A.exc[k]?
  isx := fun x => A.isx.lookup x
def isB (K : PySem.W.Frag) (exc : List Str) (p : Str × List Nat) : Bool := He.Fa.ok K (.glo p.1) && (exc.zipIdx.all fun q => relB2 K q.1 p.1 (p.2.contains q.2))
def Ask.ok (A : Ask) (K : PySem.W.Frag) : Bool := (A.free.all fun x => He.Fa.ok K (.free x)) && ((A.cst.all fun p => cnB K p) && ((A.exc.all fun x => clsB K x) && (A.isx.all fun p => isB K A.exc p)))
def Ask.EX (A : Ask) (K : PySem.W.Frag) : EXT := fun k _ C d _ => d = none ∧ ∃ y, A.exc[k]? = some y ∧ C = .ref (He.ga K y)
/-! ### the Hook -/
def obsM (A : Ask) (fn : List He.DefD) (K : PySem.W.Frag) : He.AlD := ((A.ok K && (fn.all fun d => He.Fa.ok K (.glo d.name))) && fn.all fun d => d.ok K, fn.map fun d => He.fnW K d.at_)
def SaysM (A : Ask) (fn : List He.DefD) (K : PySem.W.Frag) : Prop := obsM A fn K = He.valD fn
def obsMG (n : Nat) (A : Ask) (fn : List He.DefD) (g : Addr → Option Obj) : He.AlD := obsM A fn (He.frG g (He.asD g n))
def hookM (n : Nat) (A : Ask) (fn : List He.DefD) : PySem.W.Hook where
  α := He.AlD
  obs := fun s => obsMG n A fn s.heap.get?
  val := fun _ => He.valD fn
  says := fun _ h => ∃ K : PySem.W.Frag, K.In h ∧ SaysM A fn K
  of := fun _ _ e => ⟨_, He.frG_in, e⟩
  keeps := fun _ _ _ ⟨K, hK, c⟩ k => ⟨K, PySem.W.Frag.In.keeps hK k, c⟩
theorem obsMG_eq {n : Nat} {A : Ask} {fn : List He.DefD} {g : Addr → Option Obj} {s : Shared} (h : ∀ a, g a = s.heap.get? a) : obsMG n A fn g = (hookM n A fn).obs s := by
  have e : g = s.heap.get? := funext h
  rw [e] <;> rfl
section
variable {A : Ask} {fn : List He.DefD} {K : PySem.W.Frag} {h : Heap} {mg : Str → Option Value}
theorem SaysM.parts (c : SaysM A fn K) : A.ok K = true ∧ (fn.all fun d => He.Fa.ok K (.glo d.name)) = true ∧ (fn.all fun d => d.ok K) = true := by
  have c1 : ((A.ok K && (fn.all fun d => He.Fa.ok K (.glo d.name))) && fn.all fun d => d.ok K) = true := congrArg (fun z : He.AlD => z.1) c
  simp only [Bool.and_eq_true] at c1
  exact ⟨c1.1.1, c1.1.2, c1.2⟩
theorem SaysM.def_ (c : SaysM A fn K) {d : He.DefD} (hd : d ∈ fn) : ∃ fd, FunD K d.name d.qual d.params d.body d.scope (d.dvs K) (d.kws K) (He.fAd K d.at_) fd := by
  have c2 := c.parts.2.2
  have e : fn.map (fun d => He.fnW K d.at_) = fn.map He.DefD.val := congrArg (fun z : He.AlD => z.2) c
  obtain ⟨i, hi⟩ := List.getElem?_of_mem hd
  have e2 : (fn.map fun d => He.fnW K d.at_)[i]? = (fn.map He.DefD.val)[i]? := by rw [e]
  rw [List.getElem?_map, List.getElem?_map, hi] at e2
  exact He.DefD.funD (Option.some.inj e2) (List.all_eq_true.mp c2 d hd)
theorem cls_all {x : Str} (c : clsB K x = true) : He.Fa.ok K (.glo x) = true ∧ PySem.W.excIn K (He.ga K x) veTop "ValueError.__new__" = true ∧ PySem.W.keepIn K (.ref (He.ga K x)) = true ∧ PySem.W.subIn K (.ref (He.ga K x)) (.type "BaseException") = some true ∧ PySem.W.typeIn K (.ref (He.ga K x)) = some (.type "type") ∧ ExcC K (He.ga K x) := by
  unfold clsB at c
  simp only [Bool.and_eq_true, decide_eq_true_eq] at c
  obtain ⟨c1, c2, c3, c4, c5, c6, c7, c8, c9, c10, c11, c12⟩ := c
  exact ⟨c1, c2, c3, c4, c5, ⟨c6, c7, c4, c8, c9, c10, c11, c12⟩⟩
/-- the module, as the defs are checked against it -/
theorem base_of {T : Tab} (X : K.In h) (N : h.Ns mainGlobals mg) (c : SaysM A fn K) (made : ∀ f fd, T f = some fd → ∃ a fdat ps, Made T A.glo K mg fd a fdat ps) : Base T A.glo K (A.EX K) mg := by
  obtain ⟨c1, _, _⟩ := c.parts
  unfold Ask.ok at c1
  simp only [Bool.and_eq_true, List.all_eq_true] at c1
  obtain ⟨f1, f2, f3, f4⟩ := c1
  refine ⟨fun x hx => He.free_ok X N (f1 x hx), fun x d hx => ?_, fun k fs C d H hx => ?_, fun k x hx => ?_, fun x ks hx => ?_, made⟩
  · obtain ⟨p, hp, q⟩ := List.any_eq_true.mp (show (A.cst.any fun p => decide (p.1 = x) && dEq p.2 d) = true from hx)
    simp only [Bool.and_eq_true, decide_eq_true_eq] at q
    obtain ⟨rfl, q2⟩ := q
    have g := f2 p hp
    unfold cnB at g
    cases e : PySem.W.nsIn K mainGlobals p.1 with
    | none =>
      rw [e] at g
      cases g
    | some o =>
      rw [e] at g
      cases o with
      | none => cases g
      | some u =>
        obtain ⟨v, v1, v2⟩ := repB_ok g
        rw [dEq_ok q2] at v2
        exact ⟨u, v, PySem.W.mg_of X N e, v1, v2⟩
  · obtain ⟨h1, y, hy, h2⟩ := hx
    exact ⟨h1, _, h2, (cls_all (f3 y (List.mem_of_getElem? hy))).2.2.2.2.2⟩
  · have hx' : A.exc[k]? = some x := hx
    obtain ⟨g1, g2, g3, g4, g5, _⟩ := cls_all (f3 x (List.mem_of_getElem? hx'))
    exact ⟨He.ga K x, He.glo_ok X N g1, g2, g3, g4, g5, fun H => ⟨rfl, x, hx', rfl⟩⟩
  · have hx' : A.isx.lookup x = some ks := hx
    have hm := PySem.mem_of_lookup hx'
    have g := f4 _ hm
    unfold isB at g
    simp only [Bool.and_eq_true, List.all_eq_true] at g
    refine ⟨He.ga K x, He.glo_ok X N g.1, fun k fs D H e => ?_⟩
    obtain ⟨_, y, hy, hD⟩ := e
    cases hD
    have q := g.2 (y, k) (by
      rw [List.mem_zipIdx_iff_getElem?]
      exact hy)
    unfold relB2 at q
    simp only [Bool.and_eq_true, decide_eq_true_eq] at q
    exact q
/-- one def -/
theorem made_of {T : Tab} {G : Glo} (X : K.In h) (N : h.Ns mainGlobals mg) (c : SaysM A fn K) {d : He.DefD} {fd : FnDef} {Ns ps : List Str} (hd : d ∈ fn) (hat : d.at_ = (d.name, none)) (hn : fd.name = d.name) (hdf : d.dfl = []) (hkw : d.kwd = []) (S : FnScope Ns ps d.scope) (h1 : fd.np = ps.length) (h2 : fd.nl = Ns.length)
    (chk : chkB T G (scOf Ns d.scope fd.io) fd.body d.body = true) (bind : ∀ (kV doc pm : Value) (an : Option Addr) (cdv ct : Value) (us : List Value), us.length = ps.length → bindArgs (PySem.W.fnOf d.name d.qual d.params d.body d.scope .none kV doc pm an cdv ct) ⟨us, []⟩ = pure (ps.zip us)) :
    ∃ fdat, Made T G K mg fd (He.fAd K d.at_) fdat ps ∧ ∀ (s : Shared) (us : List Value), us.length = ps.length → BindsTo s fdat ⟨us, []⟩ (ps.zip us) := by
  obtain ⟨fdat, F⟩ := c.def_ hd
  have e1 : d.dvs K = [] := by
    unfold He.DefD.dvs
    rw [hdf]
    rfl
  have e2 : d.kws K = [] := by
    unfold He.DefD.kws
    rw [hkw]
    rfl
  rw [e1, e2] at F
  have hg : mg d.name = some (.ref (He.fAd K d.at_)) := by
    have g := He.glo_ok X N (List.all_eq_true.mp c.parts.2.1 d hd)
    rw [hat]
    exact g
  refine ⟨fdat, ⟨by rw [hn]; exact hg, ⟨d.qual, d.params, d.body, d.scope, Ns, by rw [hn]; exact F, S, h1, h2, chk⟩, F.bindsN bind⟩, fun s us hl => F.bindsA bind s us hl⟩
end
end Mi

set_option Elab.async false
set_option linter.all false
set_option maxRecDepth 100000
set_option maxHeartbeats 1000000
/-! Mi, part V: equations by which a text is worked out. -/
namespace Mi
open PySem
section
variable {c : Cl} {env : Env} {L : Nat} {lk : Option Nat}
/-- what an expression says as a truth value -/
def seeB (p : Arg × Env) : R Bool := p.1.see p.2 >>= bool1
@[simp] theorem seeB_val (b : Bool) : seeB (.val (.bool b), env) = .ok b := rfl
def varR (s : Slot) (i : Nat) (env : Env) : R (Arg × Env) := match s with
  | .val d => .ok (.val d, env)
  | .lst _ => .ok (.slot i, env)
  | .dct _ => .ok (.slot i, env)
  | .emp => .stk
@[simp] theorem varR_val (d : PyData) (i : Nat) : varR (.val d) i env = .ok (.val d, env) := rfl
@[simp] theorem varR_lst (d : List PyData) (i : Nat) : varR (.lst d) i env = .ok (.slot i, env) := rfl
def slotSee : Slot → R PyData
  | .lst ds => .ok (.list ds)
  | .val d => .ok d
  | _ => .stk
@[simp] theorem slotSee_lst (ds : List PyData) : slotSee (.lst ds) = .ok (.list ds) := rfl
@[simp] theorem slotSee_val (d : PyData) : slotSee (.val d) = .ok d := rfl
@[simp] theorem see_val (d : PyData) : Arg.see env (.val d) = .ok d := rfl
@[simp] theorem see_lst (ds : List PyData) : Arg.see env (.lst ds) = .ok (.list ds) := rfl
theorem see_slot (i : Nat) : Arg.see env (.slot i) = slotSee (Mi.get env i) := by
  simp only [Arg.see]
  cases Mi.get env i <;> rfl
def slotFrz (s : Slot) (i : Nat) (env : Env) : R (PyData × Env) := match s with
  | .lst ds => .ok (.list ds, put env i (.val (.list ds)))
  | .val d => .ok (d, env)
  | _ => .stk
@[simp] theorem slotFrz_lst (ds : List PyData) (i : Nat) : slotFrz (.lst ds) i env = .ok (.list ds, put env i (.val (.list ds))) := rfl
@[simp] theorem slotFrz_val (d : PyData) (i : Nat) : slotFrz (.val d) i env = .ok (d, env) := rfl
@[simp] theorem frz_val' (d : PyData) : Arg.frz env (.val d) = .ok (d, env) := rfl
@[simp] theorem frz_lst' (ds : List PyData) : Arg.frz env (.lst ds) = .ok (.list ds, env) := rfl
theorem frz_slot (i : Nat) : Arg.frz env (.slot i) = slotFrz (Mi.get env i) i env := by
  simp only [Arg.frz]
  cases Mi.get env i <;> rfl
@[simp] theorem bool1_bool (b : Bool) : bool1 (.bool b) = .ok b := rfl
@[simp] theorem int1_int (i : Int) : int1 (.int i) = .ok i := rfl
theorem ev_var (i : Nat) : evalE c (.var i) env = varR (Mi.get env i) i env := by
  simp only [evalE]
  cases Mi.get env i <;> rfl
theorem ev_and (a b : ME) : evalE c (.and a b) env = evalE c a env >>= fun p => seeB p >>= fun x => if x = true then evalE c b p.2 >>= fun q => seeB q >>= fun y => .ok (.val (.bool y), q.2) else .ok (.val (.bool false), p.2) := by
  simp only [evalE, seeB]
  cases evalE c a env with
  | ok p =>
    simp only [ok_bind]
    cases p.1.see p.2 with
    | ok d =>
      simp only [ok_bind]
      cases bool1 d with
      | ok x =>
        cases x with
        | true =>
          simp only [ok_bind, if_true]
          cases evalE c b p.2 with
          | ok q =>
            simp only [ok_bind]
            cases q.1.see q.2 <;> rfl
          | _ => rfl
        | false => rfl
      | _ => rfl
    | _ => rfl
  | _ => rfl
theorem ev_or (a b : ME) : evalE c (.or a b) env = evalE c a env >>= fun p => seeB p >>= fun x => if x = true then .ok (.val (.bool true), p.2) else evalE c b p.2 >>= fun q => seeB q >>= fun y => .ok (.val (.bool y), q.2) := by
  simp only [evalE, seeB]
  cases evalE c a env with
  | ok p =>
    simp only [ok_bind]
    cases p.1.see p.2 with
    | ok d =>
      simp only [ok_bind]
      cases bool1 d with
      | ok x =>
        cases x with
        | false =>
          simp only [ok_bind, Bool.false_eq_true, if_false]
          cases evalE c b p.2 with
          | ok q =>
            simp only [ok_bind]
            cases q.1.see q.2 <;> rfl
          | _ => rfl
        | true => rfl
      | _ => rfl
    | _ => rfl
  | _ => rfl
theorem ev_chn (o p : CmpOp) (a b d : ME) : evalE c (.chn o p a b d) env = evalE c a env >>= fun ra => evalE c b ra.2 >>= fun rb => ra.1.see rb.2 >>= fun x => rb.1.see rb.2 >>= fun y => cmp2 o x y >>= fun t =>
    if t = true then evalE c d rb.2 >>= fun rd => rd.1.see rd.2 >>= fun z => rb.1.see rd.2 >>= fun y => cmp2 p y z >>= fun t => .ok (.val (.bool t), rd.2) else .ok (.val (.bool false), rb.2) := by
  simp only [evalE]
  cases evalE c a env with
  | ok ra =>
    simp only [ok_bind]
    cases evalE c b ra.2 with
    | ok rb =>
      simp only [ok_bind]
      cases ra.1.see rb.2 with
      | ok x =>
        simp only [ok_bind]
        cases rb.1.see rb.2 with
        | ok y =>
          simp only [ok_bind]
          cases cmp2 o x y with
          | ok t => cases t <;> rfl
          | _ => rfl
        | _ => rfl
      | _ => rfl
    | _ => rfl
  | _ => rfl
theorem ev_ite (t a b : ME) : evalE c (.ite t a b) env = evalE c t env >>= fun p => seeB p >>= fun x => if x = true then evalE c a p.2 else evalE c b p.2 := by
  simp only [evalE, seeB]
  cases evalE c t env with
  | ok p =>
    simp only [ok_bind]
    cases p.1.see p.2 with
    | ok d =>
      simp only [ok_bind]
      cases bool1 d with
      | ok x => cases x <;> rfl
      | _ => rfl
    | _ => rfl
  | _ => rfl
theorem ev_iff (t : ME) (a b : MB) : execS c L lk (.iff t a b) env = evalE c t env >>= fun p => seeB p >>= fun x => if x = true then execB c L lk a p.2 else execB c L lk b p.2 := by
  simp only [execS, testE, seeB]
  cases evalE c t env with
  | ok p =>
    simp only [ok_bind]
    cases p.1.see p.2 with
    | ok d =>
      simp only [ok_bind]
      cases bool1 d with
      | ok x => cases x <;> rfl
      | _ => rfl
    | _ => rfl
  | _ => rfl
/-- behind a turn of a loop -/
def loopK (go : Env → R (Env × Mi.Flow)) (p : Env × Mi.Flow) : R (Env × Mi.Flow) := match p.2 with
  | .nx => go p.1
  | .ct => go p.1
  | .bk => .ok (p.1, .nx)
  | .rt a => .ok (p.1, .rt a)
@[simp] theorem loopK_nx (go : Env → R (Env × Mi.Flow)) (e : Env) : loopK go (e, .nx) = go e := rfl
@[simp] theorem loopK_ct (go : Env → R (Env × Mi.Flow)) (e : Env) : loopK go (e, .ct) = go e := rfl
@[simp] theorem loopK_bk (go : Env → R (Env × Mi.Flow)) (e : Env) : loopK go (e, .bk) = .ok (e, .nx) := rfl
@[simp] theorem loopK_rt (go : Env → R (Env × Mi.Flow)) (e : Env) (a : Arg) : loopK go (e, .rt a) = .ok (e, .rt a) := rfl
/-- a while of the text -/
def whlT (c : Cl) (L : Nat) (lk : Option Nat) (t : ME) (b : MB) (n : Nat) (env : Env) : R (Env × Mi.Flow) := whlL (fun e => testE c t e) (fun e => execB c L lk b e) n env
theorem ev_while (t : ME) (b : MB) : execS c L lk (.whl t b) env = whlT c L lk t b L env := by
  simp only [execS, whlT]
theorem ev_whl (t : ME) (b : MB) (n : Nat) : whlT c L lk t b (n + 1) env = evalE c t env >>= fun p => seeB p >>= fun x => if x = true then execB c L lk b p.2 >>= loopK (whlT c L lk t b n) else .ok (p.2, .nx) := by
  simp only [whlT, whlL, testE, seeB]
  cases evalE c t env with
  | ok p =>
    simp only [ok_bind]
    cases p.1.see p.2 with
    | ok d =>
      simp only [ok_bind]
      cases bool1 d with
      | ok x =>
        cases x with
        | true =>
          simp only [ok_bind, pure_ok, if_true]
          cases execB c L lk b p.2 with
          | ok q =>
            obtain ⟨e, fl⟩ := q
            cases fl <;> rfl
          | _ => rfl
        | false => rfl
      | _ => rfl
    | _ => rfl
  | _ => rfl
/-- a for of the text -/
def forT (c : Cl) (L : Nat) (lk : Option Nat) (t : MT) (b : MB) (ds : List PyData) (env : Env) : R (Env × Mi.Flow) := forL (fun d e => putT t d e >>= fun e => execB c L lk b e) ds env
theorem ev_for (t : MT) (it : MI) (b : MB) : execS c L lk (.for_ t it b) env = evalI c it env >>= fun p => forT c L lk t b p.1 p.2 := by
  simp only [execS, forT]
theorem ev_forN (t : MT) (b : MB) : forT c L lk t b [] env = .ok (env, .nx) := rfl
theorem ev_forC (t : MT) (b : MB) (d : PyData) (ds : List PyData) : forT c L lk t b (d :: ds) env = putT t d env >>= fun e => execB c L lk b e >>= loopK (forT c L lk t b ds) := by
  simp only [forT, forL]
  cases putT t d env with
  | ok e =>
    simp only [ok_bind]
    cases execB c L lk b e with
    | ok q =>
      obtain ⟨e, fl⟩ := q
      cases fl <;> rfl
    | _ => rfl
  | _ => rfl
/-- one clause -/
theorem ev_lc {tg : MT} {vs : List Nat} {it : MI} {cd el : ME} : evalE c (.lc tg vs it cd el) env = evalI c it env >>= fun p => if noOwn p.2 vs then noX (lcL (turn1 c tg vs cd el) p.1 (wipeE p.2 vs)) >>= fun q => .ok (.lst q.1, backE p.2 q.2 vs) else .stk := evalE_lc
theorem ev_lc2 {tg tg1 : MT} {vs vs1 : List Nat} {it it1 : MI} {cd el : ME} : evalE c (.lc2 tg vs it tg1 vs1 it1 cd el) env = evalI c it env >>= fun p => if noOwn p.2 vs then noX (lcL2 (turn2 c tg vs it1 tg1 vs1 cd el) p.1 (wipeE p.2 vs)) >>= fun q => if q.1.length ≤ big then .ok (.lst q.1, backE p.2 q.2 vs) else .stk else .stk := evalE_lc2
theorem ev_turn1 (tg : MT) (vs : List Nat) (cd el : ME) (d : PyData) : turn1 c tg vs cd el d env = putT tg d env >>= fun e => condR c cd e >>= fun p => if p.1 = true then frzR (evalE c el p.2) >>= fun q => .ok (some q.1, wipeE q.2 vs) else .ok (none, wipeE p.2 vs) := by
  simp only [turn1]
  cases putT tg d env with
  | ok e =>
    simp only [ok_bind]
    cases condR c cd e with
    | ok p =>
      obtain ⟨k, e2⟩ := p
      cases k <;> rfl
    | _ => rfl
  | _ => rfl
theorem ev_cond (cd : ME) (h : cd.isNop = false) : condR c cd env = evalE c cd env >>= fun p => seeB p >>= fun x => .ok (x, p.2) := by
  unfold condR testE seeB
  rw [h]
  simp only [Bool.false_eq_true, if_false]
  cases evalE c cd env with
  | ok p =>
    simp only [ok_bind]
    cases p.1.see p.2 <;> rfl
  | _ => rfl
theorem ev_condN : condR c .nop env = .ok (true, env) := rfl
/-- a block: the first statement, then the others if it goes on -/
def thenB (c : Cl) (L : Nat) (lk : Option Nat) (r : MB) (p : Env × Mi.Flow) : R (Env × Mi.Flow) := match p.2 with
  | .nx => execB c L lk r p.1
  | f => .ok (p.1, f)
@[simp] theorem thenB_nx (r : MB) (e : Env) : thenB c L lk r (e, .nx) = execB c L lk r e := rfl
@[simp] theorem thenB_rt (r : MB) (e : Env) (a : Arg) : thenB c L lk r (e, .rt a) = .ok (e, .rt a) := rfl
@[simp] theorem thenB_bk (r : MB) (e : Env) : thenB c L lk r (e, .bk) = .ok (e, .bk) := rfl
@[simp] theorem thenB_ct (r : MB) (e : Env) : thenB c L lk r (e, .ct) = .ok (e, .ct) := rfl
theorem ev_cons (s : MS) (r : MB) : execB c L lk (.cons s r) env = execS c L lk s env >>= thenB c L lk r := by
  simp only [execB]
  cases execS c L lk s env with
  | ok p =>
    obtain ⟨e, fl⟩ := p
    cases fl <;> rfl
  | _ => rfl
theorem ev_nil : execB c L lk .nil env = .ok (env, .nx) := by simp only [execB]
/-- a def's answer -/
def endF (io : Bool) (p : Env × Mi.Flow) : R (Arg × Slot) := match p.2 with
  | .rt a => ioS io p.1 >>= fun s => .ok (a, s)
  | .nx => ioS io p.1 >>= fun s => .ok (.val .none, s)
  | _ => .stk
@[simp] theorem endF_rt (io : Bool) (e : Env) (a : Arg) : endF io (e, .rt a) = ioS io e >>= fun s => .ok (a, s) := rfl
@[simp] theorem endF_nx (io : Bool) (e : Env) : endF io (e, .nx) = ioS io e >>= fun s => .ok (.val .none, s) := rfl
theorem ev_call {T : Tab} {k f : Nat} {fd : FnDef} {as : List Slot} (h : T f = some fd) (hl : as.length = fd.np) : callF T (k + 1) f as = execB ⟨ioOf T, callF T k⟩ loops (if fd.io then some 0 else none) fd.body (fill fd.nl as) >>= endF fd.io := by
  simp only [callF, h, if_pos hl]
  cases execB ⟨ioOf T, callF T k⟩ loops (if fd.io then some 0 else none) fd.body (fill fd.nl as) with
  | ok p =>
    obtain ⟨e, fl⟩ := p
    simp only [ok_bind]
    cases hs : ioS fd.io e with
    | ok s => cases fl <;> simp [endF, hs]
    | exn n fs =>
      exfalso
      unfold ioS at hs
      split at hs
      · split at hs <;> cases hs
      · cases hs
    | stk => cases fl <;> simp [endF, hs]
  | _ => rfl
@[simp] theorem ioS_no (e : Env) : ioS false e = .ok .emp := rfl
@[simp] theorem ioS_lst (ds : List PyData) (r : Env) : ioS true (.lst ds :: r) = .ok (.lst ds) := rfl
/-! ### the other forms -/
theorem ev_cst (d : PyData) : evalE c (.cst d) env = .ok (.val d, env) := by simp only [evalE]
theorem ev_gbl (x : Str) (d : PyData) : evalE c (.gbl x d) env = .ok (.val d, env) := by simp only [evalE]
theorem ev_tup (as : MA) : evalE c (.tup as) env = evalF c as env >>= fun p => .ok (.val (.tuple p.1), p.2) := by
  simp only [evalE]
  rfl
theorem ev_lst (as : MA) : evalE c (.lst as) env = evalF c as env >>= fun p => .ok (.lst p.1, p.2) := by
  simp only [evalE]
  rfl
theorem ev_sub (a b : ME) : evalE c (.sub a b) env = evalE c a env >>= fun p => evalE c b p.2 >>= fun q => p.1.see q.2 >>= fun x => q.1.see q.2 >>= fun y => sub2 x y >>= fun d => .ok (.val d, q.2) := by
  simp only [evalE]
  rfl
theorem ev_slc (a lo hi : ME) : evalE c (.slc a lo hi) env = evalE c a env >>= fun p => optInt (!lo.isNop) (evalE c lo p.2) p.2 >>= fun l => optInt (!hi.isNop) (evalE c hi l.2) l.2 >>= fun h => p.1.see h.2 >>= fun x => slc3 x l.1 h.1 >>= fun r => .ok (r, h.2) := by
  simp only [evalE]
  rfl
theorem optInt_no (x : R (Arg × Env)) : optInt false x env = .ok (none, env) := rfl
theorem optInt_yes (x : R (Arg × Env)) : optInt true x env = x >>= fun p => p.1.see p.2 >>= fun d => int1 d >>= fun i => .ok (some i, p.2) := rfl
theorem ev_op2 (o : Op2) (a b : ME) : evalE c (.op2 o a b) env = evalE c a env >>= fun p => evalE c b p.2 >>= fun q => p.1.see q.2 >>= fun x => q.1.see q.2 >>= fun y => bin2 o x y >>= fun r => .ok (r, q.2) := by
  simp only [evalE]
  rfl
theorem ev_neg (a : ME) : evalE c (.neg a) env = evalE c a env >>= fun p => p.1.see p.2 >>= fun x => int1 x >>= fun i => .ok (.val (.int (-i)), p.2) := by
  simp only [evalE]
  rfl
theorem ev_not (a : ME) : evalE c (.not a) env = evalE c a env >>= fun p => seeB p >>= fun b => .ok (.val (.bool (!b)), p.2) := by
  simp only [evalE, seeB]
  cases evalE c a env with
  | ok p =>
    simp only [ok_bind]
    cases p.1.see p.2 <;> rfl
  | _ => rfl
theorem ev_cmp (o : CmpOp) (a b : ME) : evalE c (.cmp o a b) env = evalE c a env >>= fun p => evalE c b p.2 >>= fun q => p.1.see q.2 >>= fun x => q.1.see q.2 >>= fun y => cmp2 o x y >>= fun t => .ok (.val (.bool t), q.2) := by
  simp only [evalE]
  rfl
theorem ev_callE (f : Nat) (as : MA) : evalE c (.call f as) env = evalA c as env >>= fun p => callVals c f p.1 p.2 := by
  simp only [evalE]
theorem ev_blt (b : Blt) (as : MA) : evalE c (.blt b as) env = evalA c as env >>= fun p => seeAll p.1 p.2 >>= fun ds => bltF b ds >>= fun r => .ok (r, p.2) := by
  simp only [evalE]
  rfl
theorem ev_isi (a : ME) (t : Ty) : evalE c (.isi a t) env = evalE c a env >>= fun p => p.1.see p.2 >>= fun x => isTy x t >>= fun b => .ok (.val (.bool b), p.2) := by
  simp only [evalE]
  rfl
theorem ev_trg (a : ME) : evalE c (.trg a) env = evalE c a env >>= fun p => p.1.see p.2 >>= fun x => int1 x >>= fun i => rng 0 i >>= fun ds => .ok (.val (.tuple ds), p.2) := by
  simp only [evalE]
  rfl
/-- a list that a slot holds alone -/
def onL (s : Slot) (k : List PyData → R (Arg × Env)) : R (Arg × Env) := match s with
  | .lst ds => k ds
  | _ => .stk
@[simp] theorem onL_lst (ds : List PyData) (k : List PyData → R (Arg × Env)) : onL (.lst ds) k = k ds := rfl
theorem ev_app (i : Nat) (e : ME) : evalE c (.app i e) env = onL (Mi.get env i) fun _ => frzR (evalE c e env) >>= fun p => onL (Mi.get p.2 i) fun ds => if ds.length < big then .ok (.val .none, put p.2 i (.lst (ds ++ [p.1]))) else .stk := by
  simp only [evalE]
  cases Mi.get env i with
  | lst ds =>
    simp only [onL_lst]
    cases frzR (evalE c e env) with
    | ok p =>
      simp only [ok_bind]
      cases Mi.get p.2 i <;> rfl
    | _ => rfl
  | _ => rfl
theorem ev_pop (i : Nat) : evalE c (.pop i) env = onL (Mi.get env i) fun ds => match ds[ds.length - 1]? with
    | some d => .ok (.val d, put env i (.lst ds.dropLast))
    | none => .stk := by
  simp only [evalE]
  cases Mi.get env i <;> rfl
theorem ev_nilA : evalA c .nil env = .ok ([], env) := by simp only [evalA]
theorem ev_consA (e : ME) (r : MA) : evalA c (.cons e r) env = evalE c e env >>= fun p => p.1.settle >>= fun a => evalA c r p.2 >>= fun q => .ok (a :: q.1, q.2) := by
  simp only [evalA]
  rfl
theorem ev_nilF : evalF c .nil env = .ok ([], env) := by simp only [evalF]
theorem ev_consF (e : ME) (r : MA) : evalF c (.cons e r) env = evalE c e env >>= fun p => p.1.frz p.2 >>= fun d => evalF c r d.2 >>= fun q => .ok (d.1 :: q.1, q.2) := by
  simp only [evalF, frzR]
  cases evalE c e env with
  | ok p =>
    simp only [ok_bind]
    cases p.1.frz p.2 <;> rfl
  | _ => rfl
theorem ev_nilM : evalM c .nil env = .ok ([], env) := by simp only [evalM]
theorem ev_consM (e : ME) (r : MA) : evalM c (.cons e r) env = evalE c e env >>= fun p => p.1.mv p.2 >>= fun a => evalM c r a.2 >>= fun q => .ok (a.1 :: q.1, q.2) := by
  simp only [evalM, mvR]
  cases evalE c e env with
  | ok p =>
    simp only [ok_bind]
    cases p.1.mv p.2 <;> rfl
  | _ => rfl
@[simp] theorem settle_val (d : PyData) : Arg.settle (.val d) = .ok (.val d) := rfl
@[simp] theorem settle_lst (ds : List PyData) : Arg.settle (.lst ds) = .ok (.val (.list ds)) := rfl
@[simp] theorem settle_slot (i : Nat) : Arg.settle (.slot i) = .ok (.slot i) := rfl
@[simp] theorem mv_val (d : PyData) : Arg.mv env (.val d) = .ok (.val d, env) := rfl
@[simp] theorem mv_lst (ds : List PyData) : Arg.mv env (.lst ds) = .ok (.lst ds, env) := rfl
theorem mv_slot (i : Nat) : Arg.mv env (.slot i) = Arg.frz env (.slot i) >>= fun p => .ok (.val p.1, p.2) := rfl
theorem ev_seq (e : ME) : evalI c (.seq e) env = evalE c e env >>= fun p => p.1.frz p.2 >>= fun d => seqOf d.1 >>= fun ds => .ok (ds, d.2) := by
  simp only [evalI, frzR]
  cases evalE c e env with
  | ok p =>
    simp only [ok_bind]
    cases p.1.frz p.2 <;> rfl
  | _ => rfl
theorem ev_rng1 (a : ME) : evalI c (.rng1 a) env = evalE c a env >>= fun p => p.1.see p.2 >>= fun x => int1 x >>= fun i => rng 0 i >>= fun ds => .ok (ds, p.2) := by
  simp only [evalI]
  rfl
theorem ev_enm (e : ME) : evalI c (.enm e) env = evalE c e env >>= fun p => p.1.frz p.2 >>= fun d => seqOf d.1 >>= fun ds => .ok (enumF 0 ds, d.2) := by
  simp only [evalI, frzR]
  cases evalE c e env with
  | ok p =>
    simp only [ok_bind]
    cases p.1.frz p.2 <;> rfl
  | _ => rfl
theorem ev_zip (a b : ME) : evalI c (.zip a b) env = evalE c a env >>= fun p => p.1.frz p.2 >>= fun x => evalE c b x.2 >>= fun q => q.1.frz q.2 >>= fun y => zip2 x.1 y.1 >>= fun ds => .ok (ds, y.2) := by
  simp only [evalI, frzR]
  cases evalE c a env with
  | ok p =>
    simp only [ok_bind]
    cases p.1.frz p.2 with
    | ok x =>
      simp only [ok_bind]
      cases evalE c b x.2 with
      | ok q =>
        simp only [ok_bind]
        cases q.1.frz q.2 <;> rfl
      | _ => rfl
    | _ => rfl
  | _ => rfl
theorem ev_asg (t : MT) (e : ME) : execS c L lk (.asg t e) env = evalE c e env >>= fun p => p.1.mv p.2 >>= fun a => asgM t a.1 a.2 >>= fun e2 => .ok (e2, .nx) := by
  simp only [execS, mvR]
  cases evalE c e env with
  | ok p =>
    simp only [ok_bind]
    cases p.1.mv p.2 <;> rfl
  | _ => rfl
theorem ev_par (ts : MTs) (as : MA) : execS c L lk (.par ts as) env = evalM c as env >>= fun p => asgAs ts p.1 p.2 >>= fun e2 => .ok (e2, .nx) := by
  simp only [execS]
  rfl
def someS (s : Slot) (k : R (Env × Mi.Flow)) : R (Env × Mi.Flow) := match s with
  | .emp => .stk
  | _ => k
@[simp] theorem someS_lst (ds : List PyData) (k : R (Env × Mi.Flow)) : someS (.lst ds) k = k := rfl
@[simp] theorem someS_val (d : PyData) (k : R (Env × Mi.Flow)) : someS (.val d) k = k := rfl
theorem ev_aug (i : Nat) (o : Op2) (e : ME) : execS c L lk (.aug i o e) env = someS (Mi.get env i) (evalE c e env >>= fun p => p.1.frz p.2 >>= fun y => augF o (Mi.get y.2 i) y.1 >>= fun s => .ok (put y.2 i s, .nx)) := by
  simp only [execS, frzR]
  cases Mi.get env i with
  | emp => rfl
  | _ =>
    simp only [someS]
    cases evalE c e env with
    | ok p =>
      simp only [ok_bind]
      cases p.1.frz p.2 <;> rfl
    | _ => rfl
def onS (s : Slot) (k : List PyData → R (Env × Mi.Flow)) : R (Env × Mi.Flow) := match s with
  | .lst ds => k ds
  | _ => .stk
@[simp] theorem onS_lst (ds : List PyData) (k : List PyData → R (Env × Mi.Flow)) : onS (.lst ds) k = k ds := rfl
theorem ev_sti (i : Nat) (ix e : ME) : execS c L lk (.sti i ix e) env = evalE c e env >>= fun p => p.1.frz p.2 >>= fun y => onS (Mi.get y.2 i) fun _ => evalE c ix y.2 >>= fun q => q.1.see q.2 >>= fun x => int1 x >>= fun k => onS (Mi.get q.2 i) fun ds => match ixAt ds.length k with
    | some j => .ok (put q.2 i (.lst (ds.set j y.1)), .nx)
    | none => .stk := by
  simp only [execS, frzR]
  cases evalE c e env with
  | ok p =>
    simp only [ok_bind]
    cases p.1.frz p.2 with
    | ok y =>
      simp only [ok_bind]
      cases Mi.get y.2 i with
      | lst ds =>
        simp only [onS]
        cases evalE c ix y.2 with
        | ok q =>
          simp only [ok_bind]
          cases q.1.see q.2 with
          | ok x =>
            simp only [ok_bind]
            cases int1 x with
            | ok k =>
              simp only [ok_bind]
              cases Mi.get q.2 i <;> rfl
            | _ => rfl
          | _ => rfl
        | _ => rfl
      | _ => rfl
    | _ => rfl
  | _ => rfl
theorem ev_popAt (i : Nat) (e : ME) : evalE c (.popAt i e) env = onL (Mi.get env i) fun _ => evalE c e env >>= fun p => p.1.see p.2 >>= fun x => int1 x >>= fun k => onL (Mi.get p.2 i) fun ds => match ixAt ds.length k with
    | some j => match ds[j]? with
      | some d => if -(2 ^ 63) ≤ k ∧ k < 2 ^ 63 then .ok (.val d, put p.2 i (.lst (ds.eraseIdx j))) else .stk
      | none => .stk
    | none => .stk := by
  simp only [evalE]
  cases Mi.get env i with
  | lst ds =>
    simp only [onL]
    all_goals
      cases evalE c e env with
      | ok p =>
        simp only [ok_bind]
        cases p.1.see p.2 with
        | ok x =>
          simp only [ok_bind]
          cases int1 x with
          | ok k =>
            simp only [ok_bind]
            cases Mi.get p.2 i <;> rfl
          | _ => rfl
        | _ => rfl
      | _ => rfl
  | _ => rfl
theorem ev_exp (e : ME) : execS c L lk (.exp e) env = evalE c e env >>= fun p => .ok (p.2, .nx) := by
  simp only [execS]
  rfl
theorem ev_ret (e : ME) : execS c L lk (.ret e) env = evalE c e env >>= fun p => retA lk p.1 p.2 >>= fun a => .ok (a.2, .rt a.1) := by
  simp only [execS]
  rfl
theorem ev_rse (k : Nat) : execS c L lk (.rse k .nil) env = .exn k [] := by simp only [execS, evalF, ok_bind]
@[simp] theorem retA_val (d : PyData) : retA lk (.val d) env = .ok (.val d, env) := rfl
@[simp] theorem retA_lst (ds : List PyData) : retA lk (.lst ds) env = .ok (.lst ds, env) := rfl
theorem retA_slot (i : Nat) : retA none (.slot i) env = match Mi.get env i with
    | .val d => .ok (.val d, env)
    | .lst ds => .ok (.lst ds, env)
    | .dct kvs => .ok (.dct kvs, env)
    | .emp => .stk := by
  simp only [retA]
  cases Mi.get env i <;> rfl
theorem call_no {f : Nat} {as : List Arg} (h : c.io f = false) : callVals c f as env = argsOf as env >>= fun p => c.run f (p.1.map Slot.val) >>= fun q => .ok (q.1, p.2) := by
  unfold callVals
  rw [h]
  rfl
theorem call_io {f i : Nat} {r : List Arg} (h : c.io f = true) : callVals c f (.slot i :: r) env = argsOf r env >>= fun p => if (Mi.get p.2 i).own = true then c.run f (Mi.get p.2 i :: p.1.map Slot.val) >>= fun q => .ok (q.1, put p.2 i q.2) else .stk := by
  unfold callVals
  rw [h]
  rfl
theorem args_nil : argsOf [] env = .ok ([], env) := rfl
theorem args_cons (a : Arg) (r : List Arg) : argsOf (a :: r) env = a.frz env >>= fun p => argsOf r p.2 >>= fun q => .ok (p.1 :: q.1, q.2) := rfl
theorem seeAll_nil : seeAll [] env = .ok [] := rfl
theorem seeAll_cons (a : Arg) (r : List Arg) : seeAll (a :: r) env = a.see env >>= fun d => seeAll r env >>= fun ds => .ok (d :: ds) := rfl
/-! ### operators at values -/
theorem seqOf_list (ds : List PyData) : seqOf (.list ds) = .ok ds := rfl
theorem seqOf_tuple (ds : List PyData) : seqOf (.tuple ds) = .ok ds := rfl
theorem sub_tup (ds : List PyData) (i : Int) : sub2 (.tuple ds) (.int i) = itemAt ds i := by
  simp only [sub2, seqOf, int1, ok_bind]
theorem sub_lst (ds : List PyData) (i : Int) : sub2 (.list ds) (.int i) = itemAt ds i := by
  simp only [sub2, seqOf, int1, ok_bind]
theorem b_add (i j : Int) : bin2 .add (.int i) (.int j) = .ok (.val (.int (i + j))) := rfl
theorem b_addb (i : Int) (b : Bool) : bin2 .add (.int i) (.bool b) = .ok (.val (.int (i + b2i b))) := rfl
theorem b_sub (i j : Int) : bin2 .sub (.int i) (.int j) = .ok (.val (.int (i - j))) := rfl
theorem b_mul (i j : Int) : bin2 .mul (.int i) (.int j) = if fitsMul i j = true then .ok (.val (.int (i * j))) else .stk := rfl
theorem b_fdiv (i j : Int) : bin2 .fdiv (.int i) (.int j) = if 0 < j ∧ j < 1073741824 then .ok (.val (.int (i / j))) else .stk := rfl
theorem b_mod (i j : Int) : bin2 .mod (.int i) (.int j) = if 0 < j then .ok (.val (.int (i % j))) else .stk := rfl
theorem b_pow (i j : Int) : bin2 .pow (.int i) (.int j) = if 0 ≤ j ∧ j ≤ 1000000 ∧ i.natAbs < 2 ^ 64 then .ok (.val (.int (i ^ j.toNat))) else .stk := rfl
theorem b_addt (xs ys : List PyData) : bin2 .add (.tuple xs) (.tuple ys) = if xs.length + ys.length ≤ big then .ok (.val (.tuple (xs ++ ys))) else .stk := rfl
theorem b_addl (xs ys : List PyData) : bin2 .add (.list xs) (.list ys) = if xs.length + ys.length ≤ big then .ok (.lst (xs ++ ys)) else .stk := rfl
theorem b_mull (xs : List PyData) (k : Int) : bin2 .mul (.list xs) (.int k) = if -(2 ^ 63) ≤ k ∧ k < 2 ^ 63 ∧ xs.length * k.toNat ≤ big then .ok (.lst (List.replicate k.toNat xs).flatten) else .stk := rfl
theorem s_tup (ds : List PyData) (lo hi : Option Int) : slc3 (.tuple ds) lo hi = .ok (.val (.tuple (cut ds lo hi))) := rfl
theorem s_lst (ds : List PyData) (lo hi : Option Int) : slc3 (.list ds) lo hi = .ok (.lst (cut ds lo hi)) := rfl
theorem i_int (i : Int) : isTy (.int i) .int = .ok true := rfl
theorem i_intb (i : Int) : isTy (.int i) .bool = .ok false := rfl
theorem i_intt (i : Int) : isTy (.int i) .tuple = .ok false := rfl
theorem i_ints (i : Int) : isTy (.int i) .str = .ok false := rfl
theorem i_bool (b : Bool) : isTy (.bool b) .bool = .ok true := rfl
theorem i_booli (b : Bool) : isTy (.bool b) .int = .ok true := rfl
theorem i_boolt (b : Bool) : isTy (.bool b) .tuple = .ok false := rfl
theorem i_str (x : Str) : isTy (.str x) .str = .ok true := rfl
theorem i_stri (x : Str) : isTy (.str x) .int = .ok false := rfl
theorem i_strt (x : Str) : isTy (.str x) .tuple = .ok false := rfl
theorem i_tup (ds : List PyData) : isTy (.tuple ds) .tuple = .ok true := rfl
theorem i_tupi (ds : List PyData) : isTy (.tuple ds) .int = .ok false := rfl
theorem i_tups (ds : List PyData) : isTy (.tuple ds) .str = .ok false := rfl
theorem i_lst (ds : List PyData) : isTy (.list ds) .list = .ok true := rfl
theorem i_lstt (ds : List PyData) : isTy (.list ds) .tuple = .ok false := rfl
theorem i_lsti (ds : List PyData) : isTy (.list ds) .int = .ok false := rfl
theorem i_lsts (ds : List PyData) : isTy (.list ds) .str = .ok false := rfl
theorem i_non (t : Ty) : isTy .none t = .ok false := rfl
theorem f_lenl (ds : List PyData) : bltF .len [.list ds] = .ok (.val (.int ds.length)) := rfl
theorem f_lent (ds : List PyData) : bltF .len [.tuple ds] = .ok (.val (.int ds.length)) := rfl
theorem f_abs (i : Int) : bltF .abs [.int i] = .ok (.val (.int (if i < 0 then -i else i))) := rfl
theorem f_int (i : Int) : bltF .int [.int i] = .ok (.val (.int i)) := rfl
theorem f_intb (b : Bool) : bltF .int [.bool b] = .ok (.val (.int (if b then 1 else 0))) := rfl
theorem f_listl (ds : List PyData) : bltF .list [.list ds] = .ok (.lst ds) := rfl
theorem f_listt (ds : List PyData) : bltF .list [.tuple ds] = .ok (.lst ds) := rfl
theorem f_lists (ds : List PyData) : bltF .list [.dict [(.none, .list ds)]] = .ok (.lst ds) := rfl
theorem f_tupl (ds : List PyData) : bltF .tuple [.list ds] = .ok (.val (.tuple ds)) := rfl
theorem f_tupt (ds : List PyData) : bltF .tuple [.tuple ds] = .ok (.val (.tuple ds)) := rfl
theorem boolsOf_map : ∀ bs : List Bool, boolsOf (bs.map .bool) = .ok bs
  | [] => rfl
  | b :: r => by simp only [List.map_cons, boolsOf, boolsOf_map r, ok_bind, pure_ok]
theorem intsOf_map : ∀ bs : List Int, intsOf (bs.map .int) = .ok bs
  | [] => rfl
  | b :: r => by simp only [List.map_cons, intsOf, intsOf_map r, ok_bind, pure_ok]
theorem f_all (bs : List Bool) : bltF .all [.list (bs.map .bool)] = .ok (.val (.bool (bs.all id))) := by
  simp only [bltF, boolsOf_map, ok_bind, pure_ok]
theorem f_any (bs : List Bool) : bltF .any [.list (bs.map .bool)] = .ok (.val (.bool (bs.any id))) := by
  simp only [bltF, boolsOf_map, ok_bind, pure_ok]
theorem f_reprl (ds : List PyData) : bltF .repr [.list ds] = if reprOk (.list ds) = true then .ok (.val (.str (PyData.shown (.list ds)))) else .stk := rfl
theorem f_reprt (ds : List PyData) : bltF .repr [.tuple ds] = if reprOk (.tuple ds) = true then .ok (.val (.str (PyData.shown (.tuple ds)))) else .stk := rfl
theorem a_lst (ds es : List PyData) : augF .add (.lst ds) (.list es) = if ds.length + es.length ≤ big then .ok (.lst (ds ++ es)) else .stk := rfl
theorem a_int (i j : Int) : augF .add (.val (.int i)) (.int j) = .ok (.val (.int (i + j))) := rfl
theorem asg_v (i : Nat) (d : PyData) : asgM (.nm i) (.val d) env = if i < env.length then .ok (put env i (.val d)) else .stk := by
  simp [asgM, notSlot, slotOf]
theorem asg_l (i : Nat) (d : List PyData) : asgM (.nm i) (.lst d) env = if i < env.length then .ok (put env i (.lst d)) else .stk := by
  simp [asgM, notSlot, slotOf]
theorem asg_t (ts : MTs) (d : PyData) : asgM (.tp ts) (.val d) env = putT (.tp ts) d env := rfl
theorem asgs_nil : asgAs .nil [] env = .ok env := rfl
theorem asgs_cons (t : MT) (r : MTs) (a : Arg) (as : List Arg) : asgAs (.cons t r) (a :: as) env = asgM t a env >>= fun e => asgAs r as e := rfl
theorem put_nm (i : Nat) (d : PyData) : putT (.nm i) d env = if i < env.length then .ok (put env i (.val d)) else .stk := by simp only [putT]
theorem put_tp (ts : MTs) (ds : List PyData) : putT (.tp ts) (.tuple ds) env = putTs ts ds env := by simp only [putT]
theorem puts_nil : putTs .nil [] env = .ok env := by simp only [putTs]
theorem puts_cons (t : MT) (r : MTs) (d : PyData) (ds : List PyData) : putTs (.cons t r) (d :: ds) env = putT t d env >>= fun e => putTs r ds e := by
  simp only [putTs]
theorem c_lt (i j : Int) : cmp2 .Lt (.int i) (.int j) = .ok (decide (i < j)) := rfl
theorem c_le (i j : Int) : cmp2 .LtE (.int i) (.int j) = .ok (decide (i ≤ j)) := rfl
theorem c_gt (i j : Int) : cmp2 .Gt (.int i) (.int j) = .ok (decide (j < i)) := rfl
theorem c_ge (i j : Int) : cmp2 .GtE (.int i) (.int j) = .ok (decide (j ≤ i)) := rfl
theorem lc_nil (t : PyData → Env → R (Option PyData × Env)) : lcL t [] env = .ok ([], env) := rfl
theorem lc_cons (t : PyData → Env → R (Option PyData × Env)) (d : PyData) (ds : List PyData) : lcL t (d :: ds) env = t d env >>= fun p => lcL t ds p.2 >>= fun q => .ok (optC p.1 q.1, q.2) := by
  simp only [lcL]
  cases t d env with
  | ok p =>
    obtain ⟨o, e⟩ := p
    simp only [ok_bind]
    cases lcL t ds e with
    | ok q => cases o <;> rfl
    | _ => rfl
  | _ => rfl
@[simp] theorem optC_some (d : PyData) (r : List PyData) : optC (some d) r = d :: r := rfl
@[simp] theorem optC_none (r : List PyData) : optC none r = r := rfl
theorem frzR_eq (x : R (Arg × Env)) : frzR x = x >>= fun p => p.1.frz p.2 := rfl
theorem lc2_nil (t : PyData → Env → R (List PyData × Env)) : lcL2 t [] env = .ok ([], env) := rfl
theorem lc2_cons (t : PyData → Env → R (List PyData × Env)) (d : PyData) (ds : List PyData) : lcL2 t (d :: ds) env = t d env >>= fun p => lcL2 t ds p.2 >>= fun q => .ok (p.1 ++ q.1, q.2) := rfl
theorem ev_turn2 (tg : MT) (vs : List Nat) (it1 : MI) (tg1 : MT) (vs1 : List Nat) (cd el : ME) (d : PyData) : turn2 c tg vs it1 tg1 vs1 cd el d env = putT tg d env >>= fun e => evalI c it1 e >>= fun p => lcL (turn1 c tg1 vs1 cd el) p.1 (wipeE p.2 vs1) >>= fun q => .ok (q.1, wipeE q.2 vs) := by
  simp only [turn2]
  rfl
theorem ev_try {b : MB} {ks : List Nat} {v : Option Nat} {h0 : HX} {n : Nat} {fs : List PyData} {a : Arg} (h : execB c L lk b env = .exn n fs) (hk : ks.contains n = true) (g : evalH h0 n = .ok a) : execS c L lk (.tryS b ks v h0) env = .ok (List.replicate env.length .emp, .rt a) := by
  simp only [execS, h, hk, if_true, g, ok_bind, pure_ok]
theorem str_eq (a b : String) : (Str.ofString a = Str.ofString b) = (a = b) := by
  apply propext
  constructor
  · intro h
    rw [Str.ofString_eq_toList, Str.ofString_eq_toList] at h
    have h1 : a.toList.map Char.toNat = b.toList.map Char.toNat := by
      have := congrArg (fun s : Str => s.cps.toList) h
      simpa using this
    have inj : Function.Injective Char.toNat := fun x y e => by
      apply Char.ext
      apply UInt32.toNat_inj.mp
      exact e
    have h2 : a.toList = b.toList := (List.map_inj_right (fun x y e => inj e)).mp h1
    exact String.toList_inj.mp h2
  · rintro rfl
    rfl
theorem F_nil : evalF c .nil env = .ok ([], env) := by simp only [evalF]
theorem F_cons {e : ME} {r : MA} {d : PyData} {ds : List PyData} {env1 env2 : Env} (h : frzR (evalE c e env) = .ok (d, env1)) (g : evalF c r env1 = .ok (ds, env2)) : evalF c (.cons e r) env = .ok (d :: ds, env2) := by
  simp only [evalF, h, ok_bind, g, pure_ok]
theorem F_same {e : ME} {r : MA} {d : PyData} {ds : List PyData} {env2 : Env} (h : frzR (evalE c e env) = .ok (d, env)) (g : evalF c r env = .ok (ds, env2)) : evalF c (.cons e r) env = .ok (d :: ds, env2) := F_cons h g
theorem ite_and (x y : Bool) (e : Env) : (if x = true then (R.ok (Arg.val (.bool y), e)) else R.ok (Arg.val (.bool false), e)) = R.ok (Arg.val (.bool (x && y)), e) := by cases x <;> rfl
theorem ite_or (x y : Bool) (e : Env) : (if x = true then (R.ok (Arg.val (.bool true), e)) else R.ok (Arg.val (.bool y), e)) = R.ok (Arg.val (.bool (x || y)), e) := by cases x <;> rfl
end
end Mi

set_option Elab.async false
set_option linter.all false
set_option maxRecDepth 100000
set_option maxHeartbeats 2000000
/-! the defs of the law's text in the mini language -/
namespace K48
open PySem PySem.Spec PyProof.Rows L2 Mi
abbrev Rw : PySem.W.OpenRow := PySem.W.OpenLaw.row PySem.Challenge.rw_mendedmodels_k48_race_runs_judged
def top (i : Nat) : Stmt := Rw.prog.main.body.getD i (.Pass ⟨0, 0, 0, 0⟩)
def m0_1 : MB := (.cons (.ret (.lst (.cons (.ite (.cmp .GtE (.var 1) (.op2 .pow (.cst (.int 10)) (.cst (.int 18)))) (.op2 .fdiv (.var 1) (.cst (.int 83))) (.cst (.int 0))) (.cons (.op2 .add (.op2 .mod (.blt .int (.cons (.op2 .add (.op2 .mul (.var 1) (.cst (.int 307))) (.cst (.int 3001))) .nil)) (.cst (.int 2077503113))) (.cst (.int 181))) .nil)))) .nil)
def m0 : MB := (.cons (.asg (.nm 1) (.blt .abs (.cons (.sub (.op2 .add (.blt .list (.cons (.var 0) .nil)) (.lst (.cons (.cst (.int 0)) .nil))) (.cst (.int 0))) .nil))) m0_1)
def n0 : List Str := ["script", "cell"]
def p0 : List Str := ["script"]
def f0 : FnDef := ⟨"_law_cup", 1, 2, false, m0⟩
def m1_4 : MB := (.cons (.ret (.tup (.cons (.var 1) (.cons (.tup (.cons (.tup (.cons (.cst (.str "need")) (.cons (.tup (.cons (.cst (.str "num")) (.cons (.cst (.int 1)) .nil))) .nil))) (.cons (.tup (.cons (.cst (.str "read")) (.cons (.cst (.int 2)) (.cons (.cst (.int 3)) (.cons (.cst (.str "plain")) .nil))))) (.cons (.var 3) .nil)))) .nil)))) .nil)
def m1_3 : MB := (.cons (.asg (.nm 3) (.tup (.cons (.cst (.str "if")) (.cons (.tup (.cons (.cst (.str "reg")) (.cons (.cst (.int 2)) .nil))) (.cons (.tup (.cons (.tup (.cons (.cst (.str "write")) (.cons (.cst (.int 2)) (.cons (.call 5 (.cons (.var 0) (.cons (.lst (.cons (.cst (.str "plain")) (.cons (.cst (.str "strong")) .nil))) .nil))) (.cons (.tup (.cons (.cst (.str "num")) (.cons (.cst (.int 3)) .nil))) .nil))))) .nil)) (.cons (.tup .nil) .nil)))))) m1_4)
def m1_2 : MB := (.cons (.asg (.nm 1) (.tup (.cons (.tup (.cons (.cst (.str "if")) (.cons (.tup (.cons (.cst (.str "num")) (.cons (.call 6 (.cons (.var 0) (.cons (.cst (.int 2)) .nil))) .nil))) (.cons (.var 4) (.cons (.tup (.cons (.tup (.cons (.cst (.str "add")) (.cons (.cst (.int 0)) (.cons (.cst (.int 3)) (.cons (.tup (.cons (.cst (.str "num")) (.cons (.cst (.int 1)) .nil))) .nil))))) .nil)) .nil))))) .nil))) m1_3)
def m1_1 : MB := (.cons (.asg (.nm 4) (.tup (.cons (.tup (.cons (.cst (.str "set")) (.cons (.cst (.int 1)) (.cons (.tup (.cons (.cst (.str "num")) (.cons (.cst (.int 1)) .nil))) .nil)))) (.cons (.tup (.cons (.cst (.str "write")) (.cons (.cst (.int 3)) (.cons (.cst (.str "plain")) (.cons (.tup (.cons (.cst (.str "reg")) (.cons (.cst (.int 1)) .nil))) .nil))))) (.cons (.var 2) .nil))))) m1_2)
def m1 : MB := (.cons (.asg (.nm 2) (.tup (.cons (.cst (.str "if")) (.cons (.tup (.cons (.cst (.str "reg")) (.cons (.cst (.int 2)) .nil))) (.cons (.tup (.cons (.tup (.cons (.cst (.str "read")) (.cons (.cst (.int 2)) (.cons (.cst (.int 2)) (.cons (.cst (.str "plain")) .nil))))) (.cons (.tup (.cons (.cst (.str "fence")) .nil)) .nil))) (.cons (.tup (.cons (.tup (.cons (.cst (.str "write")) (.cons (.cst (.int 2)) (.cons (.cst (.str "plain")) (.cons (.tup (.cons (.cst (.str "num")) (.cons (.cst (.int 1)) .nil))) .nil))))) .nil)) .nil)))))) m1_1)
def n1 : List Str := ["cup", "first", "inner", "tail", "yes"]
def p1 : List Str := ["cup"]
def f1 : FnDef := ⟨"_law_told_program", 1, 5, true, m1⟩
def l2_0_1 : MB := (.cons (.asg (.nm 4) (.op2 .add (.op2 .add (.slc (.var 4) .nop (.var 2)) (.lst (.cons (.op2 .add (.sub (.var 4) (.var 2)) (.cst (.int 1))) .nil))) (.slc (.var 4) (.op2 .add (.var 2) (.cst (.int 1))) .nop))) .nil)
def l2_0 : MB := (.cons (.asg (.nm 2) (.call 6 (.cons (.var 0) (.cons (.var 6) .nil)))) l2_0_1)
def ce2_0 : ME := (.call 10 (.cons (.var 0) (.cons (.var 5) (.cons (.var 3) .nil))))
def m2_3 : MB := (.cons (.ret (.blt .tuple (.cons (.lc (.nm 5) [5] (.seq (.var 4)) .nop ce2_0) .nil))) .nil)
def m2_2 : MB := (.cons (.for_ (.nm 7) (.rng1 (.op2 .sub (.var 1) (.var 6))) l2_0) m2_3)
def m2_1 : MB := (.cons (.asg (.nm 4) (.op2 .mul (.lst (.cons (.cst (.int 1)) .nil)) (.var 6))) m2_2)
def m2 : MB := (.cons (.par (.cons (.nm 6) (.cons (.nm 3) .nil)) (.cons (.op2 .add (.cst (.int 2)) (.cmp .Eq (.call 6 (.cons (.var 0) (.cons (.cst (.int 4)) .nil))) (.cst (.int 0)))) (.cons (.call 5 (.cons (.var 0) (.cons (.lst (.cons (.cst (.int 1)) (.cons (.cst (.int 2)) (.cons (.cst (.int 2)) (.cons (.cst (.int 2)) .nil))))) .nil))) .nil))) m2_1)
def n2 : List Str := ["cup", "accesses", "at", "cells", "many", "one", "threads", "turn"]
def p2 : List Str := ["cup", "accesses"]
def f2 : FnDef := ⟨"_law_program", 2, 8, true, m2⟩
def ce3_0 : ME := (.tup (.cons (.var 4) (.cons (.var 3) .nil)))
def l3_0 : MB := (.cons (.asg (.nm 2) (.op2 .add (.var 2) (.lc (.nm 3) [3] (.seq (.call 12 (.cons (.var 1) .nil))) .nop ce3_0))) .nil)
def m3_2 : MB := (.cons (.ret (.var 2)) .nil)
def m3_1 : MB := (.cons (.for_ (.tp (.cons (.nm 4) (.cons (.nm 1) .nil))) (.enm (.call 11 (.cons (.var 0) .nil))) l3_0) m3_2)
def m3 : MB := (.cons (.asg (.nm 2) (.lst .nil)) m3_1)
def n3 : List Str := ["program", "block", "found", "one", "thread"]
def p3 : List Str := ["program"]
def f3 : FnDef := ⟨"_law_all", 1, 5, false, m3⟩
def cd4_0 : ME := (.cmp .IsNot (.call 16 (.cons (.var 4) (.cons (.var 5) .nil))) (.cst .none))
def ce4_0 : ME := (.var 5)
def l4_0_1 : MB := (.cons (.iff (.cmp .NotEq (.var 2) (.lst .nil)) (.cons (.asg (.nm 3) (.op2 .add (.var 3) (.tup (.cons (.call 5 (.cons (.var 0) (.cons (.var 2) .nil))) .nil)))) (.cons (.asg (.nm 4) (.call 15 (.cons (.var 4) (.cons (.sub (.var 3) (.neg (.cst (.int 1)))) .nil)))) .nil)) .nil) .nil)
def l4_0 : MB := (.cons (.asg (.nm 2) (.lc (.nm 5) [5] (.rng1 (.blt .len (.cons (.var 1) .nil))) cd4_0 ce4_0)) l4_0_1)
def m4_2 : MB := (.cons (.ret (.tup (.cons (.var 3) (.cons (.call 13 (.cons (.var 4) .nil)) .nil)))) .nil)
def m4_1 : MB := (.cons (.for_ (.nm 6) (.rng1 (.call 6 (.cons (.var 0) (.cons (.cst (.int 5)) .nil)))) l4_0) m4_2)
def m4 : MB := (.cons (.par (.cons (.nm 4) (.cons (.nm 3) .nil)) (.cons (.tup (.cons (.call 14 (.cons (.var 1) .nil)) (.cons (.tup (.cons (.cst (.int 0)) (.cons (.cst (.int 0)) (.cons (.cst (.int 0)) (.cons (.cst (.int 0)) .nil))))) .nil))) (.cons (.tup .nil) .nil))) m4_1)
def n4 : List Str := ["cup", "program", "able", "row", "state", "thread", "turn"]
def p4 : List Str := ["cup", "program"]
def f4 : FnDef := ⟨"_law_walk", 2, 7, true, m4⟩
def m5 : MB := (.cons (.ret (.sub (.var 1) (.call 6 (.cons (.var 0) (.cons (.blt .len (.cons (.var 1) .nil)) .nil))))) .nil)
def n5 : List Str := ["cup", "things"]
def p5 : List Str := ["cup", "things"]
def f5 : FnDef := ⟨"_law_some", 2, 2, true, m5⟩
def m6_3 : MB := (.cons (.ret (.op2 .mod (.blt .int (.cons (.op2 .fdiv (.var 2) (.cst (.int 839))) .nil)) (.var 1))) .nil)
def m6_2 : MB := (.cons (.asg (.nm 2) (.op2 .mod (.blt .int (.cons (.op2 .mul (.sub (.var 0) (.cst (.int 1))) (.op2 .add (.sub (.var 0) (.cst (.int 1))) (.cst (.int 251)))) .nil)) (.cst (.int 2147483587)))) m6_3)
def m6_1 : MB := (.cons (.sti 0 (.cst (.int 1)) (.op2 .mod (.blt .int (.cons (.op2 .add (.op2 .mul (.sub (.var 0) (.cst (.int 1))) (.cst (.int 31081))) (.cst (.int 8039))) .nil)) (.cst (.int 2147483477)))) m6_2)
def m6 : MB := (.cons (.iff (.cmp .Gt (.sub (.var 0) (.cst (.int 0))) (.cst (.int 0))) (.cons (.asg (.nm 3) (.op2 .mod (.blt .int (.cons (.sub (.var 0) (.cst (.int 0))) .nil)) (.var 1))) (.cons (.sti 0 (.cst (.int 0)) (.op2 .fdiv (.sub (.var 0) (.cst (.int 0))) (.var 1))) (.cons (.ret (.var 3)) .nil))) .nil) m6_1)
def n6 : List Str := ["cup", "many", "deep", "found"]
def p6 : List Str := ["cup", "many"]
def f6 : FnDef := ⟨"_law_roll", 2, 4, true, m6⟩
def m7 : MB := (.cons (.tryS (.cons (.ret (.call 8 (.cons (.var 0) (.cons (.var 1) (.cons (.var 2) (.cons (.tup .nil) .nil)))))) .nil) [0, 1] (some 3) (.ite (.isE [1]) (.cst (.str "number")) (.ite (.isE [0]) (.cst (.str "program")) (.cst (.str "other"))))) .nil)
def n7 : List Str := ["program", "one", "other", "error"]
def p7 : List Str := ["program", "one", "other"]
def f7 : FnDef := ⟨"_law_word", 3, 4, false, m7⟩
def l8_0_1 : MB := (.cons (.asg (.nm 4) (.call 20 (.cons (.var 4) (.cons (.var 6) .nil)))) .nil)
def l8_0 : MB := (.cons (.iff (.or (.not (.call 23 (.cons (.var 6) (.cons (.cst (.int 0)) (.cons (.op2 .sub (.blt .len (.cons (.var 0) .nil)) (.cst (.int 1))) .nil))))) (.not (.call 24 (.cons (.var 4) (.cons (.var 6) .nil))))) (.cons (.ret (.cst (.bool false))) .nil) .nil) l8_0_1)
def m8_5 : MB := (.cons (.ret (.cmp .In (.tup (.cons (.blt .min2 (.cons (.var 1) (.cons (.var 2) .nil))) (.cons (.blt .max2 (.cons (.var 1) (.cons (.var 2) .nil))) .nil))) (.call 21 (.cons (.var 4) .nil)))) .nil)
def m8_4 : MB := (.cons (.for_ (.nm 6) (.seq (.var 3)) l8_0) m8_5)
def m8_3 : MB := (.cons (.asg (.nm 4) (.call 19 (.cons (.var 0) .nil))) m8_4)
def m8_2 : MB := (.cons (.iff (.or (.and (.sub (.var 5) (.var 1)) (.sub (.var 5) (.var 2))) (.not (.call 22 (.cons (.var 3) (.cons (.cst (.int 0)) (.cons (.gbl "STEPS" (.int 100)) .nil)))))) (.cons (.ret (.cst (.bool false))) .nil) .nil) m8_3)
def m8_1 : MB := (.cons (.asg (.nm 5) (.call 18 (.cons (.var 0) .nil))) m8_2)
def m8 : MB := (.cons (.exp (.call 17 (.cons (.var 0) (.cons (.var 1) (.cons (.var 2) .nil))))) m8_1)
def n8 : List Str := ["program", "one", "other", "value", "state", "strong", "thread"]
def p8 : List Str := ["program", "one", "other", "value"]
def f8 : FnDef := ⟨"is_race_run", 4, 7, false, m8⟩
def l9_0_1 : MB := (.cons (.asg (.nm 4) (.call 15 (.cons (.var 4) (.cons (.var 6) .nil)))) .nil)
def l9_0 : MB := (.cons (.iff (.or (.isi (.var 6) .bool) (.or (.not (.isi (.var 6) .int)) (.or (.not (.chn .LtE .Lt (.cst (.int 0)) (.var 6) (.blt .len (.cons (.var 0) .nil)))) (.cmp .Is (.call 16 (.cons (.var 4) (.cons (.var 6) .nil))) (.cst .none))))) (.cons (.ret (.cst (.bool false))) .nil) .nil) l9_0_1)
def m9_3 : MB := (.cons (.ret (.cmp .In (.tup (.cons (.blt .min2 (.cons (.var 1) (.cons (.var 2) .nil))) (.cons (.blt .max2 (.cons (.var 1) (.cons (.var 2) .nil))) .nil))) (.call 13 (.cons (.var 4) .nil)))) .nil)
def m9_2 : MB := (.cons (.for_ (.nm 6) (.seq (.var 3)) l9_0) m9_3)
def m9_1 : MB := (.cons (.iff (.or (.and (.sub (.var 5) (.var 1)) (.sub (.var 5) (.var 2))) (.or (.not (.isi (.var 3) .tuple)) (.cmp .Gt (.blt .len (.cons (.var 3) .nil)) (.cst (.int 100))))) (.cons (.ret (.cst (.bool false))) .nil) .nil) m9_2)
def m9 : MB := (.cons (.par (.cons (.nm 5) (.cons (.nm 4) .nil)) (.cons (.call 25 (.cons (.var 0) .nil)) (.cons (.tup (.cons (.call 14 (.cons (.var 0) .nil)) (.cons (.tup (.cons (.cst (.int 0)) (.cons (.cst (.int 0)) (.cons (.cst (.int 0)) (.cons (.cst (.int 0)) .nil))))) .nil))) .nil))) m9_1)
def n9 : List Str := ["program", "one", "other", "value", "state", "strong", "thread"]
def p9 : List Str := ["program", "one", "other", "value"]
def f9 : FnDef := ⟨"_law_is_right", 4, 7, false, m9⟩
def t10_0 : ME := (.cmp .Gt (.var 1) (.cst (.int 0)))
def l10_0_4 : MB := (.cons (.iff (.and (.cmp .Eq (.var 7) (.cst (.int 3))) (.cmp .NotEq (.var 3) (.tup .nil))) (.cons (.par (.cons (.nm 8) (.cons (.nm 5) .nil)) (.cons (.tup (.cons (.call 27 (.cons (.var 0) (.cons (.var 2) .nil))) .nil)) (.cons (.ite (.and (.cmp .Gt (.var 1) (.cst (.int 1))) (.cmp .Eq (.call 6 (.cons (.var 0) (.cons (.cst (.int 2)) .nil))) (.cst (.int 0)))) (.tup (.cons (.call 27 (.cons (.var 0) (.cons (.var 2) .nil))) .nil)) (.tup .nil)) .nil))) (.cons (.par (.cons (.nm 3) (.cons (.nm 1) .nil)) (.cons (.op2 .add (.var 3) (.tup (.cons (.tup (.cons (.cst (.str "if")) (.cons (.tup (.cons (.cst (.str "reg")) (.cons (.call 6 (.cons (.var 0) (.cons (.cst (.int 2)) .nil))) .nil))) (.cons (.var 8) (.cons (.var 5) .nil))))) .nil))) (.cons (.op2 .sub (.op2 .sub (.var 1) (.cst (.int 1))) (.blt .len (.cons (.var 5) .nil))) .nil))) .nil)) (.cons (.par (.cons (.nm 3) (.cons (.nm 1) .nil)) (.cons (.op2 .add (.var 3) (.tup (.cons (.call 27 (.cons (.var 0) (.cons (.var 2) .nil))) .nil))) (.cons (.op2 .sub (.var 1) (.cst (.int 1))) .nil))) .nil)) .nil)
def l10_0_3 : MB := (.cons (.iff (.and (.cmp .Eq (.var 7) (.cst (.int 2))) (.cmp .NotEq (.var 3) (.tup .nil))) (.cons (.asg (.nm 3) (.op2 .add (.var 3) (.tup (.cons (.tup (.cons (.cst (.str "need")) (.cons (.tup (.cons (.cst (.str "less")) (.cons (.tup (.cons (.cst (.str "reg")) (.cons (.call 6 (.cons (.var 0) (.cons (.cst (.int 2)) .nil))) .nil))) (.cons (.tup (.cons (.cst (.str "num")) (.cons (.cst (.int 2)) .nil))) .nil)))) .nil))) .nil)))) .nil) .nil) l10_0_4)
def l10_0_2 : MB := (.cons (.iff (.cmp .Eq (.var 7) (.cst (.int 1))) (.cons (.asg (.nm 3) (.op2 .add (.var 3) (.tup (.cons (.tup (.cons (.cst (.str "set")) (.cons (.call 6 (.cons (.var 0) (.cons (.cst (.int 2)) .nil))) (.cons (.call 26 (.cons (.var 0) (.cons (.cst (.int 1)) .nil))) .nil)))) .nil)))) .nil) .nil) l10_0_3)
def l10_0_1 : MB := (.cons (.iff (.cmp .Eq (.var 7) (.cst (.int 0))) (.cons (.asg (.nm 3) (.op2 .add (.var 3) (.tup (.cons (.tup (.cons (.cst (.str "fence")) .nil)) .nil)))) .nil) .nil) l10_0_2)
def l10_0 : MB := (.cons (.asg (.nm 7) (.call 6 (.cons (.var 0) (.cons (.cst (.int 12)) .nil)))) l10_0_1)
def m10_3 : MB := (.cons (.ret (.var 3)) .nil)
def m10_2 : MB := (.cons (.iff (.and (.cmp .NotEq (.var 3) (.tup .nil)) (.and (.cmp .Lt (.var 4) (.cst (.int 6))) (.cmp .Eq (.call 6 (.cons (.var 0) (.cons (.cst (.int 3)) .nil))) (.cst (.int 0))))) (.cons (.asg (.nm 6) (.lst (.cons (.tup (.cons (.cst (.str "set")) (.cons (.call 6 (.cons (.var 0) (.cons (.cst (.int 2)) .nil))) (.cons (.call 26 (.cons (.var 0) (.cons (.cst (.int 1)) .nil))) .nil)))) (.cons (.tup (.cons (.cst (.str "need")) (.cons (.tup (.cons (.cst (.str "less")) (.cons (.tup (.cons (.cst (.str "reg")) (.cons (.cst (.int 0)) .nil))) (.cons (.tup (.cons (.cst (.str "num")) (.cons (.cst (.int 3)) .nil))) .nil)))) .nil))) .nil)))) (.cons (.asg (.nm 3) (.op2 .add (.var 3) (.tup (.cons (.call 5 (.cons (.var 0) (.cons (.op2 .add (.var 6) (.ite (.cmp .NotIn (.tup (.cons (.cst (.str "fence")) .nil)) (.var 3)) (.lst (.cons (.tup (.cons (.cst (.str "fence")) .nil)) .nil)) (.lst .nil))) .nil))) .nil)))) .nil)) .nil) m10_3)
def m10_1 : MB := (.cons (.whl t10_0 l10_0) m10_2)
def m10 : MB := (.cons (.par (.cons (.nm 3) (.cons (.nm 4) .nil)) (.cons (.tup .nil) (.cons (.var 1) .nil))) m10_1)
def n10 : List Str := ["cup", "accesses", "cells", "found", "many", "no", "tail", "way", "yes"]
def p10 : List Str := ["cup", "accesses", "cells"]
def f10 : FnDef := ⟨"_law_thread", 3, 9, true, m10⟩
def l11_0_1 : MB := (.cons (.exp (.app 3 (.var 4))) .nil)
def l11_0 : MB := (.cons (.asg (.tp (.cons (.nm 4) (.cons (.nm 2) .nil))) (.call 28 (.cons (.var 1) (.cons (.var 2) .nil)))) l11_0_1)
def m11_2 : MB := (.cons (.ret (.var 3)) .nil)
def m11_1 : MB := (.cons (.for_ (.nm 1) (.seq (.var 0)) l11_0) m11_2)
def m11 : MB := (.cons (.par (.cons (.nm 3) (.cons (.nm 2) .nil)) (.cons (.lst .nil) (.cons (.cst (.int 0)) .nil))) m11_1)
def n11 : List Str := ["program", "block", "first", "found", "own"]
def p11 : List Str := ["program"]
def f11 : FnDef := ⟨"_law_threads", 1, 5, false, m11⟩
def l12_0_1 : MB := (.cons (.iff (.cmp .Eq (.sub (.var 2) (.cst (.int 0))) (.cst (.str "if"))) (.cons (.asg (.nm 1) (.op2 .add (.op2 .add (.var 1) (.call 12 (.cons (.sub (.var 2) (.cst (.int 2))) .nil))) (.call 12 (.cons (.sub (.var 2) (.cst (.int 3))) .nil)))) .nil) .nil) .nil)
def l12_0 : MB := (.cons (.iff (.call 29 (.cons (.var 2) .nil)) (.cons (.exp (.app 1 (.var 2))) .nil) .nil) l12_0_1)
def m12_2 : MB := (.cons (.ret (.var 1)) .nil)
def m12_1 : MB := (.cons (.for_ (.nm 2) (.seq (.var 0)) l12_0) m12_2)
def m12 : MB := (.cons (.asg (.nm 1) (.lst .nil)) m12_1)
def n12 : List Str := ["block", "found", "one"]
def p12 : List Str := ["block"]
def f12 : FnDef := ⟨"_law_accesses", 1, 3, false, m12⟩
def l13_1_1 : MB := (.cons (.iff (.and (.cmp .IsNot (.var 2) (.cst .none)) (.and (.cmp .IsNot (.var 5) (.cst .none)) (.cmp .Eq (.call 31 (.cons (.var 2) .nil)) (.call 31 (.cons (.var 5) .nil))))) (.cons (.iff (.or (.call 32 (.cons (.var 0) (.cons (.var 4) .nil))) (.call 32 (.cons (.var 0) (.cons (.var 3) .nil)))) (.cons (.exp (.app 1 (.tup (.cons (.sub (.var 2) (.neg (.cst (.int 1)))) (.cons (.sub (.var 5) (.neg (.cst (.int 1)))) .nil))))) .nil) .nil) .nil) .nil) .nil)
def l13_1 : MB := (.cons (.par (.cons (.nm 2) (.cons (.nm 5) .nil)) (.cons (.call 30 (.cons (.var 0) (.cons (.var 4) .nil))) (.cons (.call 30 (.cons (.var 0) (.cons (.var 3) .nil))) .nil))) l13_1_1)
def l13_0 : MB := (.cons (.for_ (.nm 4) (.rng1 (.var 3)) l13_1) .nil)
def m13_2 : MB := (.cons (.ret (.var 1)) .nil)
def m13_1 : MB := (.cons (.for_ (.nm 3) (.rng1 (.blt .len (.cons (.sub (.var 0) (.cst (.int 0))) .nil))) l13_0) m13_2)
def m13 : MB := (.cons (.asg (.nm 1) (.lst .nil)) m13_1)
def n13 : List Str := ["state", "found", "one", "other", "thread", "two"]
def p13 : List Str := ["state"]
def f13 : FnDef := ⟨"_law_meets", 1, 6, false, m13⟩
def ce14_0 : ME := (.call 33 (.cons (.var 1) (.cons (.tup (.cons (.cst (.int 0)) (.cons (.cst (.int 0)) (.cons (.cst (.int 0)) .nil)))) .nil)))
def m14 : MB := (.cons (.ret (.blt .tuple (.cons (.lc (.nm 1) [1] (.seq (.call 11 (.cons (.var 0) .nil))) .nop ce14_0) .nil))) .nil)
def n14 : List Str := ["program", "block"]
def p14 : List Str := ["program"]
def f14 : FnDef := ⟨"_law_begun", 1, 2, false, m14⟩
def m15_4 : MB := (.cons (.ret (.tup (.cons (.op2 .add (.op2 .add (.slc (.var 8) .nop (.var 1)) (.tup (.cons (.call 35 (.cons (.var 7) (.cons (.var 6) (.cons (.var 5) .nil)))) .nil))) (.slc (.var 8) (.op2 .add (.var 1) (.cst (.int 1))) .nop)) (.cons (.var 3) .nil)))) .nil)
def m15_3 : MB := (.cons (.iff (.call 29 (.cons (.var 4) .nil)) (.cons (.asg (.nm 2) (.call 31 (.cons (.var 4) .nil))) (.cons (.asg (.nm 5) (.ite (.cmp .NotEq (.sub (.var 4) (.cst (.int 0))) (.cst (.str "write"))) (.sub (.var 3) (.var 2)) (.cst .none))) (.cons (.asg (.nm 9) (.call 34 (.cons (.var 4) (.cons (.var 6) (.cons (.var 5) .nil))))) (.cons (.asg (.nm 3) (.op2 .add (.op2 .add (.slc (.var 3) .nop (.var 2)) (.tup (.cons (.ite (.cmp .Is (.var 9) (.cst .none)) (.sub (.var 3) (.var 2)) (.var 9)) .nil))) (.slc (.var 3) (.op2 .add (.var 2) (.cst (.int 1))) .nop))) .nil)))) .nil) m15_4)
def m15_2 : MB := (.cons (.par (.cons (.nm 4) (.cons (.nm 5) .nil)) (.cons (.sub (.var 7) (.cst (.int 0))) (.cons (.cst .none) .nil))) m15_3)
def m15_1 : MB := (.cons (.asg (.tp (.cons (.nm 7) (.cons (.nm 6) .nil))) (.sub (.var 8) (.var 1))) m15_2)
def m15 : MB := (.cons (.asg (.tp (.cons (.nm 8) (.cons (.nm 3) .nil))) (.var 0)) m15_1)
def n15 : List Str := ["state", "thread", "cell", "memory", "one", "read", "registers", "rest", "threads", "written"]
def p15 : List Str := ["state", "thread"]
def f15 : FnDef := ⟨"_law_stepped", 2, 10, false, m15⟩
def m16_1 : MB := (.cons (.ret (.ite (.and (.cmp .IsNot (.var 2) (.cst .none)) (.cmp .NotEq (.var 2) (.tup .nil))) (.sub (.var 2) (.cst (.int 0))) (.cst .none))) .nil)
def m16 : MB := (.cons (.asg (.nm 2) (.sub (.sub (.sub (.var 0) (.cst (.int 0))) (.var 1)) (.cst (.int 0)))) m16_1)
def n16 : List Str := ["state", "thread", "rest"]
def p16 : List Str := ["state", "thread"]
def f16 : FnDef := ⟨"_law_next", 2, 3, false, m16⟩
def m17_3 : MB := (.cons (.exp (.call 37 (.cons (.var 2) (.cons (.cst (.int 0)) (.cons (.op2 .sub (.var 3) (.cst (.int 1))) .nil))))) .nil)
def m17_2 : MB := (.cons (.exp (.call 37 (.cons (.var 1) (.cons (.cst (.int 0)) (.cons (.op2 .sub (.var 3) (.cst (.int 1))) .nil))))) m17_3)
def m17_1 : MB := (.cons (.asg (.nm 3) (.blt .len (.cons (.call 38 (.cons (.var 0) .nil)) .nil))) m17_2)
def m17 : MB := (.cons (.exp (.call 36 (.cons (.var 0) .nil))) m17_1)
def n17 : List Str := ["program", "one", "other", "many"]
def p17 : List Str := ["program", "one", "other"]
def f17 : FnDef := ⟨"need_pair", 3, 4, false, m17⟩
def ce18_0 : ME := (.cmp .Eq (.call 39 (.cons (.var 1) .nil)) (.cst (.str "strong")))
def m18 : MB := (.cons (.ret (.lc (.tp (.cons (.nm 2) (.cons (.nm 1) .nil))) [2, 1] (.seq (.call 38 (.cons (.var 0) .nil))) .nop ce18_0)) .nil)
def n18 : List Str := ["program", "one", "thread"]
def p18 : List Str := ["program"]
def f18 : FnDef := ⟨"strong_numbers", 1, 3, false, m18⟩
def m19 : MB := (.cons (.ret (.tup (.cons (.call 40 (.cons (.var 0) .nil)) (.cons (.op2 .mul (.tup (.cons (.cst (.int 0)) .nil)) (.gbl "CELLS" (.int 4))) .nil)))) .nil)
def n19 : List Str := ["program"]
def p19 : List Str := ["program"]
def f19 : FnDef := ⟨"first_state", 1, 1, false, m19⟩
def m20_4 : MB := (.cons (.ret (.tup (.cons (.op2 .add (.op2 .add (.slc (.var 8) .nop (.var 1)) (.tup (.cons (.call 45 (.cons (.var 7) (.cons (.var 6) (.cons (.var 5) .nil)))) .nil))) (.slc (.var 8) (.op2 .add (.var 1) (.cst (.int 1))) .nop)) (.cons (.var 3) .nil)))) .nil)
def m20_3 : MB := (.cons (.iff (.call 41 (.cons (.var 4) .nil)) (.cons (.asg (.nm 2) (.call 42 (.cons (.var 4) .nil))) (.cons (.asg (.nm 5) (.ite (.call 44 (.cons (.var 4) .nil)) (.sub (.var 3) (.var 2)) (.cst .none))) (.cons (.asg (.nm 9) (.call 43 (.cons (.var 4) (.cons (.var 6) (.cons (.var 5) .nil))))) (.cons (.iff (.cmp .IsNot (.var 9) (.cst .none)) (.cons (.asg (.nm 3) (.op2 .add (.op2 .add (.slc (.var 3) .nop (.var 2)) (.tup (.cons (.var 9) .nil))) (.slc (.var 3) (.op2 .add (.var 2) (.cst (.int 1))) .nop))) .nil) .nil) .nil)))) .nil) m20_4)
def m20_2 : MB := (.cons (.par (.cons (.nm 4) (.cons (.nm 5) .nil)) (.cons (.sub (.var 7) (.cst (.int 0))) (.cons (.cst .none) .nil))) m20_3)
def m20_1 : MB := (.cons (.asg (.tp (.cons (.nm 7) (.cons (.nm 6) .nil))) (.sub (.var 8) (.var 1))) m20_2)
def m20 : MB := (.cons (.asg (.tp (.cons (.nm 8) (.cons (.nm 3) .nil))) (.var 0)) m20_1)
def n20 : List Str := ["state", "thread", "cell", "memory", "one", "read", "registers", "rest", "threads", "written"]
def p20 : List Str := ["state", "thread"]
def f20 : FnDef := ⟨"stepped", 2, 10, false, m20⟩
def l21_1_1 : MB := (.cons (.iff (.and (.cmp .IsNot (.var 2) (.cst .none)) (.and (.cmp .IsNot (.var 5) (.cst .none)) (.cmp .Eq (.call 42 (.cons (.var 2) .nil)) (.call 42 (.cons (.var 5) .nil))))) (.cons (.iff (.or (.call 47 (.cons (.var 0) (.cons (.var 3) .nil))) (.call 47 (.cons (.var 0) (.cons (.var 4) .nil)))) (.cons (.exp (.app 1 (.tup (.cons (.sub (.var 2) (.neg (.cst (.int 1)))) (.cons (.sub (.var 5) (.neg (.cst (.int 1)))) .nil))))) .nil) .nil) .nil) .nil) .nil)
def l21_1 : MB := (.cons (.par (.cons (.nm 2) (.cons (.nm 5) .nil)) (.cons (.call 46 (.cons (.var 0) (.cons (.var 3) .nil))) (.cons (.call 46 (.cons (.var 0) (.cons (.var 4) .nil))) .nil))) l21_1_1)
def l21_0 : MB := (.cons (.for_ (.nm 3) (.rng1 (.var 4)) l21_1) .nil)
def m21_2 : MB := (.cons (.ret (.var 1)) .nil)
def m21_1 : MB := (.cons (.for_ (.nm 4) (.rng1 (.blt .len (.cons (.sub (.var 0) (.cst (.int 0))) .nil))) l21_0) m21_2)
def m21 : MB := (.cons (.asg (.nm 1) (.lst .nil)) m21_1)
def n21 : List Str := ["state", "found", "one", "other", "thread", "two"]
def p21 : List Str := ["state"]
def f21 : FnDef := ⟨"pairs_in", 1, 6, false, m21⟩
def m22 : MB := (.cons (.ret (.and (.isi (.var 0) .tuple) (.chn .LtE .LtE (.var 1) (.blt .len (.cons (.var 0) .nil)) (.var 2)))) .nil)
def n22 : List Str := ["value", "low", "high"]
def p22 : List Str := ["value", "low", "high"]
def f22 : FnDef := ⟨"is_tuple_of", 3, 3, false, m22⟩
def m23 : MB := (.cons (.ret (.and (.isi (.var 0) .int) (.and (.not (.isi (.var 0) .bool)) (.chn .LtE .LtE (.var 1) (.var 0) (.var 2))))) .nil)
def n23 : List Str := ["value", "low", "high"]
def p23 : List Str := ["value", "low", "high"]
def f23 : FnDef := ⟨"is_whole", 3, 3, false, m23⟩
def m24_1 : MB := (.cons (.ret (.and (.cmp .IsNot (.var 2) (.cst .none)) (.cmp .NotEq (.var 2) (.tup .nil)))) .nil)
def m24 : MB := (.cons (.asg (.nm 2) (.sub (.sub (.sub (.var 0) (.cst (.int 0))) (.var 1)) (.cst (.int 0)))) m24_1)
def n24 : List Str := ["state", "thread", "rest"]
def p24 : List Str := ["state", "thread"]
def f24 : FnDef := ⟨"can_step", 2, 3, false, m24⟩
def ce25_0 : ME := (.cmp .Eq (.call 48 (.cons (.var 1) .nil)) (.cst (.str "strong")))
def m25 : MB := (.cons (.ret (.lc (.tp (.cons (.nm 2) (.cons (.nm 1) .nil))) [2, 1] (.seq (.call 3 (.cons (.var 0) .nil))) .nop ce25_0)) .nil)
def n25 : List Str := ["program", "one", "thread"]
def p25 : List Str := ["program"]
def f25 : FnDef := ⟨"_law_strong_ones", 1, 3, false, m25⟩
def m26_2 : MB := (.cons (.ret (.tup (.cons (.call 5 (.cons (.var 0) (.cons (.lst (.cons (.cst (.str "plus")) (.cons (.cst (.str "minus")) (.cons (.cst (.str "times")) (.cons (.cst (.str "same")) (.cons (.cst (.str "less")) .nil)))))) .nil))) (.cons (.call 26 (.cons (.var 0) (.cons (.op2 .sub (.var 1) (.cst (.int 1))) .nil))) (.cons (.call 26 (.cons (.var 0) (.cons (.op2 .sub (.var 1) (.cst (.int 1))) .nil))) .nil))))) .nil)
def m26_1 : MB := (.cons (.iff (.cmp .Lt (.var 2) (.cst (.int 4))) (.cons (.ret (.ite (.cmp .Lt (.var 2) (.cst (.int 2))) (.tup (.cons (.cst (.str "num")) (.cons (.call 5 (.cons (.var 0) (.cons (.lst (.cons (.cst (.int 0)) (.cons (.cst (.int 1)) (.cons (.cst (.int 1)) (.cons (.cst (.int 2)) (.cons (.cst (.int 3)) (.cons (.cst (.int 15)) .nil))))))) .nil))) .nil))) (.tup (.cons (.cst (.str "reg")) (.cons (.call 6 (.cons (.var 0) (.cons (.cst (.int 2)) .nil))) .nil))))) .nil) .nil) m26_2)
def m26 : MB := (.cons (.asg (.nm 2) (.call 6 (.cons (.var 0) (.cons (.ite (.cmp .Gt (.var 1) (.cst (.int 0))) (.cst (.int 6)) (.cst (.int 4))) .nil)))) m26_1)
def n26 : List Str := ["cup", "deep", "way"]
def p26 : List Str := ["cup", "deep"]
def f26 : FnDef := ⟨"_law_expression", 2, 3, true, m26⟩
def m27_4 : MB := (.cons (.ret (.op2 .add (.tup (.cons (.var 4) (.cons (.call 6 (.cons (.var 0) (.cons (.cst (.int 2)) .nil))) (.cons (.var 2) .nil)))) (.ite (.cmp .Eq (.var 4) (.cst (.str "try"))) (.tup (.cons (.call 26 (.cons (.var 0) (.cons (.cst (.int 0)) .nil))) (.cons (.call 26 (.cons (.var 0) (.cons (.cst (.int 1)) .nil))) .nil))) (.tup (.cons (.call 26 (.cons (.var 0) (.cons (.cst (.int 1)) .nil))) .nil))))) .nil)
def m27_3 : MB := (.cons (.asg (.nm 4) (.call 5 (.cons (.var 0) (.cons (.lst (.cons (.cst (.str "swap")) (.cons (.cst (.str "add")) (.cons (.cst (.str "try")) .nil)))) .nil)))) m27_4)
def m27_2 : MB := (.cons (.iff (.cmp .Lt (.var 3) (.cst (.int 8))) (.cons (.ret (.tup (.cons (.cst (.str "read")) (.cons (.call 6 (.cons (.var 0) (.cons (.cst (.int 2)) .nil))) (.cons (.var 2) (.cons (.call 5 (.cons (.var 0) (.cons (.lst (.cons (.cst (.str "plain")) (.cons (.cst (.str "plain")) (.cons (.cst (.str "acquire")) (.cons (.cst (.str "strong")) .nil))))) .nil))) .nil)))))) .nil) .nil) m27_3)
def m27_1 : MB := (.cons (.iff (.cmp .Lt (.var 3) (.cst (.int 4))) (.cons (.ret (.tup (.cons (.cst (.str "write")) (.cons (.var 2) (.cons (.call 5 (.cons (.var 0) (.cons (.lst (.cons (.cst (.str "plain")) (.cons (.cst (.str "plain")) (.cons (.cst (.str "release")) (.cons (.cst (.str "strong")) .nil))))) .nil))) (.cons (.call 26 (.cons (.var 0) (.cons (.cst (.int 1)) .nil))) .nil)))))) .nil) .nil) m27_2)
def m27 : MB := (.cons (.par (.cons (.nm 2) (.cons (.nm 3) .nil)) (.cons (.call 6 (.cons (.var 0) (.cons (.var 1) .nil))) (.cons (.call 6 (.cons (.var 0) (.cons (.cst (.int 10)) .nil))) .nil))) m27_1)
def n27 : List Str := ["cup", "cells", "cell", "way", "word"]
def p27 : List Str := ["cup", "cells"]
def f27 : FnDef := ⟨"_law_access", 2, 5, true, m27⟩
def l28_0 : MB := (.cons (.iff (.call 29 (.cons (.var 4) .nil)) (.cons (.par (.cons (.nm 2) (.cons (.nm 1) .nil)) (.cons (.op2 .add (.var 2) (.lst (.cons (.op2 .add (.var 4) (.tup (.cons (.var 1) .nil))) .nil))) (.cons (.op2 .add (.var 1) (.cst (.int 1))) .nil))) .nil) (.cons (.iff (.cmp .Eq (.sub (.var 4) (.cst (.int 0))) (.cst (.str "if"))) (.cons (.asg (.tp (.cons (.nm 5) (.cons (.nm 1) .nil))) (.call 28 (.cons (.sub (.var 4) (.cst (.int 2))) (.cons (.var 1) .nil)))) (.cons (.asg (.tp (.cons (.nm 3) (.cons (.nm 1) .nil))) (.call 28 (.cons (.sub (.var 4) (.cst (.int 3))) (.cons (.var 1) .nil)))) (.cons (.exp (.app 2 (.tup (.cons (.cst (.str "if")) (.cons (.sub (.var 4) (.cst (.int 1))) (.cons (.var 5) (.cons (.var 3) .nil))))))) .nil))) (.cons (.exp (.app 2 (.var 4))) .nil)) .nil)) .nil)
def m28_2 : MB := (.cons (.ret (.tup (.cons (.blt .tuple (.cons (.var 2) .nil)) (.cons (.var 1) .nil)))) .nil)
def m28_1 : MB := (.cons (.for_ (.nm 4) (.seq (.var 0)) l28_0) m28_2)
def m28 : MB := (.cons (.asg (.nm 2) (.lst .nil)) m28_1)
def n28 : List Str := ["block", "first", "found", "no", "one", "yes"]
def p28 : List Str := ["block", "first"]
def f28 : FnDef := ⟨"_law_numbered", 2, 6, false, m28⟩
def m29 : MB := (.cons (.ret (.cmp .In (.sub (.var 0) (.cst (.int 0))) (.tup (.cons (.cst (.str "read")) (.cons (.cst (.str "write")) (.cons (.cst (.str "swap")) (.cons (.cst (.str "add")) (.cons (.cst (.str "try")) .nil)))))))) .nil)
def n29 : List Str := ["statement"]
def p29 : List Str := ["statement"]
def f29 : FnDef := ⟨"_law_is_access", 1, 1, false, m29⟩
def m30_1 : MB := (.cons (.ret (.ite (.and (.cmp .IsNot (.var 2) (.cst .none)) (.call 29 (.cons (.var 2) .nil))) (.var 2) (.cst .none))) .nil)
def m30 : MB := (.cons (.asg (.nm 2) (.call 16 (.cons (.var 0) (.cons (.var 1) .nil)))) m30_1)
def n30 : List Str := ["state", "thread", "one"]
def p30 : List Str := ["state", "thread"]
def f30 : FnDef := ⟨"_law_own", 2, 3, false, m30⟩
def m31 : MB := (.cons (.ret (.ite (.cmp .Eq (.sub (.var 0) (.cst (.int 0))) (.cst (.str "write"))) (.sub (.var 0) (.cst (.int 1))) (.sub (.var 0) (.cst (.int 2))))) .nil)
def n31 : List Str := ["statement"]
def p31 : List Str := ["statement"]
def f31 : FnDef := ⟨"_law_cell", 1, 1, false, m31⟩
def m32_2 : MB := (.cons (.ret (.cmp .IsNot (.call 34 (.cons (.var 2) (.cons (.sub (.sub (.sub (.var 0) (.cst (.int 0))) (.var 1)) (.cst (.int 1))) (.cons (.var 3) .nil)))) (.cst .none))) .nil)
def m32_1 : MB := (.cons (.asg (.nm 3) (.ite (.cmp .Eq (.sub (.var 2) (.cst (.int 0))) (.cst (.str "write"))) (.cst .none) (.sub (.sub (.var 0) (.cst (.int 1))) (.call 31 (.cons (.var 2) .nil))))) m32_2)
def m32 : MB := (.cons (.asg (.nm 2) (.call 30 (.cons (.var 0) (.cons (.var 1) .nil)))) m32_1)
def n32 : List Str := ["state", "thread", "one", "read"]
def p32 : List Str := ["state", "thread"]
def f32 : FnDef := ⟨"_law_would_write", 2, 4, false, m32⟩
def t33_0 : ME := (.and (.cmp .NotEq (.var 0) (.tup .nil)) (.cmp .In (.sub (.sub (.var 0) (.cst (.int 0))) (.cst (.int 0))) (.tup (.cons (.cst (.str "set")) (.cons (.cst (.str "need")) (.cons (.cst (.str "if")) .nil))))))
def l33_0_3 : MB := (.cons (.iff (.cmp .Eq (.sub (.var 2) (.cst (.int 0))) (.cst (.str "set"))) (.cons (.asg (.nm 1) (.op2 .add (.op2 .add (.slc (.var 1) .nop (.sub (.var 2) (.cst (.int 1)))) (.tup (.cons (.var 3) .nil))) (.slc (.var 1) (.op2 .add (.sub (.var 2) (.cst (.int 1))) (.cst (.int 1))) .nop))) .nil) .nil) .nil)
def l33_0_2 : MB := (.cons (.asg (.nm 0) (.ite (.cmp .Eq (.sub (.var 2) (.cst (.int 0))) (.cst (.str "if"))) (.op2 .add (.ite (.cmp .NotEq (.var 3) (.cst (.int 0))) (.sub (.var 2) (.cst (.int 2))) (.sub (.var 2) (.cst (.int 3)))) (.slc (.var 0) (.cst (.int 1)) .nop)) (.slc (.var 0) (.cst (.int 1)) .nop))) l33_0_3)
def l33_0_1 : MB := (.cons (.iff (.and (.cmp .Eq (.sub (.var 2) (.cst (.int 0))) (.cst (.str "need"))) (.cmp .Eq (.var 3) (.cst (.int 0)))) (.cons (.ret (.tup (.cons (.cst .none) (.cons (.var 1) .nil)))) .nil) .nil) l33_0_2)
def l33_0 : MB := (.cons (.par (.cons (.nm 2) (.cons (.nm 3) .nil)) (.cons (.sub (.var 0) (.cst (.int 0))) (.cons (.call 49 (.cons (.ite (.cmp .Eq (.sub (.sub (.var 0) (.cst (.int 0))) (.cst (.int 0))) (.cst (.str "set"))) (.sub (.sub (.var 0) (.cst (.int 0))) (.cst (.int 2))) (.sub (.sub (.var 0) (.cst (.int 0))) (.cst (.int 1)))) (.cons (.var 1) .nil))) .nil))) l33_0_1)
def m33_1 : MB := (.cons (.ret (.tup (.cons (.var 0) (.cons (.var 1) .nil)))) .nil)
def m33 : MB := (.cons (.whl t33_0 l33_0) m33_1)
def n33 : List Str := ["rest", "registers", "one", "worth"]
def p33 : List Str := ["rest", "registers"]
def f33 : FnDef := ⟨"_law_settled", 2, 4, false, m33⟩
def m34_4 : MB := (.cons (.ret (.cst .none)) .nil)
def m34_3 : MB := (.cons (.iff (.and (.cmp .Eq (.var 3) (.cst (.str "try"))) (.cmp .Eq (.var 2) (.call 49 (.cons (.sub (.var 0) (.cst (.int 3))) (.cons (.var 1) .nil))))) (.cons (.ret (.call 49 (.cons (.sub (.var 0) (.cst (.int 4))) (.cons (.var 1) .nil)))) .nil) .nil) m34_4)
def m34_2 : MB := (.cons (.iff (.cmp .Eq (.var 3) (.cst (.str "add"))) (.cons (.ret (.op2 .mod (.blt .int (.cons (.op2 .add (.var 2) (.call 49 (.cons (.sub (.var 0) (.cst (.int 3))) (.cons (.var 1) .nil)))) .nil)) (.cst (.int 16)))) .nil) .nil) m34_3)
def m34_1 : MB := (.cons (.iff (.cmp .In (.var 3) (.tup (.cons (.cst (.str "write")) (.cons (.cst (.str "swap")) .nil)))) (.cons (.ret (.call 49 (.cons (.sub (.var 0) (.cst (.int 3))) (.cons (.var 1) .nil)))) .nil) .nil) m34_2)
def m34 : MB := (.cons (.asg (.nm 3) (.sub (.var 0) (.cst (.int 0)))) m34_1)
def n34 : List Str := ["statement", "registers", "read", "word"]
def p34 : List Str := ["statement", "registers", "read"]
def f34 : FnDef := ⟨"_law_written", 3, 4, false, m34⟩
def m35_2 : MB := (.cons (.ret (.call 33 (.cons (.slc (.var 0) (.cst (.int 1)) .nop) (.cons (.var 1) .nil)))) .nil)
def m35_1 : MB := (.cons (.iff (.and (.call 29 (.cons (.var 3) .nil)) (.cmp .NotEq (.sub (.var 3) (.cst (.int 0))) (.cst (.str "write")))) (.cons (.asg (.nm 1) (.op2 .add (.op2 .add (.slc (.var 1) .nop (.sub (.var 3) (.cst (.int 1)))) (.tup (.cons (.var 2) .nil))) (.slc (.var 1) (.op2 .add (.sub (.var 3) (.cst (.int 1))) (.cst (.int 1))) .nop))) .nil) .nil) m35_2)
def m35 : MB := (.cons (.asg (.nm 3) (.sub (.var 0) (.cst (.int 0)))) m35_1)
def n35 : List Str := ["rest", "registers", "read", "one"]
def p35 : List Str := ["rest", "registers", "read"]
def f35 : FnDef := ⟨"_law_behind", 3, 4, false, m35⟩
def m36 : MB := (.cons (.iff (.not (.call 50 (.cons (.var 0) .nil))) (.cons (.rse 0 .nil) .nil) .nil) .nil)
def n36 : List Str := ["value"]
def p36 : List Str := ["value"]
def f36 : FnDef := ⟨"need_program", 1, 1, false, m36⟩
def m37 : MB := (.cons (.iff (.not (.call 23 (.cons (.var 0) (.cons (.var 1) (.cons (.var 2) .nil))))) (.cons (.rse 1 .nil) .nil) .nil) .nil)
def n37 : List Str := ["value", "low", "high"]
def p37 : List Str := ["value", "low", "high"]
def f37 : FnDef := ⟨"need_number", 3, 3, false, m37⟩
def cd38_0 : ME := (.call 41 (.cons (.var 3) .nil))
def ce38_0 : ME := (.tup (.cons (.var 1) (.cons (.var 3) .nil)))
def m38 : MB := (.cons (.ret (.lc2 (.tp (.cons (.nm 1) (.cons (.nm 2) .nil))) [1, 2, 3] (.enm (.var 0)) (.nm 3) [3] (.seq (.call 51 (.cons (.var 2) .nil))) cd38_0 ce38_0)) .nil)
def n38 : List Str := ["program", "at", "block", "one"]
def p38 : List Str := ["program"]
def f38 : FnDef := ⟨"accesses_in", 1, 4, false, m38⟩
def m39 : MB := (.cons (.ret (.ite (.cmp .Eq (.sub (.var 0) (.cst (.int 0))) (.cst (.str "write"))) (.sub (.var 0) (.cst (.int 2))) (.ite (.cmp .Eq (.sub (.var 0) (.cst (.int 0))) (.cst (.str "read"))) (.sub (.var 0) (.cst (.int 3))) (.cst (.str "strong"))))) .nil)
def n39 : List Str := ["statement"]
def p39 : List Str := ["statement"]
def f39 : FnDef := ⟨"mode_of", 1, 1, false, m39⟩
def ce40_0 : ME := (.call 52 (.cons (.var 1) (.cons (.op2 .mul (.tup (.cons (.cst (.int 0)) .nil)) (.gbl "REGISTERS" (.int 3))) .nil)))
def m40 : MB := (.cons (.ret (.blt .tuple (.cons (.lc (.nm 1) [1] (.seq (.call 53 (.cons (.var 0) .nil))) .nop ce40_0) .nil))) .nil)
def n40 : List Str := ["program", "block"]
def p40 : List Str := ["program"]
def f40 : FnDef := ⟨"begun", 1, 2, false, m40⟩
def m41 : MB := (.cons (.ret (.or (.cmp .In (.sub (.var 0) (.cst (.int 0))) (.tup (.cons (.cst (.str "read")) (.cons (.cst (.str "write")) .nil)))) (.cmp .In (.sub (.var 0) (.cst (.int 0))) (.gbl "EXCHANGES" (.tuple [(.str "swap"), (.str "add"), (.str "try")]))))) .nil)
def n41 : List Str := ["statement"]
def p41 : List Str := ["statement"]
def f41 : FnDef := ⟨"is_access", 1, 1, false, m41⟩
def m42 : MB := (.cons (.ret (.ite (.cmp .Eq (.sub (.var 0) (.cst (.int 0))) (.cst (.str "write"))) (.sub (.var 0) (.cst (.int 1))) (.sub (.var 0) (.cst (.int 2))))) .nil)
def n42 : List Str := ["statement"]
def p42 : List Str := ["statement"]
def f42 : FnDef := ⟨"cell_of", 1, 1, false, m42⟩
def m43_5 : MB := (.cons (.ret (.cst .none)) .nil)
def m43_4 : MB := (.cons (.iff (.and (.cmp .Eq (.var 3) (.cst (.str "try"))) (.cmp .Eq (.var 2) (.call 54 (.cons (.sub (.var 0) (.cst (.int 3))) (.cons (.var 1) .nil))))) (.cons (.ret (.call 54 (.cons (.sub (.var 0) (.cst (.int 4))) (.cons (.var 1) .nil)))) .nil) .nil) m43_5)
def m43_3 : MB := (.cons (.iff (.cmp .Eq (.var 3) (.cst (.str "add"))) (.cons (.ret (.op2 .mod (.op2 .add (.var 2) (.call 54 (.cons (.sub (.var 0) (.cst (.int 3))) (.cons (.var 1) .nil)))) (.gbl "VALUES" (.int 16)))) .nil) .nil) m43_4)
def m43_2 : MB := (.cons (.iff (.cmp .Eq (.var 3) (.cst (.str "swap"))) (.cons (.ret (.call 54 (.cons (.sub (.var 0) (.cst (.int 3))) (.cons (.var 1) .nil)))) .nil) .nil) m43_3)
def m43_1 : MB := (.cons (.iff (.cmp .Eq (.var 3) (.cst (.str "write"))) (.cons (.ret (.call 54 (.cons (.sub (.var 0) (.cst (.int 3))) (.cons (.var 1) .nil)))) .nil) .nil) m43_2)
def m43 : MB := (.cons (.asg (.nm 3) (.sub (.var 0) (.cst (.int 0)))) m43_1)
def n43 : List Str := ["statement", "registers", "read", "word"]
def p43 : List Str := ["statement", "registers", "read"]
def f43 : FnDef := ⟨"written_by", 3, 4, false, m43⟩
def m44 : MB := (.cons (.ret (.cmp .NotEq (.sub (.var 0) (.cst (.int 0))) (.cst (.str "write")))) .nil)
def n44 : List Str := ["statement"]
def p44 : List Str := ["statement"]
def f44 : FnDef := ⟨"can_read", 1, 1, false, m44⟩
def m45_2 : MB := (.cons (.ret (.call 52 (.cons (.slc (.var 0) (.cst (.int 1)) .nop) (.cons (.var 1) .nil)))) .nil)
def m45_1 : MB := (.cons (.iff (.and (.call 41 (.cons (.var 3) .nil)) (.call 44 (.cons (.var 3) .nil))) (.cons (.asg (.nm 1) (.call 55 (.cons (.var 1) (.cons (.sub (.var 3) (.cst (.int 1))) (.cons (.var 2) .nil))))) .nil) .nil) m45_2)
def m45 : MB := (.cons (.asg (.nm 3) (.sub (.var 0) (.cst (.int 0)))) m45_1)
def n45 : List Str := ["rest", "registers", "read", "one"]
def p45 : List Str := ["rest", "registers", "read"]
def f45 : FnDef := ⟨"behind", 3, 4, false, m45⟩
def m46_1 : MB := (.cons (.ret (.sub (.sub (.sub (.sub (.var 0) (.cst (.int 0))) (.var 1)) (.cst (.int 0))) (.cst (.int 0)))) .nil)
def m46 : MB := (.cons (.iff (.or (.not (.call 24 (.cons (.var 0) (.cons (.var 1) .nil)))) (.not (.call 41 (.cons (.sub (.sub (.sub (.sub (.var 0) (.cst (.int 0))) (.var 1)) (.cst (.int 0))) (.cst (.int 0))) .nil)))) (.cons (.ret (.cst .none)) .nil) .nil) m46_1)
def n46 : List Str := ["state", "thread"]
def p46 : List Str := ["state", "thread"]
def f46 : FnDef := ⟨"next_access", 2, 2, false, m46⟩
def m47_2 : MB := (.cons (.ret (.cmp .IsNot (.call 43 (.cons (.sub (.var 4) (.cst (.int 0))) (.cons (.var 3) (.cons (.var 2) .nil)))) (.cst .none))) .nil)
def m47_1 : MB := (.cons (.asg (.nm 2) (.ite (.call 44 (.cons (.sub (.var 4) (.cst (.int 0))) .nil)) (.sub (.sub (.var 0) (.cst (.int 1))) (.call 42 (.cons (.sub (.var 4) (.cst (.int 0))) .nil))) (.cst .none))) m47_2)
def m47 : MB := (.cons (.asg (.tp (.cons (.nm 4) (.cons (.nm 3) .nil))) (.sub (.sub (.var 0) (.cst (.int 0))) (.var 1))) m47_1)
def n47 : List Str := ["state", "thread", "read", "registers", "rest"]
def p47 : List Str := ["state", "thread"]
def f47 : FnDef := ⟨"would_write", 2, 5, false, m47⟩
def m48 : MB := (.cons (.ret (.ite (.cmp .Eq (.sub (.var 0) (.cst (.int 0))) (.cst (.str "write"))) (.sub (.var 0) (.cst (.int 2))) (.ite (.cmp .Eq (.sub (.var 0) (.cst (.int 0))) (.cst (.str "read"))) (.sub (.var 0) (.cst (.int 3))) (.cst (.str "strong"))))) .nil)
def n48 : List Str := ["statement"]
def p48 : List Str := ["statement"]
def f48 : FnDef := ⟨"_law_mode", 1, 1, false, m48⟩
def m49_4 : MB := (.cons (.ret (.op2 .mod (.blt .int (.cons (.ite (.cmp .Eq (.var 4) (.cst (.str "plus"))) (.op2 .add (.var 2) (.var 3)) (.ite (.cmp .Eq (.var 4) (.cst (.str "minus"))) (.op2 .sub (.var 2) (.var 3)) (.op2 .mul (.var 2) (.var 3)))) .nil)) (.cst (.int 16)))) .nil)
def m49_3 : MB := (.cons (.iff (.cmp .In (.var 4) (.tup (.cons (.cst (.str "same")) (.cons (.cst (.str "less")) .nil)))) (.cons (.ret (.blt .int (.cons (.ite (.cmp .Eq (.var 4) (.cst (.str "same"))) (.cmp .Eq (.var 2) (.var 3)) (.cmp .Lt (.var 2) (.var 3))) .nil))) .nil) .nil) m49_4)
def m49_2 : MB := (.cons (.par (.cons (.nm 2) (.cons (.nm 3) .nil)) (.cons (.call 49 (.cons (.sub (.var 0) (.cst (.int 1))) (.cons (.var 1) .nil))) (.cons (.call 49 (.cons (.sub (.var 0) (.cst (.int 2))) (.cons (.var 1) .nil))) .nil))) m49_3)
def m49_1 : MB := (.cons (.iff (.or (.cmp .Eq (.var 4) (.cst (.str "num"))) (.cmp .Eq (.var 4) (.cst (.str "reg")))) (.cons (.ret (.ite (.cmp .Eq (.var 4) (.cst (.str "num"))) (.sub (.var 0) (.cst (.int 1))) (.sub (.var 1) (.sub (.var 0) (.cst (.int 1)))))) .nil) .nil) m49_2)
def m49 : MB := (.cons (.asg (.nm 4) (.sub (.var 0) (.cst (.int 0)))) m49_1)
def n49 : List Str := ["expression", "registers", "one", "other", "word"]
def p49 : List Str := ["expression", "registers"]
def f49 : FnDef := ⟨"_law_worth", 2, 5, false, m49⟩
def ce50_0 : ME := (.call 56 (.cons (.var 3) .nil))
def ce50_1 : ME := (.var 3)
def cd50_2 : ME := (.call 41 (.cons (.var 3) .nil))
def ce50_2 : ME := (.var 3)
def cd50_3 : ME := (.cmp .Eq (.sub (.var 3) (.cst (.int 0))) (.cst (.str "fence")))
def ce50_3 : ME := (.var 3)
def m50_3 : MB := (.cons (.ret (.cmp .LtE (.blt .len (.cons (.lc (.nm 3) [3] (.seq (.var 2)) cd50_3 ce50_3) .nil)) (.gbl "FENCES" (.int 8)))) .nil)
def m50_2 : MB := (.cons (.iff (.cmp .Gt (.blt .len (.cons (.lc (.nm 3) [3] (.seq (.var 2)) cd50_2 ce50_2) .nil)) (.gbl "ACCESSES" (.int 8))) (.cons (.ret (.cst (.bool false))) .nil) .nil) m50_3)
def m50_1 : MB := (.cons (.asg (.nm 2) (.lc2 (.nm 1) [1, 3] (.seq (.var 0)) (.nm 3) [3] (.seq (.call 51 (.cons (.var 1) .nil))) .nop ce50_1)) m50_2)
def m50 : MB := (.cons (.iff (.or (.not (.call 22 (.cons (.var 0) (.cons (.cst (.int 1)) (.cons (.gbl "THREADS" (.int 4)) .nil))))) (.not (.blt .all (.cons (.lc (.nm 3) [3] (.seq (.var 0)) .nop ce50_0) .nil)))) (.cons (.ret (.cst (.bool false))) .nil) .nil) m50_1)
def n50 : List Str := ["value", "block", "every", "one"]
def p50 : List Str := ["value"]
def f50 : FnDef := ⟨"fits_program", 1, 4, false, m50⟩
def t51_0 : ME := (.cmp .NotEq (.var 3) (.lst .nil))
def ce51_0 : ME := (.var 2)
def l51_0_2 : MB := (.cons (.asg (.nm 3) (.op2 .add (.lc2 (.nm 5) [5, 2] (.seq (.call 57 (.cons (.var 4) .nil))) (.nm 2) [2] (.seq (.var 5)) .nop ce51_0) (.var 3))) .nil)
def l51_0_1 : MB := (.cons (.exp (.app 1 (.var 4))) l51_0_2)
def l51_0 : MB := (.cons (.asg (.nm 4) (.popAt 3 (.cst (.int 0)))) l51_0_1)
def m51_2 : MB := (.cons (.ret (.var 1)) .nil)
def m51_1 : MB := (.cons (.whl t51_0 l51_0) m51_2)
def m51 : MB := (.cons (.par (.cons (.nm 1) (.cons (.nm 3) .nil)) (.cons (.lst .nil) (.cons (.blt .list (.cons (.var 0) .nil)) .nil))) m51_1)
def n51 : List Str := ["block", "found", "inner", "line", "one", "part"]
def p51 : List Str := ["block"]
def f51 : FnDef := ⟨"all_statements", 1, 6, false, m51⟩
def t52_0 : ME := (.and (.cmp .NotEq (.var 0) (.tup .nil)) (.cmp .In (.sub (.sub (.var 0) (.cst (.int 0))) (.cst (.int 0))) (.tup (.cons (.cst (.str "set")) (.cons (.cst (.str "need")) (.cons (.cst (.str "if")) .nil))))))
def l52_0_1 : MB := (.cons (.iff (.cmp .Eq (.sub (.var 2) (.cst (.int 0))) (.cst (.str "set"))) (.cons (.par (.cons (.nm 0) (.cons (.nm 1) .nil)) (.cons (.slc (.var 0) (.cst (.int 1)) .nop) (.cons (.call 55 (.cons (.var 1) (.cons (.sub (.var 2) (.cst (.int 1))) (.cons (.call 54 (.cons (.sub (.var 2) (.cst (.int 2))) (.cons (.var 1) .nil))) .nil)))) .nil))) .nil) (.cons (.iff (.cmp .Eq (.sub (.var 2) (.cst (.int 0))) (.cst (.str "need"))) (.cons (.iff (.cmp .Eq (.call 54 (.cons (.sub (.var 2) (.cst (.int 1))) (.cons (.var 1) .nil))) (.cst (.int 0))) (.cons (.ret (.tup (.cons (.cst .none) (.cons (.var 1) .nil)))) .nil) .nil) (.cons (.asg (.nm 0) (.slc (.var 0) (.cst (.int 1)) .nop)) .nil)) (.cons (.asg (.nm 0) (.op2 .add (.ite (.cmp .NotEq (.call 54 (.cons (.sub (.var 2) (.cst (.int 1))) (.cons (.var 1) .nil))) (.cst (.int 0))) (.sub (.var 2) (.cst (.int 2))) (.sub (.var 2) (.cst (.int 3)))) (.slc (.var 0) (.cst (.int 1)) .nop))) .nil)) .nil)) .nil)
def l52_0 : MB := (.cons (.asg (.nm 2) (.sub (.var 0) (.cst (.int 0)))) l52_0_1)
def m52_1 : MB := (.cons (.ret (.tup (.cons (.var 0) (.cons (.var 1) .nil)))) .nil)
def m52 : MB := (.cons (.whl t52_0 l52_0) m52_1)
def n52 : List Str := ["rest", "registers", "one"]
def p52 : List Str := ["rest", "registers"]
def f52 : FnDef := ⟨"settled", 2, 3, false, m52⟩
def l53_0_1 : MB := (.cons (.exp (.app 3 (.var 4))) .nil)
def l53_0 : MB := (.cons (.asg (.tp (.cons (.nm 4) (.cons (.nm 2) .nil))) (.call 58 (.cons (.var 1) (.cons (.var 2) .nil)))) l53_0_1)
def m53_2 : MB := (.cons (.ret (.blt .tuple (.cons (.var 3) .nil))) .nil)
def m53_1 : MB := (.cons (.for_ (.nm 1) (.seq (.var 0)) l53_0) m53_2)
def m53 : MB := (.cons (.par (.cons (.nm 3) (.cons (.nm 2) .nil)) (.cons (.lst .nil) (.cons (.cst (.int 0)) .nil))) m53_1)
def n53 : List Str := ["program", "block", "first", "found", "own"]
def p53 : List Str := ["program"]
def f53 : FnDef := ⟨"numbered_threads", 1, 5, false, m53⟩
def m54_6 : MB := (.cons (.ret (.op2 .mod (.ite (.cmp .Eq (.var 4) (.cst (.str "plus"))) (.op2 .add (.var 2) (.var 3)) (.ite (.cmp .Eq (.var 4) (.cst (.str "minus"))) (.op2 .sub (.var 2) (.var 3)) (.op2 .mul (.var 2) (.var 3)))) (.gbl "VALUES" (.int 16)))) .nil)
def m54_5 : MB := (.cons (.iff (.cmp .Eq (.var 4) (.cst (.str "less"))) (.cons (.ret (.ite (.cmp .Lt (.var 2) (.var 3)) (.cst (.int 1)) (.cst (.int 0)))) .nil) .nil) m54_6)
def m54_4 : MB := (.cons (.iff (.cmp .Eq (.var 4) (.cst (.str "same"))) (.cons (.ret (.ite (.cmp .Eq (.var 2) (.var 3)) (.cst (.int 1)) (.cst (.int 0)))) .nil) .nil) m54_5)
def m54_3 : MB := (.cons (.par (.cons (.nm 2) (.cons (.nm 3) .nil)) (.cons (.call 54 (.cons (.sub (.var 0) (.cst (.int 1))) (.cons (.var 1) .nil))) (.cons (.call 54 (.cons (.sub (.var 0) (.cst (.int 2))) (.cons (.var 1) .nil))) .nil))) m54_4)
def m54_2 : MB := (.cons (.iff (.cmp .Eq (.var 4) (.cst (.str "reg"))) (.cons (.ret (.sub (.var 1) (.sub (.var 0) (.cst (.int 1))))) .nil) .nil) m54_3)
def m54_1 : MB := (.cons (.iff (.cmp .Eq (.var 4) (.cst (.str "num"))) (.cons (.ret (.sub (.var 0) (.cst (.int 1)))) .nil) .nil) m54_2)
def m54 : MB := (.cons (.asg (.nm 4) (.sub (.var 0) (.cst (.int 0)))) m54_1)
def n54 : List Str := ["expression", "registers", "one", "other", "word"]
def p54 : List Str := ["expression", "registers"]
def f54 : FnDef := ⟨"worth_by", 2, 5, false, m54⟩
def m55 : MB := (.cons (.ret (.op2 .add (.op2 .add (.slc (.var 0) .nop (.var 1)) (.tup (.cons (.var 2) .nil))) (.slc (.var 0) (.op2 .add (.var 1) (.cst (.int 1))) .nop))) .nil)
def n55 : List Str := ["registers", "at", "value"]
def p55 : List Str := ["registers", "at", "value"]
def f55 : FnDef := ⟨"with_register", 3, 3, false, m55⟩
def ce56_0 : ME := (.tup (.cons (.var 5) (.cons (.cst (.int 0)) .nil)))
def t56_0 : ME := (.cmp .NotEq (.var 3) (.lst .nil))
def ce56_1 : ME := (.tup (.cons (.var 2) (.cons (.op2 .add (.var 1) (.cst (.int 1))) .nil)))
def l56_0_5 : MB := (.cons (.aug 3 .add (.lc2 (.nm 6) [6, 2] (.seq (.call 57 (.cons (.var 5) .nil))) (.nm 2) [2] (.seq (.var 6)) .nop ce56_1)) .nil)
def l56_0_4 : MB := (.cons (.iff (.and (.cmp .Eq (.sub (.var 5) (.cst (.int 0))) (.cst (.str "if"))) (.cmp .Eq (.var 1) (.gbl "IFS" (.int 2)))) (.cons (.ret (.cst (.bool false))) .nil) .nil) l56_0_5)
def l56_0_3 : MB := (.cons (.iff (.not (.ite (.call 41 (.cons (.var 5) .nil)) (.call 59 (.cons (.var 5) .nil)) (.call 60 (.cons (.var 5) .nil)))) (.cons (.ret (.cst (.bool false))) .nil) .nil) l56_0_4)
def l56_0_2 : MB := (.cons (.iff (.or (.cmp .Gt (.var 4) (.gbl "STATEMENTS" (.int 12))) (.or (.not (.call 22 (.cons (.var 5) (.cons (.cst (.int 1)) (.cons (.cst (.int 5)) .nil))))) (.not (.isi (.sub (.var 5) (.cst (.int 0))) .str)))) (.cons (.ret (.cst (.bool false))) .nil) .nil) l56_0_3)
def l56_0_1 : MB := (.cons (.asg (.nm 4) (.op2 .add (.var 4) (.cst (.int 1)))) l56_0_2)
def l56_0 : MB := (.cons (.asg (.tp (.cons (.nm 5) (.cons (.nm 1) .nil))) (.pop 3)) l56_0_1)
def m56_3 : MB := (.cons (.ret (.cst (.bool true))) .nil)
def m56_2 : MB := (.cons (.whl t56_0 l56_0) m56_3)
def m56_1 : MB := (.cons (.par (.cons (.nm 3) (.cons (.nm 4) .nil)) (.cons (.lc (.nm 5) [5] (.seq (.var 0)) .nop ce56_0) (.cons (.cst (.int 0)) .nil))) m56_2)
def m56 : MB := (.cons (.iff (.not (.call 22 (.cons (.var 0) (.cons (.cst (.int 0)) (.cons (.gbl "STATEMENTS" (.int 12)) .nil))))) (.cons (.ret (.cst (.bool false))) .nil) .nil) m56_1)
def n56 : List Str := ["value", "deep", "inner", "line", "many", "one", "part"]
def p56 : List Str := ["value"]
def f56 : FnDef := ⟨"fits_block", 1, 7, false, m56⟩
def m57 : MB := (.cons (.ret (.ite (.cmp .Eq (.sub (.var 0) (.cst (.int 0))) (.cst (.str "if"))) (.lst (.cons (.sub (.var 0) (.cst (.int 2))) (.cons (.sub (.var 0) (.cst (.int 3))) .nil))) (.lst .nil))) .nil)
def n57 : List Str := ["statement"]
def p57 : List Str := ["statement"]
def f57 : FnDef := ⟨"blocks_of", 1, 1, false, m57⟩
def l58_0 : MB := (.cons (.iff (.call 41 (.cons (.var 4) .nil)) (.cons (.exp (.app 2 (.op2 .add (.var 4) (.tup (.cons (.var 1) .nil))))) (.cons (.asg (.nm 1) (.op2 .add (.var 1) (.cst (.int 1)))) .nil)) (.cons (.iff (.cmp .Eq (.sub (.var 4) (.cst (.int 0))) (.cst (.str "if"))) (.cons (.asg (.tp (.cons (.nm 5) (.cons (.nm 1) .nil))) (.call 58 (.cons (.sub (.var 4) (.cst (.int 2))) (.cons (.var 1) .nil)))) (.cons (.asg (.tp (.cons (.nm 3) (.cons (.nm 1) .nil))) (.call 58 (.cons (.sub (.var 4) (.cst (.int 3))) (.cons (.var 1) .nil)))) (.cons (.exp (.app 2 (.tup (.cons (.cst (.str "if")) (.cons (.sub (.var 4) (.cst (.int 1))) (.cons (.var 5) (.cons (.var 3) .nil))))))) .nil))) (.cons (.exp (.app 2 (.var 4))) .nil)) .nil)) .nil)
def m58_2 : MB := (.cons (.ret (.tup (.cons (.blt .tuple (.cons (.var 2) .nil)) (.cons (.var 1) .nil)))) .nil)
def m58_1 : MB := (.cons (.for_ (.nm 4) (.seq (.var 0)) l58_0) m58_2)
def m58 : MB := (.cons (.asg (.nm 2) (.lst .nil)) m58_1)
def n58 : List Str := ["block", "first", "found", "no", "one", "yes"]
def p58 : List Str := ["block", "first"]
def f58 : FnDef := ⟨"numbered_block", 2, 6, false, m58⟩
def ce59_0 : ME := (.call 63 (.cons (.var 2) .nil))
def m59_5 : MB := (.cons (.ret (.blt .all (.cons (.lc (.nm 2) [2] (.seq (.slc (.var 0) (.cst (.int 3)) .nop)) .nop ce59_0) .nil))) .nil)
def m59_4 : MB := (.cons (.iff (.cmp .NotEq (.var 1) (.ite (.cmp .Eq (.var 3) (.cst (.str "try"))) (.cst (.int 5)) (.cst (.int 4)))) (.cons (.ret (.cst (.bool false))) .nil) .nil) m59_5)
def m59_3 : MB := (.cons (.iff (.cmp .Eq (.var 3) (.cst (.str "read"))) (.cons (.ret (.and (.cmp .Eq (.var 1) (.cst (.int 4))) (.call 62 (.cons (.sub (.var 0) (.cst (.int 3))) (.cons (.gbl "READING" (.tuple [(.str "plain"), (.str "acquire"), (.str "strong")])) .nil))))) .nil) .nil) m59_4)
def m59_2 : MB := (.cons (.iff (.or (.cmp .Lt (.var 1) (.cst (.int 4))) (.or (.not (.call 64 (.cons (.sub (.var 0) (.cst (.int 1))) .nil))) (.not (.call 61 (.cons (.sub (.var 0) (.cst (.int 2))) .nil))))) (.cons (.ret (.cst (.bool false))) .nil) .nil) m59_3)
def m59_1 : MB := (.cons (.iff (.cmp .Eq (.var 3) (.cst (.str "write"))) (.cons (.ret (.and (.cmp .Eq (.var 1) (.cst (.int 4))) (.and (.call 61 (.cons (.sub (.var 0) (.cst (.int 1))) .nil)) (.and (.call 62 (.cons (.sub (.var 0) (.cst (.int 2))) (.cons (.gbl "WRITING" (.tuple [(.str "plain"), (.str "release"), (.str "strong")])) .nil))) (.call 63 (.cons (.sub (.var 0) (.cst (.int 3))) .nil)))))) .nil) .nil) m59_2)
def m59 : MB := (.cons (.par (.cons (.nm 3) (.cons (.nm 1) .nil)) (.cons (.sub (.var 0) (.cst (.int 0))) (.cons (.blt .len (.cons (.var 0) .nil)) .nil))) m59_1)
def n59 : List Str := ["value", "many", "one", "word"]
def p59 : List Str := ["value"]
def f59 : FnDef := ⟨"fits_access", 1, 4, false, m59⟩
def m60_5 : MB := (.cons (.ret (.and (.call 22 (.cons (.sub (.var 0) (.cst (.int 2))) (.cons (.cst (.int 0)) (.cons (.gbl "STATEMENTS" (.int 12)) .nil)))) (.call 22 (.cons (.sub (.var 0) (.cst (.int 3))) (.cons (.cst (.int 0)) (.cons (.gbl "STATEMENTS" (.int 12)) .nil)))))) .nil)
def m60_4 : MB := (.cons (.iff (.or (.cmp .NotEq (.var 2) (.cst (.str "if"))) (.or (.cmp .NotEq (.var 1) (.cst (.int 4))) (.not (.call 63 (.cons (.sub (.var 0) (.cst (.int 1))) .nil))))) (.cons (.ret (.cst (.bool false))) .nil) .nil) m60_5)
def m60_3 : MB := (.cons (.iff (.cmp .Eq (.var 2) (.cst (.str "set"))) (.cons (.ret (.and (.cmp .Eq (.var 1) (.cst (.int 3))) (.and (.call 64 (.cons (.sub (.var 0) (.cst (.int 1))) .nil)) (.call 63 (.cons (.sub (.var 0) (.cst (.int 2))) .nil))))) .nil) .nil) m60_4)
def m60_2 : MB := (.cons (.iff (.cmp .Eq (.var 2) (.cst (.str "need"))) (.cons (.ret (.and (.cmp .Eq (.var 1) (.cst (.int 2))) (.call 63 (.cons (.sub (.var 0) (.cst (.int 1))) .nil)))) .nil) .nil) m60_3)
def m60_1 : MB := (.cons (.iff (.cmp .Eq (.var 2) (.cst (.str "fence"))) (.cons (.ret (.cmp .Eq (.var 1) (.cst (.int 1)))) .nil) .nil) m60_2)
def m60 : MB := (.cons (.par (.cons (.nm 2) (.cons (.nm 1) .nil)) (.cons (.sub (.var 0) (.cst (.int 0))) (.cons (.blt .len (.cons (.var 0) .nil)) .nil))) m60_1)
def n60 : List Str := ["value", "many", "word"]
def p60 : List Str := ["value"]
def f60 : FnDef := ⟨"fits_inner", 1, 3, false, m60⟩
def m61 : MB := (.cons (.ret (.call 23 (.cons (.var 0) (.cons (.cst (.int 0)) (.cons (.op2 .sub (.gbl "CELLS" (.int 4)) (.cst (.int 1))) .nil))))) .nil)
def n61 : List Str := ["value"]
def p61 : List Str := ["value"]
def f61 : FnDef := ⟨"is_cell", 1, 1, false, m61⟩
def m62 : MB := (.cons (.ret (.and (.isi (.var 0) .str) (.cmp .In (.var 0) (.var 1)))) .nil)
def n62 : List Str := ["value", "words"]
def p62 : List Str := ["value", "words"]
def f62 : FnDef := ⟨"is_word_of", 2, 2, false, m62⟩
def t63_0 : ME := (.cmp .NotEq (.var 2) (.lst .nil))
def l63_0_2 : MB := (.cons (.iff (.cmp .Eq (.blt .len (.cons (.var 4) .nil)) (.cst (.int 2))) (.cons (.asg (.nm 3) (.ite (.cmp .Eq (.sub (.var 4) (.cst (.int 0))) (.cst (.str "num"))) (.gbl "VALUES" (.int 16)) (.gbl "REGISTERS" (.int 3)))) (.cons (.iff (.or (.cmp .NotIn (.sub (.var 4) (.cst (.int 0))) (.tup (.cons (.cst (.str "num")) (.cons (.cst (.str "reg")) .nil)))) (.not (.call 23 (.cons (.sub (.var 4) (.cst (.int 1))) (.cons (.cst (.int 0)) (.cons (.op2 .sub (.var 3) (.cst (.int 1))) .nil)))))) (.cons (.ret (.cst (.bool false))) .nil) .nil) .nil)) (.cons (.iff (.cmp .In (.sub (.var 4) (.cst (.int 0))) (.gbl "WORKED" (.tuple [(.str "plus"), (.str "minus"), (.str "times"), (.str "same"), (.str "less")]))) (.cons (.aug 2 .add (.lst (.cons (.tup (.cons (.sub (.var 4) (.cst (.int 1))) (.cons (.op2 .add (.var 1) (.cst (.int 1))) .nil))) (.cons (.tup (.cons (.sub (.var 4) (.cst (.int 2))) (.cons (.op2 .add (.var 1) (.cst (.int 1))) .nil))) .nil)))) .nil) (.cons (.ret (.cst (.bool false))) .nil)) .nil)) .nil)
def l63_0_1 : MB := (.cons (.iff (.or (.cmp .Gt (.var 1) (.gbl "DEEP" (.int 4))) (.or (.not (.call 22 (.cons (.var 4) (.cons (.cst (.int 2)) (.cons (.cst (.int 3)) .nil))))) (.not (.isi (.sub (.var 4) (.cst (.int 0))) .str)))) (.cons (.ret (.cst (.bool false))) .nil) .nil) l63_0_2)
def l63_0 : MB := (.cons (.asg (.tp (.cons (.nm 4) (.cons (.nm 1) .nil))) (.pop 2)) l63_0_1)
def m63_2 : MB := (.cons (.ret (.cst (.bool true))) .nil)
def m63_1 : MB := (.cons (.whl t63_0 l63_0) m63_2)
def m63 : MB := (.cons (.asg (.nm 2) (.lst (.cons (.tup (.cons (.var 0) (.cons (.cst (.int 1)) .nil))) .nil))) m63_1)
def n63 : List Str := ["value", "deep", "line", "most", "one"]
def p63 : List Str := ["value"]
def f63 : FnDef := ⟨"fits_expression", 1, 5, false, m63⟩
def m64 : MB := (.cons (.ret (.call 23 (.cons (.var 0) (.cons (.cst (.int 0)) (.cons (.op2 .sub (.gbl "REGISTERS" (.int 3)) (.cst (.int 1))) .nil))))) .nil)
def n64 : List Str := ["value"]
def p64 : List Str := ["value"]
def f64 : FnDef := ⟨"is_register", 1, 1, false, m64⟩
def a65_0 : MA := (.cons (.var 9) (.cons (.var 9) (.cons (.var 9) (.cons (.blt .list (.cons (.var 9) .nil)) (.cons (.op2 .add (.var 9) (.tup (.cons (.blt .len (.cons (.var 8) .nil)) .nil))) (.cons (.op2 .add (.var 9) (.tup (.cons (.neg (.cst (.int 1))) .nil))) (.cons (.op2 .add (.tup (.cons (.cst (.bool true)) .nil)) (.var 9)) (.cons (.op2 .add (.var 9) (.tup (.cons (.cst (.int 0)) .nil))) (.cons (.op2 .mul (.tup (.cons (.cst (.int 0)) .nil)) (.cst (.int 101))) (.cons (.cst .none) (.cons (.slc (.var 9) .nop (.neg (.cst (.int 1)))) .nil)))))))))))
def l65_0_4 : MB := (.cons (.iff (.cmp .NotEq (.blt .repr (.cons (.call 8 (.cons (.var 8) (.cons (.sub (.var 5) (.op2 .mod (.var 10) (.cst (.int 2)))) (.cons (.sub (.var 5) (.op2 .sub (.cst (.int 1)) (.op2 .mod (.var 10) (.cst (.int 2))))) (.cons (.var 11) .nil))))) .nil)) (.blt .repr (.cons (.call 9 (.cons (.var 8) (.cons (.sub (.var 5) (.cst (.int 0))) (.cons (.sub (.var 5) (.cst (.int 1))) (.cons (.var 11) .nil))))) .nil))) (.cons (.ret (.cst (.bool false))) .nil) .nil) .nil)
def l65_0_3 : MB := (.cons (.asg (.nm 11) (.call 5 (.cons (.var 2) (.cons (.var 4) .nil)))) l65_0_4)
def l65_0_2 : MB := (.cons (.asg (.nm 4) (.lst a65_0)) l65_0_3)
def l65_0_1 : MB := (.cons (.asg (.nm 5) (.ite (.and (.cmp .NotEq (.var 6) (.lst .nil)) (.cmp .Gt (.call 6 (.cons (.var 2) (.cons (.cst (.int 4)) .nil))) (.cst (.int 0)))) (.call 5 (.cons (.var 2) (.cons (.var 6) .nil))) (.tup (.cons (.call 6 (.cons (.var 2) (.cons (.var 3) .nil))) (.cons (.call 6 (.cons (.var 2) (.cons (.var 3) .nil))) .nil))))) l65_0_2)
def l65_0 : MB := (.cons (.asg (.tp (.cons (.nm 9) (.cons (.nm 6) .nil))) (.call 4 (.cons (.var 2) (.cons (.var 8) .nil)))) l65_0_1)
def m65_6 : MB := (.cons (.ret (.and (.cmp .Is (.call 7 (.cons (.op2 .mul (.tup (.cons (.var 7) .nil)) (.cst (.int 4))) (.cons (.cst (.int 0)) (.cons (.cst (.int 2)) .nil)))) (.cst (.bool false))) (.cmp .Is (.call 7 (.cons (.op2 .add (.op2 .mul (.tup (.cons (.var 7) .nil)) (.cst (.int 3))) (.tup (.cons (.tup (.cons (.tup (.cons (.cst (.str "write")) (.cons (.cst (.int 0)) (.cons (.cst (.str "plain")) (.cons (.tup (.cons (.cst (.str "num")) (.cons (.cst (.int 1)) .nil))) .nil))))) .nil)) .nil))) (.cons (.cst (.int 0)) (.cons (.cst (.int 6)) .nil)))) (.cst (.bool true))))) .nil)
def m65_5 : MB := (.cons (.iff (.or (.cmp .NotEq (.call 7 (.cons (.var 8) (.cons (.var 1) (.cons (.cst (.int 0)) .nil)))) (.cst (.str "number"))) (.or (.cmp .NotEq (.call 7 (.cons (.var 8) (.cons (.cst (.int 0)) (.cons (.var 1) .nil)))) (.cst (.str "number"))) (.cmp .NotEq (.call 7 (.cons (.blt .list (.cons (.var 8) .nil)) (.cons (.var 1) (.cons (.cst (.int 0)) .nil)))) (.cst (.str "program"))))) (.cons (.ret (.cst (.bool false))) .nil) .nil) m65_6)
def m65_4 : MB := (.cons (.par (.cons (.nm 1) (.cons (.nm 7) .nil)) (.cons (.call 5 (.cons (.var 2) (.cons (.lst (.cons (.neg (.cst (.int 1))) (.cons (.var 3) (.cons (.cst (.bool true)) (.cons (.cst .none) (.cons (.cst (.str "0")) .nil)))))) .nil))) (.cons (.tup (.cons (.tup (.cons (.cst (.str "add")) (.cons (.cst (.int 0)) (.cons (.cst (.int 0)) (.cons (.tup (.cons (.cst (.str "num")) (.cons (.cst (.int 1)) .nil))) .nil))))) (.cons (.tup (.cons (.cst (.str "add")) (.cons (.cst (.int 1)) (.cons (.cst (.int 0)) (.cons (.tup (.cons (.cst (.str "num")) (.cons (.cst (.int 1)) .nil))) .nil))))) .nil))) .nil))) m65_5)
def m65_3 : MB := (.cons (.for_ (.nm 10) (.rng1 (.cst (.int 8))) l65_0) m65_4)
def m65_2 : MB := (.cons (.asg (.nm 3) (.blt .len (.cons (.call 3 (.cons (.var 8) .nil)) .nil))) m65_3)
def m65_1 : MB := (.cons (.asg (.nm 8) (.ite (.cmp .Eq (.call 6 (.cons (.var 2) (.cons (.cst (.int 6)) .nil))) (.cst (.int 0))) (.call 1 (.cons (.var 2) .nil)) (.call 2 (.cons (.var 2) (.cons (.op2 .add (.cst (.int 2)) (.call 6 (.cons (.var 2) (.cons (.cst (.int 4)) .nil)))) .nil))))) m65_2)
def m65 : MB := (.cons (.asg (.nm 2) (.call 0 (.cons (.var 0) .nil))) m65_1)
def n65 : List Str := ["script", "bad", "cup", "many", "other", "pair", "pairs", "plain", "program", "row", "turn", "value"]
def p65 : List Str := ["script"]
def f65 : FnDef := ⟨"law", 1, 12, false, m65⟩
def tab : List FnDef := [f0, f1, f2, f3, f4, f5, f6, f7, f8, f9, f10, f11, f12, f13, f14, f15, f16, f17, f18, f19, f20, f21, f22, f23, f24, f25, f26, f27, f28, f29, f30, f31, f32, f33, f34, f35, f36, f37, f38, f39, f40, f41, f42, f43, f44, f45, f46, f47, f48, f49, f50, f51, f52, f53, f54, f55, f56, f57, f58, f59, f60, f61, f62, f63, f64, f65]
def T : Tab := fun i => tab[i]?
def ask : Ask where
  free := ["abs", "all", "bool", "enumerate", "int", "isinstance", "len", "list", "max", "min", "range", "repr", "str", "tuple"]
  cst := [("ACCESSES", (.int 8)), ("CELLS", (.int 4)), ("DEEP", (.int 4)), ("EXCHANGES", (.tuple [(.str "swap"), (.str "add"), (.str "try")])), ("FENCES", (.int 8)), ("IFS", (.int 2)), ("READING", (.tuple [(.str "plain"), (.str "acquire"), (.str "strong")])), ("REGISTERS", (.int 3)), ("STATEMENTS", (.int 12)), ("STEPS", (.int 100)), ("THREADS", (.int 4)), ("VALUES", (.int 16)), ("WORKED", (.tuple [(.str "plus"), (.str "minus"), (.str "times"), (.str "same"), (.str "less")])), ("WRITING", (.tuple [(.str "plain"), (.str "release"), (.str "strong")]))]
  exc := ["InvalidProgram", "InvalidNumber"]
  isx := [("ModelError", [0, 1]), ("InvalidNumber", [1]), ("InvalidProgram", [0])]
def d0 : He.DefD := ⟨("_law_cup", none), "_law_cup", "_law_cup", defArgs (top 59), defBody (top 59), defScope (top 59), [], []⟩
def d1 : He.DefD := ⟨("_law_told_program", none), "_law_told_program", "_law_told_program", defArgs (top 83), defBody (top 83), defScope (top 83), [], []⟩
def d2 : He.DefD := ⟨("_law_program", none), "_law_program", "_law_program", defArgs (top 79), defBody (top 79), defScope (top 79), [], []⟩
def d3 : He.DefD := ⟨("_law_all", none), "_law_all", "_law_all", defArgs (top 67), defBody (top 67), defScope (top 67), [], []⟩
def d4 : He.DefD := ⟨("_law_walk", none), "_law_walk", "_law_walk", defArgs (top 85), defBody (top 85), defScope (top 85), [], []⟩
def d5 : He.DefD := ⟨("_law_some", none), "_law_some", "_law_some", defArgs (top 61), defBody (top 61), defScope (top 61), [], []⟩
def d6 : He.DefD := ⟨("_law_roll", none), "_law_roll", "_law_roll", defArgs (top 60), defBody (top 60), defScope (top 60), [], []⟩
def d7 : He.DefD := ⟨("_law_word", none), "_law_word", "_law_word", defArgs (top 87), defBody (top 87), defScope (top 87), [], []⟩
def d8 : He.DefD := ⟨("is_race_run", none), "is_race_run", "is_race_run", defArgs (top 57), defBody (top 57), defScope (top 57), [], []⟩
def d9 : He.DefD := ⟨("_law_is_right", none), "_law_is_right", "_law_is_right", defArgs (top 86), defBody (top 86), defScope (top 86), [], []⟩
def d10 : He.DefD := ⟨("_law_thread", none), "_law_thread", "_law_thread", defArgs (top 78), defBody (top 78), defScope (top 78), [], []⟩
def d11 : He.DefD := ⟨("_law_threads", none), "_law_threads", "_law_threads", defArgs (top 65), defBody (top 65), defScope (top 65), [], []⟩
def d12 : He.DefD := ⟨("_law_accesses", none), "_law_accesses", "_law_accesses", defArgs (top 66), defBody (top 66), defScope (top 66), [], []⟩
def d13 : He.DefD := ⟨("_law_meets", none), "_law_meets", "_law_meets", defArgs (top 82), defBody (top 82), defScope (top 82), [], []⟩
def d14 : He.DefD := ⟨("_law_begun", none), "_law_begun", "_law_begun", defArgs (top 73), defBody (top 73), defScope (top 73), [], []⟩
def d15 : He.DefD := ⟨("_law_stepped", none), "_law_stepped", "_law_stepped", defArgs (top 75), defBody (top 75), defScope (top 75), [], []⟩
def d16 : He.DefD := ⟨("_law_next", none), "_law_next", "_law_next", defArgs (top 74), defBody (top 74), defScope (top 74), [], []⟩
def d17 : He.DefD := ⟨("need_pair", none), "need_pair", "need_pair", defArgs (top 56), defBody (top 56), defScope (top 56), [], []⟩
def d18 : He.DefD := ⟨("strong_numbers", none), "strong_numbers", "strong_numbers", defArgs (top 55), defBody (top 55), defScope (top 55), [], []⟩
def d19 : He.DefD := ⟨("first_state", none), "first_state", "first_state", defArgs (top 48), defBody (top 48), defScope (top 48), [], []⟩
def d20 : He.DefD := ⟨("stepped", none), "stepped", "stepped", defArgs (top 50), defBody (top 50), defScope (top 50), [], []⟩
def d21 : He.DefD := ⟨("pairs_in", none), "pairs_in", "pairs_in", defArgs (top 54), defBody (top 54), defScope (top 54), [], []⟩
def d22 : He.DefD := ⟨("is_tuple_of", none), "is_tuple_of", "is_tuple_of", defArgs (top 19), defBody (top 19), defScope (top 19), [], []⟩
def d23 : He.DefD := ⟨("is_whole", none), "is_whole", "is_whole", defArgs (top 18), defBody (top 18), defScope (top 18), [], []⟩
def d24 : He.DefD := ⟨("can_step", none), "can_step", "can_step", defArgs (top 49), defBody (top 49), defScope (top 49), [], []⟩
def d25 : He.DefD := ⟨("_law_strong_ones", none), "_law_strong_ones", "_law_strong_ones", defArgs (top 84), defBody (top 84), defScope (top 84), [], []⟩
def d26 : He.DefD := ⟨("_law_expression", none), "_law_expression", "_law_expression", defArgs (top 76), defBody (top 76), defScope (top 76), [], []⟩
def d27 : He.DefD := ⟨("_law_access", none), "_law_access", "_law_access", defArgs (top 77), defBody (top 77), defScope (top 77), [], []⟩
def d28 : He.DefD := ⟨("_law_numbered", none), "_law_numbered", "_law_numbered", defArgs (top 64), defBody (top 64), defScope (top 64), [], []⟩
def d29 : He.DefD := ⟨("_law_is_access", none), "_law_is_access", "_law_is_access", defArgs (top 63), defBody (top 63), defScope (top 63), [], []⟩
def d30 : He.DefD := ⟨("_law_own", none), "_law_own", "_law_own", defArgs (top 80), defBody (top 80), defScope (top 80), [], []⟩
def d31 : He.DefD := ⟨("_law_cell", none), "_law_cell", "_law_cell", defArgs (top 68), defBody (top 68), defScope (top 68), [], []⟩
def d32 : He.DefD := ⟨("_law_would_write", none), "_law_would_write", "_law_would_write", defArgs (top 81), defBody (top 81), defScope (top 81), [], []⟩
def d33 : He.DefD := ⟨("_law_settled", none), "_law_settled", "_law_settled", defArgs (top 70), defBody (top 70), defScope (top 70), [], []⟩
def d34 : He.DefD := ⟨("_law_written", none), "_law_written", "_law_written", defArgs (top 71), defBody (top 71), defScope (top 71), [], []⟩
def d35 : He.DefD := ⟨("_law_behind", none), "_law_behind", "_law_behind", defArgs (top 72), defBody (top 72), defScope (top 72), [], []⟩
def d36 : He.DefD := ⟨("need_program", none), "need_program", "need_program", defArgs (top 37), defBody (top 37), defScope (top 37), [], []⟩
def d37 : He.DefD := ⟨("need_number", none), "need_number", "need_number", defArgs (top 38), defBody (top 38), defScope (top 38), [], []⟩
def d38 : He.DefD := ⟨("accesses_in", none), "accesses_in", "accesses_in", defArgs (top 33), defBody (top 33), defScope (top 33), [], []⟩
def d39 : He.DefD := ⟨("mode_of", none), "mode_of", "mode_of", defArgs (top 35), defBody (top 35), defScope (top 35), [], []⟩
def d40 : He.DefD := ⟨("begun", none), "begun", "begun", defArgs (top 43), defBody (top 43), defScope (top 43), [], []⟩
def d41 : He.DefD := ⟨("is_access", none), "is_access", "is_access", defArgs (top 25), defBody (top 25), defScope (top 25), [], []⟩
def d42 : He.DefD := ⟨("cell_of", none), "cell_of", "cell_of", defArgs (top 34), defBody (top 34), defScope (top 34), [], []⟩
def d43 : He.DefD := ⟨("written_by", none), "written_by", "written_by", defArgs (top 44), defBody (top 44), defScope (top 44), [], []⟩
def d44 : He.DefD := ⟨("can_read", none), "can_read", "can_read", defArgs (top 36), defBody (top 36), defScope (top 36), [], []⟩
def d45 : He.DefD := ⟨("behind", none), "behind", "behind", defArgs (top 45), defBody (top 45), defScope (top 45), [], []⟩
def d46 : He.DefD := ⟨("next_access", none), "next_access", "next_access", defArgs (top 52), defBody (top 52), defScope (top 52), [], []⟩
def d47 : He.DefD := ⟨("would_write", none), "would_write", "would_write", defArgs (top 53), defBody (top 53), defScope (top 53), [], []⟩
def d48 : He.DefD := ⟨("_law_mode", none), "_law_mode", "_law_mode", defArgs (top 69), defBody (top 69), defScope (top 69), [], []⟩
def d49 : He.DefD := ⟨("_law_worth", none), "_law_worth", "_law_worth", defArgs (top 62), defBody (top 62), defScope (top 62), [], []⟩
def d50 : He.DefD := ⟨("fits_program", none), "fits_program", "fits_program", defArgs (top 30), defBody (top 30), defScope (top 30), [], []⟩
def d51 : He.DefD := ⟨("all_statements", none), "all_statements", "all_statements", defArgs (top 28), defBody (top 28), defScope (top 28), [], []⟩
def d52 : He.DefD := ⟨("settled", none), "settled", "settled", defArgs (top 42), defBody (top 42), defScope (top 42), [], []⟩
def d53 : He.DefD := ⟨("numbered_threads", none), "numbered_threads", "numbered_threads", defArgs (top 32), defBody (top 32), defScope (top 32), [], []⟩
def d54 : He.DefD := ⟨("worth_by", none), "worth_by", "worth_by", defArgs (top 40), defBody (top 40), defScope (top 40), [], []⟩
def d55 : He.DefD := ⟨("with_register", none), "with_register", "with_register", defArgs (top 41), defBody (top 41), defScope (top 41), [], []⟩
def d56 : He.DefD := ⟨("fits_block", none), "fits_block", "fits_block", defArgs (top 29), defBody (top 29), defScope (top 29), [], []⟩
def d57 : He.DefD := ⟨("blocks_of", none), "blocks_of", "blocks_of", defArgs (top 27), defBody (top 27), defScope (top 27), [], []⟩
def d58 : He.DefD := ⟨("numbered_block", none), "numbered_block", "numbered_block", defArgs (top 31), defBody (top 31), defScope (top 31), [], []⟩
def d59 : He.DefD := ⟨("fits_access", none), "fits_access", "fits_access", defArgs (top 24), defBody (top 24), defScope (top 24), [], []⟩
def d60 : He.DefD := ⟨("fits_inner", none), "fits_inner", "fits_inner", defArgs (top 26), defBody (top 26), defScope (top 26), [], []⟩
def d61 : He.DefD := ⟨("is_cell", none), "is_cell", "is_cell", defArgs (top 23), defBody (top 23), defScope (top 23), [], []⟩
def d62 : He.DefD := ⟨("is_word_of", none), "is_word_of", "is_word_of", defArgs (top 20), defBody (top 20), defScope (top 20), [], []⟩
def d63 : He.DefD := ⟨("fits_expression", none), "fits_expression", "fits_expression", defArgs (top 21), defBody (top 21), defScope (top 21), [], []⟩
def d64 : He.DefD := ⟨("is_register", none), "is_register", "is_register", defArgs (top 22), defBody (top 22), defScope (top 22), [], []⟩
def d65 : He.DefD := ⟨("law", none), "law", "law", defArgs (top 88), defBody (top 88), defScope (top 88), [], []⟩
def fn : List He.DefD := [d0, d1, d2, d3, d4, d5, d6, d7, d8, d9, d10, d11, d12, d13, d14, d15, d16, d17, d18, d19, d20, d21, d22, d23, d24, d25, d26, d27, d28, d29, d30, d31, d32, d33, d34, d35, d36, d37, d38, d39, d40, d41, d42, d43, d44, d45, d46, d47, d48, d49, d50, d51, d52, d53, d54, d55, d56, d57, d58, d59, d60, d61, d62, d63, d64, d65]
theorem s0 : FnScope n0 p0 d0.scope := ⟨rfl, rfl, rfl, by decide +kernel, rfl, by decide +kernel, by decide +kernel⟩
theorem s1 : FnScope n1 p1 d1.scope := ⟨rfl, rfl, rfl, by decide +kernel, rfl, by decide +kernel, by decide +kernel⟩
theorem s2 : FnScope n2 p2 d2.scope := ⟨rfl, rfl, rfl, by decide +kernel, rfl, by decide +kernel, by decide +kernel⟩
theorem s3 : FnScope n3 p3 d3.scope := ⟨rfl, rfl, rfl, by decide +kernel, rfl, by decide +kernel, by decide +kernel⟩
theorem s4 : FnScope n4 p4 d4.scope := ⟨rfl, rfl, rfl, by decide +kernel, rfl, by decide +kernel, by decide +kernel⟩
theorem s5 : FnScope n5 p5 d5.scope := ⟨rfl, rfl, rfl, by decide +kernel, rfl, by decide +kernel, by decide +kernel⟩
theorem s6 : FnScope n6 p6 d6.scope := ⟨rfl, rfl, rfl, by decide +kernel, rfl, by decide +kernel, by decide +kernel⟩
theorem s7 : FnScope n7 p7 d7.scope := ⟨rfl, rfl, rfl, by decide +kernel, rfl, by decide +kernel, by decide +kernel⟩
theorem s8 : FnScope n8 p8 d8.scope := ⟨rfl, rfl, rfl, by decide +kernel, rfl, by decide +kernel, by decide +kernel⟩
theorem s9 : FnScope n9 p9 d9.scope := ⟨rfl, rfl, rfl, by decide +kernel, rfl, by decide +kernel, by decide +kernel⟩
theorem s10 : FnScope n10 p10 d10.scope := ⟨rfl, rfl, rfl, by decide +kernel, rfl, by decide +kernel, by decide +kernel⟩
theorem s11 : FnScope n11 p11 d11.scope := ⟨rfl, rfl, rfl, by decide +kernel, rfl, by decide +kernel, by decide +kernel⟩
theorem s12 : FnScope n12 p12 d12.scope := ⟨rfl, rfl, rfl, by decide +kernel, rfl, by decide +kernel, by decide +kernel⟩
theorem s13 : FnScope n13 p13 d13.scope := ⟨rfl, rfl, rfl, by decide +kernel, rfl, by decide +kernel, by decide +kernel⟩
theorem s14 : FnScope n14 p14 d14.scope := ⟨rfl, rfl, rfl, by decide +kernel, rfl, by decide +kernel, by decide +kernel⟩
theorem s15 : FnScope n15 p15 d15.scope := ⟨rfl, rfl, rfl, by decide +kernel, rfl, by decide +kernel, by decide +kernel⟩
theorem s16 : FnScope n16 p16 d16.scope := ⟨rfl, rfl, rfl, by decide +kernel, rfl, by decide +kernel, by decide +kernel⟩
theorem s17 : FnScope n17 p17 d17.scope := ⟨rfl, rfl, rfl, by decide +kernel, rfl, by decide +kernel, by decide +kernel⟩
theorem s18 : FnScope n18 p18 d18.scope := ⟨rfl, rfl, rfl, by decide +kernel, rfl, by decide +kernel, by decide +kernel⟩
theorem s19 : FnScope n19 p19 d19.scope := ⟨rfl, rfl, rfl, by decide +kernel, rfl, by decide +kernel, by decide +kernel⟩
theorem s20 : FnScope n20 p20 d20.scope := ⟨rfl, rfl, rfl, by decide +kernel, rfl, by decide +kernel, by decide +kernel⟩
theorem s21 : FnScope n21 p21 d21.scope := ⟨rfl, rfl, rfl, by decide +kernel, rfl, by decide +kernel, by decide +kernel⟩
theorem s22 : FnScope n22 p22 d22.scope := ⟨rfl, rfl, rfl, by decide +kernel, rfl, by decide +kernel, by decide +kernel⟩
theorem s23 : FnScope n23 p23 d23.scope := ⟨rfl, rfl, rfl, by decide +kernel, rfl, by decide +kernel, by decide +kernel⟩
theorem s24 : FnScope n24 p24 d24.scope := ⟨rfl, rfl, rfl, by decide +kernel, rfl, by decide +kernel, by decide +kernel⟩
theorem s25 : FnScope n25 p25 d25.scope := ⟨rfl, rfl, rfl, by decide +kernel, rfl, by decide +kernel, by decide +kernel⟩
theorem s26 : FnScope n26 p26 d26.scope := ⟨rfl, rfl, rfl, by decide +kernel, rfl, by decide +kernel, by decide +kernel⟩
theorem s27 : FnScope n27 p27 d27.scope := ⟨rfl, rfl, rfl, by decide +kernel, rfl, by decide +kernel, by decide +kernel⟩
theorem s28 : FnScope n28 p28 d28.scope := ⟨rfl, rfl, rfl, by decide +kernel, rfl, by decide +kernel, by decide +kernel⟩
theorem s29 : FnScope n29 p29 d29.scope := ⟨rfl, rfl, rfl, by decide +kernel, rfl, by decide +kernel, by decide +kernel⟩
theorem s30 : FnScope n30 p30 d30.scope := ⟨rfl, rfl, rfl, by decide +kernel, rfl, by decide +kernel, by decide +kernel⟩
theorem s31 : FnScope n31 p31 d31.scope := ⟨rfl, rfl, rfl, by decide +kernel, rfl, by decide +kernel, by decide +kernel⟩
theorem s32 : FnScope n32 p32 d32.scope := ⟨rfl, rfl, rfl, by decide +kernel, rfl, by decide +kernel, by decide +kernel⟩
theorem s33 : FnScope n33 p33 d33.scope := ⟨rfl, rfl, rfl, by decide +kernel, rfl, by decide +kernel, by decide +kernel⟩
theorem s34 : FnScope n34 p34 d34.scope := ⟨rfl, rfl, rfl, by decide +kernel, rfl, by decide +kernel, by decide +kernel⟩
theorem s35 : FnScope n35 p35 d35.scope := ⟨rfl, rfl, rfl, by decide +kernel, rfl, by decide +kernel, by decide +kernel⟩
theorem s36 : FnScope n36 p36 d36.scope := ⟨rfl, rfl, rfl, by decide +kernel, rfl, by decide +kernel, by decide +kernel⟩
theorem s37 : FnScope n37 p37 d37.scope := ⟨rfl, rfl, rfl, by decide +kernel, rfl, by decide +kernel, by decide +kernel⟩
theorem s38 : FnScope n38 p38 d38.scope := ⟨rfl, rfl, rfl, by decide +kernel, rfl, by decide +kernel, by decide +kernel⟩
theorem s39 : FnScope n39 p39 d39.scope := ⟨rfl, rfl, rfl, by decide +kernel, rfl, by decide +kernel, by decide +kernel⟩
theorem s40 : FnScope n40 p40 d40.scope := ⟨rfl, rfl, rfl, by decide +kernel, rfl, by decide +kernel, by decide +kernel⟩
theorem s41 : FnScope n41 p41 d41.scope := ⟨rfl, rfl, rfl, by decide +kernel, rfl, by decide +kernel, by decide +kernel⟩
theorem s42 : FnScope n42 p42 d42.scope := ⟨rfl, rfl, rfl, by decide +kernel, rfl, by decide +kernel, by decide +kernel⟩
theorem s43 : FnScope n43 p43 d43.scope := ⟨rfl, rfl, rfl, by decide +kernel, rfl, by decide +kernel, by decide +kernel⟩
theorem s44 : FnScope n44 p44 d44.scope := ⟨rfl, rfl, rfl, by decide +kernel, rfl, by decide +kernel, by decide +kernel⟩
theorem s45 : FnScope n45 p45 d45.scope := ⟨rfl, rfl, rfl, by decide +kernel, rfl, by decide +kernel, by decide +kernel⟩
theorem s46 : FnScope n46 p46 d46.scope := ⟨rfl, rfl, rfl, by decide +kernel, rfl, by decide +kernel, by decide +kernel⟩
theorem s47 : FnScope n47 p47 d47.scope := ⟨rfl, rfl, rfl, by decide +kernel, rfl, by decide +kernel, by decide +kernel⟩
theorem s48 : FnScope n48 p48 d48.scope := ⟨rfl, rfl, rfl, by decide +kernel, rfl, by decide +kernel, by decide +kernel⟩
theorem s49 : FnScope n49 p49 d49.scope := ⟨rfl, rfl, rfl, by decide +kernel, rfl, by decide +kernel, by decide +kernel⟩
theorem s50 : FnScope n50 p50 d50.scope := ⟨rfl, rfl, rfl, by decide +kernel, rfl, by decide +kernel, by decide +kernel⟩
theorem s51 : FnScope n51 p51 d51.scope := ⟨rfl, rfl, rfl, by decide +kernel, rfl, by decide +kernel, by decide +kernel⟩
theorem s52 : FnScope n52 p52 d52.scope := ⟨rfl, rfl, rfl, by decide +kernel, rfl, by decide +kernel, by decide +kernel⟩
theorem s53 : FnScope n53 p53 d53.scope := ⟨rfl, rfl, rfl, by decide +kernel, rfl, by decide +kernel, by decide +kernel⟩
theorem s54 : FnScope n54 p54 d54.scope := ⟨rfl, rfl, rfl, by decide +kernel, rfl, by decide +kernel, by decide +kernel⟩
theorem s55 : FnScope n55 p55 d55.scope := ⟨rfl, rfl, rfl, by decide +kernel, rfl, by decide +kernel, by decide +kernel⟩
theorem s56 : FnScope n56 p56 d56.scope := ⟨rfl, rfl, rfl, by decide +kernel, rfl, by decide +kernel, by decide +kernel⟩
theorem s57 : FnScope n57 p57 d57.scope := ⟨rfl, rfl, rfl, by decide +kernel, rfl, by decide +kernel, by decide +kernel⟩
theorem s58 : FnScope n58 p58 d58.scope := ⟨rfl, rfl, rfl, by decide +kernel, rfl, by decide +kernel, by decide +kernel⟩
theorem s59 : FnScope n59 p59 d59.scope := ⟨rfl, rfl, rfl, by decide +kernel, rfl, by decide +kernel, by decide +kernel⟩
theorem s60 : FnScope n60 p60 d60.scope := ⟨rfl, rfl, rfl, by decide +kernel, rfl, by decide +kernel, by decide +kernel⟩
theorem s61 : FnScope n61 p61 d61.scope := ⟨rfl, rfl, rfl, by decide +kernel, rfl, by decide +kernel, by decide +kernel⟩
theorem s62 : FnScope n62 p62 d62.scope := ⟨rfl, rfl, rfl, by decide +kernel, rfl, by decide +kernel, by decide +kernel⟩
theorem s63 : FnScope n63 p63 d63.scope := ⟨rfl, rfl, rfl, by decide +kernel, rfl, by decide +kernel, by decide +kernel⟩
theorem s64 : FnScope n64 p64 d64.scope := ⟨rfl, rfl, rfl, by decide +kernel, rfl, by decide +kernel, by decide +kernel⟩
theorem s65 : FnScope n65 p65 d65.scope := ⟨rfl, rfl, rfl, by decide +kernel, rfl, by decide +kernel, by decide +kernel⟩
theorem c0 : chkB T ask.glo (scOf n0 d0.scope f0.io) f0.body d0.body = true := by decide +kernel
theorem c1 : chkB T ask.glo (scOf n1 d1.scope f1.io) f1.body d1.body = true := by decide +kernel
theorem c2 : chkB T ask.glo (scOf n2 d2.scope f2.io) f2.body d2.body = true := by decide +kernel
theorem c3 : chkB T ask.glo (scOf n3 d3.scope f3.io) f3.body d3.body = true := by decide +kernel
theorem c4 : chkB T ask.glo (scOf n4 d4.scope f4.io) f4.body d4.body = true := by decide +kernel
theorem c5 : chkB T ask.glo (scOf n5 d5.scope f5.io) f5.body d5.body = true := by decide +kernel
theorem c6 : chkB T ask.glo (scOf n6 d6.scope f6.io) f6.body d6.body = true := by decide +kernel
theorem c7 : chkB T ask.glo (scOf n7 d7.scope f7.io) f7.body d7.body = true := by decide +kernel
theorem c8 : chkB T ask.glo (scOf n8 d8.scope f8.io) f8.body d8.body = true := by decide +kernel
theorem c9 : chkB T ask.glo (scOf n9 d9.scope f9.io) f9.body d9.body = true := by decide +kernel
theorem c10 : chkB T ask.glo (scOf n10 d10.scope f10.io) f10.body d10.body = true := by decide +kernel
theorem c11 : chkB T ask.glo (scOf n11 d11.scope f11.io) f11.body d11.body = true := by decide +kernel
theorem c12 : chkB T ask.glo (scOf n12 d12.scope f12.io) f12.body d12.body = true := by decide +kernel
theorem c13 : chkB T ask.glo (scOf n13 d13.scope f13.io) f13.body d13.body = true := by decide +kernel
theorem c14 : chkB T ask.glo (scOf n14 d14.scope f14.io) f14.body d14.body = true := by decide +kernel
theorem c15 : chkB T ask.glo (scOf n15 d15.scope f15.io) f15.body d15.body = true := by decide +kernel
theorem c16 : chkB T ask.glo (scOf n16 d16.scope f16.io) f16.body d16.body = true := by decide +kernel
theorem c17 : chkB T ask.glo (scOf n17 d17.scope f17.io) f17.body d17.body = true := by decide +kernel
theorem c18 : chkB T ask.glo (scOf n18 d18.scope f18.io) f18.body d18.body = true := by decide +kernel
theorem c19 : chkB T ask.glo (scOf n19 d19.scope f19.io) f19.body d19.body = true := by decide +kernel
theorem c20 : chkB T ask.glo (scOf n20 d20.scope f20.io) f20.body d20.body = true := by decide +kernel
theorem c21 : chkB T ask.glo (scOf n21 d21.scope f21.io) f21.body d21.body = true := by decide +kernel
theorem c22 : chkB T ask.glo (scOf n22 d22.scope f22.io) f22.body d22.body = true := by decide +kernel
theorem c23 : chkB T ask.glo (scOf n23 d23.scope f23.io) f23.body d23.body = true := by decide +kernel
theorem c24 : chkB T ask.glo (scOf n24 d24.scope f24.io) f24.body d24.body = true := by decide +kernel
theorem c25 : chkB T ask.glo (scOf n25 d25.scope f25.io) f25.body d25.body = true := by decide +kernel
theorem c26 : chkB T ask.glo (scOf n26 d26.scope f26.io) f26.body d26.body = true := by decide +kernel
theorem c27 : chkB T ask.glo (scOf n27 d27.scope f27.io) f27.body d27.body = true := by decide +kernel
theorem c28 : chkB T ask.glo (scOf n28 d28.scope f28.io) f28.body d28.body = true := by decide +kernel
theorem c29 : chkB T ask.glo (scOf n29 d29.scope f29.io) f29.body d29.body = true := by decide +kernel
theorem c30 : chkB T ask.glo (scOf n30 d30.scope f30.io) f30.body d30.body = true := by decide +kernel
theorem c31 : chkB T ask.glo (scOf n31 d31.scope f31.io) f31.body d31.body = true := by decide +kernel
theorem c32 : chkB T ask.glo (scOf n32 d32.scope f32.io) f32.body d32.body = true := by decide +kernel
theorem c33 : chkB T ask.glo (scOf n33 d33.scope f33.io) f33.body d33.body = true := by decide +kernel
theorem c34 : chkB T ask.glo (scOf n34 d34.scope f34.io) f34.body d34.body = true := by decide +kernel
theorem c35 : chkB T ask.glo (scOf n35 d35.scope f35.io) f35.body d35.body = true := by decide +kernel
theorem c36 : chkB T ask.glo (scOf n36 d36.scope f36.io) f36.body d36.body = true := by decide +kernel
theorem c37 : chkB T ask.glo (scOf n37 d37.scope f37.io) f37.body d37.body = true := by decide +kernel
theorem c38 : chkB T ask.glo (scOf n38 d38.scope f38.io) f38.body d38.body = true := by decide +kernel
theorem c39 : chkB T ask.glo (scOf n39 d39.scope f39.io) f39.body d39.body = true := by decide +kernel
theorem c40 : chkB T ask.glo (scOf n40 d40.scope f40.io) f40.body d40.body = true := by decide +kernel
theorem c41 : chkB T ask.glo (scOf n41 d41.scope f41.io) f41.body d41.body = true := by decide +kernel
theorem c42 : chkB T ask.glo (scOf n42 d42.scope f42.io) f42.body d42.body = true := by decide +kernel
theorem c43 : chkB T ask.glo (scOf n43 d43.scope f43.io) f43.body d43.body = true := by decide +kernel
theorem c44 : chkB T ask.glo (scOf n44 d44.scope f44.io) f44.body d44.body = true := by decide +kernel
theorem c45 : chkB T ask.glo (scOf n45 d45.scope f45.io) f45.body d45.body = true := by decide +kernel
theorem c46 : chkB T ask.glo (scOf n46 d46.scope f46.io) f46.body d46.body = true := by decide +kernel
theorem c47 : chkB T ask.glo (scOf n47 d47.scope f47.io) f47.body d47.body = true := by decide +kernel
theorem c48 : chkB T ask.glo (scOf n48 d48.scope f48.io) f48.body d48.body = true := by decide +kernel
theorem c49 : chkB T ask.glo (scOf n49 d49.scope f49.io) f49.body d49.body = true := by decide +kernel
theorem c50 : chkB T ask.glo (scOf n50 d50.scope f50.io) f50.body d50.body = true := by decide +kernel
theorem c51 : chkB T ask.glo (scOf n51 d51.scope f51.io) f51.body d51.body = true := by decide +kernel
theorem c52 : chkB T ask.glo (scOf n52 d52.scope f52.io) f52.body d52.body = true := by decide +kernel
theorem c53 : chkB T ask.glo (scOf n53 d53.scope f53.io) f53.body d53.body = true := by decide +kernel
theorem c54 : chkB T ask.glo (scOf n54 d54.scope f54.io) f54.body d54.body = true := by decide +kernel
theorem c55 : chkB T ask.glo (scOf n55 d55.scope f55.io) f55.body d55.body = true := by decide +kernel
theorem c56 : chkB T ask.glo (scOf n56 d56.scope f56.io) f56.body d56.body = true := by decide +kernel
theorem c57 : chkB T ask.glo (scOf n57 d57.scope f57.io) f57.body d57.body = true := by decide +kernel
theorem c58 : chkB T ask.glo (scOf n58 d58.scope f58.io) f58.body d58.body = true := by decide +kernel
theorem c59 : chkB T ask.glo (scOf n59 d59.scope f59.io) f59.body d59.body = true := by decide +kernel
theorem c60 : chkB T ask.glo (scOf n60 d60.scope f60.io) f60.body d60.body = true := by decide +kernel
theorem c61 : chkB T ask.glo (scOf n61 d61.scope f61.io) f61.body d61.body = true := by decide +kernel
theorem c62 : chkB T ask.glo (scOf n62 d62.scope f62.io) f62.body d62.body = true := by decide +kernel
theorem c63 : chkB T ask.glo (scOf n63 d63.scope f63.io) f63.body d63.body = true := by decide +kernel
theorem c64 : chkB T ask.glo (scOf n64 d64.scope f64.io) f64.body d64.body = true := by decide +kernel
theorem c65 : chkB T ask.glo (scOf n65 d65.scope f65.io) f65.body d65.body = true := by decide +kernel
theorem b0 (kV doc pm : Value) (an : Option Addr) (cdv ct : Value) (us : List Value) (h : us.length = p0.length) : bindArgs (PySem.W.fnOf d0.name d0.qual d0.params d0.body d0.scope .none kV doc pm an cdv ct) ⟨us, []⟩ = pure (p0.zip us) := match us, h with | [_], _ => rfl
theorem b1 (kV doc pm : Value) (an : Option Addr) (cdv ct : Value) (us : List Value) (h : us.length = p1.length) : bindArgs (PySem.W.fnOf d1.name d1.qual d1.params d1.body d1.scope .none kV doc pm an cdv ct) ⟨us, []⟩ = pure (p1.zip us) := match us, h with | [_], _ => rfl
theorem b2 (kV doc pm : Value) (an : Option Addr) (cdv ct : Value) (us : List Value) (h : us.length = p2.length) : bindArgs (PySem.W.fnOf d2.name d2.qual d2.params d2.body d2.scope .none kV doc pm an cdv ct) ⟨us, []⟩ = pure (p2.zip us) := match us, h with | [_, _], _ => rfl
theorem b3 (kV doc pm : Value) (an : Option Addr) (cdv ct : Value) (us : List Value) (h : us.length = p3.length) : bindArgs (PySem.W.fnOf d3.name d3.qual d3.params d3.body d3.scope .none kV doc pm an cdv ct) ⟨us, []⟩ = pure (p3.zip us) := match us, h with | [_], _ => rfl
theorem b4 (kV doc pm : Value) (an : Option Addr) (cdv ct : Value) (us : List Value) (h : us.length = p4.length) : bindArgs (PySem.W.fnOf d4.name d4.qual d4.params d4.body d4.scope .none kV doc pm an cdv ct) ⟨us, []⟩ = pure (p4.zip us) := match us, h with | [_, _], _ => rfl
theorem b5 (kV doc pm : Value) (an : Option Addr) (cdv ct : Value) (us : List Value) (h : us.length = p5.length) : bindArgs (PySem.W.fnOf d5.name d5.qual d5.params d5.body d5.scope .none kV doc pm an cdv ct) ⟨us, []⟩ = pure (p5.zip us) := match us, h with | [_, _], _ => rfl
theorem b6 (kV doc pm : Value) (an : Option Addr) (cdv ct : Value) (us : List Value) (h : us.length = p6.length) : bindArgs (PySem.W.fnOf d6.name d6.qual d6.params d6.body d6.scope .none kV doc pm an cdv ct) ⟨us, []⟩ = pure (p6.zip us) := match us, h with | [_, _], _ => rfl
theorem b7 (kV doc pm : Value) (an : Option Addr) (cdv ct : Value) (us : List Value) (h : us.length = p7.length) : bindArgs (PySem.W.fnOf d7.name d7.qual d7.params d7.body d7.scope .none kV doc pm an cdv ct) ⟨us, []⟩ = pure (p7.zip us) := match us, h with | [_, _, _], _ => rfl
theorem b8 (kV doc pm : Value) (an : Option Addr) (cdv ct : Value) (us : List Value) (h : us.length = p8.length) : bindArgs (PySem.W.fnOf d8.name d8.qual d8.params d8.body d8.scope .none kV doc pm an cdv ct) ⟨us, []⟩ = pure (p8.zip us) := match us, h with | [_, _, _, _], _ => rfl
theorem b9 (kV doc pm : Value) (an : Option Addr) (cdv ct : Value) (us : List Value) (h : us.length = p9.length) : bindArgs (PySem.W.fnOf d9.name d9.qual d9.params d9.body d9.scope .none kV doc pm an cdv ct) ⟨us, []⟩ = pure (p9.zip us) := match us, h with | [_, _, _, _], _ => rfl
theorem b10 (kV doc pm : Value) (an : Option Addr) (cdv ct : Value) (us : List Value) (h : us.length = p10.length) : bindArgs (PySem.W.fnOf d10.name d10.qual d10.params d10.body d10.scope .none kV doc pm an cdv ct) ⟨us, []⟩ = pure (p10.zip us) := match us, h with | [_, _, _], _ => rfl
theorem b11 (kV doc pm : Value) (an : Option Addr) (cdv ct : Value) (us : List Value) (h : us.length = p11.length) : bindArgs (PySem.W.fnOf d11.name d11.qual d11.params d11.body d11.scope .none kV doc pm an cdv ct) ⟨us, []⟩ = pure (p11.zip us) := match us, h with | [_], _ => rfl
theorem b12 (kV doc pm : Value) (an : Option Addr) (cdv ct : Value) (us : List Value) (h : us.length = p12.length) : bindArgs (PySem.W.fnOf d12.name d12.qual d12.params d12.body d12.scope .none kV doc pm an cdv ct) ⟨us, []⟩ = pure (p12.zip us) := match us, h with | [_], _ => rfl
theorem b13 (kV doc pm : Value) (an : Option Addr) (cdv ct : Value) (us : List Value) (h : us.length = p13.length) : bindArgs (PySem.W.fnOf d13.name d13.qual d13.params d13.body d13.scope .none kV doc pm an cdv ct) ⟨us, []⟩ = pure (p13.zip us) := match us, h with | [_], _ => rfl
theorem b14 (kV doc pm : Value) (an : Option Addr) (cdv ct : Value) (us : List Value) (h : us.length = p14.length) : bindArgs (PySem.W.fnOf d14.name d14.qual d14.params d14.body d14.scope .none kV doc pm an cdv ct) ⟨us, []⟩ = pure (p14.zip us) := match us, h with | [_], _ => rfl
theorem b15 (kV doc pm : Value) (an : Option Addr) (cdv ct : Value) (us : List Value) (h : us.length = p15.length) : bindArgs (PySem.W.fnOf d15.name d15.qual d15.params d15.body d15.scope .none kV doc pm an cdv ct) ⟨us, []⟩ = pure (p15.zip us) := match us, h with | [_, _], _ => rfl
theorem b16 (kV doc pm : Value) (an : Option Addr) (cdv ct : Value) (us : List Value) (h : us.length = p16.length) : bindArgs (PySem.W.fnOf d16.name d16.qual d16.params d16.body d16.scope .none kV doc pm an cdv ct) ⟨us, []⟩ = pure (p16.zip us) := match us, h with | [_, _], _ => rfl
theorem b17 (kV doc pm : Value) (an : Option Addr) (cdv ct : Value) (us : List Value) (h : us.length = p17.length) : bindArgs (PySem.W.fnOf d17.name d17.qual d17.params d17.body d17.scope .none kV doc pm an cdv ct) ⟨us, []⟩ = pure (p17.zip us) := match us, h with | [_, _, _], _ => rfl
theorem b18 (kV doc pm : Value) (an : Option Addr) (cdv ct : Value) (us : List Value) (h : us.length = p18.length) : bindArgs (PySem.W.fnOf d18.name d18.qual d18.params d18.body d18.scope .none kV doc pm an cdv ct) ⟨us, []⟩ = pure (p18.zip us) := match us, h with | [_], _ => rfl
theorem b19 (kV doc pm : Value) (an : Option Addr) (cdv ct : Value) (us : List Value) (h : us.length = p19.length) : bindArgs (PySem.W.fnOf d19.name d19.qual d19.params d19.body d19.scope .none kV doc pm an cdv ct) ⟨us, []⟩ = pure (p19.zip us) := match us, h with | [_], _ => rfl
theorem b20 (kV doc pm : Value) (an : Option Addr) (cdv ct : Value) (us : List Value) (h : us.length = p20.length) : bindArgs (PySem.W.fnOf d20.name d20.qual d20.params d20.body d20.scope .none kV doc pm an cdv ct) ⟨us, []⟩ = pure (p20.zip us) := match us, h with | [_, _], _ => rfl
theorem b21 (kV doc pm : Value) (an : Option Addr) (cdv ct : Value) (us : List Value) (h : us.length = p21.length) : bindArgs (PySem.W.fnOf d21.name d21.qual d21.params d21.body d21.scope .none kV doc pm an cdv ct) ⟨us, []⟩ = pure (p21.zip us) := match us, h with | [_], _ => rfl
theorem b22 (kV doc pm : Value) (an : Option Addr) (cdv ct : Value) (us : List Value) (h : us.length = p22.length) : bindArgs (PySem.W.fnOf d22.name d22.qual d22.params d22.body d22.scope .none kV doc pm an cdv ct) ⟨us, []⟩ = pure (p22.zip us) := match us, h with | [_, _, _], _ => rfl
theorem b23 (kV doc pm : Value) (an : Option Addr) (cdv ct : Value) (us : List Value) (h : us.length = p23.length) : bindArgs (PySem.W.fnOf d23.name d23.qual d23.params d23.body d23.scope .none kV doc pm an cdv ct) ⟨us, []⟩ = pure (p23.zip us) := match us, h with | [_, _, _], _ => rfl
theorem b24 (kV doc pm : Value) (an : Option Addr) (cdv ct : Value) (us : List Value) (h : us.length = p24.length) : bindArgs (PySem.W.fnOf d24.name d24.qual d24.params d24.body d24.scope .none kV doc pm an cdv ct) ⟨us, []⟩ = pure (p24.zip us) := match us, h with | [_, _], _ => rfl
theorem b25 (kV doc pm : Value) (an : Option Addr) (cdv ct : Value) (us : List Value) (h : us.length = p25.length) : bindArgs (PySem.W.fnOf d25.name d25.qual d25.params d25.body d25.scope .none kV doc pm an cdv ct) ⟨us, []⟩ = pure (p25.zip us) := match us, h with | [_], _ => rfl
theorem b26 (kV doc pm : Value) (an : Option Addr) (cdv ct : Value) (us : List Value) (h : us.length = p26.length) : bindArgs (PySem.W.fnOf d26.name d26.qual d26.params d26.body d26.scope .none kV doc pm an cdv ct) ⟨us, []⟩ = pure (p26.zip us) := match us, h with | [_, _], _ => rfl
theorem b27 (kV doc pm : Value) (an : Option Addr) (cdv ct : Value) (us : List Value) (h : us.length = p27.length) : bindArgs (PySem.W.fnOf d27.name d27.qual d27.params d27.body d27.scope .none kV doc pm an cdv ct) ⟨us, []⟩ = pure (p27.zip us) := match us, h with | [_, _], _ => rfl
theorem b28 (kV doc pm : Value) (an : Option Addr) (cdv ct : Value) (us : List Value) (h : us.length = p28.length) : bindArgs (PySem.W.fnOf d28.name d28.qual d28.params d28.body d28.scope .none kV doc pm an cdv ct) ⟨us, []⟩ = pure (p28.zip us) := match us, h with | [_, _], _ => rfl
theorem b29 (kV doc pm : Value) (an : Option Addr) (cdv ct : Value) (us : List Value) (h : us.length = p29.length) : bindArgs (PySem.W.fnOf d29.name d29.qual d29.params d29.body d29.scope .none kV doc pm an cdv ct) ⟨us, []⟩ = pure (p29.zip us) := match us, h with | [_], _ => rfl
theorem b30 (kV doc pm : Value) (an : Option Addr) (cdv ct : Value) (us : List Value) (h : us.length = p30.length) : bindArgs (PySem.W.fnOf d30.name d30.qual d30.params d30.body d30.scope .none kV doc pm an cdv ct) ⟨us, []⟩ = pure (p30.zip us) := match us, h with | [_, _], _ => rfl
theorem b31 (kV doc pm : Value) (an : Option Addr) (cdv ct : Value) (us : List Value) (h : us.length = p31.length) : bindArgs (PySem.W.fnOf d31.name d31.qual d31.params d31.body d31.scope .none kV doc pm an cdv ct) ⟨us, []⟩ = pure (p31.zip us) := match us, h with | [_], _ => rfl
theorem b32 (kV doc pm : Value) (an : Option Addr) (cdv ct : Value) (us : List Value) (h : us.length = p32.length) : bindArgs (PySem.W.fnOf d32.name d32.qual d32.params d32.body d32.scope .none kV doc pm an cdv ct) ⟨us, []⟩ = pure (p32.zip us) := match us, h with | [_, _], _ => rfl
theorem b33 (kV doc pm : Value) (an : Option Addr) (cdv ct : Value) (us : List Value) (h : us.length = p33.length) : bindArgs (PySem.W.fnOf d33.name d33.qual d33.params d33.body d33.scope .none kV doc pm an cdv ct) ⟨us, []⟩ = pure (p33.zip us) := match us, h with | [_, _], _ => rfl
theorem b34 (kV doc pm : Value) (an : Option Addr) (cdv ct : Value) (us : List Value) (h : us.length = p34.length) : bindArgs (PySem.W.fnOf d34.name d34.qual d34.params d34.body d34.scope .none kV doc pm an cdv ct) ⟨us, []⟩ = pure (p34.zip us) := match us, h with | [_, _, _], _ => rfl
theorem b35 (kV doc pm : Value) (an : Option Addr) (cdv ct : Value) (us : List Value) (h : us.length = p35.length) : bindArgs (PySem.W.fnOf d35.name d35.qual d35.params d35.body d35.scope .none kV doc pm an cdv ct) ⟨us, []⟩ = pure (p35.zip us) := match us, h with | [_, _, _], _ => rfl
theorem b36 (kV doc pm : Value) (an : Option Addr) (cdv ct : Value) (us : List Value) (h : us.length = p36.length) : bindArgs (PySem.W.fnOf d36.name d36.qual d36.params d36.body d36.scope .none kV doc pm an cdv ct) ⟨us, []⟩ = pure (p36.zip us) := match us, h with | [_], _ => rfl
theorem b37 (kV doc pm : Value) (an : Option Addr) (cdv ct : Value) (us : List Value) (h : us.length = p37.length) : bindArgs (PySem.W.fnOf d37.name d37.qual d37.params d37.body d37.scope .none kV doc pm an cdv ct) ⟨us, []⟩ = pure (p37.zip us) := match us, h with | [_, _, _], _ => rfl
theorem b38 (kV doc pm : Value) (an : Option Addr) (cdv ct : Value) (us : List Value) (h : us.length = p38.length) : bindArgs (PySem.W.fnOf d38.name d38.qual d38.params d38.body d38.scope .none kV doc pm an cdv ct) ⟨us, []⟩ = pure (p38.zip us) := match us, h with | [_], _ => rfl
theorem b39 (kV doc pm : Value) (an : Option Addr) (cdv ct : Value) (us : List Value) (h : us.length = p39.length) : bindArgs (PySem.W.fnOf d39.name d39.qual d39.params d39.body d39.scope .none kV doc pm an cdv ct) ⟨us, []⟩ = pure (p39.zip us) := match us, h with | [_], _ => rfl
theorem b40 (kV doc pm : Value) (an : Option Addr) (cdv ct : Value) (us : List Value) (h : us.length = p40.length) : bindArgs (PySem.W.fnOf d40.name d40.qual d40.params d40.body d40.scope .none kV doc pm an cdv ct) ⟨us, []⟩ = pure (p40.zip us) := match us, h with | [_], _ => rfl
theorem b41 (kV doc pm : Value) (an : Option Addr) (cdv ct : Value) (us : List Value) (h : us.length = p41.length) : bindArgs (PySem.W.fnOf d41.name d41.qual d41.params d41.body d41.scope .none kV doc pm an cdv ct) ⟨us, []⟩ = pure (p41.zip us) := match us, h with | [_], _ => rfl
theorem b42 (kV doc pm : Value) (an : Option Addr) (cdv ct : Value) (us : List Value) (h : us.length = p42.length) : bindArgs (PySem.W.fnOf d42.name d42.qual d42.params d42.body d42.scope .none kV doc pm an cdv ct) ⟨us, []⟩ = pure (p42.zip us) := match us, h with | [_], _ => rfl
theorem b43 (kV doc pm : Value) (an : Option Addr) (cdv ct : Value) (us : List Value) (h : us.length = p43.length) : bindArgs (PySem.W.fnOf d43.name d43.qual d43.params d43.body d43.scope .none kV doc pm an cdv ct) ⟨us, []⟩ = pure (p43.zip us) := match us, h with | [_, _, _], _ => rfl
theorem b44 (kV doc pm : Value) (an : Option Addr) (cdv ct : Value) (us : List Value) (h : us.length = p44.length) : bindArgs (PySem.W.fnOf d44.name d44.qual d44.params d44.body d44.scope .none kV doc pm an cdv ct) ⟨us, []⟩ = pure (p44.zip us) := match us, h with | [_], _ => rfl
theorem b45 (kV doc pm : Value) (an : Option Addr) (cdv ct : Value) (us : List Value) (h : us.length = p45.length) : bindArgs (PySem.W.fnOf d45.name d45.qual d45.params d45.body d45.scope .none kV doc pm an cdv ct) ⟨us, []⟩ = pure (p45.zip us) := match us, h with | [_, _, _], _ => rfl
theorem b46 (kV doc pm : Value) (an : Option Addr) (cdv ct : Value) (us : List Value) (h : us.length = p46.length) : bindArgs (PySem.W.fnOf d46.name d46.qual d46.params d46.body d46.scope .none kV doc pm an cdv ct) ⟨us, []⟩ = pure (p46.zip us) := match us, h with | [_, _], _ => rfl
theorem b47 (kV doc pm : Value) (an : Option Addr) (cdv ct : Value) (us : List Value) (h : us.length = p47.length) : bindArgs (PySem.W.fnOf d47.name d47.qual d47.params d47.body d47.scope .none kV doc pm an cdv ct) ⟨us, []⟩ = pure (p47.zip us) := match us, h with | [_, _], _ => rfl
theorem b48 (kV doc pm : Value) (an : Option Addr) (cdv ct : Value) (us : List Value) (h : us.length = p48.length) : bindArgs (PySem.W.fnOf d48.name d48.qual d48.params d48.body d48.scope .none kV doc pm an cdv ct) ⟨us, []⟩ = pure (p48.zip us) := match us, h with | [_], _ => rfl
theorem b49 (kV doc pm : Value) (an : Option Addr) (cdv ct : Value) (us : List Value) (h : us.length = p49.length) : bindArgs (PySem.W.fnOf d49.name d49.qual d49.params d49.body d49.scope .none kV doc pm an cdv ct) ⟨us, []⟩ = pure (p49.zip us) := match us, h with | [_, _], _ => rfl
theorem b50 (kV doc pm : Value) (an : Option Addr) (cdv ct : Value) (us : List Value) (h : us.length = p50.length) : bindArgs (PySem.W.fnOf d50.name d50.qual d50.params d50.body d50.scope .none kV doc pm an cdv ct) ⟨us, []⟩ = pure (p50.zip us) := match us, h with | [_], _ => rfl
theorem b51 (kV doc pm : Value) (an : Option Addr) (cdv ct : Value) (us : List Value) (h : us.length = p51.length) : bindArgs (PySem.W.fnOf d51.name d51.qual d51.params d51.body d51.scope .none kV doc pm an cdv ct) ⟨us, []⟩ = pure (p51.zip us) := match us, h with | [_], _ => rfl
theorem b52 (kV doc pm : Value) (an : Option Addr) (cdv ct : Value) (us : List Value) (h : us.length = p52.length) : bindArgs (PySem.W.fnOf d52.name d52.qual d52.params d52.body d52.scope .none kV doc pm an cdv ct) ⟨us, []⟩ = pure (p52.zip us) := match us, h with | [_, _], _ => rfl
theorem b53 (kV doc pm : Value) (an : Option Addr) (cdv ct : Value) (us : List Value) (h : us.length = p53.length) : bindArgs (PySem.W.fnOf d53.name d53.qual d53.params d53.body d53.scope .none kV doc pm an cdv ct) ⟨us, []⟩ = pure (p53.zip us) := match us, h with | [_], _ => rfl
theorem b54 (kV doc pm : Value) (an : Option Addr) (cdv ct : Value) (us : List Value) (h : us.length = p54.length) : bindArgs (PySem.W.fnOf d54.name d54.qual d54.params d54.body d54.scope .none kV doc pm an cdv ct) ⟨us, []⟩ = pure (p54.zip us) := match us, h with | [_, _], _ => rfl
theorem b55 (kV doc pm : Value) (an : Option Addr) (cdv ct : Value) (us : List Value) (h : us.length = p55.length) : bindArgs (PySem.W.fnOf d55.name d55.qual d55.params d55.body d55.scope .none kV doc pm an cdv ct) ⟨us, []⟩ = pure (p55.zip us) := match us, h with | [_, _, _], _ => rfl
theorem b56 (kV doc pm : Value) (an : Option Addr) (cdv ct : Value) (us : List Value) (h : us.length = p56.length) : bindArgs (PySem.W.fnOf d56.name d56.qual d56.params d56.body d56.scope .none kV doc pm an cdv ct) ⟨us, []⟩ = pure (p56.zip us) := match us, h with | [_], _ => rfl
theorem b57 (kV doc pm : Value) (an : Option Addr) (cdv ct : Value) (us : List Value) (h : us.length = p57.length) : bindArgs (PySem.W.fnOf d57.name d57.qual d57.params d57.body d57.scope .none kV doc pm an cdv ct) ⟨us, []⟩ = pure (p57.zip us) := match us, h with | [_], _ => rfl
theorem b58 (kV doc pm : Value) (an : Option Addr) (cdv ct : Value) (us : List Value) (h : us.length = p58.length) : bindArgs (PySem.W.fnOf d58.name d58.qual d58.params d58.body d58.scope .none kV doc pm an cdv ct) ⟨us, []⟩ = pure (p58.zip us) := match us, h with | [_, _], _ => rfl
theorem b59 (kV doc pm : Value) (an : Option Addr) (cdv ct : Value) (us : List Value) (h : us.length = p59.length) : bindArgs (PySem.W.fnOf d59.name d59.qual d59.params d59.body d59.scope .none kV doc pm an cdv ct) ⟨us, []⟩ = pure (p59.zip us) := match us, h with | [_], _ => rfl
theorem b60 (kV doc pm : Value) (an : Option Addr) (cdv ct : Value) (us : List Value) (h : us.length = p60.length) : bindArgs (PySem.W.fnOf d60.name d60.qual d60.params d60.body d60.scope .none kV doc pm an cdv ct) ⟨us, []⟩ = pure (p60.zip us) := match us, h with | [_], _ => rfl
theorem b61 (kV doc pm : Value) (an : Option Addr) (cdv ct : Value) (us : List Value) (h : us.length = p61.length) : bindArgs (PySem.W.fnOf d61.name d61.qual d61.params d61.body d61.scope .none kV doc pm an cdv ct) ⟨us, []⟩ = pure (p61.zip us) := match us, h with | [_], _ => rfl
theorem b62 (kV doc pm : Value) (an : Option Addr) (cdv ct : Value) (us : List Value) (h : us.length = p62.length) : bindArgs (PySem.W.fnOf d62.name d62.qual d62.params d62.body d62.scope .none kV doc pm an cdv ct) ⟨us, []⟩ = pure (p62.zip us) := match us, h with | [_, _], _ => rfl
theorem b63 (kV doc pm : Value) (an : Option Addr) (cdv ct : Value) (us : List Value) (h : us.length = p63.length) : bindArgs (PySem.W.fnOf d63.name d63.qual d63.params d63.body d63.scope .none kV doc pm an cdv ct) ⟨us, []⟩ = pure (p63.zip us) := match us, h with | [_], _ => rfl
theorem b64 (kV doc pm : Value) (an : Option Addr) (cdv ct : Value) (us : List Value) (h : us.length = p64.length) : bindArgs (PySem.W.fnOf d64.name d64.qual d64.params d64.body d64.scope .none kV doc pm an cdv ct) ⟨us, []⟩ = pure (p64.zip us) := match us, h with | [_], _ => rfl
theorem b65 (kV doc pm : Value) (an : Option Addr) (cdv ct : Value) (us : List Value) (h : us.length = p65.length) : bindArgs (PySem.W.fnOf d65.name d65.qual d65.params d65.body d65.scope .none kV doc pm an cdv ct) ⟨us, []⟩ = pure (p65.zip us) := match us, h with | [_], _ => rfl
theorem io0 : Mi.ioOf T 0 = false := of_decide_eq_true rfl
theorem io1 : Mi.ioOf T 1 = true := of_decide_eq_true rfl
theorem io2 : Mi.ioOf T 2 = true := of_decide_eq_true rfl
theorem io3 : Mi.ioOf T 3 = false := of_decide_eq_true rfl
theorem io4 : Mi.ioOf T 4 = true := of_decide_eq_true rfl
theorem io5 : Mi.ioOf T 5 = true := of_decide_eq_true rfl
theorem io6 : Mi.ioOf T 6 = true := of_decide_eq_true rfl
theorem io7 : Mi.ioOf T 7 = false := of_decide_eq_true rfl
theorem io8 : Mi.ioOf T 8 = false := of_decide_eq_true rfl
theorem io9 : Mi.ioOf T 9 = false := of_decide_eq_true rfl
theorem io10 : Mi.ioOf T 10 = true := of_decide_eq_true rfl
theorem io11 : Mi.ioOf T 11 = false := of_decide_eq_true rfl
theorem io12 : Mi.ioOf T 12 = false := of_decide_eq_true rfl
theorem io13 : Mi.ioOf T 13 = false := of_decide_eq_true rfl
theorem io14 : Mi.ioOf T 14 = false := of_decide_eq_true rfl
theorem io15 : Mi.ioOf T 15 = false := of_decide_eq_true rfl
theorem io16 : Mi.ioOf T 16 = false := of_decide_eq_true rfl
theorem io17 : Mi.ioOf T 17 = false := of_decide_eq_true rfl
theorem io18 : Mi.ioOf T 18 = false := of_decide_eq_true rfl
theorem io19 : Mi.ioOf T 19 = false := of_decide_eq_true rfl
theorem io20 : Mi.ioOf T 20 = false := of_decide_eq_true rfl
theorem io21 : Mi.ioOf T 21 = false := of_decide_eq_true rfl
theorem io22 : Mi.ioOf T 22 = false := of_decide_eq_true rfl
theorem io23 : Mi.ioOf T 23 = false := of_decide_eq_true rfl
theorem io24 : Mi.ioOf T 24 = false := of_decide_eq_true rfl
theorem io25 : Mi.ioOf T 25 = false := of_decide_eq_true rfl
theorem io26 : Mi.ioOf T 26 = true := of_decide_eq_true rfl
theorem io27 : Mi.ioOf T 27 = true := of_decide_eq_true rfl
theorem io28 : Mi.ioOf T 28 = false := of_decide_eq_true rfl
theorem io29 : Mi.ioOf T 29 = false := of_decide_eq_true rfl
theorem io30 : Mi.ioOf T 30 = false := of_decide_eq_true rfl
theorem io31 : Mi.ioOf T 31 = false := of_decide_eq_true rfl
theorem io32 : Mi.ioOf T 32 = false := of_decide_eq_true rfl
theorem io33 : Mi.ioOf T 33 = false := of_decide_eq_true rfl
theorem io34 : Mi.ioOf T 34 = false := of_decide_eq_true rfl
theorem io35 : Mi.ioOf T 35 = false := of_decide_eq_true rfl
theorem io36 : Mi.ioOf T 36 = false := of_decide_eq_true rfl
theorem io37 : Mi.ioOf T 37 = false := of_decide_eq_true rfl
theorem io38 : Mi.ioOf T 38 = false := of_decide_eq_true rfl
theorem io39 : Mi.ioOf T 39 = false := of_decide_eq_true rfl
theorem io40 : Mi.ioOf T 40 = false := of_decide_eq_true rfl
theorem io41 : Mi.ioOf T 41 = false := of_decide_eq_true rfl
theorem io42 : Mi.ioOf T 42 = false := of_decide_eq_true rfl
theorem io43 : Mi.ioOf T 43 = false := of_decide_eq_true rfl
theorem io44 : Mi.ioOf T 44 = false := of_decide_eq_true rfl
theorem io45 : Mi.ioOf T 45 = false := of_decide_eq_true rfl
theorem io46 : Mi.ioOf T 46 = false := of_decide_eq_true rfl
theorem io47 : Mi.ioOf T 47 = false := of_decide_eq_true rfl
theorem io48 : Mi.ioOf T 48 = false := of_decide_eq_true rfl
theorem io49 : Mi.ioOf T 49 = false := of_decide_eq_true rfl
theorem io50 : Mi.ioOf T 50 = false := of_decide_eq_true rfl
theorem io51 : Mi.ioOf T 51 = false := of_decide_eq_true rfl
theorem io52 : Mi.ioOf T 52 = false := of_decide_eq_true rfl
theorem io53 : Mi.ioOf T 53 = false := of_decide_eq_true rfl
theorem io54 : Mi.ioOf T 54 = false := of_decide_eq_true rfl
theorem io55 : Mi.ioOf T 55 = false := of_decide_eq_true rfl
theorem io56 : Mi.ioOf T 56 = false := of_decide_eq_true rfl
theorem io57 : Mi.ioOf T 57 = false := of_decide_eq_true rfl
theorem io58 : Mi.ioOf T 58 = false := of_decide_eq_true rfl
theorem io59 : Mi.ioOf T 59 = false := of_decide_eq_true rfl
theorem io60 : Mi.ioOf T 60 = false := of_decide_eq_true rfl
theorem io61 : Mi.ioOf T 61 = false := of_decide_eq_true rfl
theorem io62 : Mi.ioOf T 62 = false := of_decide_eq_true rfl
theorem io63 : Mi.ioOf T 63 = false := of_decide_eq_true rfl
theorem io64 : Mi.ioOf T 64 = false := of_decide_eq_true rfl
theorem io65 : Mi.ioOf T 65 = false := of_decide_eq_true rfl
end K48

set_option Elab.async false
set_option linter.all false
set_option maxRecDepth 100000
set_option maxHeartbeats 0
/-! the head of the law's text -/
namespace K48
open PySem PySem.Spec PyProof.Rows L2 Mi
def tp0 : List Str := ["ModelError", "InvalidProgram", "InvalidNumber", "VALUES", "CELLS", "REGISTERS", "THREADS", "STATEMENTS"]
def tp1 : List Str := ["ACCESSES", "FENCES", "IFS", "DEEP", "WORKED", "WRITING", "READING", "EXCHANGES"]
def tp2 : List Str := ["is_whole", "is_tuple_of", "is_word_of", "fits_expression", "is_register", "is_cell", "fits_access", "is_access"]
def tp3 : List Str := ["fits_inner", "blocks_of", "all_statements", "fits_block", "fits_program", "numbered_block", "numbered_threads", "accesses_in"]
def tp4 : List Str := ["cell_of", "mode_of", "can_read", "need_program", "need_number", "worth_by", "with_register", "settled"]
def tp5 : List Str := ["begun", "written_by", "behind", "STEPS", "first_state", "can_step", "stepped", "next_access"]
def tp6 : List Str := ["would_write", "pairs_in", "strong_numbers", "need_pair", "is_race_run", "_law_cup", "_law_roll", "_law_some"]
def tp7 : List Str := ["_law_worth", "_law_is_access", "_law_numbered", "_law_threads", "_law_accesses", "_law_all", "_law_cell", "_law_mode"]
def tp8 : List Str := ["_law_settled", "_law_written", "_law_behind", "_law_begun", "_law_next", "_law_stepped", "_law_expression", "_law_access"]
def tp9 : List Str := ["_law_thread", "_law_program", "_law_own", "_law_would_write", "_law_meets", "_law_told_program", "_law_strong_ones", "_law_walk"]
def tp10 : List Str := ["_law_is_right", "_law_word"]
def tops : List Str := tp0 ++ tp1 ++ tp2 ++ tp3 ++ tp4 ++ tp5 ++ tp6 ++ tp7 ++ tp8 ++ tp9 ++ tp10
abbrev hk : PySem.W.Hook := hookM 4 ask fn
def ob (s : PySem.W.SharedT) : He.AlD := obsMG 4 ask fn (HandSHeadRun.getT s)
theorem ob_eq (s : PySem.W.SharedT) : ob s = hk.obs s.abs := obsMG_eq (HandSHeadRun.getT_eq s)
theorem run (w : World) : HandSHeadRun.RunEq Rw (PySem.W.view Rw.prog [88]) hk ob 4000 tops w := by
  intro os
  kernel_rfl
end K48

set_option Elab.async false
set_option linter.all false
set_option maxRecDepth 100000
set_option maxHeartbeats 4000000
namespace K48
open PySem Mi
section
local macro_rules
  | `(tactic| simp! [$xs,*] $[$loc]?) => `(tactic| simp -implicitDefEqProofs only [$xs,*, ev_var, ev_and, ev_or, ev_chn, ev_ite, ev_iff, ev_while, ev_for, ev_forN, ev_lc, ev_lc2, ev_cons, ev_nil, ev_cst, ev_gbl, ev_tup, ev_lst, ev_sub, ev_slc, ev_op2, ev_neg, ev_not, ev_cmp, ev_callE, ev_blt, ev_isi, ev_trg, ev_app, ev_pop, ev_nilA, ev_consA, ev_nilF, ev_consF, ev_nilM, ev_consM, ev_seq, ev_rng1, ev_enm, ev_zip, ev_asg, ev_par, ev_exp, ev_aug, ev_sti, ev_popAt, someS_lst, someS_val, onS_lst, ev_ret, ev_rse, ok_bind, exn_bind, stk_bind, pure_ok, varR_val, varR_lst, seeB_val, see_val, see_lst, see_slot, slotSee_lst, slotSee_val, frz_val', frz_lst', frz_slot, slotFrz_lst, slotFrz_val, bool1_bool, int1_int, optInt_no, optInt_yes, ME.isNop, onL_lst, settle_val, settle_lst, settle_slot, mv_val, mv_lst, mv_slot, thenB_nx, thenB_rt, thenB_bk, thenB_ct, loopK_nx, loopK_ct, loopK_bk, loopK_rt, endF_rt, endF_nx, ioS_no, ioS_lst, retA_val, retA_lst, retA_slot, call_no, call_io, args_nil, args_cons, seeAll_nil, seeAll_cons, ite_and, ite_or, Mi.get, put, fill, Slot.own, seqOf_list, seqOf_tuple, sub_tup, sub_lst, b_add, b_addb, b_sub, b_addt, b_addl, s_tup, s_lst, i_int, i_intb, i_intt, i_ints, i_bool, i_booli, i_boolt, i_str, i_stri, i_strt, i_tup, i_tupi, i_tups, i_lst, i_lstt, i_lsti, i_lsts, i_non, f_lenl, f_lent, f_int, f_intb, f_listl, f_listt, f_lists, f_tupl, f_tupt, f_all, f_any, a_lst, a_int, asg_v, asg_l, asg_t, asgs_nil, asgs_cons, put_nm, put_tp, puts_nil, puts_cons, c_lt, c_le, c_gt, c_ge, List.map_cons, List.map_nil, List.length_cons, List.length_nil, List.replicate, List.append_nil, List.cons_append, List.nil_append, if_true, if_false, Bool.false_eq_true, Bool.not_false, Bool.not_true, Nat.reduceAdd, Nat.reduceSub, Nat.reduceLT, ev_turn1, ev_turn2, ev_condN, lc_nil, lc_cons, lc2_nil, lc2_cons, optC_some, optC_none, frzR_eq, noX_ok, wipeE, backE, noOwn, List.all_cons, List.all_nil, str_eq, String.reduceEq, eq_self, Int.cast_ofNat_Int, Int.reduceLE, Int.reduceLT, Int.reduceSub, Int.reduceAdd, Int.reduceEq, Int.natCast_add, Int.reduceNeg, Int.natCast_zero, decide_true, decide_false, Bool.and_true, Bool.and_false, Bool.true_and, Bool.false_and, Bool.or_false, Bool.false_or, Bool.or_true, Bool.true_or, Bool.and_self, Bool.not_eq_true, not_true_eq_false, not_false_eq_true, and_self, and_true, true_and, and_false, false_and, reduceIte, io0, io1, io2, io3, io4, io5, io6, io7, io8, io9, io10, io11, io12, io13, io14, io15, io16, io17, io18, io19, io20, io21, io22, io23, io24, io25, io26, io27, io28, io29, io30, io31, io32, io33, io34, io35, io36, io37, io38, io39, io40, io41, io42, io43, io44, io45, io46, io47, io48, io49, io50, io51, io52, io53, io54, io55, io56, io57, io58, io59, io60, io61, io62, io63, io64, io65] $[$loc]?)
/-! the plain law, part 1: the small defs -/
theorem is_whole (k : Nat) (v lo hi : Int) : callF T (k+1) 23 [.val (.int v), .val (.int lo), .val (.int hi)] = .ok (.val (.bool (decide (lo ≤ v) && decide (v ≤ hi))), .emp) := by
  rw [ev_call (fd := f23) rfl rfl]
  simp! [f23, m23]
  try rfl
theorem is_tuple_of (k : Nat) (ds : List PyData) (lo hi : Int) : callF T (k+1) 22 [.val (.tuple ds), .val (.int lo), .val (.int hi)] = .ok (.val (.bool (decide (lo ≤ ds.length) && decide ((ds.length : Int) ≤ hi))), .emp) := by
  rw [ev_call (fd := f22) rfl rfl]
  simp! [f22, m22]
  try rfl
theorem is_cell (k : Nat) (v : Int) : callF T (k+2) 61 [.val (.int v)] = .ok (.val (.bool (decide (0 ≤ v) && decide (v ≤ 3))), .emp) := by
  rw [ev_call (fd := f61) rfl rfl]
  simp! [f61, m61, is_whole]
  try rfl
end
end K48

set_option Elab.async false
set_option linter.all false
set_option maxRecDepth 100000
set_option maxHeartbeats 4000000
namespace K48
open PySem Mi
section
local macro_rules
  | `(tactic| simp! [$xs,*] $[$loc]?) => `(tactic| simp -implicitDefEqProofs only [$xs,*, ev_var, ev_and, ev_or, ev_chn, ev_ite, ev_iff, ev_while, ev_for, ev_forN, ev_lc, ev_lc2, ev_cons, ev_nil, ev_cst, ev_gbl, ev_tup, ev_lst, ev_sub, ev_slc, ev_op2, ev_neg, ev_not, ev_cmp, ev_callE, ev_blt, ev_isi, ev_trg, ev_app, ev_pop, ev_nilA, ev_consA, ev_nilF, ev_consF, ev_nilM, ev_consM, ev_seq, ev_rng1, ev_enm, ev_zip, ev_asg, ev_par, ev_exp, ev_aug, ev_sti, ev_popAt, someS_lst, someS_val, onS_lst, ev_ret, ev_rse, ok_bind, exn_bind, stk_bind, pure_ok, varR_val, varR_lst, seeB_val, see_val, see_lst, see_slot, slotSee_lst, slotSee_val, frz_val', frz_lst', frz_slot, slotFrz_lst, slotFrz_val, bool1_bool, int1_int, optInt_no, optInt_yes, ME.isNop, onL_lst, settle_val, settle_lst, settle_slot, mv_val, mv_lst, mv_slot, thenB_nx, thenB_rt, thenB_bk, thenB_ct, loopK_nx, loopK_ct, loopK_bk, loopK_rt, endF_rt, endF_nx, ioS_no, ioS_lst, retA_val, retA_lst, retA_slot, call_no, call_io, args_nil, args_cons, seeAll_nil, seeAll_cons, ite_and, ite_or, Mi.get, put, fill, Slot.own, seqOf_list, seqOf_tuple, sub_tup, sub_lst, b_add, b_addb, b_sub, b_addt, b_addl, s_tup, s_lst, i_int, i_intb, i_intt, i_ints, i_bool, i_booli, i_boolt, i_str, i_stri, i_strt, i_tup, i_tupi, i_tups, i_lst, i_lstt, i_lsti, i_lsts, i_non, f_lenl, f_lent, f_int, f_intb, f_listl, f_listt, f_lists, f_tupl, f_tupt, f_all, f_any, a_lst, a_int, asg_v, asg_l, asg_t, asgs_nil, asgs_cons, put_nm, put_tp, puts_nil, puts_cons, c_lt, c_le, c_gt, c_ge, List.map_cons, List.map_nil, List.length_cons, List.length_nil, List.replicate, List.append_nil, List.cons_append, List.nil_append, if_true, if_false, Bool.false_eq_true, Bool.not_false, Bool.not_true, Nat.reduceAdd, Nat.reduceSub, Nat.reduceLT, ev_turn1, ev_turn2, ev_condN, lc_nil, lc_cons, lc2_nil, lc2_cons, optC_some, optC_none, frzR_eq, noX_ok, wipeE, backE, noOwn, List.all_cons, List.all_nil, str_eq, String.reduceEq, eq_self, Int.cast_ofNat_Int, Int.reduceLE, Int.reduceLT, Int.reduceSub, Int.reduceAdd, Int.reduceEq, Int.natCast_add, Int.reduceNeg, Int.natCast_zero, decide_true, decide_false, Bool.and_true, Bool.and_false, Bool.true_and, Bool.false_and, Bool.or_false, Bool.false_or, Bool.or_true, Bool.true_or, Bool.and_self, Bool.not_eq_true, not_true_eq_false, not_false_eq_true, and_self, and_true, true_and, and_false, false_and, reduceIte, io0, io1, io2, io3, io4, io5, io6, io7, io8, io9, io10, io11, io12, io13, io14, io15, io16, io17, io18, io19, io20, io21, io22, io23, io24, io25, io26, io27, io28, io29, io30, io31, io32, io33, io34, io35, io36, io37, io38, io39, io40, io41, io42, io43, io44, io45, io46, io47, io48, io49, io50, io51, io52, io53, io54, io55, io56, io57, io58, io59, io60, io61, io62, io63, io64, io65] $[$loc]?)
/-! the plain law, part 2: texts -/
theorem eq_str (a b : Str) : cmp2 .Eq (.str a) (.str b) = .ok (decide (a = b)) := by
  simp [cmp2, dataEq, PyData.plain, PyData.depth, PyData.eqv]
  try rfl
theorem ne_str (a b : Str) : cmp2 .NotEq (.str a) (.str b) = .ok (!decide (a = b)) := by
  simp [cmp2, dataEq, PyData.plain, PyData.depth, PyData.eqv]
  try rfl
theorem plain_strs : ∀ l : List Str, PyData.plainAll (l.map .str) = true
  | [] => rfl
  | a :: r => by
    simp only [List.map_cons, PyData.plainAll, PyData.plain, plain_strs r, Bool.and_self]
theorem in_strs (a : Str) (l : List Str) : dataIn (.str a) (.tuple (l.map .str)) = .ok (l.any fun b => decide (b = a)) := by
  have h : (l.map PyData.str).any (fun z => PyData.eqv z (.str a)) = l.any fun b => decide (b = a) := by
    induction l with
    | nil => rfl
    | cons b r ih =>
      simp only [List.map_cons, List.any_cons, ih, PyData.eqv]
      rfl
  unfold dataIn
  simp [PyData.plain, plain_strs, PyData.depth, h]
theorem item_nat {ds : List PyData} {d : PyData} (i : Nat) (h : ds[i]? = some d) : itemAt ds (i : Int) = .ok d := by
  have hi : i < ds.length := (List.getElem?_eq_some_iff.mp h).1
  have e : ixAt ds.length (i : Int) = some i := by
    unfold ixAt
    rw [if_pos (Int.natCast_nonneg i), if_pos (by omega)]
    simp
  unfold itemAt
  rw [e]
  simp only [h]
theorem item0 (d : PyData) (r : List PyData) : itemAt (d :: r) 0 = .ok d := item_nat 0 rfl
theorem item1 (a d : PyData) (r : List PyData) : itemAt (a :: d :: r) 1 = .ok d := item_nat 1 rfl
theorem item2 (a b d : PyData) (r : List PyData) : itemAt (a :: b :: d :: r) 2 = .ok d := item_nat 2 rfl
theorem item3 (a b e d : PyData) (r : List PyData) : itemAt (a :: b :: e :: d :: r) 3 = .ok d := item_nat 3 rfl
theorem in_2 (a x y : Str) : cmp2 .In (.str a) (.tuple [.str x, .str y]) = .ok (decide (x = a) || decide (y = a)) := by
  have := in_strs a [x, y]
  simpa [cmp2] using this
theorem in_3 (a x y z : Str) : cmp2 .In (.str a) (.tuple [.str x, .str y, .str z]) = .ok (decide (x = a) || (decide (y = a) || decide (z = a))) := by
  have := in_strs a [x, y, z]
  simpa [cmp2] using this
theorem in_5 (a x y z u v : Str) : cmp2 .In (.str a) (.tuple [.str x, .str y, .str z, .str u, .str v]) = .ok (decide (x = a) || (decide (y = a) || (decide (z = a) || (decide (u = a) || decide (v = a))))) := by
  have := in_strs a [x, y, z, u, v]
  simpa [cmp2] using this
def isAcc (w : Str) : Bool := decide (("read" : Str) = w) || (decide (("write" : Str) = w) || (decide (("swap" : Str) = w) || (decide (("add" : Str) = w) || decide (("try" : Str) = w))))
theorem is_access (k : Nat) (w : Str) (r : List PyData) : callF T (k+1) 41 [.val (.tuple (.str w :: r))] = .ok (.val (.bool (isAcc w)), .emp) := by
  rw [ev_call (fd := f41) rfl rfl]
  simp! [f41, m41, item0, in_2, in_3]
  simp only [isAcc, Bool.or_assoc]
theorem law_is_access (k : Nat) (w : Str) (r : List PyData) : callF T (k+1) 29 [.val (.tuple (.str w :: r))] = .ok (.val (.bool (isAcc w)), .emp) := by
  rw [ev_call (fd := f29) rfl rfl]
  simp! [f29, m29, item0, in_5]
  try rfl
end
end K48

set_option Elab.async false
set_option linter.all false
set_option maxRecDepth 100000
set_option maxHeartbeats 4000000
namespace K48
open PySem Mi
section
local macro_rules
  | `(tactic| simp! [$xs,*] $[$loc]?) => `(tactic| simp -implicitDefEqProofs only [$xs,*, ev_var, ev_and, ev_or, ev_chn, ev_ite, ev_iff, ev_while, ev_for, ev_forN, ev_lc, ev_lc2, ev_cons, ev_nil, ev_cst, ev_gbl, ev_tup, ev_lst, ev_sub, ev_slc, ev_op2, ev_neg, ev_not, ev_cmp, ev_callE, ev_blt, ev_isi, ev_trg, ev_app, ev_pop, ev_nilA, ev_consA, ev_nilF, ev_consF, ev_nilM, ev_consM, ev_seq, ev_rng1, ev_enm, ev_zip, ev_asg, ev_par, ev_exp, ev_aug, ev_sti, ev_popAt, someS_lst, someS_val, onS_lst, ev_ret, ev_rse, ok_bind, exn_bind, stk_bind, pure_ok, varR_val, varR_lst, seeB_val, see_val, see_lst, see_slot, slotSee_lst, slotSee_val, frz_val', frz_lst', frz_slot, slotFrz_lst, slotFrz_val, bool1_bool, int1_int, optInt_no, optInt_yes, ME.isNop, onL_lst, settle_val, settle_lst, settle_slot, mv_val, mv_lst, mv_slot, thenB_nx, thenB_rt, thenB_bk, thenB_ct, loopK_nx, loopK_ct, loopK_bk, loopK_rt, endF_rt, endF_nx, ioS_no, ioS_lst, retA_val, retA_lst, retA_slot, call_no, call_io, args_nil, args_cons, seeAll_nil, seeAll_cons, ite_and, ite_or, Mi.get, put, fill, Slot.own, seqOf_list, seqOf_tuple, sub_tup, sub_lst, b_add, b_addb, b_sub, b_addt, b_addl, s_tup, s_lst, i_int, i_intb, i_intt, i_ints, i_bool, i_booli, i_boolt, i_str, i_stri, i_strt, i_tup, i_tupi, i_tups, i_lst, i_lstt, i_lsti, i_lsts, i_non, f_lenl, f_lent, f_int, f_intb, f_listl, f_listt, f_lists, f_tupl, f_tupt, f_all, f_any, a_lst, a_int, asg_v, asg_l, asg_t, asgs_nil, asgs_cons, put_nm, put_tp, puts_nil, puts_cons, c_lt, c_le, c_gt, c_ge, List.map_cons, List.map_nil, List.length_cons, List.length_nil, List.replicate, List.append_nil, List.cons_append, List.nil_append, if_true, if_false, Bool.false_eq_true, Bool.not_false, Bool.not_true, Nat.reduceAdd, Nat.reduceSub, Nat.reduceLT, ev_turn1, ev_turn2, ev_condN, lc_nil, lc_cons, lc2_nil, lc2_cons, optC_some, optC_none, frzR_eq, noX_ok, wipeE, backE, noOwn, List.all_cons, List.all_nil, str_eq, String.reduceEq, eq_self, Int.cast_ofNat_Int, Int.reduceLE, Int.reduceLT, Int.reduceSub, Int.reduceAdd, Int.reduceEq, Int.natCast_add, Int.reduceNeg, Int.natCast_zero, decide_true, decide_false, Bool.and_true, Bool.and_false, Bool.true_and, Bool.false_and, Bool.or_false, Bool.false_or, Bool.or_true, Bool.true_or, Bool.and_self, Bool.not_eq_true, not_true_eq_false, not_false_eq_true, and_self, and_true, true_and, and_false, false_and, reduceIte, io0, io1, io2, io3, io4, io5, io6, io7, io8, io9, io10, io11, io12, io13, io14, io15, io16, io17, io18, io19, io20, io21, io22, io23, io24, io25, io26, io27, io28, io29, io30, io31, io32, io33, io34, io35, io36, io37, io38, io39, io40, io41, io42, io43, io44, io45, io46, io47, io48, io49, io50, io51, io52, io53, io54, io55, io56, io57, io58, io59, io60, io61, io62, io63, io64, io65] $[$loc]?)
/-! the plain law, part 3: expressions -/
inductive Ex where
  | num (n : Int) | reg (n : Int) | op (w : Str) (a b : Ex)
def Ex.d : Ex → PyData
  | .num n => .tuple [.str "num", .int n]
  | .reg n => .tuple [.str "reg", .int n]
  | .op w a b => .tuple [.str w, a.d, b.d]
def isW (w : Str) : Bool := decide (("plus" : Str) = w) || (decide (("minus" : Str) = w) || (decide (("times" : Str) = w) || (decide (("same" : Str) = w) || decide (("less" : Str) = w))))
/-- fits, with so many levels left -/
def Ex.Ok : Ex → Int → Prop
  | .num v, n => 1 ≤ n ∧ 0 ≤ v ∧ v ≤ 15
  | .reg v, n => 1 ≤ n ∧ 0 ≤ v ∧ v ≤ 2
  | .op w a b, n => 1 ≤ n ∧ isW w = true ∧ a.Ok (n - 1) ∧ b.Ok (n - 1)
def Ex.size : Ex → Nat
  | .num _ => 1
  | .reg _ => 1
  | .op _ a b => a.size + b.size + 1
theorem Ex.plain : ∀ e : Ex, e.d.plain = true
  | .num n => rfl
  | .reg n => rfl
  | .op w a b => by
    simp only [Ex.d, PyData.plain, PyData.plainAll, a.plain, b.plain, Bool.and_self]
theorem ne_nil {xs : List PyData} (h : PyData.plainAll xs = true) : cmp2 .NotEq (.list xs) (.list []) = .ok (!xs.isEmpty) := by
  simp only [cmp2, dataEq]
  have h1 : (PyData.list xs).plain = true := by simpa only [PyData.plain] using h
  have h2 : min (PyData.list xs).depth (PyData.list []).depth ≤ 100 := by
    have : (PyData.list ([] : List PyData)).depth ≤ 100 := by decide
    omega
  rw [h1]
  simp only [PyData.plain, PyData.plainAll, Bool.true_and, h2, decide_true, if_true, ok_bind, pure_ok]
  cases xs <;> rfl
theorem neq_int (a b : Int) : cmp2 .NotEq (.int a) (.int b) = .ok (!decide (a = b)) := by
  simp [cmp2, dataEq, PyData.plain, PyData.depth, PyData.eqv]
  rfl
theorem eq_int (a b : Int) : cmp2 .Eq (.int a) (.int b) = .ok (decide (a = b)) := by
  simp [cmp2, dataEq, PyData.plain, PyData.depth, PyData.eqv]
  rfl
theorem nin_2 (a x y : Str) : cmp2 .NotIn (.str a) (.tuple [.str x, .str y]) = .ok (!(decide (x = a) || decide (y = a))) := by
  have := in_strs a [x, y]
  simp only [List.map_cons, List.map_nil, List.any_cons, List.any_nil, Bool.or_false] at this
  simp only [cmp2, this, ok_bind, pure_ok]
def wd (p : Ex × Int) : PyData := .tuple [p.1.d, .int p.2]
theorem wd_plain : ∀ ws : List (Ex × Int), PyData.plainAll (ws.map wd) = true
  | [] => rfl
  | p :: r => by
    simp only [List.map_cons, PyData.plainAll, wd, PyData.plain, Ex.plain, wd_plain r, Bool.and_self]
/-- the loop's body and test -/
def lt34 : ME := match m63 with
  | .cons _ (.cons (.whl t _) _) => t
  | _ => .nop
def lb34 : MB := match m63 with
  | .cons _ (.cons (.whl _ b) _) => b
  | _ => .nil
def total (ws : List (Ex × Int)) : Nat := (ws.map fun p => p.1.size).sum
theorem pop_end (ds : List PyData) (d : PyData) : (ds ++ [d])[(ds ++ [d]).length - 1]? = some d := by simp
theorem size_pos (e : Ex) : 1 ≤ e.size := by cases e <;> simp [Ex.size]
theorem total_cat (L : List (Ex × Int)) (p : Ex × Int) : total (L ++ [p]) = total L + p.1.size := by simp [total]
theorem gt_no {d : Int} (h : d ≤ 4) : decide (4 < d) = false := by
  rw [decide_eq_false_iff_not]
  omega
theorem is_str_w (w : Str) : isTy (.str w) .str = .ok true := rfl
theorem len_total : ∀ ws : List (Ex × Int), ws.length ≤ total ws
  | [] => Nat.le_refl _
  | p :: r => by
    have h1 := size_pos p.1
    have h2 := len_total r
    simp only [total, List.map_cons, List.sum_cons, List.length_cons] at h2 ⊢
    omega
theorem loop34 (k m : Nat) : ∀ (n : Nat) (ws : List (Ex × Int)), total ws ≤ n → n ≤ 500 → (∀ p ∈ ws, p.1.Ok (5 - p.2)) → ∀ v s1 s3 s4, ∃ s1' s3' s4', whlT ⟨ioOf T, callF T (k + 2)⟩ loops none lt34 lb34 (m + n + 1) [v, s1, .lst (ws.map wd), s3, s4] = .ok ([v, s1', .lst [], s3', s4'], .nx) := by
  intro n
  induction n with
  | zero =>
    intro ws hn hlen ok v s1 s3 s4
    have hw : ws = [] := by
      cases ws with
      | nil => rfl
      | cons p r =>
        have := size_pos p.1
        simp [total] at hn
        omega
    subst hw
    refine ⟨s1, s3, s4, ?_⟩
    rw [ev_whl]
    simp! [lt34, t63_0, l63_0_2, l63_0_1, l63_0, m63_2, m63_1, m63, List.map_nil, ne_nil (xs := []) rfl]
    rfl
  | succ n ih =>
    intro ws hn hlen ok v s1 s3 s4
    rcases List.eq_nil_or_concat ws with rfl | ⟨L, p, rfl⟩
    · refine ⟨s1, s3, s4, ?_⟩
      rw [ev_whl]
      simp! [lt34, t63_0, l63_0_2, l63_0_1, l63_0, m63_2, m63_1, m63, List.map_nil, ne_nil (xs := []) rfl]
      rfl
    · obtain ⟨e, d⟩ := p
      rw [List.concat_eq_append] at *
      have hp := ok (e, d) (by simp)
      have hL : ∀ p ∈ L, p.1.Ok (5 - p.2) := fun p h => ok p (by simp [h])
      have e1 : (L ++ [(e, d)]).map wd = L.map wd ++ [wd (e, d)] := by simp
      have hpl : PyData.plainAll (L.map wd ++ [wd (e, d)]) = true := by rw [← e1]; exact wd_plain _
      have hne : (L.map wd ++ [wd (e, d)]).isEmpty = false := by cases L <;> rfl
      have htot := total_cat L (e, d)
      rw [e1, ev_whl, show m + (n + 1) = m + n + 1 from rfl]
      cases e with
      | num x =>
        obtain ⟨h1, h2, h3⟩ := hp
        obtain ⟨s1', s3', s4', g⟩ := ih L (by simp [Ex.size] at htot; omega) (by omega) hL v (.val (.int d)) (.val (.int 16)) (.val (Ex.num x).d)
        refine ⟨s1', s3', s4', ?_⟩
        rw [← g]
        simp only [wd, Ex.d] at hpl hne
        simp! [lt34, lb34, t63_0, l63_0_2, l63_0_1, l63_0, m63_2, m63_1, m63, ne_nil hpl, hne, wd, Ex.d, pop_end, List.dropLast_concat, gt_no (show d ≤ 4 by omega), is_tuple_of, is_whole, item0, item1, eq_str, eq_int, nin_2, h2, h3]
      | reg x =>
        obtain ⟨h1, h2, h3⟩ := hp
        obtain ⟨s1', s3', s4', g⟩ := ih L (by simp [Ex.size] at htot; omega) (by omega) hL v (.val (.int d)) (.val (.int 3)) (.val (Ex.reg x).d)
        refine ⟨s1', s3', s4', ?_⟩
        rw [← g]
        simp only [wd, Ex.d] at hpl hne
        simp! [lt34, lb34, t63_0, l63_0_2, l63_0_1, l63_0, m63_2, m63_1, m63, ne_nil hpl, hne, wd, Ex.d, pop_end, List.dropLast_concat, gt_no (show d ≤ 4 by omega), is_tuple_of, is_whole, item0, item1, eq_str, eq_int, nin_2, h2, h3]
      | op w a b =>
        obtain ⟨h1, hw, ha, hb⟩ := hp
        have hz : (List.map wd L).length + 2 ≤ big := by
          rw [List.length_map]
          have := len_total L
          exact Nat.le_trans (show L.length + 2 ≤ 1000 by omega) (by decide)
        obtain ⟨s1', s3', s4', g⟩ := ih (L ++ [(a, d + 1), (b, d + 1)]) (by simp [total, Ex.size] at htot hn ⊢; omega) (by omega) (fun p hp => by
          rcases List.mem_append.mp hp with h | h
          · exact hL p h
          · simp at h
            rcases h with rfl | rfl
            · have e : (5 : Int) - (d + 1) = 5 - d - 1 := by omega
              show a.Ok (5 - (d + 1))
              rw [e]
              exact ha
            · have e : (5 : Int) - (d + 1) = 5 - d - 1 := by omega
              show b.Ok (5 - (d + 1))
              rw [e]
              exact hb) v (.val (.int d)) s3 (.val (Ex.op w a b).d)
        refine ⟨s1', s3', s4', ?_⟩
        rw [← g]
        simp only [wd, Ex.d] at hpl hne
        simp only [isW] at hw
        simp! [lt34, lb34, t63_0, l63_0_2, l63_0_1, l63_0, m63_2, m63_1, m63, ne_nil hpl, hne, wd, Ex.d, pop_end, List.dropLast_concat, gt_no (show d ≤ 4 by omega), is_tuple_of, is_whole, item0, item1, item2, eq_str, eq_int, nin_2, in_5, hw, hz, List.map_append]
theorem fits_expression (k : Nat) (e : Ex) (h : e.Ok 4) (hs : e.size ≤ 500) : callF T (k + 3) 63 [.val e.d] = .ok (.val (.bool true), .emp) := by
  have hl : loops = (999999 - e.size) + e.size + 1 := by
    unfold loops
    omega
  obtain ⟨s1', s3', s4', g⟩ := loop34 k (999999 - e.size) e.size [(e, 1)] (by simp [total]) hs (fun p hp => by
    rw [List.mem_singleton.mp hp]
    exact h) (.val e.d) .emp .emp .emp
  rw [← hl] at g
  rw [ev_call (fd := f63) rfl rfl]
  simp only [lt34, lb34, t63_0, l63_0_2, l63_0_1, l63_0, m63_2, m63_1, m63, List.map_cons, List.map_nil, wd] at g
  simp! [f63, t63_0, l63_0_2, l63_0_1, l63_0, m63_2, m63_1, m63, g]
end
end K48

set_option Elab.async false
set_option linter.all false
set_option maxRecDepth 100000
set_option maxHeartbeats 4000000
namespace K48
open PySem Mi
section
local macro_rules
  | `(tactic| simp! [$xs,*] $[$loc]?) => `(tactic| simp -implicitDefEqProofs only [$xs,*, ev_var, ev_and, ev_or, ev_chn, ev_ite, ev_iff, ev_while, ev_for, ev_forN, ev_lc, ev_lc2, ev_cons, ev_nil, ev_cst, ev_gbl, ev_tup, ev_lst, ev_sub, ev_slc, ev_op2, ev_neg, ev_not, ev_cmp, ev_callE, ev_blt, ev_isi, ev_trg, ev_app, ev_pop, ev_nilA, ev_consA, ev_nilF, ev_consF, ev_nilM, ev_consM, ev_seq, ev_rng1, ev_enm, ev_zip, ev_asg, ev_par, ev_exp, ev_aug, ev_sti, ev_popAt, someS_lst, someS_val, onS_lst, ev_ret, ev_rse, ok_bind, exn_bind, stk_bind, pure_ok, varR_val, varR_lst, seeB_val, see_val, see_lst, see_slot, slotSee_lst, slotSee_val, frz_val', frz_lst', frz_slot, slotFrz_lst, slotFrz_val, bool1_bool, int1_int, optInt_no, optInt_yes, ME.isNop, onL_lst, settle_val, settle_lst, settle_slot, mv_val, mv_lst, mv_slot, thenB_nx, thenB_rt, thenB_bk, thenB_ct, loopK_nx, loopK_ct, loopK_bk, loopK_rt, endF_rt, endF_nx, ioS_no, ioS_lst, retA_val, retA_lst, retA_slot, call_no, call_io, args_nil, args_cons, seeAll_nil, seeAll_cons, ite_and, ite_or, Mi.get, put, fill, Slot.own, seqOf_list, seqOf_tuple, sub_tup, sub_lst, b_add, b_addb, b_sub, b_addt, b_addl, s_tup, s_lst, i_int, i_intb, i_intt, i_ints, i_bool, i_booli, i_boolt, i_str, i_stri, i_strt, i_tup, i_tupi, i_tups, i_lst, i_lstt, i_lsti, i_lsts, i_non, f_lenl, f_lent, f_int, f_intb, f_listl, f_listt, f_lists, f_tupl, f_tupt, f_all, f_any, a_lst, a_int, asg_v, asg_l, asg_t, asgs_nil, asgs_cons, put_nm, put_tp, puts_nil, puts_cons, c_lt, c_le, c_gt, c_ge, List.map_cons, List.map_nil, List.length_cons, List.length_nil, List.replicate, List.append_nil, List.cons_append, List.nil_append, if_true, if_false, Bool.false_eq_true, Bool.not_false, Bool.not_true, Nat.reduceAdd, Nat.reduceSub, Nat.reduceLT, ev_turn1, ev_turn2, ev_condN, lc_nil, lc_cons, lc2_nil, lc2_cons, optC_some, optC_none, frzR_eq, noX_ok, wipeE, backE, noOwn, List.all_cons, List.all_nil, str_eq, String.reduceEq, eq_self, Int.cast_ofNat_Int, Int.reduceLE, Int.reduceLT, Int.reduceSub, Int.reduceAdd, Int.reduceEq, Int.natCast_add, Int.reduceNeg, Int.natCast_zero, decide_true, decide_false, Bool.and_true, Bool.and_false, Bool.true_and, Bool.false_and, Bool.or_false, Bool.false_or, Bool.or_true, Bool.true_or, Bool.and_self, Bool.not_eq_true, not_true_eq_false, not_false_eq_true, and_self, and_true, true_and, and_false, false_and, reduceIte, io0, io1, io2, io3, io4, io5, io6, io7, io8, io9, io10, io11, io12, io13, io14, io15, io16, io17, io18, io19, io20, io21, io22, io23, io24, io25, io26, io27, io28, io29, io30, io31, io32, io33, io34, io35, io36, io37, io38, io39, io40, io41, io42, io43, io44, io45, io46, io47, io48, io49, io50, io51, io52, io53, io54, io55, io56, io57, io58, io59, io60, io61, io62, io63, io64, io65] $[$loc]?)
/-! the plain law, part 4: statements -/
mutual
inductive St where
  | fence
  | set (r : Int) (e : Ex)
  | need (e : Ex)
  | wr (c : Int) (m : Str) (e : Ex)
  | rd (r c : Int) (m : Str)
  | xch (w : Str) (r c : Int) (e : Ex)
  | tr (r c : Int) (a b : Ex)
  | ifs (e : Ex) (y n : Bk)
inductive Bk where
  | nil | cons (s : St) (r : Bk)
end
mutual
def St.d : St → PyData
  | .fence => .tuple [.str "fence"]
  | .set r e => .tuple [.str "set", .int r, e.d]
  | .need e => .tuple [.str "need", e.d]
  | .wr c m e => .tuple [.str "write", .int c, .str m, e.d]
  | .rd r c m => .tuple [.str "read", .int r, .int c, .str m]
  | .xch w r c e => .tuple [.str w, .int r, .int c, e.d]
  | .tr r c a b => .tuple [.str "try", .int r, .int c, a.d, b.d]
  | .ifs e y n => .tuple [.str "if", e.d, .tuple y.ds, .tuple n.ds]
def Bk.ds : Bk → List PyData
  | .nil => []
  | .cons s r => s.d :: r.ds
end
def eOk (e : Ex) : Prop := e.Ok 4 ∧ e.size ≤ 500
def rOk (r : Int) : Prop := 0 ≤ r ∧ r ≤ 2
def cOk (r : Int) : Prop := 0 ≤ r ∧ r ≤ 3
def isWm (m : Str) : Bool := decide (("plain" : Str) = m) || (decide (("release" : Str) = m) || decide (("strong" : Str) = m))
def isRm (m : Str) : Bool := decide (("plain" : Str) = m) || (decide (("acquire" : Str) = m) || decide (("strong" : Str) = m))
def isXw (w : Str) : Prop := w = "swap" ∨ w = "add"
mutual
def St.Ok : St → Prop
  | .fence => True
  | .set r e => rOk r ∧ eOk e
  | .need e => eOk e
  | .wr c m e => cOk c ∧ isWm m = true ∧ eOk e
  | .rd r c m => rOk r ∧ cOk c ∧ isRm m = true
  | .xch w r c e => isXw w ∧ rOk r ∧ cOk c ∧ eOk e
  | .tr r c a b => rOk r ∧ cOk c ∧ eOk a ∧ eOk b
  | .ifs e y n => eOk e ∧ y.Ok ∧ n.Ok ∧ y.ds.length ≤ 12 ∧ n.ds.length ≤ 12
def Bk.Ok : Bk → Prop
  | .nil => True
  | .cons s r => s.Ok ∧ r.Ok
end
def St.acc : St → Bool
  | .wr _ _ _ => true
  | .rd _ _ _ => true
  | .xch _ _ _ _ => true
  | .tr _ _ _ _ => true
  | _ => false
theorem is_register (k : Nat) (v : Int) : callF T (k+2) 64 [.val (.int v)] = .ok (.val (.bool (decide (0 ≤ v) && decide (v ≤ 2))), .emp) := by
  rw [ev_call (fd := f64) rfl rfl]
  simp! [f64, m64, is_whole]
theorem is_word3 (k : Nat) (a x y z : Str) : callF T (k+1) 62 [.val (.str a), .val (.tuple [.str x, .str y, .str z])] = .ok (.val (.bool (decide (x = a) || (decide (y = a) || decide (z = a)))), .emp) := by
  rw [ev_call (fd := f62) rfl rfl]
  simp! [f62, m62, in_3]
theorem xch_acc {w : Str} (h : isXw w) : isAcc w = true := by
  rcases h with rfl | rfl <;> simp! [isAcc]
theorem acc_of (k : Nat) (s : St) (h : s.Ok) : callF T (k+1) 41 [.val s.d] = .ok (.val (.bool s.acc), .emp) := by
  cases s with
  | xch w r c e =>
    obtain ⟨hw, _⟩ := h
    simp only [St.d]
    rw [is_access, xch_acc hw]
    rfl
  | _ =>
    simp only [St.d]
    rw [is_access]
    simp! [isAcc, St.acc]
theorem law_acc_of (k : Nat) (s : St) (h : s.Ok) : callF T (k+1) 29 [.val s.d] = .ok (.val (.bool s.acc), .emp) := by
  cases s with
  | xch w r c e =>
    obtain ⟨hw, _⟩ := h
    simp only [St.d]
    rw [law_is_access, xch_acc hw]
    rfl
  | _ =>
    simp only [St.d]
    rw [law_is_access]
    simp! [isAcc, St.acc]
theorem fits_inner (k : Nat) (s : St) (h : s.Ok) (ha : s.acc = false) : callF T (k+4) 60 [.val s.d] = .ok (.val (.bool true), .emp) := by
  cases s with
  | fence =>
    rw [ev_call (fd := f60) rfl rfl]
    simp! [f60, m60_5, m60_4, m60_3, m60_2, m60_1, m60, St.d, item0, eq_str, eq_int]
  | set r e =>
    obtain ⟨⟨h1, h2⟩, h3, h4⟩ := h
    rw [ev_call (fd := f60) rfl rfl]
    simp! [f60, m60_5, m60_4, m60_3, m60_2, m60_1, m60, St.d, item0, item1, item2, eq_str, eq_int, is_register, h1, h2, fits_expression k e h3 h4]
  | need e =>
    obtain ⟨h3, h4⟩ := h
    rw [ev_call (fd := f60) rfl rfl]
    simp! [f60, m60_5, m60_4, m60_3, m60_2, m60_1, m60, St.d, item0, item1, item2, eq_str, eq_int, is_register, fits_expression k e h3 h4]
  | ifs e y n =>
    obtain ⟨⟨h3, h4⟩, _, _, h5, h6⟩ := h
    have h5' : ((y.ds.length : Int) ≤ 12) := by omega
    have h6' : ((n.ds.length : Int) ≤ 12) := by omega
    have h7 : (0 : Int) ≤ (y.ds.length : Int) := by omega
    have h8 : (0 : Int) ≤ (n.ds.length : Int) := by omega
    rw [ev_call (fd := f60) rfl rfl]
    simp! [f60, m60_5, m60_4, m60_3, m60_2, m60_1, m60, St.d, item0, item1, item2, item3, eq_str, ne_str, eq_int, neq_int, is_tuple_of, fits_expression k e h3 h4, h5', h6', h7, h8]
  | _ => cases ha
end
end K48

set_option Elab.async false
set_option linter.all false
set_option maxRecDepth 100000
set_option maxHeartbeats 4000000
namespace K48
open PySem Mi
section
local macro_rules
  | `(tactic| simp! [$xs,*] $[$loc]?) => `(tactic| simp -implicitDefEqProofs only [$xs,*, ev_var, ev_and, ev_or, ev_chn, ev_ite, ev_iff, ev_while, ev_for, ev_forN, ev_lc, ev_lc2, ev_cons, ev_nil, ev_cst, ev_gbl, ev_tup, ev_lst, ev_sub, ev_slc, ev_op2, ev_neg, ev_not, ev_cmp, ev_callE, ev_blt, ev_isi, ev_trg, ev_app, ev_pop, ev_nilA, ev_consA, ev_nilF, ev_consF, ev_nilM, ev_consM, ev_seq, ev_rng1, ev_enm, ev_zip, ev_asg, ev_par, ev_exp, ev_aug, ev_sti, ev_popAt, someS_lst, someS_val, onS_lst, ev_ret, ev_rse, ok_bind, exn_bind, stk_bind, pure_ok, varR_val, varR_lst, seeB_val, see_val, see_lst, see_slot, slotSee_lst, slotSee_val, frz_val', frz_lst', frz_slot, slotFrz_lst, slotFrz_val, bool1_bool, int1_int, optInt_no, optInt_yes, ME.isNop, onL_lst, settle_val, settle_lst, settle_slot, mv_val, mv_lst, mv_slot, thenB_nx, thenB_rt, thenB_bk, thenB_ct, loopK_nx, loopK_ct, loopK_bk, loopK_rt, endF_rt, endF_nx, ioS_no, ioS_lst, retA_val, retA_lst, retA_slot, call_no, call_io, args_nil, args_cons, seeAll_nil, seeAll_cons, ite_and, ite_or, Mi.get, put, fill, Slot.own, seqOf_list, seqOf_tuple, sub_tup, sub_lst, b_add, b_addb, b_sub, b_addt, b_addl, s_tup, s_lst, i_int, i_intb, i_intt, i_ints, i_bool, i_booli, i_boolt, i_str, i_stri, i_strt, i_tup, i_tupi, i_tups, i_lst, i_lstt, i_lsti, i_lsts, i_non, f_lenl, f_lent, f_int, f_intb, f_listl, f_listt, f_lists, f_tupl, f_tupt, f_all, f_any, a_lst, a_int, asg_v, asg_l, asg_t, asgs_nil, asgs_cons, put_nm, put_tp, puts_nil, puts_cons, c_lt, c_le, c_gt, c_ge, List.map_cons, List.map_nil, List.length_cons, List.length_nil, List.replicate, List.append_nil, List.cons_append, List.nil_append, if_true, if_false, Bool.false_eq_true, Bool.not_false, Bool.not_true, Nat.reduceAdd, Nat.reduceSub, Nat.reduceLT, ev_turn1, ev_turn2, ev_condN, lc_nil, lc_cons, lc2_nil, lc2_cons, optC_some, optC_none, frzR_eq, noX_ok, wipeE, backE, noOwn, List.all_cons, List.all_nil, str_eq, String.reduceEq, eq_self, Int.cast_ofNat_Int, Int.reduceLE, Int.reduceLT, Int.reduceSub, Int.reduceAdd, Int.reduceEq, Int.natCast_add, Int.reduceNeg, Int.natCast_zero, decide_true, decide_false, Bool.and_true, Bool.and_false, Bool.true_and, Bool.false_and, Bool.or_false, Bool.false_or, Bool.or_true, Bool.true_or, Bool.and_self, Bool.not_eq_true, not_true_eq_false, not_false_eq_true, and_self, and_true, true_and, and_false, false_and, reduceIte, io0, io1, io2, io3, io4, io5, io6, io7, io8, io9, io10, io11, io12, io13, io14, io15, io16, io17, io18, io19, io20, io21, io22, io23, io24, io25, io26, io27, io28, io29, io30, io31, io32, io33, io34, io35, io36, io37, io38, io39, io40, io41, io42, io43, io44, io45, io46, io47, io48, io49, io50, io51, io52, io53, io54, io55, io56, io57, io58, io59, io60, io61, io62, io63, io64, io65] $[$loc]?)
/-! the plain law, part 5: accesses, blocks -/
theorem cut4 (a b c d : PyData) : cut [a, b, c, d] (some 3) none = [d] := rfl
theorem cut5 (a b c d e : PyData) : cut [a, b, c, d, e] (some 3) none = [d, e] := rfl
theorem all1 : bltF .all [.list [.bool true]] = .ok (.val (.bool true)) := rfl
theorem all2 : bltF .all [.list [.bool true, .bool true]] = .ok (.val (.bool true)) := rfl
theorem fits_access (k : Nat) (s : St) (h : s.Ok) (ha : s.acc = true) : callF T (k+4) 59 [.val s.d] = .ok (.val (.bool true), .emp) := by
  cases s with
  | wr c m e =>
    obtain ⟨⟨h1, h2⟩, hm, h3, h4⟩ := h
    simp only [isWm] at hm
    rw [ev_call (fd := f59) rfl rfl]
    simp! [f59, ce59_0, m59_5, m59_4, m59_3, m59_2, m59_1, m59, St.d, item0, item1, item2, item3, eq_str, ne_str, eq_int, neq_int, is_cell, is_register, is_word3, fits_expression k e h3 h4, h1, h2, hm]
  | rd r c m =>
    obtain ⟨⟨h1, h2⟩, ⟨h3, h4⟩, hm⟩ := h
    simp only [isRm] at hm
    rw [ev_call (fd := f59) rfl rfl]
    simp! [f59, ce59_0, m59_5, m59_4, m59_3, m59_2, m59_1, m59, St.d, item0, item1, item2, item3, eq_str, ne_str, eq_int, neq_int, is_cell, is_register, is_word3, h1, h2, h3, h4, hm]
  | xch w r c e =>
    obtain ⟨hw, ⟨h1, h2⟩, ⟨h3, h4⟩, h5, h6⟩ := h
    rcases hw with rfl | rfl
    · rw [ev_call (fd := f59) rfl rfl]
      simp! [f59, ce59_0, m59_5, m59_4, m59_3, m59_2, m59_1, m59, St.d, item0, item1, item2, item3, eq_str, ne_str, eq_int, neq_int, is_cell, is_register, is_word3, fits_expression k e h5 h6, h1, h2, h3, h4, cut4, all1]
    · rw [ev_call (fd := f59) rfl rfl]
      simp! [f59, ce59_0, m59_5, m59_4, m59_3, m59_2, m59_1, m59, St.d, item0, item1, item2, item3, eq_str, ne_str, eq_int, neq_int, is_cell, is_register, is_word3, fits_expression k e h5 h6, h1, h2, h3, h4, cut4, all1]
  | tr r c a b =>
    obtain ⟨⟨h1, h2⟩, ⟨h3, h4⟩, ⟨h5, h6⟩, h7, h8⟩ := h
    rw [ev_call (fd := f59) rfl rfl]
    simp! [f59, ce59_0, m59_5, m59_4, m59_3, m59_2, m59_1, m59, St.d, item0, item1, item2, item3, eq_str, ne_str, eq_int, neq_int, is_cell, is_register, is_word3, fits_expression k a h5 h6, fits_expression k b h7 h8, h1, h2, h3, h4, cut5, all2]
  | _ => cases ha
/-- the inner blocks of a statement -/
def St.inner : St → List PyData
  | .ifs _ y n => [.tuple y.ds, .tuple n.ds]
  | _ => []
theorem blocks_of (k : Nat) (s : St) (h : s.Ok) : callF T (k+1) 57 [.val s.d] = .ok (.lst s.inner, .emp) := by
  cases s with
  | xch w r c e =>
    obtain ⟨hw, _⟩ := h
    rcases hw with rfl | rfl
    · rw [ev_call (fd := f57) rfl rfl]
      simp! [f57, m57, St.d, item0, item2, item3, eq_str, St.inner]
    · rw [ev_call (fd := f57) rfl rfl]
      simp! [f57, m57, St.d, item0, item2, item3, eq_str, St.inner]
  | _ =>
    rw [ev_call (fd := f57) rfl rfl]
    simp! [f57, m57, St.d, item0, item2, item3, eq_str, St.inner]
end
end K48

set_option Elab.async false
set_option linter.all false
set_option maxRecDepth 100000
set_option maxHeartbeats 4000000
namespace K48
open PySem Mi
section
local macro_rules
  | `(tactic| simp! [$xs,*] $[$loc]?) => `(tactic| simp -implicitDefEqProofs only [$xs,*, ev_var, ev_and, ev_or, ev_chn, ev_ite, ev_iff, ev_while, ev_for, ev_forN, ev_lc, ev_lc2, ev_cons, ev_nil, ev_cst, ev_gbl, ev_tup, ev_lst, ev_sub, ev_slc, ev_op2, ev_neg, ev_not, ev_cmp, ev_callE, ev_blt, ev_isi, ev_trg, ev_app, ev_pop, ev_nilA, ev_consA, ev_nilF, ev_consF, ev_nilM, ev_consM, ev_seq, ev_rng1, ev_enm, ev_zip, ev_asg, ev_par, ev_exp, ev_aug, ev_sti, ev_popAt, someS_lst, someS_val, onS_lst, ev_ret, ev_rse, ok_bind, exn_bind, stk_bind, pure_ok, varR_val, varR_lst, seeB_val, see_val, see_lst, see_slot, slotSee_lst, slotSee_val, frz_val', frz_lst', frz_slot, slotFrz_lst, slotFrz_val, bool1_bool, int1_int, optInt_no, optInt_yes, ME.isNop, onL_lst, settle_val, settle_lst, settle_slot, mv_val, mv_lst, mv_slot, thenB_nx, thenB_rt, thenB_bk, thenB_ct, loopK_nx, loopK_ct, loopK_bk, loopK_rt, endF_rt, endF_nx, ioS_no, ioS_lst, retA_val, retA_lst, retA_slot, call_no, call_io, args_nil, args_cons, seeAll_nil, seeAll_cons, ite_and, ite_or, Mi.get, put, fill, Slot.own, seqOf_list, seqOf_tuple, sub_tup, sub_lst, b_add, b_addb, b_sub, b_addt, b_addl, s_tup, s_lst, i_int, i_intb, i_intt, i_ints, i_bool, i_booli, i_boolt, i_str, i_stri, i_strt, i_tup, i_tupi, i_tups, i_lst, i_lstt, i_lsti, i_lsts, i_non, f_lenl, f_lent, f_int, f_intb, f_listl, f_listt, f_lists, f_tupl, f_tupt, f_all, f_any, a_lst, a_int, asg_v, asg_l, asg_t, asgs_nil, asgs_cons, put_nm, put_tp, puts_nil, puts_cons, c_lt, c_le, c_gt, c_ge, List.map_cons, List.map_nil, List.length_cons, List.length_nil, List.replicate, List.append_nil, List.cons_append, List.nil_append, if_true, if_false, Bool.false_eq_true, Bool.not_false, Bool.not_true, Nat.reduceAdd, Nat.reduceSub, Nat.reduceLT, ev_turn1, ev_turn2, ev_condN, lc_nil, lc_cons, lc2_nil, lc2_cons, optC_some, optC_none, frzR_eq, noX_ok, wipeE, backE, noOwn, List.all_cons, List.all_nil, str_eq, String.reduceEq, eq_self, Int.cast_ofNat_Int, Int.reduceLE, Int.reduceLT, Int.reduceSub, Int.reduceAdd, Int.reduceEq, Int.natCast_add, Int.reduceNeg, Int.natCast_zero, decide_true, decide_false, Bool.and_true, Bool.and_false, Bool.true_and, Bool.false_and, Bool.or_false, Bool.false_or, Bool.or_true, Bool.true_or, Bool.and_self, Bool.not_eq_true, not_true_eq_false, not_false_eq_true, and_self, and_true, true_and, and_false, false_and, reduceIte, io0, io1, io2, io3, io4, io5, io6, io7, io8, io9, io10, io11, io12, io13, io14, io15, io16, io17, io18, io19, io20, io21, io22, io23, io24, io25, io26, io27, io28, io29, io30, io31, io32, io33, io34, io35, io36, io37, io38, io39, io40, io41, io42, io43, io44, io45, io46, io47, io48, io49, io50, io51, io52, io53, io54, io55, io56, io57, io58, io59, io60, io61, io62, io63, io64, io65] $[$loc]?)
/-! the plain law, part 6: all statements of a block -/
mutual
theorem St.plain : ∀ s : St, s.d.plain = true
  | .fence => rfl
  | .set r e => by simp only [St.d, PyData.plain, PyData.plainAll, Ex.plain, Bool.and_self]
  | .need e => by simp only [St.d, PyData.plain, PyData.plainAll, Ex.plain, Bool.and_self]
  | .wr c m e => by simp only [St.d, PyData.plain, PyData.plainAll, Ex.plain, Bool.and_self]
  | .rd r c m => by simp only [St.d, PyData.plain, PyData.plainAll, Bool.and_self]
  | .xch w r c e => by simp only [St.d, PyData.plain, PyData.plainAll, Ex.plain, Bool.and_self]
  | .tr r c a b => by simp only [St.d, PyData.plain, PyData.plainAll, Ex.plain, Bool.and_self]
  | .ifs e y n => by simp only [St.d, PyData.plain, PyData.plainAll, Ex.plain, Bk.plain y, Bk.plain n, Bool.and_self]
theorem Bk.plain : ∀ b : Bk, PyData.plainAll b.ds = true
  | .nil => rfl
  | .cons s r => by simp only [Bk.ds, PyData.plainAll, St.plain s, Bk.plain r, Bool.and_self]
end
theorem sts_plain : ∀ ws : List St, PyData.plainAll (ws.map St.d) = true
  | [] => rfl
  | s :: r => by simp only [List.map_cons, PyData.plainAll, St.plain s, sts_plain r, Bool.and_self]
mutual
def St.flat : St → List St
  | .ifs e y n => .ifs e y n :: (y.flat ++ n.flat)
  | s => [s]
def Bk.flat : Bk → List St
  | .nil => []
  | .cons s r => s.flat ++ r.flat
end
def Bk.sts : Bk → List St
  | .nil => []
  | .cons s r => s :: r.sts
theorem Bk.ds_sts : ∀ b : Bk, b.ds = b.sts.map St.d
  | .nil => rfl
  | .cons s r => by simp only [Bk.ds, Bk.sts, List.map_cons, Bk.ds_sts r]
theorem Bk.flat_sts : ∀ b : Bk, b.flat = b.sts.flatMap St.flat
  | .nil => rfl
  | .cons s r => by simp only [Bk.flat, Bk.sts, List.flatMap_cons, Bk.flat_sts r]
theorem Bk.ok_sts : ∀ b : Bk, b.Ok → ∀ s ∈ b.sts, s.Ok
  | .nil, _, s, h => nomatch h
  | .cons s r, h, t, ht => by
    rcases List.mem_cons.mp ht with rfl | ht
    · exact h.1
    · exact Bk.ok_sts r h.2 t ht
/-- the statements that stand directly within -/
def St.kids : St → List St
  | .ifs _ y n => y.sts ++ n.sts
  | _ => []
theorem flat_kids (s : St) : s.flat = s :: s.kids.flatMap St.flat := by
  cases s with
  | ifs e y n => simp only [St.flat, St.kids, List.flatMap_append, Bk.flat_sts]
  | _ => rfl
theorem kids_ok {s : St} (h : s.Ok) : ∀ t ∈ s.kids, t.Ok := by
  cases s with
  | ifs e y n =>
    obtain ⟨_, hy, hn, _⟩ := h
    intro t ht
    rcases List.mem_append.mp ht with q | q
    · exact Bk.ok_sts y hy t q
    · exact Bk.ok_sts n hn t q
  | _ => exact fun t ht => nomatch ht
theorem flat_pos (s : St) : 1 ≤ s.flat.length := by
  rw [flat_kids]
  simp
/-- a comprehension that takes over each item -/
theorem lc_id6 (c : Cl) (a b d e f : Mi.Slot) : ∀ ds : List PyData, lcL (turn1 c (.nm 2) [2] .nop (.var 2)) ds [a, b, .emp, d, e, f] = .ok (ds, [a, b, .emp, d, e, f])
  | [] => rfl
  | x :: r => by
    simp! [lc_id6 c a b d e f r]
theorem ix0 (n : Nat) : ixAt (n + 1) 0 = some 0 := by
  unfold ixAt
  rw [if_pos (by decide), if_pos (by omega)]
  rfl
theorem inner25 (c : Cl) (a b d e : Mi.Slot) (s : St) : lcL2 (turn2 c (.nm 5) [5, 2] (.seq (.var 5)) (.nm 2) [2] .nop (.var 2)) s.inner [a, b, .emp, d, e, .emp] = .ok (s.kids.map St.d, [a, b, .emp, d, e, .emp]) := by
  cases s with
  | ifs x y n => simp! [St.inner, St.kids, lc_id6, List.map_append, Bk.ds_sts]
  | _ => rfl
def lt25 : ME := match m51 with
  | .cons _ (.cons (.whl t _) _) => t
  | _ => .nop
def lb25 : MB := match m51 with
  | .cons _ (.cons (.whl _ b) _) => b
  | _ => .nil
def allOf (ws : List St) : List St := ws.flatMap St.flat
theorem len_all : ∀ ws : List St, ws.length ≤ (allOf ws).length
  | [] => Nat.le_refl _
  | s :: r => by
    have h1 := flat_pos s
    have h2 := len_all r
    simp only [allOf, List.flatMap_cons, List.length_append, List.length_cons] at h2 ⊢
    omega
theorem pw0 : (-(2 : Int) ^ 63 ≤ 0 ∧ (0 : Int) < 2 ^ 63) = True := eq_true (by decide)
theorem small (n : Nat) (h : n ≤ 1000) : n ≤ big := Nat.le_trans h (by decide)
theorem loop25 (k m : Nat) : ∀ (n : Nat) (ws : List St) (acc : List PyData), (allOf ws).length ≤ n → acc.length + n ≤ 500 → (∀ s ∈ ws, s.Ok) → ∀ v s4, ∃ s4', whlT ⟨ioOf T, callF T (k + 1)⟩ loops none lt25 lb25 (m + n + 1) [v, .lst acc, .emp, .lst (ws.map St.d), s4, .emp] = .ok ([v, .lst (acc ++ (allOf ws).map St.d), .emp, .lst [], s4', .emp], .nx) := by
  intro n
  induction n with
  | zero =>
    intro ws acc hn hlen ok v s4
    have hw : ws = [] := by
      have := len_all ws
      cases ws with
      | nil => rfl
      | cons p r =>
        simp only [List.length_cons] at this
        omega
    subst hw
    refine ⟨s4, ?_⟩
    rw [ev_whl]
    simp! [lt25, t51_0, ce51_0, l51_0_2, l51_0_1, l51_0, m51_2, m51_1, m51, List.map_nil, ne_nil (xs := []) rfl]
    simp [allOf]
  | succ n ih =>
    intro ws acc hn hlen ok v s4
    cases ws with
    | nil =>
      refine ⟨s4, ?_⟩
      rw [ev_whl]
      simp! [lt25, t51_0, ce51_0, l51_0_2, l51_0_1, l51_0, m51_2, m51_1, m51, List.map_nil, ne_nil (xs := []) rfl]
      simp [allOf]
    | cons s r =>
      have hs : s.Ok := ok s List.mem_cons_self
      have hr : ∀ t ∈ r, t.Ok := fun t h => ok t (List.mem_cons_of_mem _ h)
      have hpl : PyData.plainAll (s.d :: r.map St.d) = true := sts_plain (s :: r)
      have eAll : allOf (s :: r) = s :: allOf (s.kids ++ r) := by
        simp only [allOf, List.flatMap_cons, List.flatMap_append, flat_kids s, List.cons_append]
      rw [eAll] at hn ⊢
      simp only [List.length_cons] at hn
      have hL := len_all (s.kids ++ r)
      obtain ⟨s4', g⟩ := ih (s.kids ++ r) (acc ++ [s.d]) (by omega) (by simp; omega) (fun t h => by
        rcases List.mem_append.mp h with q | q
        · exact kids_ok hs t q
        · exact hr t q) v (.val s.d)
      refine ⟨s4', ?_⟩
      have e2 : acc ++ (s :: allOf (s.kids ++ r)).map St.d = acc ++ [s.d] ++ (allOf (s.kids ++ r)).map St.d := by simp
      rw [e2, ← g, ev_whl, show m + (n + 1) = m + n + 1 from rfl, List.map_append]
      have c1 : acc.length < big := Nat.lt_of_lt_of_le (show acc.length < 1000 by omega) (by decide)
      have c2 : (s.kids.map St.d).length ≤ big := small _ (by simp at hL ⊢; omega)
      have c3 : (s.kids.map St.d).length + (r.map St.d).length ≤ big := small _ (by simp at hL ⊢; omega)
      simp! [lt25, lb25, t51_0, ce51_0, l51_0_2, l51_0_1, l51_0, m51_2, m51_1, m51, List.map_cons, ne_nil hpl, List.isEmpty_cons, List.length_cons, ix0, List.getElem?_cons_zero, List.eraseIdx_cons_zero, blocks_of k s hs, inner25, c1, c2, c3, pw0]
theorem all_statements (k : Nat) (b : Bk) (h : b.Ok) (hn : b.flat.length ≤ 500) : callF T (k + 2) 51 [.val (.tuple b.ds)] = .ok (.lst (b.flat.map St.d), .emp) := by
  have hl : loops = (999999 - b.flat.length) + b.flat.length + 1 := by
    unfold loops
    omega
  obtain ⟨s4', g⟩ := loop25 k (999999 - b.flat.length) b.flat.length b.sts [] (by rw [allOf, ← Bk.flat_sts]; exact Nat.le_refl _) (by simp; exact hn) (Bk.ok_sts b h) (.val (.tuple b.ds)) .emp
  rw [← hl, allOf, ← Bk.flat_sts, List.nil_append] at g
  rw [ev_call (fd := f51) rfl rfl]
  simp only [lt25, lb25, t51_0, ce51_0, l51_0_2, l51_0_1, l51_0, m51_2, m51_1, m51, Bk.ds_sts] at g
  simp! [f51, t51_0, ce51_0, l51_0_2, l51_0_1, l51_0, m51_2, m51_1, m51, Bk.ds_sts, g]
end
end K48

set_option Elab.async false
set_option linter.all false
set_option maxRecDepth 100000
set_option maxHeartbeats 4000000
namespace K48
open PySem Mi
section
local macro_rules
  | `(tactic| simp! [$xs,*] $[$loc]?) => `(tactic| simp -implicitDefEqProofs only [$xs,*, ev_var, ev_and, ev_or, ev_chn, ev_ite, ev_iff, ev_while, ev_for, ev_forN, ev_lc, ev_lc2, ev_cons, ev_nil, ev_cst, ev_gbl, ev_tup, ev_lst, ev_sub, ev_slc, ev_op2, ev_neg, ev_not, ev_cmp, ev_callE, ev_blt, ev_isi, ev_trg, ev_app, ev_pop, ev_nilA, ev_consA, ev_nilF, ev_consF, ev_nilM, ev_consM, ev_seq, ev_rng1, ev_enm, ev_zip, ev_asg, ev_par, ev_exp, ev_aug, ev_sti, ev_popAt, someS_lst, someS_val, onS_lst, ev_ret, ev_rse, ok_bind, exn_bind, stk_bind, pure_ok, varR_val, varR_lst, seeB_val, see_val, see_lst, see_slot, slotSee_lst, slotSee_val, frz_val', frz_lst', frz_slot, slotFrz_lst, slotFrz_val, bool1_bool, int1_int, optInt_no, optInt_yes, ME.isNop, onL_lst, settle_val, settle_lst, settle_slot, mv_val, mv_lst, mv_slot, thenB_nx, thenB_rt, thenB_bk, thenB_ct, loopK_nx, loopK_ct, loopK_bk, loopK_rt, endF_rt, endF_nx, ioS_no, ioS_lst, retA_val, retA_lst, retA_slot, call_no, call_io, args_nil, args_cons, seeAll_nil, seeAll_cons, ite_and, ite_or, Mi.get, put, fill, Slot.own, seqOf_list, seqOf_tuple, sub_tup, sub_lst, b_add, b_addb, b_sub, b_addt, b_addl, s_tup, s_lst, i_int, i_intb, i_intt, i_ints, i_bool, i_booli, i_boolt, i_str, i_stri, i_strt, i_tup, i_tupi, i_tups, i_lst, i_lstt, i_lsti, i_lsts, i_non, f_lenl, f_lent, f_int, f_intb, f_listl, f_listt, f_lists, f_tupl, f_tupt, f_all, f_any, a_lst, a_int, asg_v, asg_l, asg_t, asgs_nil, asgs_cons, put_nm, put_tp, puts_nil, puts_cons, c_lt, c_le, c_gt, c_ge, List.map_cons, List.map_nil, List.length_cons, List.length_nil, List.replicate, List.append_nil, List.cons_append, List.nil_append, if_true, if_false, Bool.false_eq_true, Bool.not_false, Bool.not_true, Nat.reduceAdd, Nat.reduceSub, Nat.reduceLT, ev_turn1, ev_turn2, ev_condN, lc_nil, lc_cons, lc2_nil, lc2_cons, optC_some, optC_none, frzR_eq, noX_ok, wipeE, backE, noOwn, List.all_cons, List.all_nil, str_eq, String.reduceEq, eq_self, Int.cast_ofNat_Int, Int.reduceLE, Int.reduceLT, Int.reduceSub, Int.reduceAdd, Int.reduceEq, Int.natCast_add, Int.reduceNeg, Int.natCast_zero, decide_true, decide_false, Bool.and_true, Bool.and_false, Bool.true_and, Bool.false_and, Bool.or_false, Bool.false_or, Bool.or_true, Bool.true_or, Bool.and_self, Bool.not_eq_true, not_true_eq_false, not_false_eq_true, and_self, and_true, true_and, and_false, false_and, reduceIte, io0, io1, io2, io3, io4, io5, io6, io7, io8, io9, io10, io11, io12, io13, io14, io15, io16, io17, io18, io19, io20, io21, io22, io23, io24, io25, io26, io27, io28, io29, io30, io31, io32, io33, io34, io35, io36, io37, io38, io39, io40, io41, io42, io43, io44, io45, io46, io47, io48, io49, io50, io51, io52, io53, io54, io55, io56, io57, io58, io59, io60, io61, io62, io63, io64, io65] $[$loc]?)
/-! the plain law, part 7: blocks that fit -/
mutual
def St.nest : St → Nat
  | .ifs _ y n => 1 + max y.nest n.nest
  | _ => 0
def Bk.nest : Bk → Nat
  | .nil => 0
  | .cons s r => max s.nest r.nest
end
theorem Bk.nest_sts : ∀ b : Bk, ∀ s ∈ b.sts, s.nest ≤ b.nest
  | .nil, s, h => nomatch h
  | .cons t r, s, h => by
    simp only [Bk.nest]
    rcases List.mem_cons.mp h with rfl | h
    · omega
    · have := Bk.nest_sts r s h
      omega
theorem kids_nest (s : St) : ∀ t ∈ s.kids, t.nest + 1 ≤ s.nest := by
  cases s with
  | ifs e y n =>
    intro t ht
    simp only [St.nest]
    rcases List.mem_append.mp ht with q | q
    · have := Bk.nest_sts y t q
      omega
    · have := Bk.nest_sts n t q
      omega
  | _ => exact fun t ht => nomatch ht
def wd2 (p : St × Int) : PyData := .tuple [p.1.d, .int p.2]
theorem wd2_plain : ∀ ws : List (St × Int), PyData.plainAll (ws.map wd2) = true
  | [] => rfl
  | p :: r => by
    simp only [List.map_cons, PyData.plainAll, wd2, PyData.plain, St.plain, wd2_plain r, Bool.and_self]
def all2Of (ws : List (St × Int)) : List St := ws.flatMap fun p => p.1.flat
theorem all2_cat (L : List (St × Int)) (p : St × Int) : (all2Of (L ++ [p])).length = (all2Of L).length + p.1.flat.length := by simp [all2Of]
theorem all2_len : ∀ ws : List (St × Int), ws.length ≤ (all2Of ws).length
  | [] => Nat.le_refl _
  | p :: r => by
    have h1 := flat_pos p.1
    have h2 := all2_len r
    simp only [all2Of, List.flatMap_cons, List.length_append, List.length_cons] at h2 ⊢
    omega
theorem lc_pair (c : Cl) (a : Mi.Slot) (dp : Int) (d e f g : Mi.Slot) : ∀ ds : List PyData, lcL (turn1 c (.nm 2) [2] .nop (.tup (.cons (.var 2) (.cons (.op2 .add (.var 1) (.cst (.int 1))) .nil)))) ds [a, .val (.int dp), .emp, d, e, f, g] = .ok (ds.map fun x => .tuple [x, .int (dp + 1)], [a, .val (.int dp), .emp, d, e, f, g])
  | [] => rfl
  | x :: r => by
    simp! [lc_pair c a dp d e f g r]
theorem inner26 (c : Cl) (a : Mi.Slot) (dp : Int) (d e f : Mi.Slot) (s : St) : lcL2 (turn2 c (.nm 6) [6, 2] (.seq (.var 6)) (.nm 2) [2] .nop (.tup (.cons (.var 2) (.cons (.op2 .add (.var 1) (.cst (.int 1))) .nil)))) s.inner [a, .val (.int dp), .emp, d, e, f, .emp] = .ok ((s.kids.map fun t => (t, dp + 1)).map wd2, [a, .val (.int dp), .emp, d, e, f, .emp]) := by
  cases s with
  | ifs x y n =>
    have e1 : ∀ l : List St, (l.map St.d).map (fun x => PyData.tuple [x, .int (dp + 1)]) = (l.map fun t => (t, dp + 1)).map wd2 := fun l => by
      rw [List.map_map, List.map_map]
      rfl
    simp! [St.inner, St.kids, lc_pair, List.map_append, Bk.ds_sts, e1]
  | _ => rfl
theorem start26 (c : Cl) (a b d e f g : Mi.Slot) : ∀ ds : List PyData, lcL (turn1 c (.nm 5) [5] .nop (.tup (.cons (.var 5) (.cons (.cst (.int 0)) .nil)))) ds [a, b, d, e, f, .emp, g] = .ok (ds.map fun x => .tuple [x, .int 0], [a, b, d, e, f, .emp, g])
  | [] => rfl
  | x :: r => by
    simp! [start26 c a b d e f g r]
def lt26 : ME := match m56 with
  | .cons _ (.cons _ (.cons (.whl t _) _)) => t
  | _ => .nop
def lb26 : MB := match m56 with
  | .cons _ (.cons _ (.cons (.whl _ b) _)) => b
  | _ => .nil
def St.isIf : St → Bool
  | .ifs _ _ _ => true
  | _ => false
/-- the word and the rest of a statement -/
theorem St.form (s : St) (h : s.Ok) : ∃ w r, s.d = .tuple (.str w :: r) ∧ r.length ≤ 4 ∧ decide (w = ("if" : Str)) = s.isIf := by
  cases s with
  | xch a b c e =>
    obtain ⟨hw, _⟩ := h
    refine ⟨_, _, rfl, by simp, ?_⟩
    rcases hw with rfl | rfl <;> simp! [St.isIf]
  | _ => exact ⟨_, _, rfl, by simp, by simp! [St.isIf]⟩
theorem if_nest {s : St} (h : s.isIf = true) : 1 ≤ s.nest := by
  cases s with
  | ifs e y n =>
    simp only [St.nest]
    omega
  | _ => cases h
theorem fits_one (k : Nat) (s : St) (h : s.Ok) : (if s.acc = true then callF T (k + 4) 59 [.val s.d] else callF T (k + 4) 60 [.val s.d]) = .ok (.val (.bool true), .emp) := by
  cases q : s.acc with
  | true => exact fits_access k s h q
  | false => exact fits_inner k s h q
theorem loop26 (k m : Nat) : ∀ (n : Nat) (ws : List (St × Int)) (many : Int), (all2Of ws).length ≤ n → n ≤ 12 → many + n ≤ 12 → (∀ p ∈ ws, p.1.Ok ∧ p.2 + p.1.nest ≤ 2) → ∀ v s1 s5, ∃ s1' s4' s5', whlT ⟨ioOf T, callF T (k + 4)⟩ loops none lt26 lb26 (m + n + 1) [v, s1, .emp, .lst (ws.map wd2), .val (.int many), s5, .emp] = .ok ([v, s1', .emp, .lst [], s4', s5', .emp], .nx) := by
  intro n
  induction n with
  | zero =>
    intro ws many hn _ hlen ok v s1 s5
    have hw : ws = [] := by
      have := all2_len ws
      cases ws with
      | nil => rfl
      | cons p r =>
        simp only [List.length_cons] at this
        omega
    subst hw
    refine ⟨s1, .val (.int many), s5, ?_⟩
    rw [ev_whl]
    simp! [lt26, ce56_0, t56_0, ce56_1, l56_0_5, l56_0_4, l56_0_3, l56_0_2, l56_0_1, l56_0, m56_3, m56_2, m56_1, m56, List.map_nil, ne_nil (xs := []) rfl]
    rfl
  | succ n ih =>
    intro ws many hn h12 hlen ok v s1 s5
    rcases List.eq_nil_or_concat ws with rfl | ⟨L, p, rfl⟩
    · refine ⟨s1, .val (.int many), s5, ?_⟩
      rw [ev_whl]
      simp! [lt26, ce56_0, t56_0, ce56_1, l56_0_5, l56_0_4, l56_0_3, l56_0_2, l56_0_1, l56_0, m56_3, m56_2, m56_1, m56, List.map_nil, ne_nil (xs := []) rfl]
      rfl
    · obtain ⟨s, d⟩ := p
      rw [List.concat_eq_append] at *
      obtain ⟨hs, hd⟩ := ok (s, d) (by simp)
      have hs : s.Ok := hs
      have hd : d + s.nest ≤ 2 := hd
      have hL : ∀ p ∈ L, p.1.Ok ∧ p.2 + p.1.nest ≤ 2 := fun p h => ok p (by simp [h])
      have e1 : (L ++ [(s, d)]).map wd2 = L.map wd2 ++ [wd2 (s, d)] := by simp
      have hpl : PyData.plainAll (L.map wd2 ++ [wd2 (s, d)]) = true := by rw [← e1]; exact wd2_plain _
      have hne : (L.map wd2 ++ [wd2 (s, d)]).isEmpty = false := by cases L <;> rfl
      have htot : (all2Of (L ++ [(s, d)])).length = (all2Of L).length + s.flat.length := all2_cat L (s, d)
      have hkk : all2Of (s.kids.map fun t => (t, d + 1)) = s.kids.flatMap St.flat := by
        simp only [all2Of, List.flatMap_map]
      have hk : (all2Of (L ++ s.kids.map fun t => (t, d + 1))).length + 1 = (all2Of (L ++ [(s, d)])).length := by
        have e2 : all2Of (L ++ s.kids.map fun t => (t, d + 1)) = all2Of L ++ all2Of (s.kids.map fun t => (t, d + 1)) := by simp only [all2Of, List.flatMap_append]
        rw [htot, e2, hkk, flat_kids s, List.length_append, List.length_cons]
        omega
      have hz1 : (s.kids.map fun t => (t, d + 1)).length ≤ 1000 := by
        have := all2_len (L ++ s.kids.map fun t => (t, d + 1))
        simp only [List.length_append] at this
        omega
      have hz2 : L.length ≤ 500 := by
        have := all2_len (L ++ s.kids.map fun t => (t, d + 1))
        simp only [List.length_append] at this
        omega
      obtain ⟨w, r, hf, hr, hif⟩ := s.form hs
      obtain ⟨s1', s4', s5', g⟩ := ih (L ++ s.kids.map fun t => (t, d + 1)) (many + 1) (by omega) (by omega) (by omega) (fun p hp => by
        rcases List.mem_append.mp hp with h | h
        · exact hL p h
        · obtain ⟨t, ht, rfl⟩ := List.mem_map.mp h
          have := kids_nest s t ht
          exact ⟨kids_ok hs t ht, by show d + 1 + (t.nest : Int) ≤ 2; omega⟩) v (.val (.int d)) (.val s.d)
      refine ⟨s1', s4', s5', ?_⟩
      have c0 : decide (12 < many + 1) = false := by
        rw [decide_eq_false_iff_not]
        omega
      have c1 : (1 : Int) ≤ (r.length : Int) + 1 := by omega
      have c2 : (r.length : Int) + 1 ≤ 5 := by omega
      have c3 : (s.isIf && decide (d = 2)) = false := by
        cases q : s.isIf with
        | false => rfl
        | true =>
          have := if_nest q
          simp
          omega
      have c4 : ((s.kids.map fun t => (t, d + 1)).map wd2).length ≤ big := by
        rw [List.length_map]
        exact small _ hz1
      have c5 : (L.map wd2).length + ((s.kids.map fun t => (t, d + 1)).map wd2).length ≤ big := by
        rw [List.length_map, List.length_map]
        have := all2_len (L ++ s.kids.map fun t => (t, d + 1))
        simp only [List.length_append] at this
        exact small _ (by omega)
      have i1 : callF T (k + 4) 41 [.val s.d] = _ := acc_of (k + 3) s hs
      have i2 := fits_one k s hs
      have i3 : callF T (k + 4) 57 [.val s.d] = _ := blocks_of (k + 3) s hs
      rw [hf] at i1 i2 i3
      rw [e1, ← g, ev_whl, show m + (n + 1) = m + n + 1 from rfl, List.map_append]
      simp only [wd2, hf] at hpl hne
      cases q : s.acc with
      | true =>
        rw [q, if_pos rfl] at i2
        rw [q] at i1
        simp! [lt26, lb26, ce56_0, t56_0, ce56_1, l56_0_5, l56_0_4, l56_0_3, l56_0_2, l56_0_1, l56_0, m56_3, m56_2, m56_1, m56, ne_nil hpl, hne, wd2, hf, pop_end, List.dropLast_concat, c0, is_tuple_of, c1, c2, item0, eq_str, eq_int, i1, i2, i3, hif, c3, inner26, c4, c5]
      | false =>
        rw [q, if_neg Bool.false_ne_true] at i2
        rw [q] at i1
        simp! [lt26, lb26, ce56_0, t56_0, ce56_1, l56_0_5, l56_0_4, l56_0_3, l56_0_2, l56_0_1, l56_0, m56_3, m56_2, m56_1, m56, ne_nil hpl, hne, wd2, hf, pop_end, List.dropLast_concat, c0, is_tuple_of, c1, c2, item0, eq_str, eq_int, i1, i2, i3, hif, c3, inner26, c4, c5]
end
end K48

set_option Elab.async false
set_option linter.all false
set_option maxRecDepth 100000
set_option maxHeartbeats 4000000
namespace K48
open PySem Mi
section
local macro_rules
  | `(tactic| simp! [$xs,*] $[$loc]?) => `(tactic| simp -implicitDefEqProofs only [$xs,*, ev_var, ev_and, ev_or, ev_chn, ev_ite, ev_iff, ev_while, ev_for, ev_forN, ev_lc, ev_lc2, ev_cons, ev_nil, ev_cst, ev_gbl, ev_tup, ev_lst, ev_sub, ev_slc, ev_op2, ev_neg, ev_not, ev_cmp, ev_callE, ev_blt, ev_isi, ev_trg, ev_app, ev_pop, ev_nilA, ev_consA, ev_nilF, ev_consF, ev_nilM, ev_consM, ev_seq, ev_rng1, ev_enm, ev_zip, ev_asg, ev_par, ev_exp, ev_aug, ev_sti, ev_popAt, someS_lst, someS_val, onS_lst, ev_ret, ev_rse, ok_bind, exn_bind, stk_bind, pure_ok, varR_val, varR_lst, seeB_val, see_val, see_lst, see_slot, slotSee_lst, slotSee_val, frz_val', frz_lst', frz_slot, slotFrz_lst, slotFrz_val, bool1_bool, int1_int, optInt_no, optInt_yes, ME.isNop, onL_lst, settle_val, settle_lst, settle_slot, mv_val, mv_lst, mv_slot, thenB_nx, thenB_rt, thenB_bk, thenB_ct, loopK_nx, loopK_ct, loopK_bk, loopK_rt, endF_rt, endF_nx, ioS_no, ioS_lst, retA_val, retA_lst, retA_slot, call_no, call_io, args_nil, args_cons, seeAll_nil, seeAll_cons, ite_and, ite_or, Mi.get, put, fill, Slot.own, seqOf_list, seqOf_tuple, sub_tup, sub_lst, b_add, b_addb, b_sub, b_addt, b_addl, s_tup, s_lst, i_int, i_intb, i_intt, i_ints, i_bool, i_booli, i_boolt, i_str, i_stri, i_strt, i_tup, i_tupi, i_tups, i_lst, i_lstt, i_lsti, i_lsts, i_non, f_lenl, f_lent, f_int, f_intb, f_listl, f_listt, f_lists, f_tupl, f_tupt, f_all, f_any, a_lst, a_int, asg_v, asg_l, asg_t, asgs_nil, asgs_cons, put_nm, put_tp, puts_nil, puts_cons, c_lt, c_le, c_gt, c_ge, List.map_cons, List.map_nil, List.length_cons, List.length_nil, List.replicate, List.append_nil, List.cons_append, List.nil_append, if_true, if_false, Bool.false_eq_true, Bool.not_false, Bool.not_true, Nat.reduceAdd, Nat.reduceSub, Nat.reduceLT, ev_turn1, ev_turn2, ev_condN, lc_nil, lc_cons, lc2_nil, lc2_cons, optC_some, optC_none, frzR_eq, noX_ok, wipeE, backE, noOwn, List.all_cons, List.all_nil, str_eq, String.reduceEq, eq_self, Int.cast_ofNat_Int, Int.reduceLE, Int.reduceLT, Int.reduceSub, Int.reduceAdd, Int.reduceEq, Int.natCast_add, Int.reduceNeg, Int.natCast_zero, decide_true, decide_false, Bool.and_true, Bool.and_false, Bool.true_and, Bool.false_and, Bool.or_false, Bool.false_or, Bool.or_true, Bool.true_or, Bool.and_self, Bool.not_eq_true, not_true_eq_false, not_false_eq_true, and_self, and_true, true_and, and_false, false_and, reduceIte, io0, io1, io2, io3, io4, io5, io6, io7, io8, io9, io10, io11, io12, io13, io14, io15, io16, io17, io18, io19, io20, io21, io22, io23, io24, io25, io26, io27, io28, io29, io30, io31, io32, io33, io34, io35, io36, io37, io38, io39, io40, io41, io42, io43, io44, io45, io46, io47, io48, io49, io50, io51, io52, io53, io54, io55, io56, io57, io58, io59, io60, io61, io62, io63, io64, io65] $[$loc]?)
/-! the plain law, part 8: programs that fit -/
/-! ### comprehensions over typed lists -/
theorem lc_list {α : Type} {turn : PyData → Mi.Env → R (Option PyData × Mi.Env)} {env : Mi.Env} (g : α → PyData) (f : α → Option PyData) : ∀ (l : List α), (∀ x ∈ l, turn (g x) env = .ok (f x, env)) → lcL turn (l.map g) env = .ok (l.filterMap f, env)
  | [], _ => rfl
  | x :: r, h => by
    have h1 := h x List.mem_cons_self
    have h2 := lc_list g f r fun y hy => h y (List.mem_cons_of_mem _ hy)
    rw [List.map_cons, lc_cons, h1]
    simp only [ok_bind, h2]
    cases q : f x with
    | none => rw [List.filterMap_cons_none q]; rfl
    | some y => rw [List.filterMap_cons_some q]; rfl
theorem lc2_list {α : Type} {turn : PyData → Mi.Env → R (List PyData × Mi.Env)} {env : Mi.Env} (g : α → PyData) (f : α → List PyData) : ∀ (l : List α), (∀ x ∈ l, turn (g x) env = .ok (f x, env)) → lcL2 turn (l.map g) env = .ok (l.flatMap f, env)
  | [], _ => rfl
  | x :: r, h => by
    have h1 := h x List.mem_cons_self
    have h2 := lc2_list g f r fun y hy => h y (List.mem_cons_of_mem _ hy)
    rw [List.map_cons, lc2_cons, h1]
    simp only [ok_bind, h2, List.flatMap_cons]
theorem fits_block (k : Nat) (b : Bk) (h : b.Ok) (h1 : b.ds.length ≤ 12) (h2 : b.flat.length ≤ 12) (h3 : b.nest ≤ 2) : callF T (k + 5) 56 [.val (.tuple b.ds)] = .ok (.val (.bool true), .emp) := by
  have hl : loops = (999999 - b.flat.length) + b.flat.length + 1 := by
    unfold loops
    omega
  have e0 : all2Of (b.sts.map fun s => (s, (0 : Int))) = b.flat := by
    rw [Bk.flat_sts]
    simp only [all2Of, List.flatMap_map]
  obtain ⟨s1', s4', s5', g⟩ := loop26 k (999999 - b.flat.length) b.flat.length (b.sts.map fun s => (s, 0)) 0 (by rw [e0]; exact Nat.le_refl _) h2 (by omega) (fun p hp => by
    obtain ⟨s, hs, rfl⟩ := List.mem_map.mp hp
    have := Bk.nest_sts b s hs
    exact ⟨Bk.ok_sts b h s hs, by show (0 : Int) + (s.nest : Int) ≤ 2; omega⟩) (.val (.tuple b.ds)) .emp .emp
  rw [← hl] at g
  have e1 : (b.sts.map fun s => (s, (0 : Int))).map wd2 = (b.sts.map St.d).map fun x => PyData.tuple [x, .int 0] := by
    rw [List.map_map, List.map_map]
    rfl
  have c1 : (0 : Int) ≤ ((b.sts.map St.d).length : Int) := by omega
  have c2 : ((b.sts.map St.d).length : Int) ≤ 12 := by
    rw [← Bk.ds_sts]
    omega
  rw [ev_call (fd := f56) rfl rfl]
  simp only [lt26, lb26, ce56_0, t56_0, ce56_1, l56_0_5, l56_0_4, l56_0_3, l56_0_2, l56_0_1, l56_0, m56_3, m56_2, m56_1, m56, Bk.ds_sts, e1] at g
  simp! [f56, ce56_0, t56_0, ce56_1, l56_0_5, l56_0_4, l56_0_3, l56_0_2, l56_0_1, l56_0, m56_3, m56_2, m56_1, m56, Bk.ds_sts, is_tuple_of, c1, c2, start26, g]
/-! ### words -/
def St.w : St → Str
  | .fence => "fence"
  | .set _ _ => "set"
  | .need _ => "need"
  | .wr _ _ _ => "write"
  | .rd _ _ _ => "read"
  | .xch w _ _ _ => w
  | .tr _ _ _ _ => "try"
  | .ifs _ _ _ => "if"
def St.r : St → List PyData
  | .fence => []
  | .set r e => [.int r, e.d]
  | .need e => [e.d]
  | .wr c m e => [.int c, .str m, e.d]
  | .rd r c m => [.int r, .int c, .str m]
  | .xch _ r c e => [.int r, .int c, e.d]
  | .tr r c a b => [.int r, .int c, a.d, b.d]
  | .ifs e y n => [e.d, .tuple y.ds, .tuple n.ds]
theorem St.d_w (s : St) : s.d = .tuple (.str s.w :: s.r) := by cases s <;> rfl
def St.isFence : St → Bool
  | .fence => true
  | _ => false
theorem w_fence (s : St) (h : s.Ok) : decide (s.w = ("fence" : Str)) = s.isFence := by
  cases s with
  | xch a b c e =>
    obtain ⟨hw, _⟩ := h
    rcases hw with rfl | rfl <;> simp! [St.w, St.isFence]
  | _ => simp! [St.w, St.isFence]
theorem w_if (s : St) (h : s.Ok) : decide (s.w = ("if" : Str)) = s.isIf := by
  cases s with
  | xch a b c e =>
    obtain ⟨hw, _⟩ := h
    rcases hw with rfl | rfl <;> simp! [St.w, St.isIf]
  | _ => simp! [St.w, St.isIf]
/-! ### programs -/
def tup (b : Bk) : PyData := .tuple b.ds
structure BkFit (b : Bk) : Prop where
  ok : b.Ok
  len : b.ds.length ≤ 12
  all : b.flat.length ≤ 12
  nest : b.nest ≤ 2
def every (bs : List Bk) : List St := bs.flatMap Bk.flat
structure PrOk (bs : List Bk) : Prop where
  one : 1 ≤ bs.length
  four : bs.length ≤ 4
  fit : ∀ b ∈ bs, BkFit b
  acc : ((every bs).filter St.acc).length ≤ 8
  fen : ((every bs).filter St.isFence).length ≤ 8
mutual
theorem St.flat_ok : ∀ (b : St), b.Ok → ∀ s ∈ b.flat, s.Ok
  | .ifs e y n, h, s, hs => by
    have h0 := h
    obtain ⟨_, hy, hn, _⟩ := h
    simp only [St.flat, List.mem_cons, List.mem_append] at hs
    rcases hs with rfl | hs | hs
    · exact h0
    · exact Bk.flat_ok y hy s hs
    · exact Bk.flat_ok n hn s hs
  | .fence, h, s, hs => by rw [List.mem_singleton.mp hs]; exact h
  | .set r e, h, s, hs => by rw [List.mem_singleton.mp hs]; exact h
  | .need e, h, s, hs => by rw [List.mem_singleton.mp hs]; exact h
  | .wr c m e, h, s, hs => by rw [List.mem_singleton.mp hs]; exact h
  | .rd r c m, h, s, hs => by rw [List.mem_singleton.mp hs]; exact h
  | .xch w r c e, h, s, hs => by rw [List.mem_singleton.mp hs]; exact h
  | .tr r c a b, h, s, hs => by rw [List.mem_singleton.mp hs]; exact h
theorem Bk.flat_ok : ∀ (b : Bk), b.Ok → ∀ s ∈ b.flat, s.Ok
  | .nil, _, s, hs => nomatch hs
  | .cons t r, h, s, hs => by
    simp only [Bk.flat, List.mem_append] at hs
    rcases hs with hs | hs
    · exact St.flat_ok t h.1 s hs
    · exact Bk.flat_ok r h.2 s hs
end
theorem every_ok {bs : List Bk} (h : PrOk bs) : ∀ s ∈ every bs, s.Ok := by
  intro s hs
  obtain ⟨b, hb, hs⟩ := List.mem_flatMap.mp hs
  exact Bk.flat_ok b (h.fit b hb).ok s hs
end
end K48

set_option Elab.async false
set_option linter.all false
set_option maxRecDepth 100000
set_option maxHeartbeats 4000000
namespace K48
open PySem Mi
section
local macro_rules
  | `(tactic| simp! [$xs,*] $[$loc]?) => `(tactic| simp -implicitDefEqProofs only [$xs,*, ev_var, ev_and, ev_or, ev_chn, ev_ite, ev_iff, ev_while, ev_for, ev_forN, ev_lc, ev_lc2, ev_cons, ev_nil, ev_cst, ev_gbl, ev_tup, ev_lst, ev_sub, ev_slc, ev_op2, ev_neg, ev_not, ev_cmp, ev_callE, ev_blt, ev_isi, ev_trg, ev_app, ev_pop, ev_nilA, ev_consA, ev_nilF, ev_consF, ev_nilM, ev_consM, ev_seq, ev_rng1, ev_enm, ev_zip, ev_asg, ev_par, ev_exp, ev_aug, ev_sti, ev_popAt, someS_lst, someS_val, onS_lst, ev_ret, ev_rse, ok_bind, exn_bind, stk_bind, pure_ok, varR_val, varR_lst, seeB_val, see_val, see_lst, see_slot, slotSee_lst, slotSee_val, frz_val', frz_lst', frz_slot, slotFrz_lst, slotFrz_val, bool1_bool, int1_int, optInt_no, optInt_yes, ME.isNop, onL_lst, settle_val, settle_lst, settle_slot, mv_val, mv_lst, mv_slot, thenB_nx, thenB_rt, thenB_bk, thenB_ct, loopK_nx, loopK_ct, loopK_bk, loopK_rt, endF_rt, endF_nx, ioS_no, ioS_lst, retA_val, retA_lst, retA_slot, call_no, call_io, args_nil, args_cons, seeAll_nil, seeAll_cons, ite_and, ite_or, Mi.get, put, fill, Slot.own, seqOf_list, seqOf_tuple, sub_tup, sub_lst, b_add, b_addb, b_sub, b_addt, b_addl, s_tup, s_lst, i_int, i_intb, i_intt, i_ints, i_bool, i_booli, i_boolt, i_str, i_stri, i_strt, i_tup, i_tupi, i_tups, i_lst, i_lstt, i_lsti, i_lsts, i_non, f_lenl, f_lent, f_int, f_intb, f_listl, f_listt, f_lists, f_tupl, f_tupt, f_all, f_any, a_lst, a_int, asg_v, asg_l, asg_t, asgs_nil, asgs_cons, put_nm, put_tp, puts_nil, puts_cons, c_lt, c_le, c_gt, c_ge, List.map_cons, List.map_nil, List.length_cons, List.length_nil, List.replicate, List.append_nil, List.cons_append, List.nil_append, if_true, if_false, Bool.false_eq_true, Bool.not_false, Bool.not_true, Nat.reduceAdd, Nat.reduceSub, Nat.reduceLT, ev_turn1, ev_turn2, ev_condN, lc_nil, lc_cons, lc2_nil, lc2_cons, optC_some, optC_none, frzR_eq, noX_ok, wipeE, backE, noOwn, List.all_cons, List.all_nil, str_eq, String.reduceEq, eq_self, Int.cast_ofNat_Int, Int.reduceLE, Int.reduceLT, Int.reduceSub, Int.reduceAdd, Int.reduceEq, Int.natCast_add, Int.reduceNeg, Int.natCast_zero, decide_true, decide_false, Bool.and_true, Bool.and_false, Bool.true_and, Bool.false_and, Bool.or_false, Bool.false_or, Bool.or_true, Bool.true_or, Bool.and_self, Bool.not_eq_true, not_true_eq_false, not_false_eq_true, and_self, and_true, true_and, and_false, false_and, reduceIte, io0, io1, io2, io3, io4, io5, io6, io7, io8, io9, io10, io11, io12, io13, io14, io15, io16, io17, io18, io19, io20, io21, io22, io23, io24, io25, io26, io27, io28, io29, io30, io31, io32, io33, io34, io35, io36, io37, io38, io39, io40, io41, io42, io43, io44, io45, io46, io47, io48, io49, io50, io51, io52, io53, io54, io55, io56, io57, io58, io59, io60, io61, io62, io63, io64, io65] $[$loc]?)
/-! the plain law, part 9: fits_program, accesses_in -/
theorem filterMap_true {α : Type} (f : α → PyData) (l : List α) : (l.filterMap fun x => some (f x)) = l.map f := by
  induction l with
  | nil => rfl
  | cons x r ih => simp only [List.filterMap_cons, List.map_cons, ih]
theorem all_true : ∀ {α : Type} (l : List α), bltF .all [.list (l.map fun _ => PyData.bool true)] = .ok (.val (.bool true))
  | α, l => by
    have e : (l.map fun _ => PyData.bool true) = (l.map fun _ => true).map PyData.bool := by
      rw [List.map_map]
      rfl
    rw [e, f_all]
    congr 3
    induction l with
    | nil => rfl
    | cons x r ih => simp
theorem if_some (b : Bool) (d : PyData) (e : Mi.Env) : (if b = true then R.ok (some d, e) else R.ok (none, e)) = R.ok ((if b = true then some d else none), e) := by cases b <;> rfl
theorem filterMap_if {α : Type} (p : α → Bool) (f : α → PyData) : ∀ l : List α, (l.filterMap fun x => if p x = true then some (f x) else none) = (l.filter p).map f
  | [] => rfl
  | x :: r => by
    cases q : p x with
    | true =>
      rw [List.filterMap_cons_some (b := f x) (by rw [q]; rfl), List.filter_cons_of_pos q, List.map_cons, filterMap_if p f r]
    | false =>
      rw [List.filterMap_cons_none (by rw [q]; rfl), List.filter_cons_of_neg (by rw [q]; exact Bool.false_ne_true), filterMap_if p f r]
theorem fits_all (k : Nat) (v a e : Mi.Slot) (bs : List Bk) (h : ∀ b ∈ bs, BkFit b) : lcL (turn1 ⟨ioOf T, callF T (k + 5)⟩ (.nm 3) [3] .nop (.call 56 (.cons (.var 3) .nil))) (bs.map tup) [v, a, e, .emp] = .ok (bs.map fun _ => PyData.bool true, [v, a, e, .emp]) := by
  rw [lc_list tup (fun _ => some (.bool true)) bs fun b hb => by
    have q := fits_block k b (h b hb).ok (h b hb).len (h b hb).all (h b hb).nest
    simp! [tup, q]]
  rw [filterMap_true]
theorem every_all (k : Nat) (v e : Mi.Slot) (bs : List Bk) (h : ∀ b ∈ bs, BkFit b) : lcL2 (turn2 ⟨ioOf T, callF T (k + 5)⟩ (.nm 1) [1, 3] (.seq (.call 51 (.cons (.var 1) .nil))) (.nm 3) [3] .nop (.var 3)) (bs.map tup) [v, .emp, e, .emp] = .ok ((every bs).map St.d, [v, .emp, e, .emp]) := by
  rw [lc2_list tup (fun b => b.flat.map St.d) bs fun b hb => by
    have q := all_statements (k + 3) b (h b hb).ok (Nat.le_trans (h b hb).all (by decide))
    have q2 : lcL (turn1 ⟨ioOf T, callF T (k + 5)⟩ (.nm 3) [3] .nop (.var 3)) (b.flat.map St.d) [v, .val (.tuple b.ds), e, .emp] = .ok (b.flat.map St.d, [v, .val (.tuple b.ds), e, .emp]) := by
      rw [lc_list St.d (fun s => some s.d) b.flat fun s hs => by simp! [eq_self], filterMap_true]
    simp! [tup, q, q2]]
  simp only [every, List.map_flatMap]
theorem acc_all (k : Nat) (v a e : Mi.Slot) (l : List St) (h : ∀ s ∈ l, s.Ok) : lcL (turn1 ⟨ioOf T, callF T (k + 5)⟩ (.nm 3) [3] (.call 41 (.cons (.var 3) .nil)) (.var 3)) (l.map St.d) [v, a, e, .emp] = .ok ((l.filter St.acc).map St.d, [v, a, e, .emp]) := by
  rw [lc_list St.d (fun s => if s.acc = true then some s.d else none) l fun s hs => by
    have q := acc_of (k + 4) s (h s hs)
    rw [ev_turn1, put_nm]
    simp! [ev_cond (ME.call 41 (.cons (.var 3) .nil)) rfl, q, if_some]]
  rw [filterMap_if]
theorem fen_all (k : Nat) (v a e : Mi.Slot) (l : List St) (h : ∀ s ∈ l, s.Ok) : lcL (turn1 ⟨ioOf T, callF T (k + 5)⟩ (.nm 3) [3] (.cmp .Eq (.sub (.var 3) (.cst (.int 0))) (.cst (.str "fence"))) (.var 3)) (l.map St.d) [v, a, e, .emp] = .ok ((l.filter St.isFence).map St.d, [v, a, e, .emp]) := by
  rw [lc_list St.d (fun s => if s.isFence = true then some s.d else none) l fun s hs => by
    have q := w_fence s (h s hs)
    have e2 := s.d_w
    rw [ev_turn1, put_nm, e2]
    simp! [ev_cond (ME.cmp .Eq (.sub (.var 3) (.cst (.int 0))) (.cst (.str "fence"))) rfl, item0, eq_str, q, if_some]]
  rw [filterMap_if]
theorem fits_program (k : Nat) (bs : List Bk) (h : PrOk bs) : callF T (k + 6) 50 [.val (.tuple (bs.map tup))] = .ok (.val (.bool true), .emp) := by
  have c1 : (1 : Int) ≤ (bs.length : Int) := by
    have := h.one
    omega
  have c2 : (bs.length : Int) ≤ 4 := by
    have := h.four
    omega
  have c3 : decide (8 < (((every bs).filter St.acc).length : Int)) = false := by
    rw [decide_eq_false_iff_not]
    have := h.acc
    omega
  have c4 : decide ((((every bs).filter St.isFence).length : Int) ≤ 8) = true := by
    rw [decide_eq_true_eq]
    have := h.fen
    omega
  have c5 : (every bs).length ≤ big := by
    refine small _ ?_
    have : ∀ l : List Bk, (∀ b ∈ l, BkFit b) → (every l).length ≤ 12 * l.length := fun l => by
      induction l with
      | nil => intro _; exact Nat.le_refl _
      | cons b r ih =>
        intro hl
        have h1 := (hl b List.mem_cons_self).all
        have h2 := ih fun c hc => hl c (List.mem_cons_of_mem _ hc)
        simp only [every, List.flatMap_cons, List.length_append, List.length_cons] at h2 ⊢
        omega
    have h2 := this bs h.fit
    have := h.four
    omega
  rw [ev_call (fd := f50) rfl rfl]
  simp! [f50, ce50_0, ce50_1, cd50_2, ce50_2, cd50_3, ce50_3, m50_3, m50_2, m50_1, m50, is_tuple_of, c1, c2, fits_all k _ _ _ bs h.fit, all_true, every_all k _ _ bs h.fit, c5, acc_all k _ _ _ _ (every_ok h), fen_all k _ _ _ _ (every_ok h), List.length_map, c3, c4]
/-! ### accesses_in: how many -/
def accsF (n : Nat) : List Bk → List PyData
  | [] => []
  | b :: r => ((b.flat.filter St.acc).map fun s => PyData.tuple [.int n, s.d]) ++ accsF (n + 1) r
theorem accsF_len : ∀ (bs : List Bk) (n : Nat), (accsF n bs).length = ((every bs).filter St.acc).length
  | [], _ => rfl
  | b :: r, n => by
    simp only [accsF, every, List.flatMap_cons, List.filter_append, List.length_append, List.length_map]
    rw [accsF_len r (n + 1)]
    rfl
theorem pair_all (k : Nat) (v c : Mi.Slot) (at_ : Int) (l : List St) (h : ∀ s ∈ l, s.Ok) : lcL (turn1 ⟨ioOf T, callF T (k + 2)⟩ (.nm 3) [3] (.call 41 (.cons (.var 3) .nil)) (.tup (.cons (.var 1) (.cons (.var 3) .nil)))) (l.map St.d) [v, .val (.int at_), c, .emp] = .ok ((l.filter St.acc).map (fun s => PyData.tuple [.int at_, s.d]), [v, .val (.int at_), c, .emp]) := by
  rw [lc_list St.d (fun s => if s.acc = true then some (PyData.tuple [.int at_, s.d]) else none) l fun s hs => by
    have q := acc_of (k + 1) s (h s hs)
    rw [ev_turn1, put_nm]
    simp! [ev_cond (ME.call 41 (.cons (.var 3) .nil)) rfl, q, if_some]]
  rw [filterMap_if]
theorem acc_loop (k : Nat) (v : Mi.Slot) : ∀ (bs : List Bk) (n : Nat), (∀ b ∈ bs, BkFit b) → lcL2 (turn2 ⟨ioOf T, callF T (k + 2)⟩ (.tp (.cons (.nm 1) (.cons (.nm 2) .nil))) [1, 2, 3] (.seq (.call 51 (.cons (.var 2) .nil))) (.nm 3) [3] (.call 41 (.cons (.var 3) .nil)) (.tup (.cons (.var 1) (.cons (.var 3) .nil)))) (enumF n (bs.map tup)) [v, .emp, .emp, .emp] = .ok (accsF n bs, [v, .emp, .emp, .emp])
  | [], n, _ => rfl
  | b :: r, n, h => by
    have hb := h b List.mem_cons_self
    have ih := acc_loop k v r (n + 1) fun c hc => h c (List.mem_cons_of_mem _ hc)
    have q := all_statements k b hb.ok (Nat.le_trans hb.all (by decide))
    have q2 := pair_all k v (.val (.tuple b.ds)) n b.flat (Bk.flat_ok b hb.ok)
    rw [List.map_cons, enumF, lc2_cons]
    simp! [tup, q, q2]
    rw [ih]
    rfl
theorem accesses_in (k : Nat) (bs : List Bk) (h : PrOk bs) : callF T (k + 3) 38 [.val (.tuple (bs.map tup))] = .ok (.lst (accsF 0 bs), .emp) := by
  have c1 : (accsF 0 bs).length ≤ big := by
    rw [accsF_len]
    exact small _ (Nat.le_trans h.acc (by decide))
  rw [ev_call (fd := f38) rfl rfl]
  simp! [f38, cd38_0, ce38_0, m38, acc_loop k _ bs 0 h.fit, c1]
end
end K48

set_option Elab.async false
set_option linter.all false
set_option maxRecDepth 100000
set_option maxHeartbeats 4000000
namespace K48
open PySem Mi
section
local macro_rules
  | `(tactic| simp! [$xs,*] $[$loc]?) => `(tactic| simp -implicitDefEqProofs only [$xs,*, ev_var, ev_and, ev_or, ev_chn, ev_ite, ev_iff, ev_while, ev_for, ev_forN, ev_lc, ev_lc2, ev_cons, ev_nil, ev_cst, ev_gbl, ev_tup, ev_lst, ev_sub, ev_slc, ev_op2, ev_neg, ev_not, ev_cmp, ev_callE, ev_blt, ev_isi, ev_trg, ev_app, ev_pop, ev_nilA, ev_consA, ev_nilF, ev_consF, ev_nilM, ev_consM, ev_seq, ev_rng1, ev_enm, ev_zip, ev_asg, ev_par, ev_exp, ev_aug, ev_sti, ev_popAt, someS_lst, someS_val, onS_lst, ev_ret, ev_rse, ok_bind, exn_bind, stk_bind, pure_ok, varR_val, varR_lst, seeB_val, see_val, see_lst, see_slot, slotSee_lst, slotSee_val, frz_val', frz_lst', frz_slot, slotFrz_lst, slotFrz_val, bool1_bool, int1_int, optInt_no, optInt_yes, ME.isNop, onL_lst, settle_val, settle_lst, settle_slot, mv_val, mv_lst, mv_slot, thenB_nx, thenB_rt, thenB_bk, thenB_ct, loopK_nx, loopK_ct, loopK_bk, loopK_rt, endF_rt, endF_nx, ioS_no, ioS_lst, retA_val, retA_lst, retA_slot, call_no, call_io, args_nil, args_cons, seeAll_nil, seeAll_cons, ite_and, ite_or, Mi.get, put, fill, Slot.own, seqOf_list, seqOf_tuple, sub_tup, sub_lst, b_add, b_addb, b_sub, b_addt, b_addl, s_tup, s_lst, i_int, i_intb, i_intt, i_ints, i_bool, i_booli, i_boolt, i_str, i_stri, i_strt, i_tup, i_tupi, i_tups, i_lst, i_lstt, i_lsti, i_lsts, i_non, f_lenl, f_lent, f_int, f_intb, f_listl, f_listt, f_lists, f_tupl, f_tupt, f_all, f_any, a_lst, a_int, asg_v, asg_l, asg_t, asgs_nil, asgs_cons, put_nm, put_tp, puts_nil, puts_cons, c_lt, c_le, c_gt, c_ge, List.map_cons, List.map_nil, List.length_cons, List.length_nil, List.replicate, List.append_nil, List.cons_append, List.nil_append, if_true, if_false, Bool.false_eq_true, Bool.not_false, Bool.not_true, Nat.reduceAdd, Nat.reduceSub, Nat.reduceLT, ev_turn1, ev_turn2, ev_condN, lc_nil, lc_cons, lc2_nil, lc2_cons, optC_some, optC_none, frzR_eq, noX_ok, wipeE, backE, noOwn, List.all_cons, List.all_nil, str_eq, String.reduceEq, eq_self, Int.cast_ofNat_Int, Int.reduceLE, Int.reduceLT, Int.reduceSub, Int.reduceAdd, Int.reduceEq, Int.natCast_add, Int.reduceNeg, Int.natCast_zero, decide_true, decide_false, Bool.and_true, Bool.and_false, Bool.true_and, Bool.false_and, Bool.or_false, Bool.false_or, Bool.or_true, Bool.true_or, Bool.and_self, Bool.not_eq_true, not_true_eq_false, not_false_eq_true, and_self, and_true, true_and, and_false, false_and, reduceIte, io0, io1, io2, io3, io4, io5, io6, io7, io8, io9, io10, io11, io12, io13, io14, io15, io16, io17, io18, io19, io20, io21, io22, io23, io24, io25, io26, io27, io28, io29, io30, io31, io32, io33, io34, io35, io36, io37, io38, io39, io40, io41, io42, io43, io44, io45, io46, io47, io48, io49, io50, io51, io52, io53, io54, io55, io56, io57, io58, io59, io60, io61, io62, io63, io64, io65] $[$loc]?)
/-! the plain law, part 13: numbers that fit, strengthened -/
def wh (hi : Int) : PyData → Bool
  | .int v => decide (0 ≤ v) && decide (v ≤ hi)
  | _ => false
def noD : PyData → Bool
  | .dict _ => false
  | _ => true
theorem i_dini (d : List PyData) : isTy (.list d) .int = .ok false := rfl
theorem is_whole_d (k : Nat) (hi : Int) (d : PyData) (h : noD d = true) : callF T (k+1) 23 [.val d, .val (.int 0), .val (.int hi)] = .ok (.val (.bool (wh hi d)), .emp) := by
  cases d with
  | int v => exact is_whole k v 0 hi
  | dict v => cases h
  | _ =>
    rw [ev_call (fd := f23) rfl rfl]
    simp! [f23, m23, wh]
theorem is_tuple_no (k : Nat) (lo hi : Int) : callF T (k+1) 22 [.val .none, .val (.int lo), .val (.int hi)] = .ok (.val (.bool false), .emp) := by
  rw [ev_call (fd := f22) rfl rfl]
  simp! [f22, m22]
theorem is_tuple_li (k : Nat) (ds : List PyData) (lo hi : Int) : callF T (k+1) 22 [.val (.list ds), .val (.int lo), .val (.int hi)] = .ok (.val (.bool false), .emp) := by
  rw [ev_call (fd := f22) rfl rfl]
  simp! [f22, m22]
def manyOf (bs : List Bk) : Nat := ((every bs).filter St.acc).length
theorem all_of {α : Type} (p : α → Bool) (l : List α) : bltF .all [.list (l.map fun x => PyData.bool (p x))] = .ok (.val (.bool (l.all p))) := by
  have e : (l.map fun x => PyData.bool (p x)) = (l.map p).map PyData.bool := by
    rw [List.map_map]
    rfl
  rw [e, f_all]
  congr 3
  rw [List.all_map]
  rfl
theorem zip_ints : ∀ (xs ys : List Int), zipF (xs.map .int) (ys.map .int) = (xs.zip ys).map fun p => PyData.tuple [.int p.1, .int p.2]
  | [], _ => by simp [zipF]
  | _ :: _, [] => by simp [zipF]
  | x :: xs, y :: ys => by
    simp only [List.map_cons, zipF, zip_ints xs ys, List.zip_cons_cons]
def asc (ns : List Int) : Bool := (ns.zip ns.tail).all fun p => decide (p.1 < p.2)
theorem cut_tail (ds : List PyData) : cut ds (some 1) none = ds.tail := by
  cases ds with
  | nil => rfl
  | cons d r =>
    simp only [cut, cutIx, List.length_cons]
    have e1 : min (1 : Int).toNat (r.length + 1) = 1 := by
      have : (1 : Int).toNat = 1 := rfl
      omega
    simp only [show ¬ ((1 : Int) < 0) by decide, if_false, e1, List.drop_succ_cons, List.drop_zero, List.tail_cons]
    rw [List.take_of_length_le (by omega)]
end
end K48

set_option Elab.async false
set_option linter.all false
set_option maxRecDepth 100000
set_option maxHeartbeats 4000000
namespace K48
open PySem Mi
section
local macro_rules
  | `(tactic| simp! [$xs,*] $[$loc]?) => `(tactic| simp -implicitDefEqProofs only [$xs,*, ev_var, ev_and, ev_or, ev_chn, ev_ite, ev_iff, ev_while, ev_for, ev_forN, ev_lc, ev_lc2, ev_cons, ev_nil, ev_cst, ev_gbl, ev_tup, ev_lst, ev_sub, ev_slc, ev_op2, ev_neg, ev_not, ev_cmp, ev_callE, ev_blt, ev_isi, ev_trg, ev_app, ev_pop, ev_nilA, ev_consA, ev_nilF, ev_consF, ev_nilM, ev_consM, ev_seq, ev_rng1, ev_enm, ev_zip, ev_asg, ev_par, ev_exp, ev_aug, ev_sti, ev_popAt, someS_lst, someS_val, onS_lst, ev_ret, ev_rse, ok_bind, exn_bind, stk_bind, pure_ok, varR_val, varR_lst, seeB_val, see_val, see_lst, see_slot, slotSee_lst, slotSee_val, frz_val', frz_lst', frz_slot, slotFrz_lst, slotFrz_val, bool1_bool, int1_int, optInt_no, optInt_yes, ME.isNop, onL_lst, settle_val, settle_lst, settle_slot, mv_val, mv_lst, mv_slot, thenB_nx, thenB_rt, thenB_bk, thenB_ct, loopK_nx, loopK_ct, loopK_bk, loopK_rt, endF_rt, endF_nx, ioS_no, ioS_lst, retA_val, retA_lst, retA_slot, call_no, call_io, args_nil, args_cons, seeAll_nil, seeAll_cons, ite_and, ite_or, Mi.get, put, fill, Slot.own, seqOf_list, seqOf_tuple, sub_tup, sub_lst, b_add, b_addb, b_sub, b_addt, b_addl, s_tup, s_lst, i_int, i_intb, i_intt, i_ints, i_bool, i_booli, i_boolt, i_str, i_stri, i_strt, i_tup, i_tupi, i_tups, i_lst, i_lstt, i_lsti, i_lsts, i_non, f_lenl, f_lent, f_int, f_intb, f_listl, f_listt, f_lists, f_tupl, f_tupt, f_all, f_any, a_lst, a_int, asg_v, asg_l, asg_t, asgs_nil, asgs_cons, put_nm, put_tp, puts_nil, puts_cons, c_lt, c_le, c_gt, c_ge, List.map_cons, List.map_nil, List.length_cons, List.length_nil, List.replicate, List.append_nil, List.cons_append, List.nil_append, if_true, if_false, Bool.false_eq_true, Bool.not_false, Bool.not_true, Nat.reduceAdd, Nat.reduceSub, Nat.reduceLT, ev_turn1, ev_turn2, ev_condN, lc_nil, lc_cons, lc2_nil, lc2_cons, optC_some, optC_none, frzR_eq, noX_ok, wipeE, backE, noOwn, List.all_cons, List.all_nil, str_eq, String.reduceEq, eq_self, Int.cast_ofNat_Int, Int.reduceLE, Int.reduceLT, Int.reduceSub, Int.reduceAdd, Int.reduceEq, Int.natCast_add, Int.reduceNeg, Int.natCast_zero, decide_true, decide_false, Bool.and_true, Bool.and_false, Bool.true_and, Bool.false_and, Bool.or_false, Bool.false_or, Bool.or_true, Bool.true_or, Bool.and_self, Bool.not_eq_true, not_true_eq_false, not_false_eq_true, and_self, and_true, true_and, and_false, false_and, reduceIte, io0, io1, io2, io3, io4, io5, io6, io7, io8, io9, io10, io11, io12, io13, io14, io15, io16, io17, io18, io19, io20, io21, io22, io23, io24, io25, io26, io27, io28, io29, io30, io31, io32, io33, io34, io35, io36, io37, io38, io39, io40, io41, io42, io43, io44, io45, io46, io47, io48, io49, io50, io51, io52, io53, io54, io55, io56, io57, io58, io59, io60, io61, io62, io63, io64, io65] $[$loc]?)
/-! the plain law, part 14: refusals -/
theorem need_ok (k : Nat) (bs : List Bk) (h : PrOk bs) : callF T (k + 7) 36 [.val (.tuple (bs.map tup))] = .ok (.val .none, .emp) := by
  rw [ev_call (fd := f36) rfl rfl]
  simp! [f36, m36, fits_program k bs h]
theorem program_li (k : Nat) (ds : List PyData) : callF T (k + 2) 50 [.val (.list ds)] = .ok (.val (.bool false), .emp) := by
  rw [ev_call (fd := f50) rfl rfl]
  simp! [f50, ce50_0, ce50_1, cd50_2, ce50_2, cd50_3, ce50_3, m50_3, m50_2, m50_1, m50, is_tuple_li]
theorem need_li (k : Nat) (ds : List PyData) : callF T (k + 3) 36 [.val (.list ds)] = .exn 0 [] := by
  rw [ev_call (fd := f36) rfl rfl]
  simp! [f36, m36, program_li]
end
end K48

set_option Elab.async false
set_option linter.all false
set_option maxRecDepth 100000
set_option maxHeartbeats 4000000
namespace K48
open PySem Mi
section
local macro_rules
  | `(tactic| simp! [$xs,*] $[$loc]?) => `(tactic| simp -implicitDefEqProofs only [$xs,*, ev_var, ev_and, ev_or, ev_chn, ev_ite, ev_iff, ev_while, ev_for, ev_forN, ev_lc, ev_lc2, ev_cons, ev_nil, ev_cst, ev_gbl, ev_tup, ev_lst, ev_sub, ev_slc, ev_op2, ev_neg, ev_not, ev_cmp, ev_callE, ev_blt, ev_isi, ev_trg, ev_app, ev_pop, ev_nilA, ev_consA, ev_nilF, ev_consF, ev_nilM, ev_consM, ev_seq, ev_rng1, ev_enm, ev_zip, ev_asg, ev_par, ev_exp, ev_aug, ev_sti, ev_popAt, someS_lst, someS_val, onS_lst, ev_ret, ev_rse, ok_bind, exn_bind, stk_bind, pure_ok, varR_val, varR_lst, seeB_val, see_val, see_lst, see_slot, slotSee_lst, slotSee_val, frz_val', frz_lst', frz_slot, slotFrz_lst, slotFrz_val, bool1_bool, int1_int, optInt_no, optInt_yes, ME.isNop, onL_lst, settle_val, settle_lst, settle_slot, mv_val, mv_lst, mv_slot, thenB_nx, thenB_rt, thenB_bk, thenB_ct, loopK_nx, loopK_ct, loopK_bk, loopK_rt, endF_rt, endF_nx, ioS_no, ioS_lst, retA_val, retA_lst, retA_slot, call_no, call_io, args_nil, args_cons, seeAll_nil, seeAll_cons, ite_and, ite_or, Mi.get, put, fill, Slot.own, seqOf_list, seqOf_tuple, sub_tup, sub_lst, b_add, b_addb, b_sub, b_addt, b_addl, s_tup, s_lst, i_int, i_intb, i_intt, i_ints, i_bool, i_booli, i_boolt, i_str, i_stri, i_strt, i_tup, i_tupi, i_tups, i_lst, i_lstt, i_lsti, i_lsts, i_non, f_lenl, f_lent, f_int, f_intb, f_listl, f_listt, f_lists, f_tupl, f_tupt, f_all, f_any, a_lst, a_int, asg_v, asg_l, asg_t, asgs_nil, asgs_cons, put_nm, put_tp, puts_nil, puts_cons, c_lt, c_le, c_gt, c_ge, List.map_cons, List.map_nil, List.length_cons, List.length_nil, List.replicate, List.append_nil, List.cons_append, List.nil_append, if_true, if_false, Bool.false_eq_true, Bool.not_false, Bool.not_true, Nat.reduceAdd, Nat.reduceSub, Nat.reduceLT, ev_turn1, ev_turn2, ev_condN, lc_nil, lc_cons, lc2_nil, lc2_cons, optC_some, optC_none, frzR_eq, noX_ok, wipeE, backE, noOwn, List.all_cons, List.all_nil, str_eq, String.reduceEq, eq_self, Int.cast_ofNat_Int, Int.reduceLE, Int.reduceLT, Int.reduceSub, Int.reduceAdd, Int.reduceEq, Int.natCast_add, Int.reduceNeg, Int.natCast_zero, decide_true, decide_false, Bool.and_true, Bool.and_false, Bool.true_and, Bool.false_and, Bool.or_false, Bool.false_or, Bool.or_true, Bool.true_or, Bool.and_self, Bool.not_eq_true, not_true_eq_false, not_false_eq_true, and_self, and_true, true_and, and_false, false_and, reduceIte, io0, io1, io2, io3, io4, io5, io6, io7, io8, io9, io10, io11, io12, io13, io14, io15, io16, io17, io18, io19, io20, io21, io22, io23, io24, io25, io26, io27, io28, io29, io30, io31, io32, io33, io34, io35, io36, io37, io38, io39, io40, io41, io42, io43, io44, io45, io46, io47, io48, io49, io50, io51, io52, io53, io54, io55, io56, io57, io58, io59, io60, io61, io62, io63, io64, io65] $[$loc]?)
/-! the plain law, part 15: the cup, refused -/
/-! ### the cup -/
def cupD (a b : Int) : Mi.Slot := .lst [.int a, .int b]
def CupOk (a b : Int) : Prop := 0 ≤ a ∧ 0 ≤ b ∧ b < 2147483477
theorem ix20 : ixAt 2 0 = some 0 := rfl
theorem ix21 : ixAt 2 1 = some 1 := rfl
theorem fm1 (b : Int) : fitsMul b 31081 = true := by
  simp [fitsMul]
theorem fm2 (b c : Int) (h : 0 ≤ b ∧ b < 2147483477) : fitsMul b c = true := by
  have h1 : -(2 ^ 64) < b := by omega
  have h2 : b < 2 ^ 64 := by omega
  simp [fitsMul]
  exact .inl ⟨by omega, by omega⟩
theorem roll (k : Nat) (a b many : Int) (h : CupOk a b) (hm : 0 < many) (hm2 : many < 1073741824) : ∃ v a' b', callF T (k + 1) 6 [cupD a b, .val (.int many)] = .ok (.val (.int v), cupD a' b') ∧ CupOk a' b' ∧ 0 ≤ v ∧ v < many := by
  obtain ⟨h1, h2, h3⟩ := h
  have c0 : (0 < many ∧ many < 1073741824) := ⟨hm, hm2⟩
  cases hc : decide (0 < a) with
  | true =>
    have ha : 0 < a := by simpa using hc
    refine ⟨a % many, a / many, b, ?_, ⟨Int.ediv_nonneg h1 (Int.le_of_lt hm), h2, h3⟩, Int.emod_nonneg _ (by omega), Int.emod_lt_of_pos _ hm⟩
    rw [ev_call (fd := f6) rfl rfl]
    simp! [f6, m6_3, m6_2, m6_1, m6, cupD, item0, item1, hc, b_mod, b_fdiv, hm, c0, ix20, ix21, List.set_cons_zero]
  | false =>
    have q1 : 0 ≤ (b * 31081 + 8039) % 2147483477 := Int.emod_nonneg _ (by decide)
    have q2 : (b * 31081 + 8039) % 2147483477 < 2147483477 := Int.emod_lt_of_pos _ (by decide)
    refine ⟨((b * 31081 + 8039) % 2147483477 * ((b * 31081 + 8039) % 2147483477 + 251)) % 2147483587 / 839 % many, a, (b * 31081 + 8039) % 2147483477, ?_, ⟨h1, q1, q2⟩, Int.emod_nonneg _ (by omega), Int.emod_lt_of_pos _ hm⟩
    rw [ev_call (fd := f6) rfl rfl]
    simp! [f6, m6_3, m6_2, m6_1, m6, cupD, item0, item1, hc, b_mod, b_fdiv, b_mul, fm1, fm2 _ _ ⟨q1, q2⟩, hm, c0, ix20, ix21, List.set_cons_zero, List.set_cons_succ]
end
end K48

set_option Elab.async false
set_option linter.all false
set_option maxRecDepth 100000
set_option maxHeartbeats 4000000
namespace K48
open PySem Mi
section
local macro_rules
  | `(tactic| simp! [$xs,*] $[$loc]?) => `(tactic| simp -implicitDefEqProofs only [$xs,*, ev_var, ev_and, ev_or, ev_chn, ev_ite, ev_iff, ev_while, ev_for, ev_forN, ev_lc, ev_lc2, ev_cons, ev_nil, ev_cst, ev_gbl, ev_tup, ev_lst, ev_sub, ev_slc, ev_op2, ev_neg, ev_not, ev_cmp, ev_callE, ev_blt, ev_isi, ev_trg, ev_app, ev_pop, ev_nilA, ev_consA, ev_nilF, ev_consF, ev_nilM, ev_consM, ev_seq, ev_rng1, ev_enm, ev_zip, ev_asg, ev_par, ev_exp, ev_aug, ev_sti, ev_popAt, someS_lst, someS_val, onS_lst, ev_ret, ev_rse, ok_bind, exn_bind, stk_bind, pure_ok, varR_val, varR_lst, seeB_val, see_val, see_lst, see_slot, slotSee_lst, slotSee_val, frz_val', frz_lst', frz_slot, slotFrz_lst, slotFrz_val, bool1_bool, int1_int, optInt_no, optInt_yes, ME.isNop, onL_lst, settle_val, settle_lst, settle_slot, mv_val, mv_lst, mv_slot, thenB_nx, thenB_rt, thenB_bk, thenB_ct, loopK_nx, loopK_ct, loopK_bk, loopK_rt, endF_rt, endF_nx, ioS_no, ioS_lst, retA_val, retA_lst, retA_slot, call_no, call_io, args_nil, args_cons, seeAll_nil, seeAll_cons, ite_and, ite_or, Mi.get, put, fill, Slot.own, seqOf_list, seqOf_tuple, sub_tup, sub_lst, b_add, b_addb, b_sub, b_addt, b_addl, s_tup, s_lst, i_int, i_intb, i_intt, i_ints, i_bool, i_booli, i_boolt, i_str, i_stri, i_strt, i_tup, i_tupi, i_tups, i_lst, i_lstt, i_lsti, i_lsts, i_non, f_lenl, f_lent, f_int, f_intb, f_listl, f_listt, f_lists, f_tupl, f_tupt, f_all, f_any, a_lst, a_int, asg_v, asg_l, asg_t, asgs_nil, asgs_cons, put_nm, put_tp, puts_nil, puts_cons, c_lt, c_le, c_gt, c_ge, List.map_cons, List.map_nil, List.length_cons, List.length_nil, List.replicate, List.append_nil, List.cons_append, List.nil_append, if_true, if_false, Bool.false_eq_true, Bool.not_false, Bool.not_true, Nat.reduceAdd, Nat.reduceSub, Nat.reduceLT, ev_turn1, ev_turn2, ev_condN, lc_nil, lc_cons, lc2_nil, lc2_cons, optC_some, optC_none, frzR_eq, noX_ok, wipeE, backE, noOwn, List.all_cons, List.all_nil, str_eq, String.reduceEq, eq_self, Int.cast_ofNat_Int, Int.reduceLE, Int.reduceLT, Int.reduceSub, Int.reduceAdd, Int.reduceEq, Int.natCast_add, Int.reduceNeg, Int.natCast_zero, decide_true, decide_false, Bool.and_true, Bool.and_false, Bool.true_and, Bool.false_and, Bool.or_false, Bool.false_or, Bool.or_true, Bool.true_or, Bool.and_self, Bool.not_eq_true, not_true_eq_false, not_false_eq_true, and_self, and_true, true_and, and_false, false_and, reduceIte, io0, io1, io2, io3, io4, io5, io6, io7, io8, io9, io10, io11, io12, io13, io14, io15, io16, io17, io18, io19, io20, io21, io22, io23, io24, io25, io26, io27, io28, io29, io30, io31, io32, io33, io34, io35, io36, io37, io38, io39, io40, io41, io42, io43, io44, io45, io46, io47, io48, io49, io50, io51, io52, io53, io54, io55, io56, io57, io58, io59, io60, io61, io62, io63, io64, io65] $[$loc]?)
/-! the plain law, part 16: drawn expressions -/
theorem some_ (k : Nat) (a b : Int) (ds : List PyData) (h : CupOk a b) (h0 : 0 < ds.length) (h1 : ds.length < 1073741824) : ∃ d a' b', callF T (k + 2) 5 [cupD a b, .val (.list ds)] = .ok (.val d, cupD a' b') ∧ CupOk a' b' ∧ d ∈ ds := by
  obtain ⟨v, a', b', g, c, v0, v1⟩ := roll k a b (ds.length : Int) h (by omega) (by omega)
  have hv : v.toNat < ds.length := by omega
  have e : ds[v.toNat]? = some ds[v.toNat] := List.getElem?_eq_getElem hv
  have e2 : itemAt ds v = .ok ds[v.toNat] := by
    have := item_nat v.toNat e
    rw [Int.toNat_of_nonneg v0] at this
    exact this
  refine ⟨ds[v.toNat], a', b', ?_, c, List.getElem_mem hv⟩
  simp only [cupD] at g ⊢
  rw [ev_call (fd := f5) rfl rfl]
  simp! [f5, m5, g, e2]
theorem Ex.mono : ∀ (e : Ex) (n m : Int), e.Ok n → n ≤ m → e.Ok m
  | .num v, n, m, h, hm => ⟨by have := h.1; omega, h.2⟩
  | .reg v, n, m, h, hm => ⟨by have := h.1; omega, h.2⟩
  | .op w a b, n, m, h, hm => ⟨by have := h.1; omega, h.2.1, a.mono _ _ h.2.2.1 (by omega), b.mono _ _ h.2.2.2 (by omega)⟩
theorem expr0 (k : Nat) (a b : Int) (h : CupOk a b) : ∃ (e : Ex) (a' b' : Int), callF T (k + 3) 26 [cupD a b, .val (.int 0)] = .ok (.val e.d, cupD a' b') ∧ CupOk a' b' ∧ e.Ok 1 ∧ e.size ≤ 1 := by
  obtain ⟨v, a1, b1, g1, c1, v0, v1⟩ := roll (k + 1) a b 4 h (by decide) (by decide)
  have hv : decide (v < 4) = true := by simpa using v1
  cases h2 : decide (v < 2) with
  | true =>
    obtain ⟨d, a2, b2, g2, c2, hd⟩ := some_ k a1 b1 [.int 0, .int 1, .int 1, .int 2, .int 3, .int 15] c1 (by decide) (by decide)
    have hx : ∃ x : Int, d = .int x ∧ 0 ≤ x ∧ x ≤ 15 := by
      simp only [List.mem_cons, List.not_mem_nil, or_false] at hd
      rcases hd with rfl | rfl | rfl | rfl | rfl | rfl <;> exact ⟨_, rfl, by decide, by decide⟩
    obtain ⟨x, rfl, x0, x1⟩ := hx
    refine ⟨.num x, a2, b2, ?_, c2, ⟨by decide, x0, x1⟩, by simp [Ex.size]⟩
    simp only [cupD] at g1 g2 ⊢
    rw [ev_call (fd := f26) rfl rfl]
    simp! [f26, m26_2, m26_1, m26, g1, g2, hv, h2, Ex.d]
  | false =>
    obtain ⟨x, a2, b2, g2, c2, x0, x1⟩ := roll (k + 1) a1 b1 2 c1 (by decide) (by decide)
    refine ⟨.reg x, a2, b2, ?_, c2, ⟨by decide, x0, by omega⟩, by simp [Ex.size]⟩
    simp only [cupD] at g1 g2 ⊢
    rw [ev_call (fd := f26) rfl rfl]
    simp! [f26, m26_2, m26_1, m26, g1, g2, hv, h2, Ex.d]
theorem isW_of {w : PyData} (h : w ∈ [PyData.str "plus", .str "minus", .str "times", .str "same", .str "less"]) : ∃ x : Str, w = .str x ∧ isW x = true := by
  simp only [List.mem_cons, List.not_mem_nil, or_false] at h
  rcases h with rfl | rfl | rfl | rfl | rfl <;> exact ⟨_, rfl, by simp! [isW]⟩
theorem expr1 (k : Nat) (a b : Int) (h : CupOk a b) : ∃ (e : Ex) (a' b' : Int), callF T (k + 4) 26 [cupD a b, .val (.int 1)] = .ok (.val e.d, cupD a' b') ∧ CupOk a' b' ∧ e.Ok 2 ∧ e.size ≤ 3 := by
  obtain ⟨v, a1, b1, g1, c1, v0, v1⟩ := roll (k + 2) a b 6 h (by decide) (by decide)
  cases hv : decide (v < 4) with
  | true =>
    cases h2 : decide (v < 2) with
    | true =>
      obtain ⟨d, a2, b2, g2, c2, hd⟩ := some_ (k + 1) a1 b1 [.int 0, .int 1, .int 1, .int 2, .int 3, .int 15] c1 (by decide) (by decide)
      have hx : ∃ x : Int, d = .int x ∧ 0 ≤ x ∧ x ≤ 15 := by
        simp only [List.mem_cons, List.not_mem_nil, or_false] at hd
        rcases hd with rfl | rfl | rfl | rfl | rfl | rfl <;> exact ⟨_, rfl, by decide, by decide⟩
      obtain ⟨x, rfl, x0, x1⟩ := hx
      refine ⟨.num x, a2, b2, ?_, c2, ⟨by decide, x0, x1⟩, by simp [Ex.size]⟩
      simp only [cupD] at g1 g2 ⊢
      rw [ev_call (fd := f26) rfl rfl]
      simp! [f26, m26_2, m26_1, m26, g1, g2, hv, h2, Ex.d]
    | false =>
      obtain ⟨x, a2, b2, g2, c2, x0, x1⟩ := roll (k + 2) a1 b1 2 c1 (by decide) (by decide)
      refine ⟨.reg x, a2, b2, ?_, c2, ⟨by decide, x0, by omega⟩, by simp [Ex.size]⟩
      simp only [cupD] at g1 g2 ⊢
      rw [ev_call (fd := f26) rfl rfl]
      simp! [f26, m26_2, m26_1, m26, g1, g2, hv, h2, Ex.d]
  | false =>
    obtain ⟨w, a2, b2, g2, c2, hw⟩ := some_ (k + 1) a1 b1 [.str "plus", .str "minus", .str "times", .str "same", .str "less"] c1 (by decide) (by decide)
    obtain ⟨x, rfl, hx⟩ := isW_of hw
    obtain ⟨e1, a3, b3, g3, c3, o3, z3⟩ := expr0 k a2 b2 c2
    obtain ⟨e2, a4, b4, g4, c4, o4, z4⟩ := expr0 k a3 b3 c3
    refine ⟨.op x e1 e2, a4, b4, ?_, c4, ⟨by decide, hx, o3, o4⟩, by simp only [Ex.size]; omega⟩
    simp only [cupD] at g1 g2 g3 g4 ⊢
    rw [ev_call (fd := f26) rfl rfl]
    simp! [f26, m26_2, m26_1, m26, g1, g2, g3, g4, hv, Ex.d]
end
end K48

set_option Elab.async false
set_option linter.all false
set_option maxRecDepth 100000
set_option maxHeartbeats 4000000
namespace K48
open PySem Mi
section
local macro_rules
  | `(tactic| simp! [$xs,*] $[$loc]?) => `(tactic| simp -implicitDefEqProofs only [$xs,*, ev_var, ev_and, ev_or, ev_chn, ev_ite, ev_iff, ev_while, ev_for, ev_forN, ev_lc, ev_lc2, ev_cons, ev_nil, ev_cst, ev_gbl, ev_tup, ev_lst, ev_sub, ev_slc, ev_op2, ev_neg, ev_not, ev_cmp, ev_callE, ev_blt, ev_isi, ev_trg, ev_app, ev_pop, ev_nilA, ev_consA, ev_nilF, ev_consF, ev_nilM, ev_consM, ev_seq, ev_rng1, ev_enm, ev_zip, ev_asg, ev_par, ev_exp, ev_aug, ev_sti, ev_popAt, someS_lst, someS_val, onS_lst, ev_ret, ev_rse, ok_bind, exn_bind, stk_bind, pure_ok, varR_val, varR_lst, seeB_val, see_val, see_lst, see_slot, slotSee_lst, slotSee_val, frz_val', frz_lst', frz_slot, slotFrz_lst, slotFrz_val, bool1_bool, int1_int, optInt_no, optInt_yes, ME.isNop, onL_lst, settle_val, settle_lst, settle_slot, mv_val, mv_lst, mv_slot, thenB_nx, thenB_rt, thenB_bk, thenB_ct, loopK_nx, loopK_ct, loopK_bk, loopK_rt, endF_rt, endF_nx, ioS_no, ioS_lst, retA_val, retA_lst, retA_slot, call_no, call_io, args_nil, args_cons, seeAll_nil, seeAll_cons, ite_and, ite_or, Mi.get, put, fill, Slot.own, seqOf_list, seqOf_tuple, sub_tup, sub_lst, b_add, b_addb, b_sub, b_addt, b_addl, s_tup, s_lst, i_int, i_intb, i_intt, i_ints, i_bool, i_booli, i_boolt, i_str, i_stri, i_strt, i_tup, i_tupi, i_tups, i_lst, i_lstt, i_lsti, i_lsts, i_non, f_lenl, f_lent, f_int, f_intb, f_listl, f_listt, f_lists, f_tupl, f_tupt, f_all, f_any, a_lst, a_int, asg_v, asg_l, asg_t, asgs_nil, asgs_cons, put_nm, put_tp, puts_nil, puts_cons, c_lt, c_le, c_gt, c_ge, List.map_cons, List.map_nil, List.length_cons, List.length_nil, List.replicate, List.append_nil, List.cons_append, List.nil_append, if_true, if_false, Bool.false_eq_true, Bool.not_false, Bool.not_true, Nat.reduceAdd, Nat.reduceSub, Nat.reduceLT, ev_turn1, ev_turn2, ev_condN, lc_nil, lc_cons, lc2_nil, lc2_cons, optC_some, optC_none, frzR_eq, noX_ok, wipeE, backE, noOwn, List.all_cons, List.all_nil, str_eq, String.reduceEq, eq_self, Int.cast_ofNat_Int, Int.reduceLE, Int.reduceLT, Int.reduceSub, Int.reduceAdd, Int.reduceEq, Int.natCast_add, Int.reduceNeg, Int.natCast_zero, decide_true, decide_false, Bool.and_true, Bool.and_false, Bool.true_and, Bool.false_and, Bool.or_false, Bool.false_or, Bool.or_true, Bool.true_or, Bool.and_self, Bool.not_eq_true, not_true_eq_false, not_false_eq_true, and_self, and_true, true_and, and_false, false_and, reduceIte, io0, io1, io2, io3, io4, io5, io6, io7, io8, io9, io10, io11, io12, io13, io14, io15, io16, io17, io18, io19, io20, io21, io22, io23, io24, io25, io26, io27, io28, io29, io30, io31, io32, io33, io34, io35, io36, io37, io38, io39, io40, io41, io42, io43, io44, io45, io46, io47, io48, io49, io50, io51, io52, io53, io54, io55, io56, io57, io58, io59, io60, io61, io62, io63, io64, io65] $[$loc]?)
/-! the plain law, part 17: drawn accesses -/
theorem eOk_of {e : Ex} {n : Int} {z : Nat} (h : e.Ok n) (hn : n ≤ 4) (hz : e.size ≤ z) (hz2 : z ≤ 500) : eOk e := ⟨e.mono n 4 h hn, Nat.le_trans hz hz2⟩
theorem access (k : Nat) (a b cells : Int) (h : CupOk a b) (h1 : 0 < cells) (h2 : cells ≤ 4) : ∃ (s : St) (a' b' : Int), callF T (k + 5) 27 [cupD a b, .val (.int cells)] = .ok (.val s.d, cupD a' b') ∧ CupOk a' b' ∧ s.Ok ∧ s.acc = true := by
  obtain ⟨c, a1, b1, g1, c1, v0, v1⟩ := roll (k + 3) a b cells h h1 (by omega)
  obtain ⟨w, a2, b2, g2, c2, w0, w1⟩ := roll (k + 3) a1 b1 10 c1 (by decide) (by decide)
  have hc : cOk c := ⟨v0, by omega⟩
  cases h4 : decide (w < 4) with
  | true =>
    obtain ⟨m, a3, b3, g3, c3, hm⟩ := some_ (k + 2) a2 b2 [.str "plain", .str "plain", .str "release", .str "strong"] c2 (by decide) (by decide)
    have hx : ∃ x : Str, m = .str x ∧ isWm x = true := by
      simp only [List.mem_cons, List.not_mem_nil, or_false] at hm
      rcases hm with rfl | rfl | rfl | rfl <;> exact ⟨_, rfl, by simp! [isWm]⟩
    obtain ⟨x, rfl, hx⟩ := hx
    obtain ⟨e, a4, b4, g4, c4, o4, z4⟩ := expr1 k a3 b3 c3
    refine ⟨.wr c x e, a4, b4, ?_, c4, ⟨hc, hx, eOk_of o4 (by decide) z4 (by decide)⟩, rfl⟩
    simp only [cupD] at g1 g2 g3 g4 ⊢
    rw [ev_call (fd := f27) rfl rfl]
    simp! [f27, m27_4, m27_3, m27_2, m27_1, m27, g1, g2, g3, g4, h4, St.d]
  | false =>
    cases h8 : decide (w < 8) with
    | true =>
      obtain ⟨r, a3, b3, g3, c3, r0, r1⟩ := roll (k + 3) a2 b2 2 c2 (by decide) (by decide)
      obtain ⟨m, a4, b4, g4, c4, hm⟩ := some_ (k + 2) a3 b3 [.str "plain", .str "plain", .str "acquire", .str "strong"] c3 (by decide) (by decide)
      have hx : ∃ x : Str, m = .str x ∧ isRm x = true := by
        simp only [List.mem_cons, List.not_mem_nil, or_false] at hm
        rcases hm with rfl | rfl | rfl | rfl <;> exact ⟨_, rfl, by simp! [isRm]⟩
      obtain ⟨x, rfl, hx⟩ := hx
      refine ⟨.rd r c x, a4, b4, ?_, c4, ⟨⟨r0, by omega⟩, hc, hx⟩, rfl⟩
      simp only [cupD] at g1 g2 g3 g4 ⊢
      rw [ev_call (fd := f27) rfl rfl]
      simp! [f27, m27_4, m27_3, m27_2, m27_1, m27, g1, g2, g3, g4, h4, h8, St.d]
    | false =>
      obtain ⟨m, a3, b3, g3, c3, hm⟩ := some_ (k + 2) a2 b2 [.str "swap", .str "add", .str "try"] c2 (by decide) (by decide)
      obtain ⟨r, a4, b4, g4, c4, r0, r1⟩ := roll (k + 3) a3 b3 2 c3 (by decide) (by decide)
      have hr : rOk r := ⟨r0, by omega⟩
      simp only [List.mem_cons, List.not_mem_nil, or_false] at hm
      rcases hm with rfl | rfl | rfl
      · obtain ⟨e, a5, b5, g5, c5, o5, z5⟩ := expr1 k a4 b4 c4
        refine ⟨.xch "swap" r c e, a5, b5, ?_, c5, ⟨.inl rfl, hr, hc, eOk_of o5 (by decide) z5 (by decide)⟩, rfl⟩
        simp only [cupD] at g1 g2 g3 g4 g5 ⊢
        rw [ev_call (fd := f27) rfl rfl]
        simp! [f27, m27_4, m27_3, m27_2, m27_1, m27, g1, g2, g3, g4, g5, h4, h8, St.d, eq_str, show 4 ≤ big by decide, show 5 ≤ big by decide]
      · obtain ⟨e, a5, b5, g5, c5, o5, z5⟩ := expr1 k a4 b4 c4
        refine ⟨.xch "add" r c e, a5, b5, ?_, c5, ⟨.inr rfl, hr, hc, eOk_of o5 (by decide) z5 (by decide)⟩, rfl⟩
        simp only [cupD] at g1 g2 g3 g4 g5 ⊢
        rw [ev_call (fd := f27) rfl rfl]
        simp! [f27, m27_4, m27_3, m27_2, m27_1, m27, g1, g2, g3, g4, g5, h4, h8, St.d, eq_str, show 4 ≤ big by decide, show 5 ≤ big by decide]
      · obtain ⟨e, a5, b5, g5, c5, o5, z5⟩ := expr0 (k + 1) a4 b4 c4
        obtain ⟨e2, a6, b6, g6, c6, o6, z6⟩ := expr1 k a5 b5 c5
        refine ⟨.tr r c e e2, a6, b6, ?_, c6, ⟨hr, hc, eOk_of o5 (by decide) z5 (by decide), eOk_of o6 (by decide) z6 (by decide)⟩, rfl⟩
        simp only [cupD] at g1 g2 g3 g4 g5 g6 ⊢
        rw [ev_call (fd := f27) rfl rfl]
        simp! [f27, m27_4, m27_3, m27_2, m27_1, m27, g1, g2, g3, g4, g5, g6, h4, h8, St.d, eq_str, show 4 ≤ big by decide, show 5 ≤ big by decide]
end
end K48

set_option Elab.async false
set_option linter.all false
set_option maxRecDepth 100000
set_option maxHeartbeats 4000000
namespace K48
open PySem Mi
section
local macro_rules
  | `(tactic| simp! [$xs,*] $[$loc]?) => `(tactic| simp -implicitDefEqProofs only [$xs,*, ev_var, ev_and, ev_or, ev_chn, ev_ite, ev_iff, ev_while, ev_for, ev_forN, ev_lc, ev_lc2, ev_cons, ev_nil, ev_cst, ev_gbl, ev_tup, ev_lst, ev_sub, ev_slc, ev_op2, ev_neg, ev_not, ev_cmp, ev_callE, ev_blt, ev_isi, ev_trg, ev_app, ev_pop, ev_nilA, ev_consA, ev_nilF, ev_consF, ev_nilM, ev_consM, ev_seq, ev_rng1, ev_enm, ev_zip, ev_asg, ev_par, ev_exp, ev_aug, ev_sti, ev_popAt, someS_lst, someS_val, onS_lst, ev_ret, ev_rse, ok_bind, exn_bind, stk_bind, pure_ok, varR_val, varR_lst, seeB_val, see_val, see_lst, see_slot, slotSee_lst, slotSee_val, frz_val', frz_lst', frz_slot, slotFrz_lst, slotFrz_val, bool1_bool, int1_int, optInt_no, optInt_yes, ME.isNop, onL_lst, settle_val, settle_lst, settle_slot, mv_val, mv_lst, mv_slot, thenB_nx, thenB_rt, thenB_bk, thenB_ct, loopK_nx, loopK_ct, loopK_bk, loopK_rt, endF_rt, endF_nx, ioS_no, ioS_lst, retA_val, retA_lst, retA_slot, call_no, call_io, args_nil, args_cons, seeAll_nil, seeAll_cons, ite_and, ite_or, Mi.get, put, fill, Slot.own, seqOf_list, seqOf_tuple, sub_tup, sub_lst, b_add, b_addb, b_sub, b_addt, b_addl, s_tup, s_lst, i_int, i_intb, i_intt, i_ints, i_bool, i_booli, i_boolt, i_str, i_stri, i_strt, i_tup, i_tupi, i_tups, i_lst, i_lstt, i_lsti, i_lsts, i_non, f_lenl, f_lent, f_int, f_intb, f_listl, f_listt, f_lists, f_tupl, f_tupt, f_all, f_any, a_lst, a_int, asg_v, asg_l, asg_t, asgs_nil, asgs_cons, put_nm, put_tp, puts_nil, puts_cons, c_lt, c_le, c_gt, c_ge, List.map_cons, List.map_nil, List.length_cons, List.length_nil, List.replicate, List.append_nil, List.cons_append, List.nil_append, if_true, if_false, Bool.false_eq_true, Bool.not_false, Bool.not_true, Nat.reduceAdd, Nat.reduceSub, Nat.reduceLT, ev_turn1, ev_turn2, ev_condN, lc_nil, lc_cons, lc2_nil, lc2_cons, optC_some, optC_none, frzR_eq, noX_ok, wipeE, backE, noOwn, List.all_cons, List.all_nil, str_eq, String.reduceEq, eq_self, Int.cast_ofNat_Int, Int.reduceLE, Int.reduceLT, Int.reduceSub, Int.reduceAdd, Int.reduceEq, Int.natCast_add, Int.reduceNeg, Int.natCast_zero, decide_true, decide_false, Bool.and_true, Bool.and_false, Bool.true_and, Bool.false_and, Bool.or_false, Bool.false_or, Bool.or_true, Bool.true_or, Bool.and_self, Bool.not_eq_true, not_true_eq_false, not_false_eq_true, and_self, and_true, true_and, and_false, false_and, reduceIte, io0, io1, io2, io3, io4, io5, io6, io7, io8, io9, io10, io11, io12, io13, io14, io15, io16, io17, io18, io19, io20, io21, io22, io23, io24, io25, io26, io27, io28, io29, io30, io31, io32, io33, io34, io35, io36, io37, io38, io39, io40, io41, io42, io43, io44, io45, io46, io47, io48, io49, io50, io51, io52, io53, io54, io55, io56, io57, io58, io59, io60, io61, io62, io63, io64, io65] $[$loc]?)
/-! the plain law, part 18: the first cup, the told program -/
theorem fm3 (b : Int) : fitsMul b 307 = true := by
  simp [fitsMul]
theorem pow18 : bin2 .pow (.int 10) (.int 18) = .ok (.val (.int (10 ^ 18))) := by
  rw [b_pow, if_pos (by decide)]
  rfl
theorem cup0 (k : Nat) (ns : List Int) (hl : ns.length ≤ 63) : ∃ a b, callF T (k + 1) 0 [.val (.dict [(.none, .list (ns.map .int))])] = .ok (.lst [.int a, .int b], .emp) ∧ CupOk a b := by
  have hsz : (ns.map PyData.int).length + 1 ≤ big := by
    rw [List.length_map]
    exact small _ (by omega)
  obtain ⟨x, hx⟩ : ∃ x : Int, itemAt (ns.map PyData.int ++ [.int 0]) 0 = .ok (.int x) := by
    cases ns with
    | nil => exact ⟨0, item0 _ _⟩
    | cons n r => exact ⟨n, item0 _ _⟩
  have hy : 0 ≤ (if x < 0 then -x else x) := by
    split <;> omega
  have q1 : 0 ≤ ((if x < 0 then -x else x) * 307 + 3001) % 2077503113 := Int.emod_nonneg _ (by decide)
  have q2 : ((if x < 0 then -x else x) * 307 + 3001) % 2077503113 < 2077503113 := Int.emod_lt_of_pos _ (by decide)
  cases hc : decide ((10 : Int) ^ 18 ≤ (if x < 0 then -x else x)) with
  | true =>
    refine ⟨(if x < 0 then -x else x) / 83, ((if x < 0 then -x else x) * 307 + 3001) % 2077503113 + 181, ?_, ⟨Int.ediv_nonneg hy (by decide), by omega, by omega⟩⟩
    rw [ev_call (fd := f0) rfl rfl]
    simp! [f0, m0_1, m0, hsz, hx, f_abs, pow18, b_fdiv, b_mod, b_mul, fm3, hc]
  | false =>
    refine ⟨0, ((if x < 0 then -x else x) * 307 + 3001) % 2077503113 + 181, ?_, ⟨by decide, by omega, by omega⟩⟩
    rw [ev_call (fd := f0) rfl rfl]
    simp! [f0, m0_1, m0, hsz, hx, f_abs, pow18, b_fdiv, b_mod, b_mul, fm3, hc]
theorem plainW : isWm "plain" = true := by simp! [isWm]
theorem strongW : isWm "strong" = true := by simp! [isWm]
theorem plainR : isRm "plain" = true := by simp! [isRm]
theorem eNum (x : Int) (h0 : 0 ≤ x) (h1 : x ≤ 15) : eOk (.num x) := ⟨⟨by decide, h0, h1⟩, by simp [Ex.size]⟩
theorem eReg (x : Int) (h0 : 0 ≤ x) (h1 : x ≤ 2) : eOk (.reg x) := ⟨⟨by decide, h0, h1⟩, by simp [Ex.size]⟩
end
end K48

set_option Elab.async false
set_option linter.all false
set_option maxRecDepth 100000
set_option maxHeartbeats 4000000
namespace K48
open PySem Mi
section
local macro_rules
  | `(tactic| simp! [$xs,*] $[$loc]?) => `(tactic| simp -implicitDefEqProofs only [$xs,*, ev_var, ev_and, ev_or, ev_chn, ev_ite, ev_iff, ev_while, ev_for, ev_forN, ev_lc, ev_lc2, ev_cons, ev_nil, ev_cst, ev_gbl, ev_tup, ev_lst, ev_sub, ev_slc, ev_op2, ev_neg, ev_not, ev_cmp, ev_callE, ev_blt, ev_isi, ev_trg, ev_app, ev_pop, ev_nilA, ev_consA, ev_nilF, ev_consF, ev_nilM, ev_consM, ev_seq, ev_rng1, ev_enm, ev_zip, ev_asg, ev_par, ev_exp, ev_aug, ev_sti, ev_popAt, someS_lst, someS_val, onS_lst, ev_ret, ev_rse, ok_bind, exn_bind, stk_bind, pure_ok, varR_val, varR_lst, seeB_val, see_val, see_lst, see_slot, slotSee_lst, slotSee_val, frz_val', frz_lst', frz_slot, slotFrz_lst, slotFrz_val, bool1_bool, int1_int, optInt_no, optInt_yes, ME.isNop, onL_lst, settle_val, settle_lst, settle_slot, mv_val, mv_lst, mv_slot, thenB_nx, thenB_rt, thenB_bk, thenB_ct, loopK_nx, loopK_ct, loopK_bk, loopK_rt, endF_rt, endF_nx, ioS_no, ioS_lst, retA_val, retA_lst, retA_slot, call_no, call_io, args_nil, args_cons, seeAll_nil, seeAll_cons, ite_and, ite_or, Mi.get, put, fill, Slot.own, seqOf_list, seqOf_tuple, sub_tup, sub_lst, b_add, b_addb, b_sub, b_addt, b_addl, s_tup, s_lst, i_int, i_intb, i_intt, i_ints, i_bool, i_booli, i_boolt, i_str, i_stri, i_strt, i_tup, i_tupi, i_tups, i_lst, i_lstt, i_lsti, i_lsts, i_non, f_lenl, f_lent, f_int, f_intb, f_listl, f_listt, f_lists, f_tupl, f_tupt, f_all, f_any, a_lst, a_int, asg_v, asg_l, asg_t, asgs_nil, asgs_cons, put_nm, put_tp, puts_nil, puts_cons, c_lt, c_le, c_gt, c_ge, List.map_cons, List.map_nil, List.length_cons, List.length_nil, List.replicate, List.append_nil, List.cons_append, List.nil_append, if_true, if_false, Bool.false_eq_true, Bool.not_false, Bool.not_true, Nat.reduceAdd, Nat.reduceSub, Nat.reduceLT, ev_turn1, ev_turn2, ev_condN, lc_nil, lc_cons, lc2_nil, lc2_cons, optC_some, optC_none, frzR_eq, noX_ok, wipeE, backE, noOwn, List.all_cons, List.all_nil, str_eq, String.reduceEq, eq_self, Int.cast_ofNat_Int, Int.reduceLE, Int.reduceLT, Int.reduceSub, Int.reduceAdd, Int.reduceEq, Int.natCast_add, Int.reduceNeg, Int.natCast_zero, decide_true, decide_false, Bool.and_true, Bool.and_false, Bool.true_and, Bool.false_and, Bool.or_false, Bool.false_or, Bool.or_true, Bool.true_or, Bool.and_self, Bool.not_eq_true, not_true_eq_false, not_false_eq_true, and_self, and_true, true_and, and_false, false_and, reduceIte, io0, io1, io2, io3, io4, io5, io6, io7, io8, io9, io10, io11, io12, io13, io14, io15, io16, io17, io18, io19, io20, io21, io22, io23, io24, io25, io26, io27, io28, io29, io30, io31, io32, io33, io34, io35, io36, io37, io38, io39, io40, io41, io42, io43, io44, io45, io46, io47, io48, io49, io50, io51, io52, io53, io54, io55, io56, io57, io58, io59, io60, io61, io62, io63, io64, io65] $[$loc]?)
/-! ### the told program -/
def toldI : St := .ifs (.reg 2) (.cons (.rd 2 2 "plain") (.cons .fence .nil)) (.cons (.wr 2 "plain" (.num 1)) .nil)
def told1 (r : Int) : Bk := .cons (.ifs (.num r) (.cons (.set 1 (.num 1)) (.cons (.wr 3 "plain" (.reg 1)) (.cons toldI .nil))) (.cons (.xch "add" 0 3 (.num 1)) .nil)) .nil
def told2 (m : Str) : Bk := .cons (.need (.num 1)) (.cons (.rd 2 3 "plain") (.cons (.ifs (.reg 2) (.cons (.wr 2 m (.num 3)) .nil) .nil) .nil))
theorem told_ok (r : Int) (m : Str) (h0 : 0 ≤ r) (h1 : r ≤ 1) (hm : isWm m = true) : PrOk [told1 r, told2 m] := by
  have oi : toldI.Ok := ⟨eReg 2 (by decide) (by decide), ⟨⟨⟨by decide, by decide⟩, ⟨by decide, by decide⟩, plainR⟩, trivial, trivial⟩, ⟨⟨⟨by decide, by decide⟩, plainW, eNum 1 (by decide) (by decide)⟩, trivial⟩, by simp [Bk.ds], by simp [Bk.ds]⟩
  have o1 : (told1 r).Ok := ⟨⟨eNum r h0 (by omega), ⟨⟨⟨by decide, by decide⟩, eNum 1 (by decide) (by decide)⟩, ⟨⟨by decide, by decide⟩, plainW, eReg 1 (by decide) (by decide)⟩, oi, trivial⟩, ⟨⟨.inr rfl, ⟨by decide, by decide⟩, ⟨by decide, by decide⟩, eNum 1 (by decide) (by decide)⟩, trivial⟩, by simp [Bk.ds], by simp [Bk.ds]⟩, trivial⟩
  have o2 : (told2 m).Ok := ⟨eNum 1 (by decide) (by decide), ⟨⟨by decide, by decide⟩, ⟨by decide, by decide⟩, plainR⟩, ⟨eReg 2 (by decide) (by decide), ⟨⟨⟨by decide, by decide⟩, hm, eNum 3 (by decide) (by decide)⟩, trivial⟩, trivial, by simp [Bk.ds], by simp [Bk.ds]⟩, trivial⟩
  have ff1 : BkFit (told1 r) := ⟨o1, by simp [told1, Bk.ds], by simp [told1, toldI, Bk.flat, St.flat], by simp [told1, toldI, Bk.nest, St.nest]⟩
  have ff2 : BkFit (told2 m) := ⟨o2, by simp [told2, Bk.ds], by simp [told2, Bk.flat, St.flat], by simp [told2, Bk.nest, St.nest]⟩
  refine ⟨by simp, by simp, fun b hb => ?_, ?_, ?_⟩
  · simp only [List.mem_cons, List.not_mem_nil, or_false] at hb
    rcases hb with rfl | rfl
    · exact ff1
    · exact ff2
  · simp [every, told1, told2, toldI, Bk.flat, St.flat, List.filter_cons, St.acc]
  · simp [every, told1, told2, toldI, Bk.flat, St.flat, List.filter_cons, St.isFence]
theorem told_program (k : Nat) (a b : Int) (h : CupOk a b) : ∃ (r : Int) (x : Str) (a' b' : Int), callF T (k + 3) 1 [cupD a b] = .ok (.val (.tuple ([told1 r, told2 x].map tup)), cupD a' b') ∧ CupOk a' b' ∧ PrOk [told1 r, told2 x] ∧ 0 ≤ r ∧ r ≤ 1 ∧ isWm x = true := by
  obtain ⟨r, a1, b1, g1, c1, r0, r1⟩ := roll (k + 1) a b 2 h (by decide) (by decide)
  obtain ⟨m, a2, b2, g2, c2, hm⟩ := some_ k a1 b1 [.str "plain", .str "strong"] c1 (by decide) (by decide)
  have hx : ∃ x : Str, m = .str x ∧ isWm x = true := by
    simp only [List.mem_cons, List.not_mem_nil, or_false] at hm
    rcases hm with rfl | rfl
    · exact ⟨_, rfl, plainW⟩
    · exact ⟨_, rfl, strongW⟩
  obtain ⟨x, rfl, hx⟩ := hx
  refine ⟨r, x, a2, b2, ?_, c2, told_ok r x r0 (by omega) hx, r0, by omega, hx⟩
  simp only [cupD] at g1 g2 ⊢
  rw [ev_call (fd := f1) rfl rfl]
  simp! [f1, m1_4, m1_3, m1_2, m1_1, m1, g1, g2, tup, told1, told2, toldI, Bk.ds, St.d, Ex.d]
end
end K48

set_option Elab.async false
set_option linter.all false
set_option maxRecDepth 100000
set_option maxHeartbeats 4000000
namespace K48
open PySem Mi
section
local macro_rules
  | `(tactic| simp! [$xs,*] $[$loc]?) => `(tactic| simp -implicitDefEqProofs only [$xs,*, ev_var, ev_and, ev_or, ev_chn, ev_ite, ev_iff, ev_while, ev_for, ev_forN, ev_lc, ev_lc2, ev_cons, ev_nil, ev_cst, ev_gbl, ev_tup, ev_lst, ev_sub, ev_slc, ev_op2, ev_neg, ev_not, ev_cmp, ev_callE, ev_blt, ev_isi, ev_trg, ev_app, ev_pop, ev_nilA, ev_consA, ev_nilF, ev_consF, ev_nilM, ev_consM, ev_seq, ev_rng1, ev_enm, ev_zip, ev_asg, ev_par, ev_exp, ev_aug, ev_sti, ev_popAt, someS_lst, someS_val, onS_lst, ev_ret, ev_rse, ok_bind, exn_bind, stk_bind, pure_ok, varR_val, varR_lst, seeB_val, see_val, see_lst, see_slot, slotSee_lst, slotSee_val, frz_val', frz_lst', frz_slot, slotFrz_lst, slotFrz_val, bool1_bool, int1_int, optInt_no, optInt_yes, ME.isNop, onL_lst, settle_val, settle_lst, settle_slot, mv_val, mv_lst, mv_slot, thenB_nx, thenB_rt, thenB_bk, thenB_ct, loopK_nx, loopK_ct, loopK_bk, loopK_rt, endF_rt, endF_nx, ioS_no, ioS_lst, retA_val, retA_lst, retA_slot, call_no, call_io, args_nil, args_cons, seeAll_nil, seeAll_cons, ite_and, ite_or, Mi.get, put, fill, Slot.own, seqOf_list, seqOf_tuple, sub_tup, sub_lst, b_add, b_addb, b_sub, b_addt, b_addl, s_tup, s_lst, i_int, i_intb, i_intt, i_ints, i_bool, i_booli, i_boolt, i_str, i_stri, i_strt, i_tup, i_tupi, i_tups, i_lst, i_lstt, i_lsti, i_lsts, i_non, f_lenl, f_lent, f_int, f_intb, f_listl, f_listt, f_lists, f_tupl, f_tupt, f_all, f_any, a_lst, a_int, asg_v, asg_l, asg_t, asgs_nil, asgs_cons, put_nm, put_tp, puts_nil, puts_cons, c_lt, c_le, c_gt, c_ge, List.map_cons, List.map_nil, List.length_cons, List.length_nil, List.replicate, List.append_nil, List.cons_append, List.nil_append, if_true, if_false, Bool.false_eq_true, Bool.not_false, Bool.not_true, Nat.reduceAdd, Nat.reduceSub, Nat.reduceLT, ev_turn1, ev_turn2, ev_condN, lc_nil, lc_cons, lc2_nil, lc2_cons, optC_some, optC_none, frzR_eq, noX_ok, wipeE, backE, noOwn, List.all_cons, List.all_nil, str_eq, String.reduceEq, eq_self, Int.cast_ofNat_Int, Int.reduceLE, Int.reduceLT, Int.reduceSub, Int.reduceAdd, Int.reduceEq, Int.natCast_add, Int.reduceNeg, Int.natCast_zero, decide_true, decide_false, Bool.and_true, Bool.and_false, Bool.true_and, Bool.false_and, Bool.or_false, Bool.false_or, Bool.or_true, Bool.true_or, Bool.and_self, Bool.not_eq_true, not_true_eq_false, not_false_eq_true, and_self, and_true, true_and, and_false, false_and, reduceIte, io0, io1, io2, io3, io4, io5, io6, io7, io8, io9, io10, io11, io12, io13, io14, io15, io16, io17, io18, io19, io20, io21, io22, io23, io24, io25, io26, io27, io28, io29, io30, io31, io32, io33, io34, io35, io36, io37, io38, io39, io40, io41, io42, io43, io44, io45, io46, io47, io48, io49, io50, io51, io52, io53, io54, io55, io56, io57, io58, io59, io60, io61, io62, io63, io64, io65] $[$loc]?)
/-! the plain law, part 19: the law's own numbers of accesses -/
mutual
/-- a statement whose accesses bear their numbers, from f on -/
def St.nu : St → Int → PyData × Int
  | .ifs e y n, f => (.tuple [.str "if", e.d, .tuple (Bk.nu y f).1, .tuple (Bk.nu n (Bk.nu y f).2).1], (Bk.nu n (Bk.nu y f).2).2)
  | .fence, f => (St.fence.d, f)
  | .set r e, f => ((St.set r e).d, f)
  | .need e, f => ((St.need e).d, f)
  | .wr c m e, f => (.tuple [.str "write", .int c, .str m, e.d, .int f], f + 1)
  | .rd r c m, f => (.tuple [.str "read", .int r, .int c, .str m, .int f], f + 1)
  | .xch w r c e, f => (.tuple [.str w, .int r, .int c, e.d, .int f], f + 1)
  | .tr r c a b, f => (.tuple [.str "try", .int r, .int c, a.d, b.d, .int f], f + 1)
def Bk.nu : Bk → Int → List PyData × Int
  | .nil, f => ([], f)
  | .cons s r, f => ((St.nu s f).1 :: (Bk.nu r (St.nu s f).2).1, (Bk.nu r (St.nu s f).2).2)
end
def lb23 : MB := match m28 with
  | .cons _ (.cons (.for_ _ _ b) _) => b
  | _ => .nil
def call23 (k : Nat) (b : Bk) (f : Int) : R (Mi.Arg × Mi.Slot) := callF T k 28 [.val (.tuple b.ds), .val (.int f)]
def ans23 (b : Bk) (f : Int) : R (Mi.Arg × Mi.Slot) := .ok (.val (.tuple [.tuple (Bk.nu b f).1, .int (Bk.nu b f).2]), .emp)
theorem loop23 (k N : Nat) (v : Mi.Slot) (Hc : ∀ (y : Bk) (f : Int), y.Ok → y.nest < N → y.ds.length ≤ 12 → call23 (k + 1) y f = ans23 y f) : ∀ (b : Bk), b.Ok → b.nest ≤ N → ∀ (acc : List PyData) (f : Int) (s3 s4 s5 : Mi.Slot), acc.length + b.ds.length ≤ 500 →
    ∃ s3' s4' s5', forT ⟨ioOf T, callF T (k + 1)⟩ loops none (.nm 4) lb23 b.ds [v, .val (.int f), .lst acc, s3, s4, s5] = .ok ([v, .val (.int (Bk.nu b f).2), .lst (acc ++ (Bk.nu b f).1), s3', s4', s5'], .nx)
  | .nil, _, _, acc, f, s3, s4, s5, _ => ⟨s3, s4, s5, by
    simp only [Bk.ds, Bk.nu, ev_forN, List.append_nil]⟩
  | .cons s r, hok, hn, acc, f, s3, s4, s5, hl => by
    obtain ⟨hs, hr⟩ := hok
    simp only [Bk.ds, List.length_cons] at hl
    have hnr : r.nest ≤ N := by
      simp only [Bk.nest] at hn
      omega
    have hns : s.nest ≤ N := by
      simp only [Bk.nest] at hn
      omega
    have c1 : acc.length + 1 ≤ big := small _ (by omega)
    have c2 : acc.length < big := Nat.lt_of_lt_of_le (show acc.length < 1000 by omega) (by decide)
    have hacc := law_acc_of k s hs
    have ih := loop23 k N v Hc r hr hnr (acc ++ [(St.nu s f).1]) (St.nu s f).2
    have e1 : ∀ x : PyData, acc ++ x :: (Bk.nu r (St.nu s f).2).1 = acc ++ [x] ++ (Bk.nu r (St.nu s f).2).1 := fun x => by simp
    cases s with
    | ifs e y n =>
      obtain ⟨_, hy, hn2, hy2, hn3⟩ := hs
      have q1 := Hc y f hy (by simp only [St.nest] at hns; omega) hy2
      have q2 := Hc n (Bk.nu y f).2 hn2 (by simp only [St.nest] at hns; omega) hn3
      obtain ⟨s3', s4', s5', g⟩ := ih (.val (.tuple (Bk.nu n (Bk.nu y f).2).1)) (.val (St.ifs e y n).d) (.val (.tuple (Bk.nu y f).1)) (by simp; omega)
      refine ⟨s3', s4', s5', ?_⟩
      simp only [Bk.ds, Bk.nu, e1]
      rw [← g, ev_forC]
      simp only [call23, ans23] at q1 q2
      simp only [St.d] at hacc
      simp! [lb23, l28_0, m28_2, m28_1, m28, St.d, hacc, St.acc, item0, item1, item2, item3, eq_str, c1, c2, St.nu, show 5 ≤ big by decide, show 6 ≤ big by decide, q1, q2]
    | fence  =>
      obtain ⟨s3', s4', s5', g⟩ := ih s3 (.val St.fence.d) s5 (by simp; omega)
      refine ⟨s3', s4', s5', ?_⟩
      simp only [Bk.ds, Bk.nu, e1]
      rw [← g, ev_forC]
      simp only [St.d] at hacc
      simp! [lb23, l28_0, m28_2, m28_1, m28, St.d, hacc, St.acc, item0, item1, item2, item3, eq_str, c1, c2, St.nu, show 5 ≤ big by decide, show 6 ≤ big by decide]
    | set x e =>
      obtain ⟨s3', s4', s5', g⟩ := ih s3 (.val (St.set x e).d) s5 (by simp; omega)
      refine ⟨s3', s4', s5', ?_⟩
      simp only [Bk.ds, Bk.nu, e1]
      rw [← g, ev_forC]
      simp only [St.d] at hacc
      simp! [lb23, l28_0, m28_2, m28_1, m28, St.d, hacc, St.acc, item0, item1, item2, item3, eq_str, c1, c2, St.nu, show 5 ≤ big by decide, show 6 ≤ big by decide]
    | need e =>
      obtain ⟨s3', s4', s5', g⟩ := ih s3 (.val (St.need e).d) s5 (by simp; omega)
      refine ⟨s3', s4', s5', ?_⟩
      simp only [Bk.ds, Bk.nu, e1]
      rw [← g, ev_forC]
      simp only [St.d] at hacc
      simp! [lb23, l28_0, m28_2, m28_1, m28, St.d, hacc, St.acc, item0, item1, item2, item3, eq_str, c1, c2, St.nu, show 5 ≤ big by decide, show 6 ≤ big by decide]
    | wr c m e =>
      obtain ⟨s3', s4', s5', g⟩ := ih s3 (.val (St.wr c m e).d) s5 (by simp; omega)
      refine ⟨s3', s4', s5', ?_⟩
      simp only [Bk.ds, Bk.nu, e1]
      rw [← g, ev_forC]
      simp only [St.d] at hacc
      simp! [lb23, l28_0, m28_2, m28_1, m28, St.d, hacc, St.acc, item0, item1, item2, item3, eq_str, c1, c2, St.nu, show 5 ≤ big by decide, show 6 ≤ big by decide]
    | rd x c m =>
      obtain ⟨s3', s4', s5', g⟩ := ih s3 (.val (St.rd x c m).d) s5 (by simp; omega)
      refine ⟨s3', s4', s5', ?_⟩
      simp only [Bk.ds, Bk.nu, e1]
      rw [← g, ev_forC]
      simp only [St.d] at hacc
      simp! [lb23, l28_0, m28_2, m28_1, m28, St.d, hacc, St.acc, item0, item1, item2, item3, eq_str, c1, c2, St.nu, show 5 ≤ big by decide, show 6 ≤ big by decide]
    | xch w x c e =>
      have hxw : isXw w := hs.1
      obtain ⟨s3', s4', s5', g⟩ := ih s3 (.val (St.xch w x c e).d) s5 (by simp; omega)
      refine ⟨s3', s4', s5', ?_⟩
      simp only [Bk.ds, Bk.nu, e1]
      rw [← g, ev_forC]
      simp only [St.d] at hacc
      rcases hxw with rfl | rfl
      · simp! [lb23, l28_0, m28_2, m28_1, m28, St.d, hacc, St.acc, item0, item1, item2, item3, eq_str, c1, c2, St.nu, show 5 ≤ big by decide, show 6 ≤ big by decide]
      · simp! [lb23, l28_0, m28_2, m28_1, m28, St.d, hacc, St.acc, item0, item1, item2, item3, eq_str, c1, c2, St.nu, show 5 ≤ big by decide, show 6 ≤ big by decide]
    | tr x c a b =>
      obtain ⟨s3', s4', s5', g⟩ := ih s3 (.val (St.tr x c a b).d) s5 (by simp; omega)
      refine ⟨s3', s4', s5', ?_⟩
      simp only [Bk.ds, Bk.nu, e1]
      rw [← g, ev_forC]
      simp only [St.d] at hacc
      simp! [lb23, l28_0, m28_2, m28_1, m28, St.d, hacc, St.acc, item0, item1, item2, item3, eq_str, c1, c2, St.nu, show 5 ≤ big by decide, show 6 ≤ big by decide]
theorem law_numbered : ∀ (k : Nat) (b : Bk) (f : Int), b.Ok → b.nest ≤ k → b.ds.length ≤ 12 → call23 (k + 2) b f = ans23 b f := by
  have main : ∀ (k N : Nat) (b : Bk) (f : Int), (∀ (y : Bk) (f : Int), y.Ok → y.nest < N → y.ds.length ≤ 12 → call23 (k + 1) y f = ans23 y f) → b.Ok → b.nest ≤ N → b.ds.length ≤ 12 → call23 (k + 2) b f = ans23 b f := by
    intro k N b f H hb hn hl
    obtain ⟨s3', s4', s5', g⟩ := loop23 k N (.val (.tuple b.ds)) H b hb hn [] f .emp .emp .emp (by simp; omega)
    rw [List.nil_append] at g
    unfold call23 ans23
    rw [ev_call (fd := f28) rfl rfl]
    simp only [lb23, l28_0, m28_2, m28_1, m28] at g
    simp! [f28, l28_0, m28_2, m28_1, m28, g]
  intro k
  induction k with
  | zero => exact fun b f hb hn hl => main 0 0 b f (fun y f _ h => absurd h (Nat.not_lt_zero _)) hb hn hl
  | succ k ih => exact fun b f hb hn hl => main (k + 1) (k + 1) b f (fun y f hy h h12 => ih y f hy (by omega) h12) hb hn hl
end
end K48

set_option Elab.async false
set_option linter.all false
set_option maxRecDepth 100000
set_option maxHeartbeats 4000000
namespace K48
open PySem Mi
section
local macro_rules
  | `(tactic| simp! [$xs,*] $[$loc]?) => `(tactic| simp -implicitDefEqProofs only [$xs,*, ev_var, ev_and, ev_or, ev_chn, ev_ite, ev_iff, ev_while, ev_for, ev_forN, ev_lc, ev_lc2, ev_cons, ev_nil, ev_cst, ev_gbl, ev_tup, ev_lst, ev_sub, ev_slc, ev_op2, ev_neg, ev_not, ev_cmp, ev_callE, ev_blt, ev_isi, ev_trg, ev_app, ev_pop, ev_nilA, ev_consA, ev_nilF, ev_consF, ev_nilM, ev_consM, ev_seq, ev_rng1, ev_enm, ev_zip, ev_asg, ev_par, ev_exp, ev_aug, ev_sti, ev_popAt, someS_lst, someS_val, onS_lst, ev_ret, ev_rse, ok_bind, exn_bind, stk_bind, pure_ok, varR_val, varR_lst, seeB_val, see_val, see_lst, see_slot, slotSee_lst, slotSee_val, frz_val', frz_lst', frz_slot, slotFrz_lst, slotFrz_val, bool1_bool, int1_int, optInt_no, optInt_yes, ME.isNop, onL_lst, settle_val, settle_lst, settle_slot, mv_val, mv_lst, mv_slot, thenB_nx, thenB_rt, thenB_bk, thenB_ct, loopK_nx, loopK_ct, loopK_bk, loopK_rt, endF_rt, endF_nx, ioS_no, ioS_lst, retA_val, retA_lst, retA_slot, call_no, call_io, args_nil, args_cons, seeAll_nil, seeAll_cons, ite_and, ite_or, Mi.get, put, fill, Slot.own, seqOf_list, seqOf_tuple, sub_tup, sub_lst, b_add, b_addb, b_sub, b_addt, b_addl, s_tup, s_lst, i_int, i_intb, i_intt, i_ints, i_bool, i_booli, i_boolt, i_str, i_stri, i_strt, i_tup, i_tupi, i_tups, i_lst, i_lstt, i_lsti, i_lsts, i_non, f_lenl, f_lent, f_int, f_intb, f_listl, f_listt, f_lists, f_tupl, f_tupt, f_all, f_any, a_lst, a_int, asg_v, asg_l, asg_t, asgs_nil, asgs_cons, put_nm, put_tp, puts_nil, puts_cons, c_lt, c_le, c_gt, c_ge, List.map_cons, List.map_nil, List.length_cons, List.length_nil, List.replicate, List.append_nil, List.cons_append, List.nil_append, if_true, if_false, Bool.false_eq_true, Bool.not_false, Bool.not_true, Nat.reduceAdd, Nat.reduceSub, Nat.reduceLT, ev_turn1, ev_turn2, ev_condN, lc_nil, lc_cons, lc2_nil, lc2_cons, optC_some, optC_none, frzR_eq, noX_ok, wipeE, backE, noOwn, List.all_cons, List.all_nil, str_eq, String.reduceEq, eq_self, Int.cast_ofNat_Int, Int.reduceLE, Int.reduceLT, Int.reduceSub, Int.reduceAdd, Int.reduceEq, Int.natCast_add, Int.reduceNeg, Int.natCast_zero, decide_true, decide_false, Bool.and_true, Bool.and_false, Bool.true_and, Bool.false_and, Bool.or_false, Bool.false_or, Bool.or_true, Bool.true_or, Bool.and_self, Bool.not_eq_true, not_true_eq_false, not_false_eq_true, and_self, and_true, true_and, and_false, false_and, reduceIte, io0, io1, io2, io3, io4, io5, io6, io7, io8, io9, io10, io11, io12, io13, io14, io15, io16, io17, io18, io19, io20, io21, io22, io23, io24, io25, io26, io27, io28, io29, io30, io31, io32, io33, io34, io35, io36, io37, io38, io39, io40, io41, io42, io43, io44, io45, io46, io47, io48, io49, io50, io51, io52, io53, io54, io55, io56, io57, io58, io59, io60, io61, io62, io63, io64, io65] $[$loc]?)
/-! the plain law, part 20: the law's own list of accesses -/
mutual
def St.na : St → Int → List PyData
  | .ifs _ y n, f => Bk.na y f ++ Bk.na n (Bk.nu y f).2
  | .wr c m e, f => [(St.nu (.wr c m e) f).1]
  | .rd r c m, f => [(St.nu (.rd r c m) f).1]
  | .xch w r c e, f => [(St.nu (.xch w r c e) f).1]
  | .tr r c a b, f => [(St.nu (.tr r c a b) f).1]
  | _, _ => []
def Bk.na : Bk → Int → List PyData
  | .nil, _ => []
  | .cons s r, f => St.na s f ++ Bk.na r (St.nu s f).2
end
mutual
theorem St.na_len : ∀ (s : St) (f : Int), (St.na s f).length = (s.flat.filter St.acc).length
  | .ifs e y n, f => by simp [St.na, St.flat, St.acc, List.filter_cons, Bk.na_len y, Bk.na_len n]
  | .wr c m e, f => rfl
  | .rd r c m, f => rfl
  | .xch w r c e, f => rfl
  | .tr r c a b, f => rfl
  | .fence, f => rfl
  | .set r e, f => rfl
  | .need e, f => rfl
theorem Bk.na_len : ∀ (b : Bk) (f : Int), (Bk.na b f).length = (b.flat.filter St.acc).length
  | .nil, f => rfl
  | .cons s r, f => by simp [Bk.na, Bk.flat, St.na_len s, Bk.na_len r]
end
theorem na_le (b : Bk) (f : Int) : (Bk.na b f).length ≤ b.flat.length := by
  rw [Bk.na_len]
  exact List.length_filter_le _ _
def lb14 : MB := match m12 with
  | .cons _ (.cons (.for_ _ _ b) _) => b
  | _ => .nil
def call14 (k : Nat) (b : Bk) (f : Int) : R (Mi.Arg × Mi.Slot) := callF T k 12 [.val (.tuple (Bk.nu b f).1)]
def ans14 (b : Bk) (f : Int) : R (Mi.Arg × Mi.Slot) := .ok (.lst (Bk.na b f), .emp)
theorem loop14 (k N : Nat) (v : Mi.Slot) (Hc : ∀ (y : Bk) (f : Int), y.Ok → y.nest < N → y.flat.length ≤ 100 → call14 (k + 1) y f = ans14 y f) : ∀ (b : Bk), b.Ok → b.nest ≤ N → b.flat.length ≤ 100 → ∀ (acc : List PyData) (f : Int) (s2 : Mi.Slot), acc.length + b.flat.length ≤ 500 →
    ∃ s2', forT ⟨ioOf T, callF T (k + 1)⟩ loops none (.nm 2) lb14 (Bk.nu b f).1 [v, .lst acc, s2] = .ok ([v, .lst (acc ++ Bk.na b f), s2'], .nx)
  | .nil, _, _, _, acc, f, s2, _ => ⟨s2, by
    simp only [Bk.nu, Bk.na, ev_forN, List.append_nil]⟩
  | .cons s r, hok, hn, h1, acc, f, s2, hl => by
    obtain ⟨hs, hr⟩ := hok
    simp only [Bk.flat, List.length_append] at hl h1
    have hnr : r.nest ≤ N := by
      simp only [Bk.nest] at hn
      omega
    have hns : s.nest ≤ N := by
      simp only [Bk.nest] at hn
      omega
    have hp := flat_pos s
    have c2 : acc.length < big := Nat.lt_of_lt_of_le (show acc.length < 1000 by omega) (by decide)
    cases s with
    | ifs e y n =>
      obtain ⟨_, hy, hn2, hy2, hn3⟩ := hs
      simp only [St.flat, List.length_cons, List.length_append] at hl h1
      have q1 := Hc y f hy (by simp only [St.nest] at hns; omega) (by omega)
      have q2 := Hc n (Bk.nu y f).2 hn2 (by simp only [St.nest] at hns; omega) (by omega)
      have l1 := na_le y f
      have l2 := na_le n (Bk.nu y f).2
      have c3 : acc.length + (Bk.na y f).length ≤ big := small _ (by omega)
      have c4 : acc.length + (Bk.na y f).length + (Bk.na n (Bk.nu y f).2).length ≤ big := small _ (by omega)
      obtain ⟨s2', g⟩ := loop14 k N v Hc r hr hnr (by omega) (acc ++ (Bk.na y f ++ Bk.na n (Bk.nu y f).2)) (St.nu (.ifs e y n) f).2 (.val (St.nu (.ifs e y n) f).1) (by first | omega | (simp; omega))
      refine ⟨s2', ?_⟩
      simp only [Bk.nu, Bk.na, St.na]
      rw [← List.append_assoc, ← g, ev_forC]
      simp only [call14, ans14] at q1 q2
      have e0 : isAcc "if" = false := by simp! [isAcc]
      simp! [lb14, l12_0_1, l12_0, m12_2, m12_1, m12, item0, item1, item2, item3, eq_str, c2, St.nu, law_is_access, e0, q1, q2, List.length_append, c3, c4, List.append_assoc]
    | fence  =>
      obtain ⟨s2', g⟩ := loop14 k N v Hc r hr hnr (by omega) (acc) (St.nu St.fence f).2 (.val (St.nu St.fence f).1) (by first | omega | (simp; omega))
      refine ⟨s2', ?_⟩
      simp only [Bk.nu, Bk.na, St.na, List.nil_append]
      rw [← g, ev_forC]
      have e0 : isAcc "fence" = false := by simp! [isAcc]
      simp! [lb14, l12_0_1, l12_0, m12_2, m12_1, m12, St.d, item0, item1, item2, item3, eq_str, c2, St.nu, law_is_access, e0]
    | set x e =>
      obtain ⟨s2', g⟩ := loop14 k N v Hc r hr hnr (by omega) (acc) (St.nu (St.set x e) f).2 (.val (St.nu (St.set x e) f).1) (by first | omega | (simp; omega))
      refine ⟨s2', ?_⟩
      simp only [Bk.nu, Bk.na, St.na, List.nil_append]
      rw [← g, ev_forC]
      have e0 : isAcc "set" = false := by simp! [isAcc]
      simp! [lb14, l12_0_1, l12_0, m12_2, m12_1, m12, St.d, item0, item1, item2, item3, eq_str, c2, St.nu, law_is_access, e0]
    | need e =>
      obtain ⟨s2', g⟩ := loop14 k N v Hc r hr hnr (by omega) (acc) (St.nu (St.need e) f).2 (.val (St.nu (St.need e) f).1) (by first | omega | (simp; omega))
      refine ⟨s2', ?_⟩
      simp only [Bk.nu, Bk.na, St.na, List.nil_append]
      rw [← g, ev_forC]
      have e0 : isAcc "need" = false := by simp! [isAcc]
      simp! [lb14, l12_0_1, l12_0, m12_2, m12_1, m12, St.d, item0, item1, item2, item3, eq_str, c2, St.nu, law_is_access, e0]
    | wr c m e =>
      obtain ⟨s2', g⟩ := loop14 k N v Hc r hr hnr (by omega) (acc ++ [(St.nu (St.wr c m e) f).1]) (St.nu (St.wr c m e) f).2 (.val (St.nu (St.wr c m e) f).1) (by first | omega | (simp; omega))
      refine ⟨s2', ?_⟩
      simp only [Bk.nu, Bk.na, St.na, List.nil_append]
      rw [← List.append_assoc, ← g, ev_forC]
      have e0 : isAcc "write" = true := by simp! [isAcc]
      simp! [lb14, l12_0_1, l12_0, m12_2, m12_1, m12, St.d, item0, item1, item2, item3, eq_str, c2, St.nu, law_is_access, e0]
    | rd x c m =>
      obtain ⟨s2', g⟩ := loop14 k N v Hc r hr hnr (by omega) (acc ++ [(St.nu (St.rd x c m) f).1]) (St.nu (St.rd x c m) f).2 (.val (St.nu (St.rd x c m) f).1) (by first | omega | (simp; omega))
      refine ⟨s2', ?_⟩
      simp only [Bk.nu, Bk.na, St.na, List.nil_append]
      rw [← List.append_assoc, ← g, ev_forC]
      have e0 : isAcc "read" = true := by simp! [isAcc]
      simp! [lb14, l12_0_1, l12_0, m12_2, m12_1, m12, St.d, item0, item1, item2, item3, eq_str, c2, St.nu, law_is_access, e0]
    | xch w x c e =>
      have hxw : isXw w := hs.1
      obtain ⟨s2', g⟩ := loop14 k N v Hc r hr hnr (by omega) (acc ++ [(St.nu (St.xch w x c e) f).1]) (St.nu (St.xch w x c e) f).2 (.val (St.nu (St.xch w x c e) f).1) (by first | omega | (simp; omega))
      refine ⟨s2', ?_⟩
      simp only [Bk.nu, Bk.na, St.na, List.nil_append]
      rw [← List.append_assoc, ← g, ev_forC]
      have e0 := xch_acc hxw
      rcases hxw with rfl | rfl
      · simp! [lb14, l12_0_1, l12_0, m12_2, m12_1, m12, item0, item1, item2, item3, eq_str, c2, St.nu, law_is_access, e0]
      · simp! [lb14, l12_0_1, l12_0, m12_2, m12_1, m12, item0, item1, item2, item3, eq_str, c2, St.nu, law_is_access, e0]
    | tr x c a b =>
      obtain ⟨s2', g⟩ := loop14 k N v Hc r hr hnr (by omega) (acc ++ [(St.nu (St.tr x c a b) f).1]) (St.nu (St.tr x c a b) f).2 (.val (St.nu (St.tr x c a b) f).1) (by first | omega | (simp; omega))
      refine ⟨s2', ?_⟩
      simp only [Bk.nu, Bk.na, St.na, List.nil_append]
      rw [← List.append_assoc, ← g, ev_forC]
      have e0 : isAcc "try" = true := by simp! [isAcc]
      simp! [lb14, l12_0_1, l12_0, m12_2, m12_1, m12, St.d, item0, item1, item2, item3, eq_str, c2, St.nu, law_is_access, e0]
theorem law_accesses : ∀ (k : Nat) (b : Bk) (f : Int), b.Ok → b.nest ≤ k → b.flat.length ≤ 100 → call14 (k + 2) b f = ans14 b f := by
  have main : ∀ (k N : Nat) (b : Bk) (f : Int), (∀ (y : Bk) (f : Int), y.Ok → y.nest < N → y.flat.length ≤ 100 → call14 (k + 1) y f = ans14 y f) → b.Ok → b.nest ≤ N → b.flat.length ≤ 100 → call14 (k + 2) b f = ans14 b f := by
    intro k N b f H hb hn hl
    obtain ⟨s2', g⟩ := loop14 k N (.val (.tuple (Bk.nu b f).1)) H b hb hn hl [] f .emp (by first | omega | (simp; omega))
    rw [List.nil_append] at g
    unfold call14 ans14
    rw [ev_call (fd := f12) rfl rfl]
    simp only [lb14, l12_0_1, l12_0, m12_2, m12_1, m12] at g
    simp! [f12, l12_0_1, l12_0, m12_2, m12_1, m12, g]
  intro k
  induction k with
  | zero => exact fun b f hb hn hl => main 0 0 b f (fun y f _ h => absurd h (Nat.not_lt_zero _)) hb hn hl
  | succ k ih => exact fun b f hb hn hl => main (k + 1) (k + 1) b f (fun y f hy h h12 => ih y f hy (by omega) h12) hb hn hl
end
end K48

set_option Elab.async false
set_option linter.all false
set_option maxRecDepth 100000
set_option maxHeartbeats 4000000
namespace K48
open PySem Mi
section
local macro_rules
  | `(tactic| simp! [$xs,*] $[$loc]?) => `(tactic| simp -implicitDefEqProofs only [$xs,*, ev_var, ev_and, ev_or, ev_chn, ev_ite, ev_iff, ev_while, ev_for, ev_forN, ev_lc, ev_lc2, ev_cons, ev_nil, ev_cst, ev_gbl, ev_tup, ev_lst, ev_sub, ev_slc, ev_op2, ev_neg, ev_not, ev_cmp, ev_callE, ev_blt, ev_isi, ev_trg, ev_app, ev_pop, ev_nilA, ev_consA, ev_nilF, ev_consF, ev_nilM, ev_consM, ev_seq, ev_rng1, ev_enm, ev_zip, ev_asg, ev_par, ev_exp, ev_aug, ev_sti, ev_popAt, someS_lst, someS_val, onS_lst, ev_ret, ev_rse, ok_bind, exn_bind, stk_bind, pure_ok, varR_val, varR_lst, seeB_val, see_val, see_lst, see_slot, slotSee_lst, slotSee_val, frz_val', frz_lst', frz_slot, slotFrz_lst, slotFrz_val, bool1_bool, int1_int, optInt_no, optInt_yes, ME.isNop, onL_lst, settle_val, settle_lst, settle_slot, mv_val, mv_lst, mv_slot, thenB_nx, thenB_rt, thenB_bk, thenB_ct, loopK_nx, loopK_ct, loopK_bk, loopK_rt, endF_rt, endF_nx, ioS_no, ioS_lst, retA_val, retA_lst, retA_slot, call_no, call_io, args_nil, args_cons, seeAll_nil, seeAll_cons, ite_and, ite_or, Mi.get, put, fill, Slot.own, seqOf_list, seqOf_tuple, sub_tup, sub_lst, b_add, b_addb, b_sub, b_addt, b_addl, s_tup, s_lst, i_int, i_intb, i_intt, i_ints, i_bool, i_booli, i_boolt, i_str, i_stri, i_strt, i_tup, i_tupi, i_tups, i_lst, i_lstt, i_lsti, i_lsts, i_non, f_lenl, f_lent, f_int, f_intb, f_listl, f_listt, f_lists, f_tupl, f_tupt, f_all, f_any, a_lst, a_int, asg_v, asg_l, asg_t, asgs_nil, asgs_cons, put_nm, put_tp, puts_nil, puts_cons, c_lt, c_le, c_gt, c_ge, List.map_cons, List.map_nil, List.length_cons, List.length_nil, List.replicate, List.append_nil, List.cons_append, List.nil_append, if_true, if_false, Bool.false_eq_true, Bool.not_false, Bool.not_true, Nat.reduceAdd, Nat.reduceSub, Nat.reduceLT, ev_turn1, ev_turn2, ev_condN, lc_nil, lc_cons, lc2_nil, lc2_cons, optC_some, optC_none, frzR_eq, noX_ok, wipeE, backE, noOwn, List.all_cons, List.all_nil, str_eq, String.reduceEq, eq_self, Int.cast_ofNat_Int, Int.reduceLE, Int.reduceLT, Int.reduceSub, Int.reduceAdd, Int.reduceEq, Int.natCast_add, Int.reduceNeg, Int.natCast_zero, decide_true, decide_false, Bool.and_true, Bool.and_false, Bool.true_and, Bool.false_and, Bool.or_false, Bool.false_or, Bool.or_true, Bool.true_or, Bool.and_self, Bool.not_eq_true, not_true_eq_false, not_false_eq_true, and_self, and_true, true_and, and_false, false_and, reduceIte, io0, io1, io2, io3, io4, io5, io6, io7, io8, io9, io10, io11, io12, io13, io14, io15, io16, io17, io18, io19, io20, io21, io22, io23, io24, io25, io26, io27, io28, io29, io30, io31, io32, io33, io34, io35, io36, io37, io38, io39, io40, io41, io42, io43, io44, io45, io46, io47, io48, io49, io50, io51, io52, io53, io54, io55, io56, io57, io58, io59, io60, io61, io62, io63, io64, io65] $[$loc]?)
/-! the plain law, part 21: how many accesses the law counts -/
def prNu : List Bk → Int → List PyData
  | [], _ => []
  | b :: r, f => .tuple (Bk.nu b f).1 :: prNu r (Bk.nu b f).2
def lb13 : MB := match m11 with
  | .cons _ (.cons (.for_ _ _ b) _) => b
  | _ => .nil
theorem loop13 (k : Nat) (v : Mi.Slot) : ∀ (bs : List Bk), (∀ b ∈ bs, BkFit b) → ∀ (acc : List PyData) (f : Int) (s1 s4 : Mi.Slot), acc.length + bs.length ≤ 500 →
    ∃ s1' f' s4', forT ⟨ioOf T, callF T (k + 4)⟩ loops none (.nm 1) lb13 (bs.map tup) [v, s1, .val (.int f), .lst acc, s4] = .ok ([v, s1', .val (.int f'), .lst (acc ++ prNu bs f), s4'], .nx)
  | [], _, acc, f, s1, s4, _ => ⟨s1, f, s4, by
    simp only [List.map_nil, prNu, ev_forN, List.append_nil]⟩
  | b :: r, h, acc, f, s1, s4, hl => by
    have hb := h b List.mem_cons_self
    simp only [List.length_cons] at hl
    have c1 : acc.length < big := Nat.lt_of_lt_of_le (show acc.length < 1000 by omega) (by decide)
    have q := law_numbered (k + 2) b f hb.ok (Nat.le_trans hb.nest (by omega)) hb.len
    obtain ⟨s1', f', s4', g⟩ := loop13 k v r (fun c hc => h c (List.mem_cons_of_mem _ hc)) (acc ++ [.tuple (Bk.nu b f).1]) (Bk.nu b f).2 (.val (tup b)) (.val (.tuple (Bk.nu b f).1)) (by simp; omega)
    refine ⟨s1', f', s4', ?_⟩
    have e1 : acc ++ prNu (b :: r) f = acc ++ [.tuple (Bk.nu b f).1] ++ prNu r (Bk.nu b f).2 := by
      simp [prNu]
    rw [e1, ← g, List.map_cons, ev_forC]
    simp only [call23, ans23] at q
    simp! [lb13, l11_0_1, l11_0, m11_2, m11_1, m11, tup, q, c1]
theorem law_threads (k : Nat) (bs : List Bk) (h : PrOk bs) : callF T (k + 5) 11 [.val (.tuple (bs.map tup))] = .ok (.lst (prNu bs 0), .emp) := by
  obtain ⟨s1', f', s4', g⟩ := loop13 k (.val (.tuple (bs.map tup))) bs h.fit [] 0 .emp .emp (by
    have := h.four
    simp
    omega)
  rw [List.nil_append] at g
  simp only [lb13, l11_0_1, l11_0, m11_2, m11_1, m11] at g
  rw [ev_call (fd := f11) rfl rfl]
  simp! [f11, l11_0_1, l11_0, m11_2, m11_1, m11, g]
def lb5 : MB := match m3 with
  | .cons _ (.cons (.for_ _ _ b) _) => b
  | _ => .nil
theorem pairs5 (c : Cl) (a b d : Mi.Slot) (t : Int) : ∀ ds : List PyData, lcL (turn1 c (.nm 3) [3] .nop (.tup (.cons (.var 4) (.cons (.var 3) .nil)))) ds [a, b, d, .emp, .val (.int t)] = .ok (ds.map fun x => .tuple [.int t, x], [a, b, d, .emp, .val (.int t)])
  | [] => rfl
  | x :: r => by
    simp! [pairs5 c a b d t r]
def allF : Nat → Int → List Bk → List PyData
  | _, _, [] => []
  | n, f, b :: r => ((Bk.na b f).map fun x => PyData.tuple [.int n, x]) ++ allF (n + 1) (Bk.nu b f).2 r
theorem allF_len : ∀ (bs : List Bk) (n : Nat) (f : Int), (allF n f bs).length = ((every bs).filter St.acc).length
  | [], _, _ => rfl
  | b :: r, n, f => by
    simp only [allF, every, List.flatMap_cons, List.filter_append, List.length_append, List.length_map, Bk.na_len]
    rw [allF_len r]
    rfl
theorem loop5 (k : Nat) (v : Mi.Slot) : ∀ (bs : List Bk), (∀ b ∈ bs, BkFit b) → ∀ (acc : List PyData) (n : Nat) (f : Int) (s1 s4 : Mi.Slot), acc.length + (every bs).length ≤ 500 →
    ∃ s1' s4', forT ⟨ioOf T, callF T (k + 4)⟩ loops none (.tp (.cons (.nm 4) (.cons (.nm 1) .nil))) lb5 (enumF n (prNu bs f)) [v, s1, .lst acc, .emp, s4] = .ok ([v, s1', .lst (acc ++ allF n f bs), .emp, s4'], .nx)
  | [], _, acc, n, f, s1, s4, _ => ⟨s1, s4, by
    simp only [prNu, enumF, ev_forN, allF, List.append_nil]⟩
  | b :: r, h, acc, n, f, s1, s4, hl => by
    have hb := h b List.mem_cons_self
    simp only [every, List.flatMap_cons, List.length_append] at hl
    have l1 := na_le b f
    have c1 : acc.length + (Bk.na b f).length ≤ big := small _ (by omega)
    have q := law_accesses (k + 2) b f hb.ok (Nat.le_trans hb.nest (by omega)) (Nat.le_trans hb.all (by decide))
    obtain ⟨s1', s4', g⟩ := loop5 k v r (fun c hc => h c (List.mem_cons_of_mem _ hc)) (acc ++ (Bk.na b f).map fun x => PyData.tuple [.int n, x]) (n + 1) (Bk.nu b f).2 (.val (.tuple (Bk.nu b f).1)) (.val (.int n)) (by
      simp only [every, List.length_append, List.length_map]
      omega)
    refine ⟨s1', s4', ?_⟩
    rw [List.append_assoc] at g
    simp only [allF]
    rw [← g]
    simp only [prNu, enumF]
    rw [ev_forC]
    simp only [call14, ans14] at q
    simp! [lb5, ce3_0, l3_0, m3_2, m3_1, m3, q, pairs5, List.length_map, c1]
theorem every_500 (bs : List Bk) (h : PrOk bs) : (every bs).length ≤ 500 := by
  have : ∀ l : List Bk, (∀ b ∈ l, BkFit b) → (every l).length ≤ 12 * l.length := fun l => by
    induction l with
    | nil => intro _; exact Nat.le_refl _
    | cons b r ih =>
      intro hl
      have h1 := (hl b List.mem_cons_self).all
      have h2 := ih fun c hc => hl c (List.mem_cons_of_mem _ hc)
      simp only [every, List.flatMap_cons, List.length_append, List.length_cons] at h2 ⊢
      omega
  have h2 := this bs h.fit
  have := h.four
  omega
theorem law_all_ (k : Nat) (bs : List Bk) (h : PrOk bs) : callF T (k + 6) 3 [.val (.tuple (bs.map tup))] = .ok (.lst (allF 0 0 bs), .emp) := by
  obtain ⟨s1', s4', g⟩ := loop5 (k + 1) (.val (.tuple (bs.map tup))) bs h.fit [] 0 0 .emp .emp (by simpa using every_500 bs h)
  rw [List.nil_append] at g
  simp only [lb5, ce3_0, l3_0, m3_2, m3_1, m3] at g
  rw [ev_call (fd := f3) rfl rfl]
  simp! [f3, ce3_0, l3_0, m3_2, m3_1, m3, law_threads k bs h, g]
theorem law_all (k : Nat) (bs : List Bk) (h : PrOk bs) : ∃ l, callF T (k + 6) 3 [.val (.tuple (bs.map tup))] = .ok (.lst l, .emp) ∧ l.length = manyOf bs := ⟨_, law_all_ k bs h, allF_len bs 0 0⟩
end
end K48

set_option Elab.async false
set_option linter.all false
set_option maxRecDepth 100000
set_option maxHeartbeats 4000000
namespace K48
open PySem Mi
section
local macro_rules
  | `(tactic| simp! [$xs,*] $[$loc]?) => `(tactic| simp -implicitDefEqProofs only [$xs,*, ev_var, ev_and, ev_or, ev_chn, ev_ite, ev_iff, ev_while, ev_for, ev_forN, ev_lc, ev_lc2, ev_cons, ev_nil, ev_cst, ev_gbl, ev_tup, ev_lst, ev_sub, ev_slc, ev_op2, ev_neg, ev_not, ev_cmp, ev_callE, ev_blt, ev_isi, ev_trg, ev_app, ev_pop, ev_nilA, ev_consA, ev_nilF, ev_consF, ev_nilM, ev_consM, ev_seq, ev_rng1, ev_enm, ev_zip, ev_asg, ev_par, ev_exp, ev_aug, ev_sti, ev_popAt, someS_lst, someS_val, onS_lst, ev_ret, ev_rse, ok_bind, exn_bind, stk_bind, pure_ok, varR_val, varR_lst, seeB_val, see_val, see_lst, see_slot, slotSee_lst, slotSee_val, frz_val', frz_lst', frz_slot, slotFrz_lst, slotFrz_val, bool1_bool, int1_int, optInt_no, optInt_yes, ME.isNop, onL_lst, settle_val, settle_lst, settle_slot, mv_val, mv_lst, mv_slot, thenB_nx, thenB_rt, thenB_bk, thenB_ct, loopK_nx, loopK_ct, loopK_bk, loopK_rt, endF_rt, endF_nx, ioS_no, ioS_lst, retA_val, retA_lst, retA_slot, call_no, call_io, args_nil, args_cons, seeAll_nil, seeAll_cons, ite_and, ite_or, Mi.get, put, fill, Slot.own, seqOf_list, seqOf_tuple, sub_tup, sub_lst, b_add, b_addb, b_sub, b_addt, b_addl, s_tup, s_lst, i_int, i_intb, i_intt, i_ints, i_bool, i_booli, i_boolt, i_str, i_stri, i_strt, i_tup, i_tupi, i_tups, i_lst, i_lstt, i_lsti, i_lsts, i_non, f_lenl, f_lent, f_int, f_intb, f_listl, f_listt, f_lists, f_tupl, f_tupt, f_all, f_any, a_lst, a_int, asg_v, asg_l, asg_t, asgs_nil, asgs_cons, put_nm, put_tp, puts_nil, puts_cons, c_lt, c_le, c_gt, c_ge, List.map_cons, List.map_nil, List.length_cons, List.length_nil, List.replicate, List.append_nil, List.cons_append, List.nil_append, if_true, if_false, Bool.false_eq_true, Bool.not_false, Bool.not_true, Nat.reduceAdd, Nat.reduceSub, Nat.reduceLT, ev_turn1, ev_turn2, ev_condN, lc_nil, lc_cons, lc2_nil, lc2_cons, optC_some, optC_none, frzR_eq, noX_ok, wipeE, backE, noOwn, List.all_cons, List.all_nil, str_eq, String.reduceEq, eq_self, Int.cast_ofNat_Int, Int.reduceLE, Int.reduceLT, Int.reduceSub, Int.reduceAdd, Int.reduceEq, Int.natCast_add, Int.reduceNeg, Int.natCast_zero, decide_true, decide_false, Bool.and_true, Bool.and_false, Bool.true_and, Bool.false_and, Bool.or_false, Bool.false_or, Bool.or_true, Bool.true_or, Bool.and_self, Bool.not_eq_true, not_true_eq_false, not_false_eq_true, and_self, and_true, true_and, and_false, false_and, reduceIte, io0, io1, io2, io3, io4, io5, io6, io7, io8, io9, io10, io11, io12, io13, io14, io15, io16, io17, io18, io19, io20, io21, io22, io23, io24, io25, io26, io27, io28, io29, io30, io31, io32, io33, io34, io35, io36, io37, io38, io39, io40, io41, io42, io43, io44, io45, io46, io47, io48, io49, io50, io51, io52, io53, io54, io55, io56, io57, io58, io59, io60, io61, io62, io63, io64, io65] $[$loc]?)
/-! the plain law, part 22: drawn threads -/
theorem ne_unit {xs : List PyData} (h : PyData.plainAll xs = true) : cmp2 .NotEq (.tuple xs) (.tuple []) = .ok (!xs.isEmpty) := by
  simp only [cmp2, dataEq]
  have h1 : (PyData.tuple xs).plain = true := by simpa only [PyData.plain] using h
  have h2 : min (PyData.tuple xs).depth (PyData.tuple []).depth ≤ 100 := by
    have : (PyData.tuple ([] : List PyData)).depth ≤ 100 := by decide
    omega
  rw [h1]
  simp only [PyData.plain, PyData.plainAll, Bool.true_and, h2, decide_true, if_true, ok_bind, pure_ok]
  cases xs <;> rfl
theorem nin_any (x : PyData) (hx : x.plain = true) (hd : x.depth ≤ 100) (ds : List PyData) (h : PyData.plainAll ds = true) : cmp2 .NotIn x (.tuple ds) = .ok (!(ds.any fun z => PyData.eqv z x)) := by
  have h2 : min (PyData.depthAll ds) x.depth ≤ 100 := by omega
  simp only [cmp2, dataIn, hx, h, h2, Bool.true_and, decide_true, if_true, ok_bind, pure_ok]
theorem fence_eqv (s : St) (h : s.Ok) : PyData.eqv s.d (.tuple [.str "fence"]) = s.isFence := by
  rw [s.d_w]
  have hw := w_fence s h
  cases q : s.r with
  | nil =>
    have : PyData.eqv (.tuple [.str s.w]) (.tuple [.str "fence"]) = decide (s.w = ("fence" : Str)) := by
      simp [PyData.eqv, PyData.eqvAll]
      rfl
    rw [this, hw]
  | cons x r =>
    have : s.isFence = false := by
      cases s <;> first | rfl | cases q
    rw [this]
    simp [PyData.eqv, PyData.eqvAll]
/-- what a drawn thread keeps: m accesses have been laid -/
structure Laid (fs : List St) (m : Nat) : Prop where
  ok : ∀ s ∈ fs, s.Ok
  nest : ∀ s ∈ fs, s.nest ≤ 1
  all : (allOf fs).length ≤ 2 * m
  acc : ((allOf fs).filter St.acc).length = m
  fen : ((allOf fs).filter St.isFence).length ≤ m
  top : (allOf fs).filter St.isFence = fs.filter St.isFence
theorem Laid.nil : Laid [] 0 := ⟨fun _ h => (nomatch h), fun _ h => (nomatch h), by simp [allOf], rfl, by simp [allOf], rfl⟩
theorem allOf_cat (a b : List St) : allOf (a ++ b) = allOf a ++ allOf b := by simp [allOf]
theorem acc_flat {s : St} (h : s.acc = true) : s.flat = [s] ∧ s.nest = 0 ∧ s.isFence = false := by
  cases s <;> first | exact ⟨rfl, rfl, rfl⟩ | cases h
theorem Laid.one {fs : List St} {m : Nat} {s : St} (L : Laid fs m) (hs : s.Ok) (ha : s.acc = true) : Laid (fs ++ [s]) (m + 1) := by
  obtain ⟨e1, e2, e3⟩ := acc_flat ha
  have e4 : allOf [s] = [s] := by simp [allOf, e1]
  refine ⟨fun t ht => ?_, fun t ht => ?_, ?_, ?_, ?_, ?_⟩
  · rcases List.mem_append.mp ht with q | q
    · exact L.ok t q
    · rw [List.mem_singleton.mp q]
      exact hs
  · rcases List.mem_append.mp ht with q | q
    · exact L.nest t q
    · rw [List.mem_singleton.mp q]
      omega
  · rw [allOf_cat, e4, List.length_append]
    have := L.all
    simp
    omega
  · rw [allOf_cat, e4, List.filter_append, List.length_append, L.acc]
    simp [ha]
  · rw [allOf_cat, e4, List.filter_append, List.length_append]
    have := L.fen
    simp [e3]
    omega
  · rw [allOf_cat, e4, List.filter_append, List.filter_append, L.top]
theorem Laid.two {fs : List St} {m : Nat} {p s : St} (L : Laid fs m) (hp : p.Ok) (hp2 : p.flat = [p]) (hp3 : p.acc = false) (hp4 : p.nest = 0) (hs : s.Ok) (ha : s.acc = true) : Laid (fs ++ [p] ++ [s]) (m + 1) := by
  obtain ⟨e1, e2, e3⟩ := acc_flat ha
  have e4 : allOf [s] = [s] := by simp [allOf, e1]
  have e5 : allOf [p] = [p] := by simp [allOf, hp2]
  refine ⟨fun t ht => ?_, fun t ht => ?_, ?_, ?_, ?_, ?_⟩
  · rcases List.mem_append.mp ht with q | q
    · rcases List.mem_append.mp q with q | q
      · exact L.ok t q
      · rw [List.mem_singleton.mp q]
        exact hp
    · rw [List.mem_singleton.mp q]
      exact hs
  · rcases List.mem_append.mp ht with q | q
    · rcases List.mem_append.mp q with q | q
      · exact L.nest t q
      · rw [List.mem_singleton.mp q]
        omega
    · rw [List.mem_singleton.mp q]
      omega
  · rw [allOf_cat, allOf_cat, e4, e5, List.length_append, List.length_append]
    have := L.all
    simp
    omega
  · rw [allOf_cat, allOf_cat, e4, e5, List.filter_append, List.filter_append, List.length_append, List.length_append, L.acc]
    simp [ha, hp3]
  · rw [allOf_cat, allOf_cat, e4, e5, List.filter_append, List.filter_append, List.length_append, List.length_append]
    have := L.fen
    have : ([p].filter St.isFence).length ≤ 1 := List.length_filter_le _ _
    have hs1 : [s].filter St.isFence = [] := by simp [e3]
    rw [hs1, List.length_nil]
    omega
  · rw [allOf_cat, allOf_cat, e4, e5, List.filter_append, List.filter_append, List.filter_append, List.filter_append, L.top]
theorem Laid.cond {fs : List St} {m : Nat} {e : Ex} {s : St} (L : Laid fs m) (he : eOk e) (hs : s.Ok) (ha : s.acc = true) : Laid (fs ++ [.ifs e (.cons s .nil) .nil]) (m + 1) := by
  obtain ⟨e1, e2, e3⟩ := acc_flat ha
  have e4 : allOf [.ifs e (.cons s .nil) .nil] = [.ifs e (.cons s .nil) .nil, s] := by simp [allOf, St.flat, Bk.flat, e1]
  refine ⟨fun t ht => ?_, fun t ht => ?_, ?_, ?_, ?_, ?_⟩
  · rcases List.mem_append.mp ht with q | q
    · exact L.ok t q
    · rw [List.mem_singleton.mp q]
      exact ⟨he, ⟨hs, trivial⟩, trivial, by simp [Bk.ds], by simp [Bk.ds]⟩
  · rcases List.mem_append.mp ht with q | q
    · exact L.nest t q
    · rw [List.mem_singleton.mp q]
      simp [St.nest, Bk.nest, e2]
  · rw [allOf_cat, e4, List.length_append]
    have := L.all
    simp
    omega
  · rw [allOf_cat, e4, List.filter_append, List.length_append, L.acc]
    simp [List.filter_cons, ha, show ∀ y n, (St.ifs e y n).acc = false from fun _ _ => rfl]
  · rw [allOf_cat, e4, List.filter_append, List.length_append]
    have := L.fen
    simp [List.filter_cons, e3, show ∀ y n, (St.ifs e y n).isFence = false from fun _ _ => rfl]
    omega
  · rw [allOf_cat, e4, List.filter_append, List.filter_append, L.top]
    simp [List.filter_cons, e3, show ∀ y n, (St.ifs e y n).isFence = false from fun _ _ => rfl]
theorem Laid.cond2 {fs : List St} {m : Nat} {e : Ex} {s t : St} (L : Laid fs m) (he : eOk e) (hs : s.Ok) (ha : s.acc = true) (ht : t.Ok) (hb : t.acc = true) : Laid (fs ++ [.ifs e (.cons s .nil) (.cons t .nil)]) (m + 2) := by
  obtain ⟨e1, e2, e3⟩ := acc_flat ha
  obtain ⟨g1, g2, g3⟩ := acc_flat hb
  have e4 : allOf [.ifs e (.cons s .nil) (.cons t .nil)] = [.ifs e (.cons s .nil) (.cons t .nil), s, t] := by simp [allOf, St.flat, Bk.flat, e1, g1]
  refine ⟨fun t ht => ?_, fun t ht => ?_, ?_, ?_, ?_, ?_⟩
  · rcases List.mem_append.mp ht with q | q
    · exact L.ok t q
    · rw [List.mem_singleton.mp q]
      exact ⟨he, ⟨hs, trivial⟩, ⟨by assumption, trivial⟩, by simp [Bk.ds], by simp [Bk.ds]⟩
  · rcases List.mem_append.mp ht with q | q
    · exact L.nest t q
    · rw [List.mem_singleton.mp q]
      simp [St.nest, Bk.nest, e2, g2]
  · rw [allOf_cat, e4, List.length_append]
    have := L.all
    simp
    omega
  · rw [allOf_cat, e4, List.filter_append, List.length_append, L.acc]
    simp [List.filter_cons, ha, hb, show ∀ y n, (St.ifs e y n).acc = false from fun _ _ => rfl]
  · rw [allOf_cat, e4, List.filter_append, List.length_append]
    have := L.fen
    simp [List.filter_cons, e3, g3, show ∀ y n, (St.ifs e y n).isFence = false from fun _ _ => rfl]
    omega
  · rw [allOf_cat, e4, List.filter_append, List.filter_append, L.top]
    simp [List.filter_cons, e3, g3, show ∀ y n, (St.ifs e y n).isFence = false from fun _ _ => rfl]
end
end K48

set_option Elab.async false
set_option linter.all false
set_option maxRecDepth 100000
set_option maxHeartbeats 4000000
namespace K48
open PySem Mi
section
local macro_rules
  | `(tactic| simp! [$xs,*] $[$loc]?) => `(tactic| simp -implicitDefEqProofs only [$xs,*, ev_var, ev_and, ev_or, ev_chn, ev_ite, ev_iff, ev_while, ev_for, ev_forN, ev_lc, ev_lc2, ev_cons, ev_nil, ev_cst, ev_gbl, ev_tup, ev_lst, ev_sub, ev_slc, ev_op2, ev_neg, ev_not, ev_cmp, ev_callE, ev_blt, ev_isi, ev_trg, ev_app, ev_pop, ev_nilA, ev_consA, ev_nilF, ev_consF, ev_nilM, ev_consM, ev_seq, ev_rng1, ev_enm, ev_zip, ev_asg, ev_par, ev_exp, ev_aug, ev_sti, ev_popAt, someS_lst, someS_val, onS_lst, ev_ret, ev_rse, ok_bind, exn_bind, stk_bind, pure_ok, varR_val, varR_lst, seeB_val, see_val, see_lst, see_slot, slotSee_lst, slotSee_val, frz_val', frz_lst', frz_slot, slotFrz_lst, slotFrz_val, bool1_bool, int1_int, optInt_no, optInt_yes, ME.isNop, onL_lst, settle_val, settle_lst, settle_slot, mv_val, mv_lst, mv_slot, thenB_nx, thenB_rt, thenB_bk, thenB_ct, loopK_nx, loopK_ct, loopK_bk, loopK_rt, endF_rt, endF_nx, ioS_no, ioS_lst, retA_val, retA_lst, retA_slot, call_no, call_io, args_nil, args_cons, seeAll_nil, seeAll_cons, ite_and, ite_or, Mi.get, put, fill, Slot.own, seqOf_list, seqOf_tuple, sub_tup, sub_lst, b_add, b_addb, b_sub, b_addt, b_addl, s_tup, s_lst, i_int, i_intb, i_intt, i_ints, i_bool, i_booli, i_boolt, i_str, i_stri, i_strt, i_tup, i_tupi, i_tups, i_lst, i_lstt, i_lsti, i_lsts, i_non, f_lenl, f_lent, f_int, f_intb, f_listl, f_listt, f_lists, f_tupl, f_tupt, f_all, f_any, a_lst, a_int, asg_v, asg_l, asg_t, asgs_nil, asgs_cons, put_nm, put_tp, puts_nil, puts_cons, c_lt, c_le, c_gt, c_ge, List.map_cons, List.map_nil, List.length_cons, List.length_nil, List.replicate, List.append_nil, List.cons_append, List.nil_append, if_true, if_false, Bool.false_eq_true, Bool.not_false, Bool.not_true, Nat.reduceAdd, Nat.reduceSub, Nat.reduceLT, ev_turn1, ev_turn2, ev_condN, lc_nil, lc_cons, lc2_nil, lc2_cons, optC_some, optC_none, frzR_eq, noX_ok, wipeE, backE, noOwn, List.all_cons, List.all_nil, str_eq, String.reduceEq, eq_self, Int.cast_ofNat_Int, Int.reduceLE, Int.reduceLT, Int.reduceSub, Int.reduceAdd, Int.reduceEq, Int.natCast_add, Int.reduceNeg, Int.natCast_zero, decide_true, decide_false, Bool.and_true, Bool.and_false, Bool.true_and, Bool.false_and, Bool.or_false, Bool.false_or, Bool.or_true, Bool.true_or, Bool.and_self, Bool.not_eq_true, not_true_eq_false, not_false_eq_true, and_self, and_true, true_and, and_false, false_and, reduceIte, io0, io1, io2, io3, io4, io5, io6, io7, io8, io9, io10, io11, io12, io13, io14, io15, io16, io17, io18, io19, io20, io21, io22, io23, io24, io25, io26, io27, io28, io29, io30, io31, io32, io33, io34, io35, io36, io37, io38, io39, io40, io41, io42, io43, io44, io45, io46, io47, io48, io49, io50, io51, io52, io53, io54, io55, io56, io57, io58, io59, io60, io61, io62, io63, io64, io65] $[$loc]?)
/-! the plain law, part 23: the loop of a drawn thread -/
def lt12 : ME := match m10 with
  | .cons _ (.cons (.whl t _) _) => t
  | _ => .nop
def lb12 : MB := match m10 with
  | .cons _ (.cons (.whl _ b) _) => b
  | _ => .nil
def env12 (a b : Int) (n cells : Int) (fs : List St) (mn s5 s6 s7 s8 : Mi.Slot) : Mi.Env := [.lst [.int a, .int b], .val (.int n), .val (.int cells), .val (.tuple (fs.map St.d)), mn, s5, s6, s7, s8]
/-- one turn of the loop: so many accesses are laid -/
theorem turn12 (k : Nat) (a b n cells : Int) (fs : List St) (mn s5 s6 s7 s8 : Mi.Slot) (h : CupOk a b) (h1 : 0 < cells) (h2 : cells ≤ 4) (hn : 0 < n) (m : Nat) (L : Laid fs m) (hl : fs.length ≤ 500) : ∃ (d : Nat) (fs' : List St) (a' b' : Int) (s5' s7' s8' : Mi.Slot), execB ⟨ioOf T, callF T (k + 5)⟩ loops (some 0) lb12 (env12 a b n cells fs mn s5 s6 s7 s8) = .ok (env12 a' b' (n - d) cells fs' mn s5' s6 s7' s8', .nx) ∧
    CupOk a' b' ∧ Laid fs' (m + d) ∧ 1 ≤ d ∧ (d : Int) ≤ n ∧ d ≤ 2 ∧ fs'.length ≤ fs.length + 2 := by
  obtain ⟨w, a1, b1, g1, c1, w0, w1⟩ := roll (k + 4) a b 12 h (by decide) (by decide)
  have z1 : fs.length + 1 ≤ big := small _ (by omega)
  have z2 : fs.length + 1 + 1 ≤ big := small _ (by omega)
  by_cases e0 : w = 0
  · subst e0
    obtain ⟨s, a2, b2, g2, c2, os, ha⟩ := access k a1 b1 cells c1 h1 h2
    refine ⟨1, fs ++ [.fence] ++ [s], a2, b2, s5, .val (.int 0), s8, ?_, c2, L.two (p := .fence) (by simp only [St.Ok]) rfl rfl rfl os ha, by decide, by omega, by decide, by simp⟩
    simp only [cupD] at g1 g2
    simp! [lb12, t10_0, l10_0_4, l10_0_3, l10_0_2, l10_0_1, l10_0, m10_3, m10_2, m10_1, m10, env12, g1, g2, eq_int, List.length_map, List.length_append, z1, z2, List.map_append, St.d]
  by_cases e1 : w = 1
  · subst e1
    obtain ⟨r, a2, b2, g2, c2, r0, r1⟩ := roll (k + 4) a1 b1 2 c1 (by decide) (by decide)
    obtain ⟨e, a3, b3, g3, c3, o3, z3⟩ := expr1 (k + 1) a2 b2 c2
    obtain ⟨s, a4, b4, g4, c4, os, ha⟩ := access k a3 b3 cells c3 h1 h2
    refine ⟨1, fs ++ [.set r e] ++ [s], a4, b4, s5, .val (.int 1), s8, ?_, c4, L.two (p := .set r e) (by simp only [St.Ok]; exact ⟨⟨r0, by omega⟩, eOk_of o3 (by decide) z3 (by decide)⟩) rfl rfl rfl os ha, by decide, by omega, by decide, by simp⟩
    simp only [cupD] at g1 g2 g3 g4
    simp! [lb12, t10_0, l10_0_4, l10_0_3, l10_0_2, l10_0_1, l10_0, m10_3, m10_2, m10_1, m10, env12, g1, g2, eq_int, List.length_map, List.length_append, z1, z2, List.map_append, St.d, g3, g4]
  have q0 : decide (w = 0) = false := by simpa using e0
  have q1 : decide (w = 1) = false := by simpa using e1
  have lessW : isW "less" = true := by simp! [isW]
  by_cases e2 : w = 2
  · subst e2
    cases he : (fs.map St.d).isEmpty with
    | true =>
      obtain ⟨s, a2, b2, g2, c2, os, ha⟩ := access k a1 b1 cells c1 h1 h2
      refine ⟨1, fs ++ [s], a2, b2, s5, .val (.int 2), s8, ?_, c2, L.one os ha, by decide, by omega, by decide, by simp⟩
      simp only [cupD] at g1 g2
      simp! [lb12, t10_0, l10_0_4, l10_0_3, l10_0_2, l10_0_1, l10_0, m10_3, m10_2, m10_1, m10, env12, g1, g2, eq_int, List.length_map, List.length_append, z1, z2, List.map_append, St.d, ne_unit (sts_plain fs), q0, q1, he]
    | false =>
      obtain ⟨r, a2, b2, g2, c2, r0, r1⟩ := roll (k + 4) a1 b1 2 c1 (by decide) (by decide)
      obtain ⟨s, a3, b3, g3, c3, os, ha⟩ := access k a2 b2 cells c2 h1 h2
      have oe : eOk (.op "less" (.reg r) (.num 2)) := ⟨⟨by decide, lessW, ⟨by decide, r0, by omega⟩, ⟨by decide, by decide, by decide⟩⟩, by simp [Ex.size]⟩
      refine ⟨1, fs ++ [.need (.op "less" (.reg r) (.num 2))] ++ [s], a3, b3, s5, .val (.int 2), s8, ?_, c3, L.two (p := .need (.op "less" (.reg r) (.num 2))) (by simp only [St.Ok]; exact oe) rfl rfl rfl os ha, by decide, by omega, by decide, by simp⟩
      simp only [cupD] at g1 g2 g3
      simp! [lb12, t10_0, l10_0_4, l10_0_3, l10_0_2, l10_0_1, l10_0, m10_3, m10_2, m10_1, m10, env12, g1, g2, eq_int, List.length_map, List.length_append, z1, z2, List.map_append, St.d, ne_unit (sts_plain fs), q0, q1, he, g3, Ex.d]
  have q2 : decide (w = 2) = false := by simpa using e2
  by_cases e3 : w = 3
  · subst e3
    cases he : (fs.map St.d).isEmpty with
    | true =>
      obtain ⟨s, a2, b2, g2, c2, os, ha⟩ := access k a1 b1 cells c1 h1 h2
      refine ⟨1, fs ++ [s], a2, b2, s5, .val (.int 3), s8, ?_, c2, L.one os ha, by decide, by omega, by decide, by simp⟩
      simp only [cupD] at g1 g2
      simp! [lb12, t10_0, l10_0_4, l10_0_3, l10_0_2, l10_0_1, l10_0, m10_3, m10_2, m10_1, m10, env12, g1, g2, eq_int, List.length_map, List.length_append, z1, z2, List.map_append, St.d, ne_unit (sts_plain fs), q0, q1, he]
    | false =>
      obtain ⟨s, a2, b2, g2, c2, os, ha⟩ := access k a1 b1 cells c1 h1 h2
      cases hn1 : decide (1 < n) with
      | false =>
        obtain ⟨r, a3, b3, g3, c3, r0, r1⟩ := roll (k + 4) a2 b2 2 c2 (by decide) (by decide)
        refine ⟨1, fs ++ [.ifs (.reg r) (.cons s .nil) .nil], a3, b3, .val (.tuple []), .val (.int 3), .val (.tuple [s.d]), ?_, c3, L.cond (eReg r r0 (by omega)) os ha, by decide, by omega, by decide, by simp⟩
        simp only [cupD] at g1 g2 g3
        simp! [lb12, t10_0, l10_0_4, l10_0_3, l10_0_2, l10_0_1, l10_0, m10_3, m10_2, m10_1, m10, env12, g1, g2, eq_int, List.length_map, List.length_append, z1, z2, List.map_append, St.d, ne_unit (sts_plain fs), q0, q1, he, hn1, g3, Ex.d, Bk.ds, Int.sub_zero]
      | true =>
        have hn2 : 1 < n := by simpa using hn1
        obtain ⟨v, a3, b3, g3, c3, v0, v1⟩ := roll (k + 4) a2 b2 2 c2 (by decide) (by decide)
        cases hv : decide (v = 0) with
        | false =>
          obtain ⟨r, a4, b4, g4, c4, r0, r1⟩ := roll (k + 4) a3 b3 2 c3 (by decide) (by decide)
          refine ⟨1, fs ++ [.ifs (.reg r) (.cons s .nil) .nil], a4, b4, .val (.tuple []), .val (.int 3), .val (.tuple [s.d]), ?_, c4, L.cond (eReg r r0 (by omega)) os ha, by decide, by omega, by decide, by simp⟩
          simp only [cupD] at g1 g2 g3 g4
          simp! [lb12, t10_0, l10_0_4, l10_0_3, l10_0_2, l10_0_1, l10_0, m10_3, m10_2, m10_1, m10, env12, g1, g2, eq_int, List.length_map, List.length_append, z1, z2, List.map_append, St.d, ne_unit (sts_plain fs), q0, q1, he, hn1, g3, g4, hv, Ex.d, Bk.ds, Int.sub_zero]
        | true =>
          obtain ⟨t, a4, b4, g4, c4, ot, hb⟩ := access k a3 b3 cells c3 h1 h2
          obtain ⟨r, a5, b5, g5, c5, r0, r1⟩ := roll (k + 4) a4 b4 2 c4 (by decide) (by decide)
          have e9 : n - 1 - 1 = n - ((2 : Nat) : Int) := by omega
          refine ⟨2, fs ++ [.ifs (.reg r) (.cons s .nil) (.cons t .nil)], a5, b5, .val (.tuple [t.d]), .val (.int 3), .val (.tuple [s.d]), ?_, c5, L.cond2 (eReg r r0 (by omega)) os ha ot hb, by decide, by omega, by decide, by simp⟩
          simp only [cupD] at g1 g2 g3 g4 g5
          simp! [lb12, t10_0, l10_0_4, l10_0_3, l10_0_2, l10_0_1, l10_0, m10_3, m10_2, m10_1, m10, env12, g1, g2, eq_int, List.length_map, List.length_append, z1, z2, List.map_append, St.d, ne_unit (sts_plain fs), q0, q1, he, hn1, g3, g4, g5, hv, Ex.d, Bk.ds, e9]
  have q3 : decide (w = 3) = false := by simpa using e3
  obtain ⟨s, a2, b2, g2, c2, os, ha⟩ := access k a1 b1 cells c1 h1 h2
  refine ⟨1, fs ++ [s], a2, b2, s5, .val (.int w), s8, ?_, c2, L.one os ha, by decide, by omega, by decide, by simp⟩
  simp only [cupD] at g1 g2
  simp! [lb12, t10_0, l10_0_4, l10_0_3, l10_0_2, l10_0_1, l10_0, m10_3, m10_2, m10_1, m10, env12, g1, g2, eq_int, List.length_map, List.length_append, z1, z2, List.map_append, St.d, ne_unit (sts_plain fs), q0, q1, q2, q3]
end
end K48

set_option Elab.async false
set_option linter.all false
set_option maxRecDepth 100000
set_option maxHeartbeats 4000000
namespace K48
open PySem Mi
section
local macro_rules
  | `(tactic| simp! [$xs,*] $[$loc]?) => `(tactic| simp -implicitDefEqProofs only [$xs,*, ev_var, ev_and, ev_or, ev_chn, ev_ite, ev_iff, ev_while, ev_for, ev_forN, ev_lc, ev_lc2, ev_cons, ev_nil, ev_cst, ev_gbl, ev_tup, ev_lst, ev_sub, ev_slc, ev_op2, ev_neg, ev_not, ev_cmp, ev_callE, ev_blt, ev_isi, ev_trg, ev_app, ev_pop, ev_nilA, ev_consA, ev_nilF, ev_consF, ev_nilM, ev_consM, ev_seq, ev_rng1, ev_enm, ev_zip, ev_asg, ev_par, ev_exp, ev_aug, ev_sti, ev_popAt, someS_lst, someS_val, onS_lst, ev_ret, ev_rse, ok_bind, exn_bind, stk_bind, pure_ok, varR_val, varR_lst, seeB_val, see_val, see_lst, see_slot, slotSee_lst, slotSee_val, frz_val', frz_lst', frz_slot, slotFrz_lst, slotFrz_val, bool1_bool, int1_int, optInt_no, optInt_yes, ME.isNop, onL_lst, settle_val, settle_lst, settle_slot, mv_val, mv_lst, mv_slot, thenB_nx, thenB_rt, thenB_bk, thenB_ct, loopK_nx, loopK_ct, loopK_bk, loopK_rt, endF_rt, endF_nx, ioS_no, ioS_lst, retA_val, retA_lst, retA_slot, call_no, call_io, args_nil, args_cons, seeAll_nil, seeAll_cons, ite_and, ite_or, Mi.get, put, fill, Slot.own, seqOf_list, seqOf_tuple, sub_tup, sub_lst, b_add, b_addb, b_sub, b_addt, b_addl, s_tup, s_lst, i_int, i_intb, i_intt, i_ints, i_bool, i_booli, i_boolt, i_str, i_stri, i_strt, i_tup, i_tupi, i_tups, i_lst, i_lstt, i_lsti, i_lsts, i_non, f_lenl, f_lent, f_int, f_intb, f_listl, f_listt, f_lists, f_tupl, f_tupt, f_all, f_any, a_lst, a_int, asg_v, asg_l, asg_t, asgs_nil, asgs_cons, put_nm, put_tp, puts_nil, puts_cons, c_lt, c_le, c_gt, c_ge, List.map_cons, List.map_nil, List.length_cons, List.length_nil, List.replicate, List.append_nil, List.cons_append, List.nil_append, if_true, if_false, Bool.false_eq_true, Bool.not_false, Bool.not_true, Nat.reduceAdd, Nat.reduceSub, Nat.reduceLT, ev_turn1, ev_turn2, ev_condN, lc_nil, lc_cons, lc2_nil, lc2_cons, optC_some, optC_none, frzR_eq, noX_ok, wipeE, backE, noOwn, List.all_cons, List.all_nil, str_eq, String.reduceEq, eq_self, Int.cast_ofNat_Int, Int.reduceLE, Int.reduceLT, Int.reduceSub, Int.reduceAdd, Int.reduceEq, Int.natCast_add, Int.reduceNeg, Int.natCast_zero, decide_true, decide_false, Bool.and_true, Bool.and_false, Bool.true_and, Bool.false_and, Bool.or_false, Bool.false_or, Bool.or_true, Bool.true_or, Bool.and_self, Bool.not_eq_true, not_true_eq_false, not_false_eq_true, and_self, and_true, true_and, and_false, false_and, reduceIte, io0, io1, io2, io3, io4, io5, io6, io7, io8, io9, io10, io11, io12, io13, io14, io15, io16, io17, io18, io19, io20, io21, io22, io23, io24, io25, io26, io27, io28, io29, io30, io31, io32, io33, io34, io35, io36, io37, io38, io39, io40, io41, io42, io43, io44, io45, io46, io47, io48, io49, io50, io51, io52, io53, io54, io55, io56, io57, io58, io59, io60, io61, io62, io63, io64, io65] $[$loc]?)
/-! the plain law, part 24: drawn threads, all of it -/
theorem loop12 (k : Nat) (cells : Int) (h1 : 0 < cells) (h2 : cells ≤ 4) (mn s6 : Mi.Slot) : ∀ (fuel n : Nat), n < fuel → ∀ (a b : Int) (fs : List St) (m : Nat) (s5 s7 s8 : Mi.Slot), CupOk a b → Laid fs m → m + n ≤ 100 →
    ∃ (fs' : List St) (a' b' : Int) (s5' s7' s8' : Mi.Slot), whlT ⟨ioOf T, callF T (k + 5)⟩ loops (some 0) lt12 lb12 fuel (env12 a b n cells fs mn s5 s6 s7 s8) = .ok (env12 a' b' 0 cells fs' mn s5' s6 s7' s8', .nx) ∧ CupOk a' b' ∧ Laid fs' (m + n) := by
  intro fuel
  induction fuel with
  | zero => intro n h; exact absurd h (Nat.not_lt_zero _)
  | succ fuel ih =>
    intro n hn a b fs m s5 s7 s8 hc L hm
    rw [ev_whl]
    by_cases h0 : n = 0
    · subst h0
      refine ⟨fs, a, b, s5, s7, s8, ?_, hc, L⟩
      simp! [lt12, t10_0, l10_0_4, l10_0_3, l10_0_2, l10_0_1, l10_0, m10_3, m10_2, m10_1, m10, env12, Int.lt_irrefl]
    · have hlen : fs.length ≤ 2 * m := Nat.le_trans (len_all fs) L.all
      obtain ⟨d, fs1, a1, b1, s51, s71, s81, g, c1, L1, d1, d2, d3, d4⟩ := turn12 k a b n cells fs mn s5 s6 s7 s8 hc h1 h2 (by omega) m L (by omega)
      have hd : d ≤ n := by omega
      have e1 : (n : Int) - (d : Int) = ((n - d : Nat) : Int) := by omega
      obtain ⟨fs2, a2, b2, s52, s72, s82, g2, c2, L2⟩ := ih (n - d) (by omega) a1 b1 fs1 (m + d) s51 s71 s81 c1 L1 (by omega)
      have e2 : m + d + (n - d) = m + n := by omega
      rw [e2] at L2
      refine ⟨fs2, a2, b2, s52, s72, s82, ?_, c2, L2⟩
      have hp : decide ((0 : Int) < (n : Int)) = true := by simpa using Nat.pos_of_ne_zero h0
      rw [e1] at g
      have hcnd : evalE ⟨ioOf T, callF T (k + 5)⟩ lt12 (env12 a b n cells fs mn s5 s6 s7 s8) = .ok (.val (.bool true), env12 a b n cells fs mn s5 s6 s7 s8) := by
        simp! [lt12, t10_0, l10_0_4, l10_0_3, l10_0_2, l10_0_1, l10_0, m10_3, m10_2, m10_1, m10, env12, hp]
      rw [hcnd]
      simp only [ok_bind, seeB_val, bool1_bool, if_true, g, loopK_nx, g2]
def Bk.of : List St → Bk
  | [] => .nil
  | s :: r => .cons s (Bk.of r)
theorem of_ds : ∀ l : List St, (Bk.of l).ds = l.map St.d
  | [] => rfl
  | s :: r => by simp only [Bk.of, Bk.ds, of_ds r, List.map_cons]
theorem of_flat : ∀ l : List St, (Bk.of l).flat = allOf l
  | [] => rfl
  | s :: r => by simp only [Bk.of, Bk.flat, of_flat r, allOf, List.flatMap_cons]
theorem of_ok : ∀ l : List St, (∀ s ∈ l, s.Ok) → (Bk.of l).Ok
  | [], _ => trivial
  | s :: r, h => ⟨h s List.mem_cons_self, of_ok r fun t ht => h t (List.mem_cons_of_mem _ ht)⟩
theorem of_nest (n : Nat) : ∀ l : List St, (∀ s ∈ l, s.nest ≤ n) → (Bk.of l).nest ≤ n
  | [], _ => Nat.zero_le _
  | s :: r, h => by
    have h1 := h s List.mem_cons_self
    have h2 := of_nest n r fun t ht => h t (List.mem_cons_of_mem _ ht)
    simp only [Bk.of, Bk.nest]
    omega
/-- what a drawn thread of k accesses is -/
structure ThOk (b : Bk) (n : Nat) : Prop where
  ok : b.Ok
  nest : b.nest ≤ 1
  all : b.flat.length ≤ 12
  acc : (b.flat.filter St.acc).length = n
  fen : (b.flat.filter St.isFence).length ≤ n
theorem ThOk.fit {b : Bk} {n : Nat} (h : ThOk b n) : BkFit b := ⟨h.ok, Nat.le_trans (by
  have := len_all b.sts
  rw [Bk.ds_sts, List.length_map, Bk.flat_sts]
  exact this) h.all, h.all, Nat.le_trans h.nest (by decide)⟩
theorem thok_of {fs : List St} {n : Nat} (L : Laid fs n) (hn : n ≤ 6) : ThOk (Bk.of fs) n := by
  refine ⟨of_ok fs L.ok, of_nest 1 fs L.nest, ?_, ?_, ?_⟩
  · rw [of_flat]
    have := L.all
    omega
  · rw [of_flat]
    exact L.acc
  · rw [of_flat]
    exact L.fen
theorem thok_tail {fs : List St} {n : Nat} {s : St} (L : Laid fs n) (hn : n ≤ 5) (hs : s.Ok) (h1 : s.flat = [s]) (h2 : s.nest = 0) (h3 : s.acc = false) (h4 : s.isFence = true → ((allOf fs).filter St.isFence).length + 1 ≤ n) : ThOk (Bk.of (fs ++ [s])) n := by
  have e4 : allOf [s] = [s] := by simp [allOf, h1]
  refine ⟨of_ok _ fun t ht => ?_, of_nest 1 _ fun t ht => ?_, ?_, ?_, ?_⟩
  · rcases List.mem_append.mp ht with q | q
    · exact L.ok t q
    · rw [List.mem_singleton.mp q]
      exact hs
  · rcases List.mem_append.mp ht with q | q
    · exact L.nest t q
    · rw [List.mem_singleton.mp q]
      omega
  · rw [of_flat, allOf_cat, e4, List.length_append]
    have := L.all
    simp
    omega
  · rw [of_flat, allOf_cat, e4, List.filter_append, List.length_append, L.acc]
    simp [h3]
  · rw [of_flat, allOf_cat, e4, List.filter_append, List.length_append]
    have := L.fen
    cases hf : s.isFence with
    | false =>
      simp [hf]
      omega
    | true =>
      have := h4 hf
      simp [hf]
      omega
end
end K48

set_option Elab.async false
set_option linter.all false
set_option maxRecDepth 100000
set_option maxHeartbeats 4000000
namespace K48
open PySem Mi
section
local macro_rules
  | `(tactic| simp! [$xs,*] $[$loc]?) => `(tactic| simp -implicitDefEqProofs only [$xs,*, ev_var, ev_and, ev_or, ev_chn, ev_ite, ev_iff, ev_while, ev_for, ev_forN, ev_lc, ev_lc2, ev_cons, ev_nil, ev_cst, ev_gbl, ev_tup, ev_lst, ev_sub, ev_slc, ev_op2, ev_neg, ev_not, ev_cmp, ev_callE, ev_blt, ev_isi, ev_trg, ev_app, ev_pop, ev_nilA, ev_consA, ev_nilF, ev_consF, ev_nilM, ev_consM, ev_seq, ev_rng1, ev_enm, ev_zip, ev_asg, ev_par, ev_exp, ev_aug, ev_sti, ev_popAt, someS_lst, someS_val, onS_lst, ev_ret, ev_rse, ok_bind, exn_bind, stk_bind, pure_ok, varR_val, varR_lst, seeB_val, see_val, see_lst, see_slot, slotSee_lst, slotSee_val, frz_val', frz_lst', frz_slot, slotFrz_lst, slotFrz_val, bool1_bool, int1_int, optInt_no, optInt_yes, ME.isNop, onL_lst, settle_val, settle_lst, settle_slot, mv_val, mv_lst, mv_slot, thenB_nx, thenB_rt, thenB_bk, thenB_ct, loopK_nx, loopK_ct, loopK_bk, loopK_rt, endF_rt, endF_nx, ioS_no, ioS_lst, retA_val, retA_lst, retA_slot, call_no, call_io, args_nil, args_cons, seeAll_nil, seeAll_cons, ite_and, ite_or, Mi.get, put, fill, Slot.own, seqOf_list, seqOf_tuple, sub_tup, sub_lst, b_add, b_addb, b_sub, b_addt, b_addl, s_tup, s_lst, i_int, i_intb, i_intt, i_ints, i_bool, i_booli, i_boolt, i_str, i_stri, i_strt, i_tup, i_tupi, i_tups, i_lst, i_lstt, i_lsti, i_lsts, i_non, f_lenl, f_lent, f_int, f_intb, f_listl, f_listt, f_lists, f_tupl, f_tupt, f_all, f_any, a_lst, a_int, asg_v, asg_l, asg_t, asgs_nil, asgs_cons, put_nm, put_tp, puts_nil, puts_cons, c_lt, c_le, c_gt, c_ge, List.map_cons, List.map_nil, List.length_cons, List.length_nil, List.replicate, List.append_nil, List.cons_append, List.nil_append, if_true, if_false, Bool.false_eq_true, Bool.not_false, Bool.not_true, Nat.reduceAdd, Nat.reduceSub, Nat.reduceLT, ev_turn1, ev_turn2, ev_condN, lc_nil, lc_cons, lc2_nil, lc2_cons, optC_some, optC_none, frzR_eq, noX_ok, wipeE, backE, noOwn, List.all_cons, List.all_nil, str_eq, String.reduceEq, eq_self, Int.cast_ofNat_Int, Int.reduceLE, Int.reduceLT, Int.reduceSub, Int.reduceAdd, Int.reduceEq, Int.natCast_add, Int.reduceNeg, Int.natCast_zero, decide_true, decide_false, Bool.and_true, Bool.and_false, Bool.true_and, Bool.false_and, Bool.or_false, Bool.false_or, Bool.or_true, Bool.true_or, Bool.and_self, Bool.not_eq_true, not_true_eq_false, not_false_eq_true, and_self, and_true, true_and, and_false, false_and, reduceIte, io0, io1, io2, io3, io4, io5, io6, io7, io8, io9, io10, io11, io12, io13, io14, io15, io16, io17, io18, io19, io20, io21, io22, io23, io24, io25, io26, io27, io28, io29, io30, io31, io32, io33, io34, io35, io36, io37, io38, io39, io40, io41, io42, io43, io44, io45, io46, io47, io48, io49, io50, io51, io52, io53, io54, io55, io56, io57, io58, io59, io60, io61, io62, io63, io64, io65] $[$loc]?)
/-! the plain law, part 25: drawn threads, joined -/
theorem lessWw : isW "less" = true := by simp! [isW]
theorem need_ok3 : (St.need (.op "less" (.reg 0) (.num 3))).Ok := by
  simp only [St.Ok]
  exact ⟨⟨by decide, lessWw, ⟨by decide, by decide, by decide⟩, ⟨by decide, by decide, by decide⟩⟩, by simp [Ex.size]⟩
theorem fence_nin (fs : List St) (h : ∀ s ∈ fs, s.Ok) : cmp2 .NotIn (.tuple [.str "fence"]) (.tuple (fs.map St.d)) = .ok (!(fs.any St.isFence)) := by
  rw [nin_any _ rfl (by decide) _ (sts_plain fs), List.any_map]
  congr 2
  have : ∀ l : List St, (∀ s ∈ l, s.Ok) → l.any ((fun z => PyData.eqv z (.tuple [.str "fence"])) ∘ St.d) = l.any St.isFence := by
    intro l
    induction l with
    | nil => intro _; rfl
    | cons s r ih =>
      intro hl
      rw [List.any_cons, List.any_cons, ih fun t ht => hl t (List.mem_cons_of_mem _ ht), Function.comp_apply, fence_eqv s (hl s List.mem_cons_self)]
  exact this fs h
theorem thread (k : Nat) (a b cells : Int) (n : Nat) (h : CupOk a b) (h1 : 0 < cells) (h2 : cells ≤ 4) (n1 : 1 ≤ n) (n2 : n ≤ 6) : ∃ (bk : Bk) (a' b' : Int), callF T (k + 6) 10 [cupD a b, .val (.int n), .val (.int cells)] = .ok (.val (tup bk), cupD a' b') ∧ CupOk a' b' ∧ ThOk bk n := by
  have hl : loops = 999900 + 99 + 1 := rfl
  obtain ⟨fs, a1, b1, s5, s7, s8, g, c1, L⟩ := loop12 k cells h1 h2 (.val (.int n)) .emp loops n (by rw [hl]; omega) a b [] 0 .emp .emp .emp h Laid.nil (by omega)
  rw [Nat.zero_add] at L
  have hne : fs.map St.d ≠ [] := by
    intro e
    have : fs = [] := List.map_eq_nil_iff.mp e
    subst this
    have := L.acc
    simp [allOf] at this
    omega
  have he : (fs.map St.d).isEmpty = false := by
    cases q : fs.map St.d with
    | nil => exact absurd q hne
    | cons _ _ => rfl
  have hlen : fs.length ≤ 2 * n := Nat.le_trans (len_all fs) L.all
  have z1 : fs.length + 1 ≤ big := small _ (by omega)
  simp only [lt12, lb12, t10_0, l10_0_4, l10_0_3, l10_0_2, l10_0_1, l10_0, m10_3, m10_2, m10_1, m10, env12, List.map_nil] at g
  cases hn : decide ((n : Int) < 6) with
  | false =>
    refine ⟨Bk.of fs, a1, b1, ?_, c1, thok_of L n2⟩
    simp only [tup, of_ds, cupD]
    rw [ev_call (fd := f10) rfl rfl]
    simp! [f10, t10_0, l10_0_4, l10_0_3, l10_0_2, l10_0_1, l10_0, m10_3, m10_2, m10_1, m10, g, ne_unit (sts_plain fs), he, hn]
  | true =>
    have hn5 : n ≤ 5 := by
      have := of_decide_eq_true hn
      omega
    obtain ⟨v, a2, b2, g2, c2, v0, v1⟩ := roll (k + 4) a1 b1 3 c1 (by decide) (by decide)
    cases hv : decide (v = 0) with
    | false =>
      refine ⟨Bk.of fs, a2, b2, ?_, c2, thok_of L n2⟩
      simp only [cupD] at g2
      simp only [tup, of_ds, cupD]
      rw [ev_call (fd := f10) rfl rfl]
      simp! [f10, t10_0, l10_0_4, l10_0_3, l10_0_2, l10_0_1, l10_0, m10_3, m10_2, m10_1, m10, g, ne_unit (sts_plain fs), he, hn, g2, eq_int, hv]
    | true =>
      obtain ⟨r, a3, b3, g3, c3, r0, r1⟩ := roll (k + 4) a2 b2 2 c2 (by decide) (by decide)
      obtain ⟨e, a4, b4, g4, c4, o4, z4⟩ := expr1 (k + 1) a3 b3 c3
      have os : (St.set r e).Ok := by
        simp only [St.Ok]
        exact ⟨⟨r0, by omega⟩, eOk_of o4 (by decide) z4 (by decide)⟩
      cases hf : fs.any St.isFence with
      | true =>
        obtain ⟨d, a5, b5, g5, c5, hd⟩ := some_ (k + 3) a4 b4 [(St.set r e).d, (St.need (.op "less" (.reg 0) (.num 3))).d] c4 (by simp) (by simp)
        have : ∃ s : St, d = s.d ∧ ThOk (Bk.of (fs ++ [s])) n := by
          simp only [List.mem_cons, List.not_mem_nil, or_false] at hd
          rcases hd with rfl | rfl
          · exact ⟨_, rfl, thok_tail L hn5 os rfl rfl rfl (fun q => nomatch q)⟩
          · exact ⟨_, rfl, thok_tail L hn5 need_ok3 rfl rfl rfl (fun q => nomatch q)⟩
        obtain ⟨s, rfl, hs⟩ := this
        refine ⟨_, a5, b5, ?_, c5, hs⟩
        simp only [cupD] at g2 g3 g4 g5
        simp only [St.d, Ex.d] at g5
        simp only [tup, of_ds, cupD, List.map_append]
        rw [ev_call (fd := f10) rfl rfl]
        simp! [f10, t10_0, l10_0_4, l10_0_3, l10_0_2, l10_0_1, l10_0, m10_3, m10_2, m10_1, m10, g, ne_unit (sts_plain fs), he, hn, g2, eq_int, hv, g3, g4, g5, fence_nin fs L.ok, hf, List.length_map, z1, show 2 ≤ big by decide]
      | false =>
        obtain ⟨d, a5, b5, g5, c5, hd⟩ := some_ (k + 3) a4 b4 [(St.set r e).d, (St.need (.op "less" (.reg 0) (.num 3))).d, St.fence.d] c4 (by simp) (by simp)
        have h0 : ((allOf fs).filter St.isFence).length = 0 := by
          rw [L.top, List.length_eq_zero_iff, List.filter_eq_nil_iff]
          intro s hs hq
          have : fs.any St.isFence = true := List.any_eq_true.mpr ⟨s, hs, hq⟩
          rw [hf] at this
          cases this
        have : ∃ s : St, d = s.d ∧ ThOk (Bk.of (fs ++ [s])) n := by
          simp only [List.mem_cons, List.not_mem_nil, or_false] at hd
          rcases hd with rfl | rfl | rfl
          · exact ⟨_, rfl, thok_tail L hn5 os rfl rfl rfl (fun q => nomatch q)⟩
          · exact ⟨_, rfl, thok_tail L hn5 need_ok3 rfl rfl rfl (fun q => nomatch q)⟩
          · exact ⟨_, rfl, thok_tail L hn5 (by simp only [St.Ok]) rfl rfl rfl (fun _ => by omega)⟩
        obtain ⟨s, rfl, hs⟩ := this
        refine ⟨_, a5, b5, ?_, c5, hs⟩
        simp only [cupD] at g2 g3 g4 g5
        simp only [St.d, Ex.d] at g5
        simp only [tup, of_ds, cupD, List.map_append]
        rw [ev_call (fd := f10) rfl rfl]
        simp! [f10, t10_0, l10_0_4, l10_0_3, l10_0_2, l10_0_1, l10_0, m10_3, m10_2, m10_1, m10, g, ne_unit (sts_plain fs), he, hn, g2, eq_int, hv, g3, g4, g5, fence_nin fs L.ok, hf, List.length_map, z1, show 3 ≤ big by decide]
end
end K48

set_option Elab.async false
set_option linter.all false
set_option maxRecDepth 100000
set_option maxHeartbeats 4000000
namespace K48
open PySem Mi
section
local macro_rules
  | `(tactic| simp! [$xs,*] $[$loc]?) => `(tactic| simp -implicitDefEqProofs only [$xs,*, ev_var, ev_and, ev_or, ev_chn, ev_ite, ev_iff, ev_while, ev_for, ev_forN, ev_lc, ev_lc2, ev_cons, ev_nil, ev_cst, ev_gbl, ev_tup, ev_lst, ev_sub, ev_slc, ev_op2, ev_neg, ev_not, ev_cmp, ev_callE, ev_blt, ev_isi, ev_trg, ev_app, ev_pop, ev_nilA, ev_consA, ev_nilF, ev_consF, ev_nilM, ev_consM, ev_seq, ev_rng1, ev_enm, ev_zip, ev_asg, ev_par, ev_exp, ev_aug, ev_sti, ev_popAt, someS_lst, someS_val, onS_lst, ev_ret, ev_rse, ok_bind, exn_bind, stk_bind, pure_ok, varR_val, varR_lst, seeB_val, see_val, see_lst, see_slot, slotSee_lst, slotSee_val, frz_val', frz_lst', frz_slot, slotFrz_lst, slotFrz_val, bool1_bool, int1_int, optInt_no, optInt_yes, ME.isNop, onL_lst, settle_val, settle_lst, settle_slot, mv_val, mv_lst, mv_slot, thenB_nx, thenB_rt, thenB_bk, thenB_ct, loopK_nx, loopK_ct, loopK_bk, loopK_rt, endF_rt, endF_nx, ioS_no, ioS_lst, retA_val, retA_lst, retA_slot, call_no, call_io, args_nil, args_cons, seeAll_nil, seeAll_cons, ite_and, ite_or, Mi.get, put, fill, Slot.own, seqOf_list, seqOf_tuple, sub_tup, sub_lst, b_add, b_addb, b_sub, b_addt, b_addl, s_tup, s_lst, i_int, i_intb, i_intt, i_ints, i_bool, i_booli, i_boolt, i_str, i_stri, i_strt, i_tup, i_tupi, i_tups, i_lst, i_lstt, i_lsti, i_lsts, i_non, f_lenl, f_lent, f_int, f_intb, f_listl, f_listt, f_lists, f_tupl, f_tupt, f_all, f_any, a_lst, a_int, asg_v, asg_l, asg_t, asgs_nil, asgs_cons, put_nm, put_tp, puts_nil, puts_cons, c_lt, c_le, c_gt, c_ge, List.map_cons, List.map_nil, List.length_cons, List.length_nil, List.replicate, List.append_nil, List.cons_append, List.nil_append, if_true, if_false, Bool.false_eq_true, Bool.not_false, Bool.not_true, Nat.reduceAdd, Nat.reduceSub, Nat.reduceLT, ev_turn1, ev_turn2, ev_condN, lc_nil, lc_cons, lc2_nil, lc2_cons, optC_some, optC_none, frzR_eq, noX_ok, wipeE, backE, noOwn, List.all_cons, List.all_nil, str_eq, String.reduceEq, eq_self, Int.cast_ofNat_Int, Int.reduceLE, Int.reduceLT, Int.reduceSub, Int.reduceAdd, Int.reduceEq, Int.natCast_add, Int.reduceNeg, Int.natCast_zero, decide_true, decide_false, Bool.and_true, Bool.and_false, Bool.true_and, Bool.false_and, Bool.or_false, Bool.false_or, Bool.or_true, Bool.true_or, Bool.and_self, Bool.not_eq_true, not_true_eq_false, not_false_eq_true, and_self, and_true, true_and, and_false, false_and, reduceIte, io0, io1, io2, io3, io4, io5, io6, io7, io8, io9, io10, io11, io12, io13, io14, io15, io16, io17, io18, io19, io20, io21, io22, io23, io24, io25, io26, io27, io28, io29, io30, io31, io32, io33, io34, io35, io36, io37, io38, io39, io40, io41, io42, io43, io44, io45, io46, io47, io48, io49, io50, io51, io52, io53, io54, io55, io56, io57, io58, io59, io60, io61, io62, io63, io64, io65] $[$loc]?)
/-! the plain law, part 26: drawn programs -/
theorem cut_take (ds : List PyData) (i : Nat) (h : i ≤ ds.length) : cut ds none (some (i : Int)) = ds.take i := by
  have : ¬ ((i : Int) < 0) := by omega
  simp only [cut, cutIx, if_neg this, List.drop_zero, Int.toNat_natCast, Nat.sub_zero, Nat.min_eq_left h]
theorem cut_drop (ds : List PyData) (i : Nat) (h : i ≤ ds.length) : cut ds (some (i : Int)) none = ds.drop i := by
  have : ¬ ((i : Int) < 0) := by omega
  simp only [cut, cutIx, if_neg this, Int.toNat_natCast, Nat.min_eq_left h]
  apply List.take_of_length_le
  simp
theorem sum_set : ∀ (ms : List Nat) (j : Nat) (h : j < ms.length), (ms.set j (ms[j] + 1)).sum = ms.sum + 1
  | [], _, h => absurd h (Nat.not_lt_zero _)
  | m :: r, 0, _ => by simp; omega
  | m :: r, j + 1, h => by
    have := sum_set r j (by simpa using h)
    simp only [List.set_cons_succ, List.sum_cons, List.getElem_cons_succ]
    omega
def nat (m : Nat) : PyData := .int (m : Int)
def lb4 : MB := match m2 with
  | .cons _ (.cons _ (.cons (.for_ _ _ b) _)) => b
  | _ => .nil
theorem loop4 (k : Nat) (n cells : Int) (s5 : Mi.Slot) (t : Nat) (t0 : 0 < t) (t9 : t ≤ 9) : ∀ (ds : List PyData) (ms : List Nat) (a b : Int) (s2 s7 : Mi.Slot), CupOk a b → ms.length = t → (∀ m ∈ ms, 1 ≤ m) →
    ∃ (ms' : List Nat) (a' b' : Int) (s2' s7' : Mi.Slot), forT ⟨ioOf T, callF T (k + 1)⟩ loops (some 0) (.nm 7) lb4 ds [cupD a b, .val (.int n), s2, .val (.int cells), .lst (ms.map nat), s5, .val (.int (t : Int)), s7] = .ok ([cupD a' b', .val (.int n), s2', .val (.int cells), .lst (ms'.map nat), s5, .val (.int (t : Int)), s7'], .nx) ∧
      CupOk a' b' ∧ ms'.length = t ∧ (∀ m ∈ ms', 1 ≤ m) ∧ ms'.sum = ms.sum + ds.length
  | [], ms, a, b, s2, s7, h, hl, h1 => ⟨ms, a, b, s2, s7, by rw [ev_forN], h, hl, h1, by simp⟩
  | d :: ds, ms, a, b, s2, s7, h, hl, h1 => by
    obtain ⟨v, a1, b1, g1, c1, v0, v1⟩ := roll k a b (t : Int) h (by omega) (by omega)
    obtain ⟨j, rfl⟩ := Int.eq_ofNat_of_zero_le v0
    have hj : j < ms.length := by omega
    have hj2 : j < (ms.map nat).length := by rw [List.length_map]; exact hj
    have i1 : itemAt (ms.map nat) (j : Int) = .ok (nat ms[j]) := item_nat j (by simp [List.getElem?_eq_getElem hj])
    have c2 : cut (ms.map nat) none (some (j : Int)) = (ms.map nat).take j := cut_take _ _ (Nat.le_of_lt hj2)
    have c3 : cut (ms.map nat) (some ((j : Int) + 1)) none = (ms.map nat).drop (j + 1) := cut_drop _ (j + 1) hj2
    have e1 : (ms.map nat).take j ++ [nat (ms[j] + 1)] ++ (ms.map nat).drop (j + 1) = (ms.set j (ms[j] + 1)).map nat := by
      rw [List.map_set, List.set_eq_take_append_cons_drop, if_pos hj2]
      simp
    have z1 : ((ms.map nat).take j).length + 1 ≤ big := small _ (by simp; omega)
    have z2 : ((ms.map nat).take j).length + 1 + ((ms.map nat).drop (j + 1)).length ≤ big := small _ (by simp; omega)
    obtain ⟨ms', a', b', s2', s7', g, c, l, o, s⟩ := loop4 k n cells s5 t t0 t9 ds (ms.set j (ms[j] + 1)) a1 b1 (.val (.int (j : Int))) (.val d) c1 (by simpa using hl) (fun m hm => by
      rcases List.mem_or_eq_of_mem_set hm with q | q
      · exact h1 m q
      · omega)
    refine ⟨ms', a', b', s2', s7', ?_, c, l, o, ?_⟩
    · rw [← g, ev_forC]
      simp only [cupD] at g1 ⊢
      have e2 : nat (ms[j] + 1) = .int ((ms[j] : Int) + 1) := by simp [nat]
      rw [e2] at e1
      simp! [lb4, l2_0_1, l2_0, ce2_0, m2_3, m2_2, m2_1, m2, g1, i1, c2, c3, nat, z1, z2, List.length_append, ← e1]
    · rw [s, sum_set ms j hj, List.length_cons]
      omega
/-- what a drawn program is -/
structure Drawn (bs : List Bk) (ms : List Nat) : Prop where
  len : bs.length = ms.length
  two : 2 ≤ ms.length
  three : ms.length ≤ 3
  le : ms.sum ≤ 7
  th : ∀ p ∈ bs.zip ms, ThOk p.1 p.2 ∧ 1 ≤ p.2
theorem comp4 (k : Nat) (cells : Int) (q1 : 0 < cells) (q2 : cells ≤ 4) (s1 s2 s4 s6 s7 : Mi.Slot) : ∀ (ms : List Nat) (a b : Int), CupOk a b → (∀ m ∈ ms, 1 ≤ m ∧ m ≤ 6) →
    ∃ (bs : List Bk) (a' b' : Int), lcL (turn1 ⟨ioOf T, callF T (k + 6)⟩ (.nm 5) [5] .nop (.call 10 (.cons (.var 0) (.cons (.var 5) (.cons (.var 3) .nil))))) (ms.map nat) [cupD a b, s1, s2, .val (.int cells), s4, .emp, s6, s7] = .ok (bs.map tup, [cupD a' b', s1, s2, .val (.int cells), s4, .emp, s6, s7]) ∧
      CupOk a' b' ∧ bs.length = ms.length ∧ ∀ p ∈ bs.zip ms, ThOk p.1 p.2 ∧ 1 ≤ p.2
  | [], a, b, h, _ => ⟨[], a, b, rfl, h, rfl, fun p hp => nomatch hp⟩
  | m :: r, a, b, h, hm => by
    have h0 := hm m List.mem_cons_self
    obtain ⟨bk, a1, b1, g1, c1, t1⟩ := thread k a b cells m h q1 q2 h0.1 h0.2
    obtain ⟨bs, a2, b2, g2, c2, l2, t2⟩ := comp4 k cells q1 q2 s1 s2 s4 s6 s7 r a1 b1 c1 fun x hx => hm x (List.mem_cons_of_mem _ hx)
    refine ⟨bk :: bs, a2, b2, ?_, c2, by simp [l2], fun p hp => ?_⟩
    · rw [List.map_cons, lc_cons, ev_turn1]
      simp only [cupD] at g1 g2 ⊢
      simp! [g1, g2, nat]
    · rw [List.zip_cons_cons] at hp
      rcases List.mem_cons.mp hp with q | q
      · rw [q]
        exact ⟨t1, h0.1⟩
      · exact t2 p q
theorem drawn_count : ∀ (bs : List Bk) (ms : List Nat), bs.length = ms.length → (∀ p ∈ bs.zip ms, ThOk p.1 p.2 ∧ 1 ≤ p.2) → ((every bs).filter St.acc).length = ms.sum ∧ ((every bs).filter St.isFence).length ≤ ms.sum ∧ ∀ b ∈ bs, BkFit b
  | [], [], _, _ => ⟨rfl, Nat.le_refl _, fun b hb => nomatch hb⟩
  | [], _ :: _, h, _ => nomatch h
  | _ :: _, [], h, _ => nomatch h
  | b :: r, m :: ms, h, t => by
    rw [List.zip_cons_cons] at t
    obtain ⟨i1, i2, i3⟩ := drawn_count r ms (by simpa using h) fun p hp => t p (List.mem_cons_of_mem _ hp)
    have t1 := (t (b, m) List.mem_cons_self).1
    refine ⟨?_, ?_, fun c hc => ?_⟩
    · simp only [every, List.flatMap_cons, List.filter_append, List.length_append, List.sum_cons] at i1 ⊢
      rw [i1, t1.acc]
    · have t5 : (b.flat.filter St.isFence).length ≤ m := t1.fen
      simp only [every, List.flatMap_cons, List.filter_append, List.length_append, List.sum_cons] at i2 ⊢
      omega
    · rcases List.mem_cons.mp hc with q | q
      · rw [q]
        exact t1.fit
      · exact i3 c q
theorem Drawn.ok {bs : List Bk} {ms : List Nat} (D : Drawn bs ms) : PrOk bs := by
  obtain ⟨h1, h2, h3⟩ := drawn_count bs ms D.len D.th
  have := D.le
  have := D.two
  have := D.three
  have := D.len
  exact ⟨by omega, by omega, h3, by omega, by omega⟩
theorem Drawn.many {bs : List Bk} {ms : List Nat} (D : Drawn bs ms) : manyOf bs = ms.sum := (drawn_count bs ms D.len D.th).1
theorem sum_ge : ∀ ms : List Nat, (∀ m ∈ ms, 1 ≤ m) → ms.length ≤ ms.sum
  | [], _ => Nat.le_refl _
  | m :: r, h => by
    have h1 := h m List.mem_cons_self
    have h2 := sum_ge r fun x hx => h x (List.mem_cons_of_mem _ hx)
    simp only [List.length_cons, List.sum_cons]
    omega
theorem le_sum : ∀ ms : List Nat, (∀ m ∈ ms, 1 ≤ m) → ∀ m ∈ ms, m + ms.length ≤ ms.sum + 1
  | [], _, m, hm => nomatch hm
  | x :: r, h, m, hm => by
    have h1 := h x List.mem_cons_self
    have h2 := sum_ge r fun y hy => h y (List.mem_cons_of_mem _ hy)
    simp only [List.length_cons, List.sum_cons]
    rcases List.mem_cons.mp hm with q | q
    · omega
    · have := le_sum r (fun y hy => h y (List.mem_cons_of_mem _ hy)) m q
      omega
theorem ones : ∀ t : Nat, (List.replicate t [PyData.int 1]).flatten = (List.replicate t 1).map nat
  | 0 => rfl
  | t + 1 => by
    rw [List.replicate_succ, List.flatten_cons, ones t, List.replicate_succ, List.map_cons]
    rfl
theorem program (k : Nat) (a b : Int) (n : Nat) (h : CupOk a b) (n1 : 2 ≤ n) (n2 : n ≤ 7) : ∃ (bs : List Bk) (ms : List Nat) (a' b' : Int), callF T (k + 7) 2 [cupD a b, .val (.int (n : Int))] = .ok (.val (.tuple (bs.map tup)), cupD a' b') ∧ CupOk a' b' ∧ Drawn bs ms ∧ ms.sum = max n ms.length := by
  obtain ⟨v, a1, b1, g1, c1, v0, v1⟩ := roll (k + 5) a b 4 h (by decide) (by decide)
  obtain ⟨d, a2, b2, g2, c2, hd⟩ := some_ (k + 4) a1 b1 [.int 1, .int 2, .int 2, .int 2] c1 (by decide) (by decide)
  have hx : ∃ x : Int, d = .int x ∧ 0 < x ∧ x ≤ 4 := by
    simp only [List.mem_cons, List.not_mem_nil, or_false] at hd
    rcases hd with rfl | rfl | rfl | rfl <;> exact ⟨_, rfl, by decide, by decide⟩
  obtain ⟨cells, rfl, x0, x1⟩ := hx
  have ht : ∃ t : Nat, 2 + b2i (decide (v = 0)) = (t : Int) ∧ 2 ≤ t ∧ t ≤ 3 := by
    cases decide (v = 0) with
    | true => exact ⟨3, rfl, by decide, by decide⟩
    | false => exact ⟨2, rfl, by decide, by decide⟩
  obtain ⟨t, et, t2, t3⟩ := ht
  have hr : rng 0 ((n : Int) - (t : Int)) = .ok ((List.range (n - t)).map fun (i : Nat) => PyData.int (0 + (i : Int))) := by
    have c : -(2 ^ 62) ≤ (0 : Int) ∧ (0 : Int) < 2 ^ 62 ∧ -(2 ^ 62) ≤ ((n : Int) - (t : Int)) ∧ ((n : Int) - (t : Int)) < 2 ^ 62 ∧ (((n : Int) - (t : Int)) - 0).toNat ≤ big := by
      refine ⟨by omega, by omega, by omega, by omega, small _ (by omega)⟩
    have e : (((n : Int) - (t : Int)) - 0).toNat = n - t := by omega
    rw [e] at c
    simp only [rng, e, if_pos c]
  obtain ⟨ms, a3, b3, s2, s7, g3, c3, l3, o3, u3⟩ := loop4 (k + 5) n cells .emp t (by omega) (by omega) ((List.range (n - t)).map fun (i : Nat) => PyData.int (0 + (i : Int))) (List.replicate t 1) a2 b2 .emp .emp c2 (by simp) (fun m hm => by
    have := (List.mem_replicate.mp hm).2
    omega)
  have u4 : ms.sum = max n ms.length := by
    rw [u3, l3]
    simp
    omega
  have hle : ∀ m ∈ ms, 1 ≤ m ∧ m ≤ 6 := fun m hm => by
    have := le_sum ms o3 m hm
    exact ⟨o3 m hm, by omega⟩
  obtain ⟨bs, a4, b4, g4, c4, l4, t4⟩ := comp4 k cells x0 x1 (.val (.int (n : Int))) s2 (.val (.list (ms.map nat))) (.val (.int (t : Int))) s7 ms a3 b3 c3 hle
  refine ⟨bs, ms, a4, b4, ?_, c4, ⟨l4, by omega, by omega, by omega, t4⟩, u4⟩
  have m1 : -(2 ^ 63) ≤ (t : Int) ∧ (t : Int) < 2 ^ 63 ∧ 1 * (t : Int).toNat ≤ big := ⟨by omega, by omega, small _ (by omega)⟩
  have e7 : (List.replicate (t : Int).toNat [PyData.int 1]).flatten = (List.replicate t 1).map nat := by
    rw [Int.toNat_natCast, ones]
  simp only [cupD] at g1 g2 g3 g4 ⊢
  simp only [lb4, l2_0_1, l2_0, ce2_0, m2_3, m2_2, m2_1, m2] at g3
  rw [ev_call (fd := f2) rfl rfl]
  simp! [f2, l2_0_1, l2_0, ce2_0, m2_3, m2_2, m2_1, m2, g1, g2, eq_int]
  rw [et]
  simp! [b_mull, m1, e7, hr, g3, g4, List.length_map]
end
end K48

set_option Elab.async false
set_option linter.all false
set_option maxRecDepth 100000
set_option maxHeartbeats 4000000
namespace K48
open PySem Mi
section
local macro_rules
  | `(tactic| simp! [$xs,*] $[$loc]?) => `(tactic| simp -implicitDefEqProofs only [$xs,*, ev_var, ev_and, ev_or, ev_chn, ev_ite, ev_iff, ev_while, ev_for, ev_forN, ev_lc, ev_lc2, ev_cons, ev_nil, ev_cst, ev_gbl, ev_tup, ev_lst, ev_sub, ev_slc, ev_op2, ev_neg, ev_not, ev_cmp, ev_callE, ev_blt, ev_isi, ev_trg, ev_app, ev_pop, ev_nilA, ev_consA, ev_nilF, ev_consF, ev_nilM, ev_consM, ev_seq, ev_rng1, ev_enm, ev_zip, ev_asg, ev_par, ev_exp, ev_aug, ev_sti, ev_popAt, someS_lst, someS_val, onS_lst, ev_ret, ev_rse, ok_bind, exn_bind, stk_bind, pure_ok, varR_val, varR_lst, seeB_val, see_val, see_lst, see_slot, slotSee_lst, slotSee_val, frz_val', frz_lst', frz_slot, slotFrz_lst, slotFrz_val, bool1_bool, int1_int, optInt_no, optInt_yes, ME.isNop, onL_lst, settle_val, settle_lst, settle_slot, mv_val, mv_lst, mv_slot, thenB_nx, thenB_rt, thenB_bk, thenB_ct, loopK_nx, loopK_ct, loopK_bk, loopK_rt, endF_rt, endF_nx, ioS_no, ioS_lst, retA_val, retA_lst, retA_slot, call_no, call_io, args_nil, args_cons, seeAll_nil, seeAll_cons, ite_and, ite_or, Mi.get, put, fill, Slot.own, seqOf_list, seqOf_tuple, sub_tup, sub_lst, b_add, b_addb, b_sub, b_addt, b_addl, s_tup, s_lst, i_int, i_intb, i_intt, i_ints, i_bool, i_booli, i_boolt, i_str, i_stri, i_strt, i_tup, i_tupi, i_tups, i_lst, i_lstt, i_lsti, i_lsts, i_non, f_lenl, f_lent, f_int, f_intb, f_listl, f_listt, f_lists, f_tupl, f_tupt, f_all, f_any, a_lst, a_int, asg_v, asg_l, asg_t, asgs_nil, asgs_cons, put_nm, put_tp, puts_nil, puts_cons, c_lt, c_le, c_gt, c_ge, List.map_cons, List.map_nil, List.length_cons, List.length_nil, List.replicate, List.append_nil, List.cons_append, List.nil_append, if_true, if_false, Bool.false_eq_true, Bool.not_false, Bool.not_true, Nat.reduceAdd, Nat.reduceSub, Nat.reduceLT, ev_turn1, ev_turn2, ev_condN, lc_nil, lc_cons, lc2_nil, lc2_cons, optC_some, optC_none, frzR_eq, noX_ok, wipeE, backE, noOwn, List.all_cons, List.all_nil, str_eq, String.reduceEq, eq_self, Int.cast_ofNat_Int, Int.reduceLE, Int.reduceLT, Int.reduceSub, Int.reduceAdd, Int.reduceEq, Int.natCast_add, Int.reduceNeg, Int.natCast_zero, decide_true, decide_false, Bool.and_true, Bool.and_false, Bool.true_and, Bool.false_and, Bool.or_false, Bool.false_or, Bool.or_true, Bool.true_or, Bool.and_self, Bool.not_eq_true, not_true_eq_false, not_false_eq_true, and_self, and_true, true_and, and_false, false_and, reduceIte, io0, io1, io2, io3, io4, io5, io6, io7, io8, io9, io10, io11, io12, io13, io14, io15, io16, io17, io18, io19, io20, io21, io22, io23, io24, io25, io26, io27, io28, io29, io30, io31, io32, io33, io34, io35, io36, io37, io38, io39, io40, io41, io42, io43, io44, io45, io46, io47, io48, io49, io50, io51, io52, io53, io54, io55, io56, io57, io58, io59, io60, io61, io62, io63, io64, io65] $[$loc]?)
/-! small data can be shown -/
structure Rp (d : PyData) (dep wt : Nat) : Prop where
  pl : d.plain = true
  sh : d.showable = true
  ls : d.leavesShort 13 = true
  dp : d.depth ≤ dep
  wt : d.weight ≤ wt
structure RpL (ds : List PyData) (dep wt : Nat) : Prop where
  pl : PyData.plainAll ds = true
  sh : PyData.showableAll ds = true
  ls : PyData.leavesShortAll 13 ds = true
  dp : PyData.depthAll ds ≤ dep
  wt : PyData.weightAll ds ≤ wt
theorem Rp.mono {d : PyData} {a b a' b' : Nat} (h : Rp d a b) (h1 : a ≤ a') (h2 : b ≤ b') : Rp d a' b' := ⟨h.pl, h.sh, h.ls, Nat.le_trans h.dp h1, Nat.le_trans h.wt h2⟩
theorem RpL.mono {d : List PyData} {a b a' b' : Nat} (h : RpL d a b) (h1 : a ≤ a') (h2 : b ≤ b') : RpL d a' b' := ⟨h.pl, h.sh, h.ls, Nat.le_trans h.dp h1, Nat.le_trans h.wt h2⟩
theorem RpL.nil : RpL [] 0 0 := ⟨rfl, rfl, rfl, Nat.le_refl _, Nat.le_refl _⟩
theorem RpL.cons {d : PyData} {r : List PyData} {a b c : Nat} (h : Rp d a b) (g : RpL r a c) : RpL (d :: r) a (b + 1 + c) := by
  refine ⟨?_, ?_, ?_, ?_, ?_⟩
  · simp only [PyData.plainAll, h.pl, g.pl, Bool.and_self]
  · simp only [PyData.showableAll, h.sh, g.sh, Bool.and_self]
  · simp only [PyData.leavesShortAll, h.ls, g.ls, Bool.and_self]
  · simp only [PyData.depthAll]
    exact Nat.max_le.mpr ⟨h.dp, g.dp⟩
  · simp only [PyData.weightAll]
    have := h.wt
    have := g.wt
    omega
theorem RpL.one {d : PyData} {a b : Nat} (h : Rp d a b) : RpL [d] a (b + 1) := (RpL.cons h (RpL.nil.mono (Nat.zero_le _) (Nat.le_refl _)))
theorem RpL.tup {ds : List PyData} {a b : Nat} (h : RpL ds a b) : Rp (.tuple ds) (a + 1) b := by
  refine ⟨?_, ?_, ?_, ?_, ?_⟩
  · simpa only [PyData.plain] using h.pl
  · simpa only [PyData.showable] using h.sh
  · simpa only [PyData.leavesShort] using h.ls
  · simp only [PyData.depth]
    have := h.dp
    omega
  · simpa only [PyData.weight] using h.wt
theorem RpL.lst {ds : List PyData} {a b : Nat} (h : RpL ds a b) : Rp (.list ds) (a + 1) b := by
  refine ⟨?_, ?_, ?_, ?_, ?_⟩
  · simpa only [PyData.plain] using h.pl
  · simpa only [PyData.showable] using h.sh
  · simpa only [PyData.leavesShort] using h.ls
  · simp only [PyData.depth]
    have := h.dp
    omega
  · simpa only [PyData.weight] using h.wt
theorem RpL.of {dep wt : Nat} : ∀ {ds : List PyData}, (∀ d ∈ ds, Rp d dep wt) → RpL ds dep ((wt + 1) * ds.length)
  | [], _ => RpL.nil.mono (Nat.zero_le _) (Nat.zero_le _)
  | d :: r, h => (RpL.cons (h d List.mem_cons_self) (RpL.of fun x hx => h x (List.mem_cons_of_mem _ hx))).mono (Nat.le_refl _) (by
    rw [List.length_cons, Nat.mul_add]
    omega)
theorem Rp.non : Rp .none 0 0 := ⟨rfl, rfl, rfl, Nat.le_refl _, Nat.le_refl _⟩
theorem Rp.boo (b : Bool) : Rp (.bool b) 0 0 := ⟨rfl, rfl, rfl, Nat.le_refl _, Nat.le_refl _⟩
theorem Rp.int {i : Int} (h : i.natAbs < 10 ^ 12) : Rp (.int i) 0 40 := by
  have l : i.natAbs.log2 < 40 := by
    by_cases h0 : i.natAbs = 0
    · rw [h0]
      decide
    · exact (Nat.log2_lt h0).mpr (Nat.lt_trans h (by decide))
  refine ⟨rfl, ?_, ?_, Nat.le_refl _, ?_⟩
  · simp only [PyData.showable, decide_eq_true_eq]
    omega
  · simp only [PyData.leavesShort, decide_eq_true_eq]
    exact PyData.shown_int_le h
  · simp only [PyData.weight]
    split <;> omega
def sOk (x : Str) : Bool := (x.cps.toList.all fun c => decide (c < 16 ^ 8)) && decide (x.cps.size ≤ 20)
theorem Rp.str {x : Str} (h : sOk x = true) : Rp (.str x) 0 20 := by
  simp only [sOk, Bool.and_eq_true, decide_eq_true_eq] at h
  exact ⟨rfl, rfl, by simpa only [PyData.leavesShort] using h.1, Nat.le_refl _, by simpa only [PyData.weight] using h.2⟩
theorem reprOk_of {d : PyData} {a b : Nat} (h : Rp d a b) (h1 : a ≤ 100) (h2 : b ≤ 1000000) : reprOk d = true := by
  have e := PyData.shown_le 13 (by decide) d h.ls
  have w := h.wt
  have z : d.shown.length ≤ big := Nat.le_trans e (Nat.le_trans (show (13 + 2) * d.weight + 13 ≤ 15 * 1000000 + 13 by omega) (by decide))
  have p := h.dp
  have q : d.depth ≤ 100 := Nat.le_trans p h1
  simp only [reprOk, h.pl, h.sh, q, z, decide_true, Bool.and_self]
theorem repr_t {ds : List PyData} {a b : Nat} (h : RpL ds a b) (h1 : a ≤ 99) (h2 : b ≤ 1000000) : bltF .repr [.tuple ds] = .ok (.val (.str (PyData.shown (.tuple ds)))) := by
  rw [f_reprt, if_pos (reprOk_of h.tup (by omega) h2)]
theorem repr_l {ds : List PyData} {a b : Nat} (h : RpL ds a b) (h1 : a ≤ 99) (h2 : b ≤ 1000000) : bltF .repr [.list ds] = .ok (.val (.str (PyData.shown (.list ds)))) := by
  rw [f_reprl, if_pos (reprOk_of h.lst (by omega) h2)]
end
end K48

set_option Elab.async false
set_option linter.all false
set_option maxRecDepth 100000
set_option maxHeartbeats 4000000
namespace K48
open PySem Mi
section
local macro_rules
  | `(tactic| simp! [$xs,*] $[$loc]?) => `(tactic| simp -implicitDefEqProofs only [$xs,*, ev_var, ev_and, ev_or, ev_chn, ev_ite, ev_iff, ev_while, ev_for, ev_forN, ev_lc, ev_lc2, ev_cons, ev_nil, ev_cst, ev_gbl, ev_tup, ev_lst, ev_sub, ev_slc, ev_op2, ev_neg, ev_not, ev_cmp, ev_callE, ev_blt, ev_isi, ev_trg, ev_app, ev_pop, ev_nilA, ev_consA, ev_nilF, ev_consF, ev_nilM, ev_consM, ev_seq, ev_rng1, ev_enm, ev_zip, ev_asg, ev_par, ev_exp, ev_aug, ev_sti, ev_popAt, someS_lst, someS_val, onS_lst, ev_ret, ev_rse, ok_bind, exn_bind, stk_bind, pure_ok, varR_val, varR_lst, seeB_val, see_val, see_lst, see_slot, slotSee_lst, slotSee_val, frz_val', frz_lst', frz_slot, slotFrz_lst, slotFrz_val, bool1_bool, int1_int, optInt_no, optInt_yes, ME.isNop, onL_lst, settle_val, settle_lst, settle_slot, mv_val, mv_lst, mv_slot, thenB_nx, thenB_rt, thenB_bk, thenB_ct, loopK_nx, loopK_ct, loopK_bk, loopK_rt, endF_rt, endF_nx, ioS_no, ioS_lst, retA_val, retA_lst, retA_slot, call_no, call_io, args_nil, args_cons, seeAll_nil, seeAll_cons, ite_and, ite_or, Mi.get, put, fill, Slot.own, seqOf_list, seqOf_tuple, sub_tup, sub_lst, b_add, b_addb, b_sub, b_addt, b_addl, s_tup, s_lst, i_int, i_intb, i_intt, i_ints, i_bool, i_booli, i_boolt, i_str, i_stri, i_strt, i_tup, i_tupi, i_tups, i_lst, i_lstt, i_lsti, i_lsts, i_non, f_lenl, f_lent, f_int, f_intb, f_listl, f_listt, f_lists, f_tupl, f_tupt, f_all, f_any, a_lst, a_int, asg_v, asg_l, asg_t, asgs_nil, asgs_cons, put_nm, put_tp, puts_nil, puts_cons, c_lt, c_le, c_gt, c_ge, List.map_cons, List.map_nil, List.length_cons, List.length_nil, List.replicate, List.append_nil, List.cons_append, List.nil_append, if_true, if_false, Bool.false_eq_true, Bool.not_false, Bool.not_true, Nat.reduceAdd, Nat.reduceSub, Nat.reduceLT, ev_turn1, ev_turn2, ev_condN, lc_nil, lc_cons, lc2_nil, lc2_cons, optC_some, optC_none, frzR_eq, noX_ok, wipeE, backE, noOwn, List.all_cons, List.all_nil, str_eq, String.reduceEq, eq_self, Int.cast_ofNat_Int, Int.reduceLE, Int.reduceLT, Int.reduceSub, Int.reduceAdd, Int.reduceEq, Int.natCast_add, Int.reduceNeg, Int.natCast_zero, decide_true, decide_false, Bool.and_true, Bool.and_false, Bool.true_and, Bool.false_and, Bool.or_false, Bool.false_or, Bool.or_true, Bool.true_or, Bool.and_self, Bool.not_eq_true, not_true_eq_false, not_false_eq_true, and_self, and_true, true_and, and_false, false_and, reduceIte, io0, io1, io2, io3, io4, io5, io6, io7, io8, io9, io10, io11, io12, io13, io14, io15, io16, io17, io18, io19, io20, io21, io22, io23, io24, io25, io26, io27, io28, io29, io30, io31, io32, io33, io34, io35, io36, io37, io38, io39, io40, io41, io42, io43, io44, io45, io46, io47, io48, io49, io50, io51, io52, io53, io54, io55, io56, io57, io58, io59, io60, io61, io62, io63, io64, io65] $[$loc]?)
/-! programs can be shown -/
theorem isW_s {w : Str} (h : isW w = true) : sOk w = true := by
  simp only [isW, Bool.or_eq_true, decide_eq_true_eq] at h
  rcases h with rfl | rfl | rfl | rfl | rfl <;> decide
theorem isWm_s {w : Str} (h : isWm w = true) : sOk w = true := by
  simp only [isWm, Bool.or_eq_true, decide_eq_true_eq] at h
  rcases h with rfl | rfl | rfl <;> decide
theorem isRm_s {w : Str} (h : isRm w = true) : sOk w = true := by
  simp only [isRm, Bool.or_eq_true, decide_eq_true_eq] at h
  rcases h with rfl | rfl | rfl <;> decide
theorem isXw_s {w : Str} (h : isXw w) : sOk w = true := by
  rcases h with rfl | rfl <;> decide
theorem rp_small {i : Int} (h0 : 0 ≤ i) (h1 : i ≤ 15) : Rp (.int i) 0 40 := Rp.int (by omega)
theorem Ex.size_le : ∀ (e : Ex) (n : Nat), e.Ok (n : Int) → e.size + 1 ≤ 2 ^ n
  | .num v, n, h => by
    have : 1 ≤ n := by have := h.1; omega
    exact Nat.le_trans (show 2 ≤ 2 ^ 1 by decide) (Nat.pow_le_pow_right (by decide) this)
  | .reg v, n, h => by
    have : 1 ≤ n := by have := h.1; omega
    exact Nat.le_trans (show 2 ≤ 2 ^ 1 by decide) (Nat.pow_le_pow_right (by decide) this)
  | .op w a b, n, h => by
    obtain ⟨h1, _, ha, hb⟩ := h
    obtain ⟨m, rfl⟩ : ∃ m, n = m + 1 := ⟨n - 1, by omega⟩
    have e : ((m + 1 : Nat) : Int) - 1 = (m : Int) := by omega
    rw [e] at ha hb
    have := a.size_le m ha
    have := b.size_le m hb
    rw [Nat.pow_succ]
    simp only [Ex.size]
    omega
theorem Ex.rp : ∀ (e : Ex) (n : Nat), e.Ok (n : Int) → Rp e.d n (70 * e.size)
  | .num v, n, h => by
    have h1 := h.1
    exact (RpL.cons (Rp.str (x := "num") (by decide)) (RpL.one (rp_small h.2.1 h.2.2))).tup.mono (by omega) (by simp [Ex.size])
  | .reg v, n, h => by
    have h1 := h.1
    exact (RpL.cons (Rp.str (x := "reg") (by decide)) (RpL.one (rp_small h.2.1 (by have := h.2.2; omega)))).tup.mono (by omega) (by simp [Ex.size])
  | .op w a b, n, h => by
    obtain ⟨h1, hw, ha, hb⟩ := h
    obtain ⟨m, rfl⟩ : ∃ m, n = m + 1 := ⟨n - 1, by omega⟩
    have e : ((m + 1 : Nat) : Int) - 1 = (m : Int) := by omega
    rw [e] at ha hb
    exact (RpL.cons ((Rp.str (isW_s hw)).mono (Nat.zero_le _) (Nat.le_refl _)) (RpL.cons (a.rp m ha) (RpL.one (b.rp m hb)))).tup.mono (Nat.le_refl _) (by simp only [Ex.size]; omega)
theorem eOk.rp {e : Ex} (h : eOk e) : Rp e.d 4 1050 := by
  have h1 := e.size_le 4 h.1
  exact (e.rp 4 h.1).mono (Nat.le_refl _) (by omega)
theorem rOk.rp {r : Int} (h : rOk r) : Rp (.int r) 4 40 := (rp_small h.1 (by have := h.2; omega)).mono (Nat.zero_le _) (Nat.le_refl _)
theorem cOk.rp {r : Int} (h : cOk r) : Rp (.int r) 4 40 := (rp_small h.1 (by have := h.2; omega)).mono (Nat.zero_le _) (Nat.le_refl _)
theorem sOk.rp {x : Str} (h : sOk x = true) : Rp (.str x) 4 20 := (Rp.str h).mono (Nat.zero_le _) (Nat.le_refl _)
mutual
theorem St.rp : ∀ s : St, s.Ok → Rp s.d (5 + 2 * s.nest) (3000 * s.flat.length - 1)
  | .fence, _ => (RpL.one (sOk.rp (x := "fence") (by decide))).tup.mono (by simp [St.nest]) (by simp [St.flat])
  | .set r e, h => by
    obtain ⟨h1, h2⟩ := h
    exact (RpL.cons (sOk.rp (x := "set") (by decide)) (RpL.cons h1.rp (RpL.one h2.rp))).tup.mono (by simp [St.nest]) (by simp [St.flat])
  | .need e, h => (RpL.cons (sOk.rp (x := "need") (by decide)) (RpL.one (eOk.rp h))).tup.mono (by simp [St.nest]) (by simp [St.flat])
  | .wr c m e, h => by
    obtain ⟨h1, h2, h3⟩ := h
    exact (RpL.cons (sOk.rp (x := "write") (by decide)) (RpL.cons h1.rp (RpL.cons (sOk.rp (isWm_s h2)) (RpL.one h3.rp)))).tup.mono (by simp [St.nest]) (by simp [St.flat])
  | .rd r c m, h => by
    obtain ⟨h1, h2, h3⟩ := h
    exact (RpL.cons (sOk.rp (x := "read") (by decide)) (RpL.cons h1.rp (RpL.cons h2.rp (RpL.one (sOk.rp (isRm_s h3)))))).tup.mono (by simp [St.nest]) (by simp [St.flat])
  | .xch w r c e, h => by
    obtain ⟨h1, h2, h3, h4⟩ := h
    exact (RpL.cons (sOk.rp (isXw_s h1)) (RpL.cons h2.rp (RpL.cons h3.rp (RpL.one h4.rp)))).tup.mono (by simp [St.nest]) (by simp [St.flat])
  | .tr r c a b, h => by
    obtain ⟨h1, h2, h3, h4⟩ := h
    exact (RpL.cons (sOk.rp (x := "try") (by decide)) (RpL.cons h1.rp (RpL.cons h2.rp (RpL.cons h3.rp (RpL.one h4.rp))))).tup.mono (by simp [St.nest]) (by simp [St.flat])
  | .ifs e y n, h => by
    obtain ⟨h1, h2, h3, _⟩ := h
    have q1 := (y.rp h2).tup
    have q2 := (n.rp h3).tup
    refine (RpL.cons ((sOk.rp (x := "if") (by decide)).mono (show 4 ≤ 6 + 2 * max y.nest n.nest by omega) (Nat.le_refl _)) (RpL.cons (h1.rp.mono (by omega) (Nat.le_refl _)) (RpL.cons (q1.mono (by omega) (Nat.le_refl _)) (RpL.one (q2.mono (by omega) (Nat.le_refl _)))))).tup.mono ?_ ?_
    · simp only [St.nest]
      omega
    · simp only [St.flat, List.length_cons, List.length_append]
      omega
theorem Bk.rp : ∀ b : Bk, b.Ok → RpL b.ds (5 + 2 * b.nest) (3000 * b.flat.length)
  | .nil, _ => RpL.nil.mono (Nat.zero_le _) (Nat.zero_le _)
  | .cons s r, h => by
    have q1 := s.rp h.1
    have q2 := r.rp h.2
    have q3 := flat_pos s
    refine (RpL.cons (q1.mono (show _ ≤ 5 + 2 * max s.nest r.nest by omega) (Nat.le_refl _)) (q2.mono (by omega) (Nat.le_refl _))).mono ?_ ?_
    · simp only [Bk.nest]
      omega
    · simp only [Bk.flat, List.length_append]
      omega
end
theorem BkFit.rp {b : Bk} (h : BkFit b) : Rp (tup b) 10 36000 := (b.rp h.ok).tup.mono (by have := h.nest; omega) (by have := h.all; omega)
theorem PrOk.rp {bs : List Bk} (h : PrOk bs) : RpL (bs.map tup) 10 150000 := by
  refine (RpL.of (dep := 10) (wt := 36000) fun d hd => ?_).mono (Nat.le_refl _) ?_
  · obtain ⟨b, hb, rfl⟩ := List.mem_map.mp hd
    exact (h.fit b hb).rp
  · rw [List.length_map]
    have := h.four
    omega
end
end K48

set_option Elab.async false
set_option linter.all false
set_option maxRecDepth 100000
set_option maxHeartbeats 4000000
namespace K48
open PySem Mi
section
local macro_rules
  | `(tactic| simp! [$xs,*] $[$loc]?) => `(tactic| simp -implicitDefEqProofs only [$xs,*, ev_var, ev_and, ev_or, ev_chn, ev_ite, ev_iff, ev_while, ev_for, ev_forN, ev_lc, ev_lc2, ev_cons, ev_nil, ev_cst, ev_gbl, ev_tup, ev_lst, ev_sub, ev_slc, ev_op2, ev_neg, ev_not, ev_cmp, ev_callE, ev_blt, ev_isi, ev_trg, ev_app, ev_pop, ev_nilA, ev_consA, ev_nilF, ev_consF, ev_nilM, ev_consM, ev_seq, ev_rng1, ev_enm, ev_zip, ev_asg, ev_par, ev_exp, ev_aug, ev_sti, ev_popAt, someS_lst, someS_val, onS_lst, ev_ret, ev_rse, ok_bind, exn_bind, stk_bind, pure_ok, varR_val, varR_lst, seeB_val, see_val, see_lst, see_slot, slotSee_lst, slotSee_val, frz_val', frz_lst', frz_slot, slotFrz_lst, slotFrz_val, bool1_bool, int1_int, optInt_no, optInt_yes, ME.isNop, onL_lst, settle_val, settle_lst, settle_slot, mv_val, mv_lst, mv_slot, thenB_nx, thenB_rt, thenB_bk, thenB_ct, loopK_nx, loopK_ct, loopK_bk, loopK_rt, endF_rt, endF_nx, ioS_no, ioS_lst, retA_val, retA_lst, retA_slot, call_no, call_io, args_nil, args_cons, seeAll_nil, seeAll_cons, ite_and, ite_or, Mi.get, put, fill, Slot.own, seqOf_list, seqOf_tuple, sub_tup, sub_lst, b_add, b_addb, b_sub, b_addt, b_addl, s_tup, s_lst, i_int, i_intb, i_intt, i_ints, i_bool, i_booli, i_boolt, i_str, i_stri, i_strt, i_tup, i_tupi, i_tups, i_lst, i_lstt, i_lsti, i_lsts, i_non, f_lenl, f_lent, f_int, f_intb, f_listl, f_listt, f_lists, f_tupl, f_tupt, f_all, f_any, a_lst, a_int, asg_v, asg_l, asg_t, asgs_nil, asgs_cons, put_nm, put_tp, puts_nil, puts_cons, c_lt, c_le, c_gt, c_ge, List.map_cons, List.map_nil, List.length_cons, List.length_nil, List.replicate, List.append_nil, List.cons_append, List.nil_append, if_true, if_false, Bool.false_eq_true, Bool.not_false, Bool.not_true, Nat.reduceAdd, Nat.reduceSub, Nat.reduceLT, ev_turn1, ev_turn2, ev_condN, lc_nil, lc_cons, lc2_nil, lc2_cons, optC_some, optC_none, frzR_eq, noX_ok, wipeE, backE, noOwn, List.all_cons, List.all_nil, str_eq, String.reduceEq, eq_self, Int.cast_ofNat_Int, Int.reduceLE, Int.reduceLT, Int.reduceSub, Int.reduceAdd, Int.reduceEq, Int.natCast_add, Int.reduceNeg, Int.natCast_zero, decide_true, decide_false, Bool.and_true, Bool.and_false, Bool.true_and, Bool.false_and, Bool.or_false, Bool.false_or, Bool.or_true, Bool.true_or, Bool.and_self, Bool.not_eq_true, not_true_eq_false, not_false_eq_true, and_self, and_true, true_and, and_false, false_and, reduceIte, io0, io1, io2, io3, io4, io5, io6, io7, io8, io9, io10, io11, io12, io13, io14, io15, io16, io17, io18, io19, io20, io21, io22, io23, io24, io25, io26, io27, io28, io29, io30, io31, io32, io33, io34, io35, io36, io37, io38, io39, io40, io41, io42, io43, io44, io45, io46, io47, io48, io49, io50, io51, io52, io53, io54, io55, io56, io57, io58, io59, io60, io61, io62, io63, io64, io65] $[$loc]?)
/-! the strong machine on typed data -/
abbrev Rest := List (St × Int)
def Bk.nl : Bk → Int → Rest
  | .nil, _ => []
  | .cons s r, f => (s, f) :: Bk.nl r (St.nu s f).2
def nd (p : St × Int) : PyData := (St.nu p.1 p.2).1
theorem nl_nd : ∀ (b : Bk) (f : Int), (Bk.nl b f).map nd = (Bk.nu b f).1
  | .nil, _ => by simp only [Bk.nl, Bk.nu, List.map_nil]
  | .cons s r, f => by simp only [Bk.nl, Bk.nu, List.map_cons, nl_nd r, nd]
def sz (l : Rest) : Nat := (l.map fun p => p.1.flat.length).sum
theorem nl_sz : ∀ (b : Bk) (f : Int), sz (Bk.nl b f) = b.flat.length
  | .nil, _ => rfl
  | .cons s r, f => by
    have := nl_sz r (St.nu s f).2
    simp only [sz, Bk.nl, Bk.flat, List.map_cons, List.sum_cons, List.length_append] at this ⊢
    omega
theorem sz_cat (a b : Rest) : sz (a ++ b) = sz a + sz b := by simp [sz]
theorem sz_cons (p : St × Int) (b : Rest) : sz (p :: b) = p.1.flat.length + sz b := by simp [sz]
theorem sz_len : ∀ l : Rest, l.length ≤ sz l
  | [] => Nat.zero_le _
  | p :: r => by
    have := sz_len r
    have := flat_pos p.1
    rw [sz_cons, List.length_cons]
    omega
def restOk (l : Rest) : Prop := ∀ p ∈ l, p.1.Ok
theorem nl_ok : ∀ (b : Bk) (f : Int), b.Ok → restOk (Bk.nl b f)
  | .nil, _, _ => fun p hp => nomatch hp
  | .cons s r, f, h => fun p hp => by
    simp only [Bk.nl] at hp
    rcases List.mem_cons.mp hp with q | q
    · rw [q]
      exact h.1
    · exact nl_ok r _ h.2 p q
theorem restOk.cat {a b : Rest} (ha : restOk a) (hb : restOk b) : restOk (a ++ b) := fun p hp => by
  rcases List.mem_append.mp hp with q | q
  · exact ha p q
  · exact hb p q
theorem restOk.tl {p : St × Int} {l : Rest} (h : restOk (p :: l)) : restOk l := fun q hq => h q (List.mem_cons_of_mem _ hq)
theorem restOk.hd {p : St × Int} {l : Rest} (h : restOk (p :: l)) : p.1.Ok := h p List.mem_cons_self
mutual
theorem St.nu_plain : ∀ (s : St) (f : Int), (St.nu s f).1.plain = true
  | .fence, f => rfl
  | .set r e, f => by simp only [St.nu, St.d, PyData.plain, PyData.plainAll, Ex.plain, Bool.and_self]
  | .need e, f => by simp only [St.nu, St.d, PyData.plain, PyData.plainAll, Ex.plain, Bool.and_self]
  | .wr c m e, f => by simp only [St.nu, PyData.plain, PyData.plainAll, Ex.plain, Bool.and_self]
  | .rd r c m, f => by simp only [St.nu, PyData.plain, PyData.plainAll, Bool.and_self]
  | .xch w r c e, f => by simp only [St.nu, PyData.plain, PyData.plainAll, Ex.plain, Bool.and_self]
  | .tr r c a b, f => by simp only [St.nu, PyData.plain, PyData.plainAll, Ex.plain, Bool.and_self]
  | .ifs e y n, f => by simp only [St.nu, PyData.plain, PyData.plainAll, Ex.plain, Bk.nu_plain y, Bk.nu_plain n, Bool.and_self]
theorem Bk.nu_plain : ∀ (b : Bk) (f : Int), PyData.plainAll (Bk.nu b f).1 = true
  | .nil, f => rfl
  | .cons s r, f => by simp only [Bk.nu, PyData.plainAll, St.nu_plain s, Bk.nu_plain r, Bool.and_self]
end
theorem nds_plain : ∀ l : Rest, PyData.plainAll (l.map nd) = true
  | [] => rfl
  | p :: r => by
    have := St.nu_plain p.1 p.2
    simp only [List.map_cons, PyData.plainAll, nd, this, Bool.true_and]
    exact nds_plain r
def vOk (v : Int) : Prop := 0 ≤ v ∧ v ≤ 15
structure gOk (g : List Int) : Prop where
  len : g.length = 3
  val : ∀ v ∈ g, vOk v
structure mOk (g : List Int) : Prop where
  len : g.length = 4
  val : ∀ v ∈ g, vOk v
def gD (g : List Int) : PyData := .tuple (g.map .int)
def at0 (g : List Int) (r : Int) : Int := g[r.toNat]?.getD 0
theorem at0_ok {g : List Int} (h : ∀ v ∈ g, vOk v) (r : Int) : vOk (at0 g r) := by
  unfold at0
  cases q : g[r.toNat]? with
  | none => exact ⟨by simp, by simp⟩
  | some x => exact h x (List.mem_of_getElem? q)
theorem set_ok {g : List Int} (h : ∀ v ∈ g, vOk v) (i : Nat) {x : Int} (hx : vOk x) : ∀ v ∈ g.set i x, vOk v := fun v hv => by
  rcases List.mem_or_eq_of_mem_set hv with q | q
  · exact h v q
  · rw [q]
    exact hx
theorem gOk.set {g : List Int} (h : gOk g) (i : Nat) {x : Int} (hx : vOk x) : gOk (g.set i x) := ⟨by rw [List.length_set]; exact h.len, set_ok h.val i hx⟩
theorem mOk.set {g : List Int} (h : mOk g) (i : Nat) {x : Int} (hx : vOk x) : mOk (g.set i x) := ⟨by rw [List.length_set]; exact h.len, set_ok h.val i hx⟩
def worth : Ex → List Int → Int
  | .num n, _ => n
  | .reg r, g => at0 g r
  | .op w a b, g => if decide (w = "same") = true then (if decide (worth a g = worth b g) = true then 1 else 0) else if decide (w = "less") = true then (if decide (worth a g < worth b g) = true then 1 else 0)
      else (if decide (w = "plus") = true then worth a g + worth b g else if decide (w = "minus") = true then worth a g - worth b g else worth a g * worth b g) % 16
theorem worth_ok : ∀ (e : Ex) (n : Int) (g : List Int), e.Ok n → gOk g → vOk (worth e g)
  | .num v, n, g, h, _ => ⟨h.2.1, h.2.2⟩
  | .reg r, n, g, h, hg => at0_ok hg.val r
  | .op w a b, n, g, h, hg => by
    unfold worth
    split
    · split <;> exact ⟨by decide, by decide⟩
    · split
      · split <;> exact ⟨by decide, by decide⟩
      · exact ⟨Int.emod_nonneg _ (by decide), by have := Int.emod_lt_of_pos ((if decide (w = "plus") = true then worth a g + worth b g else if decide (w = "minus") = true then worth a g - worth b g else worth a g * worth b g)) (show (0 : Int) < 16 by decide); omega⟩
theorem eOk.w {e : Ex} {g : List Int} (h : eOk e) (hg : gOk g) : vOk (worth e g) := worth_ok e 4 g h.1 hg
def settleF : Nat → Rest → List Int → Option Rest × List Int
  | 0, l, g => (some l, g)
  | _ + 1, [], g => (some [], g)
  | n + 1, (s, f) :: t, g => match s with
    | .set r e => settleF n t (g.set r.toNat (worth e g))
    | .need e => if decide (worth e g = 0) = true then (none, g) else settleF n t g
    | .ifs e y z => settleF n ((if decide (worth e g = 0) = true then Bk.nl z (Bk.nu y f).2 else Bk.nl y f) ++ t) g
    | s => (some ((s, f) :: t), g)
theorem sz_if (e : Ex) (y z : Bk) (f : Int) (t : Rest) (b : Bool) : sz ((if b = true then Bk.nl z (Bk.nu y f).2 else Bk.nl y f) ++ t) + 1 ≤ sz ((.ifs e y z, f) :: t) := by
  rw [sz_cat, sz_cons]
  simp only [St.flat, List.length_cons, List.length_append]
  cases b
  · rw [if_neg Bool.false_ne_true, nl_sz]
    omega
  · rw [if_pos rfl, nl_sz]
    omega
theorem settleF_eq : ∀ (n m : Nat) (l : Rest) (g : List Int), sz l ≤ n → sz l ≤ m → settleF n l g = settleF m l g
  | 0, m, l, g, h, _ => by
    have : l = [] := by
      have := sz_len l
      exact List.eq_nil_of_length_eq_zero (by omega)
    subst this
    cases m <;> rfl
  | n + 1, 0, l, g, _, h => by
    have : l = [] := by
      have := sz_len l
      exact List.eq_nil_of_length_eq_zero (by omega)
    subst this
    rfl
  | n + 1, m + 1, [], g, _, _ => rfl
  | n + 1, m + 1, (s, f) :: t, g, h1, h2 => by
    have z : sz ((s, f) :: t) = s.flat.length + sz t := sz_cons _ _
    have p := flat_pos s
    cases s with
    | set r e => exact settleF_eq n m t _ (by omega) (by omega)
    | need e =>
      simp only [settleF]
      split
      · rfl
      · exact settleF_eq n m t _ (by omega) (by omega)
    | ifs e y q =>
      have := sz_if e y q f t (decide (worth e g = 0))
      simp only [settleF]
      exact settleF_eq n m _ _ (by omega) (by omega)
    | _ => rfl
def settle (l : Rest) (g : List Int) : Option Rest × List Int := settleF (sz l) l g
theorem settle_of {n : Nat} {l : Rest} (g : List Int) (h : sz l ≤ n) : settleF n l g = settle l g := settleF_eq n (sz l) l g h (Nat.le_refl _)
/-- what is left of a thread, and its registers -/
abbrev Thr := Option Rest × List Int
structure thrOk (n : Nat) (p : Thr) : Prop where
  rest : ∀ l, p.1 = some l → restOk l ∧ sz l ≤ n
  reg : gOk p.2
theorem settleF_ok : ∀ (n : Nat) (l : Rest) (g : List Int) (m : Nat), restOk l → sz l ≤ m → gOk g → thrOk m (settleF n l g)
  | 0, l, g, m, h, hm, hg => ⟨fun l' e => by cases e; exact ⟨h, hm⟩, hg⟩
  | n + 1, [], g, m, h, hm, hg => ⟨fun l' e => by cases e; exact ⟨h, hm⟩, hg⟩
  | n + 1, (s, f) :: t, g, m, h, hm, hg => by
    have z : sz ((s, f) :: t) = s.flat.length + sz t := sz_cons _ _
    have p := flat_pos s
    have hs := h.hd
    cases s with
    | set r e => exact settleF_ok n t _ m h.tl (by omega) (hg.set _ (hs.2.w hg))
    | need e =>
      simp only [settleF]
      split
      · exact ⟨fun l' e => (nomatch e), hg⟩
      · exact settleF_ok n t _ m h.tl (by omega) hg
    | ifs e y q =>
      have := sz_if e y q f t (decide (worth e g = 0))
      simp only [settleF]
      refine settleF_ok n _ _ m (restOk.cat ?_ h.tl) (by omega) hg
      split
      · exact nl_ok _ _ hs.2.2.1
      · exact nl_ok _ _ hs.2.1
    | _ => exact ⟨fun l' e => by cases e; exact ⟨h, hm⟩, hg⟩
theorem settle_ok {l : Rest} {g : List Int} {m : Nat} (h : restOk l) (hm : sz l ≤ m) (hg : gOk g) : thrOk m (settle l g) := settleF_ok _ l g m h hm hg
def thrD (p : Thr) : PyData := .tuple [match p.1 with | none => .none | some l => .tuple (l.map nd), gD p.2]
/-- what an access writes -/
def written : St → List Int → Int → Option Int
  | .wr _ _ e, g, _ => some (worth e g)
  | .xch w _ _ e, g, v => if decide (w = "swap") = true then some (worth e g) else some ((v + worth e g) % 16)
  | .tr _ _ a b, g, v => if decide (v = worth a g) = true then some (worth b g) else none
  | _, _, _ => none
theorem written_ok {s : St} {g : List Int} {v x : Int} (h : s.Ok) (hg : gOk g) (hx : written s g v = some x) : vOk x := by
  cases s with
  | wr c m e =>
    cases hx
    exact h.2.2.w hg
  | xch w r c e =>
    simp only [written] at hx
    split at hx
    · cases hx
      exact h.2.2.2.w hg
    · cases hx
      exact ⟨Int.emod_nonneg _ (by decide), by have := Int.emod_lt_of_pos (v + worth e g) (show (0 : Int) < 16 by decide); omega⟩
  | tr r c a b =>
    simp only [written] at hx
    split at hx
    · cases hx
      exact h.2.2.2.w hg
    · cases hx
  | _ => cases hx
def St.reads : St → Bool
  | .rd _ _ _ => true
  | .xch _ _ _ _ => true
  | .tr _ _ _ _ => true
  | _ => false
def St.rg : St → Int
  | .rd r _ _ => r
  | .xch _ r _ _ => r
  | .tr r _ _ _ => r
  | _ => 0
def St.cl : St → Int
  | .wr c _ _ => c
  | .rd _ c _ => c
  | .xch _ _ c _ => c
  | .tr _ c _ _ => c
  | _ => 0
/-- behind the next access or fence, which read v -/
def behind (s : St) (t : Rest) (g : List Int) (v : Int) : Thr := settle t (if s.reads = true then g.set s.rg.toNat v else g)
abbrev Sta := List Thr × List Int
def staD (x : Sta) : PyData := .tuple [.tuple (x.1.map thrD), gD x.2]
structure staOk (n : Nat) (x : Sta) : Prop where
  ths : ∀ p ∈ x.1, thrOk n p
  mem : mOk x.2
  len : x.1.length ≤ 4
def nextOf (x : Sta) (i : Nat) : Option (St × Int) := match x.1[i]? with
  | some (some (p :: _), _) => some p
  | _ => none
def stepped (x : Sta) (i : Nat) : Sta := match x.1[i]? with
  | some (some ((s, _) :: t), g) =>
    (x.1.set i (behind s t g (at0 x.2 s.cl)), if s.acc = true then match written s g (at0 x.2 s.cl) with | some v => x.2.set s.cl.toNat v | none => x.2 else x.2)
  | _ => x
theorem behind_ok {s : St} {f : Int} {t : Rest} {g : List Int} {v : Int} {m : Nat} (h : restOk ((s, f) :: t)) (hm : sz ((s, f) :: t) ≤ m) (hg : gOk g) (hv : vOk v) : thrOk m (behind s t g v) := by
  have z : sz ((s, f) :: t) = s.flat.length + sz t := sz_cons _ _
  unfold behind
  refine settle_ok h.tl (by omega) ?_
  split
  · exact hg.set _ hv
  · exact hg
theorem stepped_ok {n : Nat} {x : Sta} (h : staOk n x) (i : Nat) : staOk n (stepped x i) := by
  unfold stepped
  split
  · rename_i s f t g e
    have h1 := h.ths _ (List.mem_of_getElem? e)
    have h2 := h1.rest _ rfl
    have v := at0_ok h.mem.val s.cl
    refine ⟨fun p hp => ?_, ?_, by rw [List.length_set]; exact h.len⟩
    · rcases List.mem_or_eq_of_mem_set hp with q | q
      · exact h.ths p q
      · rw [q]
        exact behind_ok h2.1 h2.2 h1.reg v
    · show mOk (if s.acc = true then _ else _)
      split
      · split
        · rename_i y hy
          exact h.mem.set _ (written_ok h2.1.hd h1.reg hy)
        · exact h.mem
      · exact h.mem
  · exact h
def begun (bs : List Bk) : List Thr := let rec go : List Bk → Int → List Thr
    | [], _ => []
    | b :: r, f => settle (Bk.nl b f) [0, 0, 0] :: go r (Bk.nu b f).2
  go bs 0
def start (bs : List Bk) : Sta := (begun bs, [0, 0, 0, 0])
theorem g0 : gOk [0, 0, 0] := ⟨rfl, fun v hv => by
  simp only [List.mem_cons, List.not_mem_nil, or_false, or_self] at hv
  rw [hv]
  exact ⟨by decide, by decide⟩⟩
theorem m0' : mOk [0, 0, 0, 0] := ⟨rfl, fun v hv => by
  simp only [List.mem_cons, List.not_mem_nil, or_false, or_self] at hv
  rw [hv]
  exact ⟨by decide, by decide⟩⟩
theorem go_ok : ∀ (bs : List Bk) (f : Int), (∀ b ∈ bs, BkFit b) → (begun.go bs f).length = bs.length ∧ ∀ p ∈ begun.go bs f, thrOk 12 p
  | [], _, _ => ⟨rfl, fun p hp => nomatch hp⟩
  | b :: r, f, h => by
    have hb := h b List.mem_cons_self
    obtain ⟨i1, i2⟩ := go_ok r (Bk.nu b f).2 fun c hc => h c (List.mem_cons_of_mem _ hc)
    refine ⟨by simp only [begun.go, List.length_cons, i1], fun p hp => ?_⟩
    simp only [begun.go] at hp
    rcases List.mem_cons.mp hp with q | q
    · rw [q]
      exact settle_ok (nl_ok b f hb.ok) (by rw [nl_sz]; exact hb.all) g0
    · exact i2 p q
theorem start_ok {bs : List Bk} (h : PrOk bs) : staOk 12 (start bs) := by
  obtain ⟨i1, i2⟩ := go_ok bs 0 h.fit
  refine ⟨i2, m0', ?_⟩
  show (begun.go bs 0).length ≤ 4
  rw [i1]
  exact h.four
theorem start_len (bs : List Bk) (h : ∀ b ∈ bs, BkFit b) : (start bs).1.length = bs.length := (go_ok bs 0 h).1
theorem stepped_len (x : Sta) (i : Nat) : (stepped x i).1.length = x.1.length := by
  unfold stepped
  split
  · rw [List.length_set]
  · rfl
end
end K48

set_option Elab.async false
set_option linter.all false
set_option maxRecDepth 100000
set_option maxHeartbeats 4000000
namespace K48
open PySem Mi
section
local macro_rules
  | `(tactic| simp! [$xs,*] $[$loc]?) => `(tactic| simp -implicitDefEqProofs only [$xs,*, ev_var, ev_and, ev_or, ev_chn, ev_ite, ev_iff, ev_while, ev_for, ev_forN, ev_lc, ev_lc2, ev_cons, ev_nil, ev_cst, ev_gbl, ev_tup, ev_lst, ev_sub, ev_slc, ev_op2, ev_neg, ev_not, ev_cmp, ev_callE, ev_blt, ev_isi, ev_trg, ev_app, ev_pop, ev_nilA, ev_consA, ev_nilF, ev_consF, ev_nilM, ev_consM, ev_seq, ev_rng1, ev_enm, ev_zip, ev_asg, ev_par, ev_exp, ev_aug, ev_sti, ev_popAt, someS_lst, someS_val, onS_lst, ev_ret, ev_rse, ok_bind, exn_bind, stk_bind, pure_ok, varR_val, varR_lst, seeB_val, see_val, see_lst, see_slot, slotSee_lst, slotSee_val, frz_val', frz_lst', frz_slot, slotFrz_lst, slotFrz_val, bool1_bool, int1_int, optInt_no, optInt_yes, ME.isNop, onL_lst, settle_val, settle_lst, settle_slot, mv_val, mv_lst, mv_slot, thenB_nx, thenB_rt, thenB_bk, thenB_ct, loopK_nx, loopK_ct, loopK_bk, loopK_rt, endF_rt, endF_nx, ioS_no, ioS_lst, retA_val, retA_lst, retA_slot, call_no, call_io, args_nil, args_cons, seeAll_nil, seeAll_cons, ite_and, ite_or, Mi.get, put, fill, Slot.own, seqOf_list, seqOf_tuple, sub_tup, sub_lst, b_add, b_addb, b_sub, b_addt, b_addl, s_tup, s_lst, i_int, i_intb, i_intt, i_ints, i_bool, i_booli, i_boolt, i_str, i_stri, i_strt, i_tup, i_tupi, i_tups, i_lst, i_lstt, i_lsti, i_lsts, i_non, f_lenl, f_lent, f_int, f_intb, f_listl, f_listt, f_lists, f_tupl, f_tupt, f_all, f_any, a_lst, a_int, asg_v, asg_l, asg_t, asgs_nil, asgs_cons, put_nm, put_tp, puts_nil, puts_cons, c_lt, c_le, c_gt, c_ge, List.map_cons, List.map_nil, List.length_cons, List.length_nil, List.replicate, List.append_nil, List.cons_append, List.nil_append, if_true, if_false, Bool.false_eq_true, Bool.not_false, Bool.not_true, Nat.reduceAdd, Nat.reduceSub, Nat.reduceLT, ev_turn1, ev_turn2, ev_condN, lc_nil, lc_cons, lc2_nil, lc2_cons, optC_some, optC_none, frzR_eq, noX_ok, wipeE, backE, noOwn, List.all_cons, List.all_nil, str_eq, String.reduceEq, eq_self, Int.cast_ofNat_Int, Int.reduceLE, Int.reduceLT, Int.reduceSub, Int.reduceAdd, Int.reduceEq, Int.natCast_add, Int.reduceNeg, Int.natCast_zero, decide_true, decide_false, Bool.and_true, Bool.and_false, Bool.true_and, Bool.false_and, Bool.or_false, Bool.false_or, Bool.or_true, Bool.true_or, Bool.and_self, Bool.not_eq_true, not_true_eq_false, not_false_eq_true, and_self, and_true, true_and, and_false, false_and, reduceIte, io0, io1, io2, io3, io4, io5, io6, io7, io8, io9, io10, io11, io12, io13, io14, io15, io16, io17, io18, io19, io20, io21, io22, io23, io24, io25, io26, io27, io28, io29, io30, io31, io32, io33, io34, io35, io36, io37, io38, io39, io40, io41, io42, io43, io44, io45, io46, io47, io48, io49, io50, io51, io52, io53, io54, io55, io56, io57, io58, io59, io60, io61, io62, io63, io64, io65] $[$loc]?)
/-! loops by steps; places put anew -/
theorem whl_step {c : Cl} {L : Nat} {lk : Option Nat} {t : ME} {b : MB} {n : Nat} {env env1 env2 : Mi.Env} {fl : Mi.Flow} (hc : evalE c t env = .ok (.val (.bool true), env1)) (hb : execB c L lk b env1 = .ok (env2, fl)) : whlT c L lk t b (n + 1) env = loopK (whlT c L lk t b n) (env2, fl) := by
  rw [ev_whl, hc]
  simp only [ok_bind, seeB_val, if_true, hb]
theorem whl_end {c : Cl} {L : Nat} {lk : Option Nat} {t : ME} {b : MB} {n : Nat} {env env1 : Mi.Env} (hc : evalE c t env = .ok (.val (.bool false), env1)) : whlT c L lk t b (n + 1) env = .ok (env1, .nx) := by
  rw [ev_whl, hc]
  simp only [ok_bind, seeB_val, Bool.false_eq_true, if_false]
theorem for_step {c : Cl} {L : Nat} {lk : Option Nat} {t : MT} {b : MB} {d : PyData} {ds : List PyData} {env env1 env2 : Mi.Env} {fl : Mi.Flow} (hp : putT t d env = .ok env1) (hb : execB c L lk b env1 = .ok (env2, fl)) : forT c L lk t b (d :: ds) env = loopK (forT c L lk t b ds) (env2, fl) := by
  rw [ev_forC, hp]
  simp only [ok_bind, hb]
theorem cut_len (ds : List PyData) (lo hi : Option Int) : (cut ds lo hi).length ≤ ds.length := by
  simp only [cut, List.length_take, List.length_drop]
  omega
theorem cut_takeI (ds : List PyData) (r : Int) (h0 : 0 ≤ r) (h1 : r < ds.length) : cut ds none (some r) = ds.take r.toNat := by
  have n : ¬ r < 0 := by omega
  have m : min r.toNat ds.length = r.toNat := by omega
  simp only [cut, cutIx, if_neg n, m, List.drop_zero, Nat.sub_zero]
theorem cut_dropI (ds : List PyData) (r : Int) (h0 : 0 ≤ r) (h1 : r < ds.length) : cut ds (some (r + 1)) none = ds.drop (r.toNat + 1) := by
  have n : ¬ r + 1 < 0 := by omega
  have m : min (r + 1).toNat ds.length = r.toNat + 1 := by omega
  simp only [cut, cutIx, if_neg n, m]
  apply List.take_of_length_le
  simp
theorem put_facts (ds : List PyData) (r : Int) (d : PyData) (h0 : 0 ≤ r) (h1 : r < ds.length) (h2 : ds.length ≤ 490) : (cut ds none (some r)).length + 1 ≤ big ∧ (cut ds none (some r)).length + 1 + (cut ds (some (r + 1)) none).length ≤ big ∧ cut ds none (some r) ++ [d] ++ cut ds (some (r + 1)) none = ds.set r.toNat d := by
  have l1 := cut_len ds none (some r)
  have l2 := cut_len ds (some (r + 1)) none
  refine ⟨small _ (by omega), small _ (by omega), ?_⟩
  rw [cut_takeI ds r h0 h1, cut_dropI ds r h0 h1, List.set_eq_take_append_cons_drop, if_pos (by omega)]
  simp
theorem item_int {ds : List PyData} {d : PyData} (r : Int) (h0 : 0 ≤ r) (h : ds[r.toNat]? = some d) : itemAt ds r = .ok d := by
  have := item_nat r.toNat h
  rw [Int.toNat_of_nonneg h0] at this
  exact this
theorem item_gD (g : List Int) (r : Int) (h0 : 0 ≤ r) (h1 : r < g.length) : itemAt (g.map .int) r = .ok (.int (at0 g r)) := by
  have hr : r.toNat < g.length := by omega
  refine item_int r h0 ?_
  rw [List.getElem?_map, List.getElem?_eq_getElem hr]
  simp [at0, List.getElem?_eq_getElem hr]
theorem fm15 {x y : Int} (h : vOk x) : fitsMul x y = true := by
  obtain ⟨h1, h2⟩ := h
  simp only [fitsMul, Bool.or_eq_true, Bool.and_eq_true, decide_eq_true_eq]
  exact .inl ⟨by omega, by omega⟩
end
end K48

set_option Elab.async false
set_option linter.all false
set_option maxRecDepth 100000
set_option maxHeartbeats 4000000
namespace K48
open PySem Mi
section
local macro_rules
  | `(tactic| simp! [$xs,*] $[$loc]?) => `(tactic| simp -implicitDefEqProofs only [$xs,*, ev_var, ev_and, ev_or, ev_chn, ev_ite, ev_iff, ev_while, ev_for, ev_forN, ev_lc, ev_lc2, ev_cons, ev_nil, ev_cst, ev_gbl, ev_tup, ev_lst, ev_sub, ev_slc, ev_op2, ev_neg, ev_not, ev_cmp, ev_callE, ev_blt, ev_isi, ev_trg, ev_app, ev_pop, ev_nilA, ev_consA, ev_nilF, ev_consF, ev_nilM, ev_consM, ev_seq, ev_rng1, ev_enm, ev_zip, ev_asg, ev_par, ev_exp, ev_aug, ev_sti, ev_popAt, someS_lst, someS_val, onS_lst, ev_ret, ev_rse, ok_bind, exn_bind, stk_bind, pure_ok, varR_val, varR_lst, seeB_val, see_val, see_lst, see_slot, slotSee_lst, slotSee_val, frz_val', frz_lst', frz_slot, slotFrz_lst, slotFrz_val, bool1_bool, int1_int, optInt_no, optInt_yes, ME.isNop, onL_lst, settle_val, settle_lst, settle_slot, mv_val, mv_lst, mv_slot, thenB_nx, thenB_rt, thenB_bk, thenB_ct, loopK_nx, loopK_ct, loopK_bk, loopK_rt, endF_rt, endF_nx, ioS_no, ioS_lst, retA_val, retA_lst, retA_slot, call_no, call_io, args_nil, args_cons, seeAll_nil, seeAll_cons, ite_and, ite_or, Mi.get, put, fill, Slot.own, seqOf_list, seqOf_tuple, sub_tup, sub_lst, b_add, b_addb, b_sub, b_addt, b_addl, s_tup, s_lst, i_int, i_intb, i_intt, i_ints, i_bool, i_booli, i_boolt, i_str, i_stri, i_strt, i_tup, i_tupi, i_tups, i_lst, i_lstt, i_lsti, i_lsts, i_non, f_lenl, f_lent, f_int, f_intb, f_listl, f_listt, f_lists, f_tupl, f_tupt, f_all, f_any, a_lst, a_int, asg_v, asg_l, asg_t, asgs_nil, asgs_cons, put_nm, put_tp, puts_nil, puts_cons, c_lt, c_le, c_gt, c_ge, List.map_cons, List.map_nil, List.length_cons, List.length_nil, List.replicate, List.append_nil, List.cons_append, List.nil_append, if_true, if_false, Bool.false_eq_true, Bool.not_false, Bool.not_true, Nat.reduceAdd, Nat.reduceSub, Nat.reduceLT, ev_turn1, ev_turn2, ev_condN, lc_nil, lc_cons, lc2_nil, lc2_cons, optC_some, optC_none, frzR_eq, noX_ok, wipeE, backE, noOwn, List.all_cons, List.all_nil, str_eq, String.reduceEq, eq_self, Int.cast_ofNat_Int, Int.reduceLE, Int.reduceLT, Int.reduceSub, Int.reduceAdd, Int.reduceEq, Int.natCast_add, Int.reduceNeg, Int.natCast_zero, decide_true, decide_false, Bool.and_true, Bool.and_false, Bool.true_and, Bool.false_and, Bool.or_false, Bool.false_or, Bool.or_true, Bool.true_or, Bool.and_self, Bool.not_eq_true, not_true_eq_false, not_false_eq_true, and_self, and_true, true_and, and_false, false_and, reduceIte, io0, io1, io2, io3, io4, io5, io6, io7, io8, io9, io10, io11, io12, io13, io14, io15, io16, io17, io18, io19, io20, io21, io22, io23, io24, io25, io26, io27, io28, io29, io30, io31, io32, io33, io34, io35, io36, io37, io38, io39, io40, io41, io42, io43, io44, io45, io46, io47, io48, io49, io50, io51, io52, io53, io54, io55, io56, io57, io58, io59, io60, io61, io62, io63, io64, io65] $[$loc]?)
/-! the program's strong machine computes the typed one -/
theorem with_register (k : Nat) (g : List Int) (r v : Int) (hg : g.length = 3) (hr : rOk r) : callF T (k + 1) 55 [.val (gD g), .val (.int r), .val (.int v)] = .ok (.val (gD (g.set r.toNat v)), .emp) := by
  obtain ⟨z1, z2, e⟩ := put_facts (g.map .int) r (.int v) hr.1 (by rw [List.length_map]; have := hr.2; omega) (by rw [List.length_map]; omega)
  simp only [gD]
  rw [ev_call (fd := f55) rfl rfl]
  simp! [f55, m55, z1, z2, e, List.length_append, List.map_set]
theorem worth_by : ∀ (n k : Nat) (e : Ex) (g : List Int), e.Ok (n : Int) → gOk g → callF T (k + n + 1) 54 [.val e.d, .val (gD g)] = .ok (.val (.int (worth e g)), .emp)
  | n, k, .num v, g, h, hg => by
    rw [ev_call (fd := f54) rfl rfl]
    simp! [f54, m54_6, m54_5, m54_4, m54_3, m54_2, m54_1, m54, Ex.d, worth, item0, item1, eq_str]
  | n, k, .reg r, g, h, hg => by
    have q := item_gD g r h.2.1 (by rw [hg.len]; have := h.2.2; omega)
    rw [ev_call (fd := f54) rfl rfl]
    simp! [f54, m54_6, m54_5, m54_4, m54_3, m54_2, m54_1, m54, Ex.d, worth, item0, item1, eq_str, gD, q]
  | n, k, .op w a b, g, h, hg => by
    obtain ⟨h1, hw, ha, hb⟩ := h
    obtain ⟨m, rfl⟩ : ∃ m, n = m + 1 := ⟨n - 1, by omega⟩
    have e : ((m + 1 : Nat) : Int) - 1 = (m : Int) := by omega
    rw [e] at ha hb
    have i1 : callF T (k + (m + 1)) 54 [.val a.d, .val (gD g)] = .ok (.val (.int (worth a g)), .emp) := worth_by m k a g ha hg
    have i2 : callF T (k + (m + 1)) 54 [.val b.d, .val (gD g)] = .ok (.val (.int (worth b g)), .emp) := worth_by m k b g hb hg
    have fm := fm15 (y := worth b g) (worth_ok a m g ha hg)
    have p16 : (0 : Int) < 16 := by decide
    rw [ev_call (fd := f54) rfl rfl]
    simp only [isW, Bool.or_eq_true, decide_eq_true_eq] at hw
    rcases hw with rfl | rfl | rfl | rfl | rfl
    · simp! [f54, m54_6, m54_5, m54_4, m54_3, m54_2, m54_1, m54, Ex.d, worth, item0, item1, item2, eq_str, i1, i2, b_mod, p16]
    · simp! [f54, m54_6, m54_5, m54_4, m54_3, m54_2, m54_1, m54, Ex.d, worth, item0, item1, item2, eq_str, i1, i2, b_mod, p16]
    · simp! [f54, m54_6, m54_5, m54_4, m54_3, m54_2, m54_1, m54, Ex.d, worth, item0, item1, item2, eq_str, i1, i2, b_mod, p16, b_mul, fm]
    · cases hq : decide (worth a g = worth b g) <;> simp! [f54, m54_6, m54_5, m54_4, m54_3, m54_2, m54_1, m54, Ex.d, worth, item0, item1, item2, eq_str, eq_int, i1, i2, hq]
    · cases hq : decide (worth a g < worth b g) <;> simp! [f54, m54_6, m54_5, m54_4, m54_3, m54_2, m54_1, m54, Ex.d, worth, item0, item1, item2, eq_str, eq_int, i1, i2, hq]
theorem worth4 (k : Nat) (e : Ex) (g : List Int) (h : eOk e) (hg : gOk g) : callF T (k + 5) 54 [.val e.d, .val (gD g)] = .ok (.val (.int (worth e g)), .emp) := worth_by 4 k e g h.1 hg
theorem nds_ne (p : St × Int) (t : Rest) : cmp2 .NotEq (.tuple (nd p :: t.map nd)) (.tuple []) = .ok true := ne_unit (nds_plain (p :: t))
theorem settled_loop (k m : Nat) : ∀ (n : Nat) (l : Rest) (g : List Int) (s2 : Mi.Slot), sz l ≤ n → n ≤ 400 → restOk l → gOk g → ∃ e, (whlT ⟨ioOf T, callF T (k + 5)⟩ loops none t52_0 l52_0 (m + n + 1) [.val (.tuple (l.map nd)), .val (gD g), s2] >>= thenB ⟨ioOf T, callF T (k + 5)⟩ loops none m52_1) = .ok (e, .rt (.val (thrD (settleF n l g)))) := by
  have nil : ∀ (n : Nat) (g : List Int) (s2 : Mi.Slot), ∃ e, (whlT ⟨ioOf T, callF T (k + 5)⟩ loops none t52_0 l52_0 (n + 1) [.val (.tuple []), .val (gD g), s2] >>= thenB ⟨ioOf T, callF T (k + 5)⟩ loops none m52_1) = .ok (e, .rt (.val (thrD (some [], g)))) := fun n g s2 => by
    have hne : cmp2 .NotEq (.tuple []) (.tuple []) = .ok false := ne_unit rfl
    have hc : evalE ⟨ioOf T, callF T (k + 5)⟩ t52_0 [.val (.tuple []), .val (gD g), s2] = .ok (.val (.bool false), [.val (.tuple []), .val (gD g), s2]) := by
      simp! [t52_0, hne]
    rw [whl_end hc]
    refine ⟨[.val (.tuple []), .val (gD g), s2], ?_⟩
    simp! [m52_1, thrD]
  intro n
  induction n with
  | zero =>
    intro l g s2 h _ _ _
    have : l = [] := by
      have := sz_len l
      exact List.eq_nil_of_length_eq_zero (by omega)
    subst this
    exact nil m g s2
  | succ n ih =>
    intro l g s2 h hn hok hg
    cases l with
    | nil => exact nil (m + (n + 1)) g s2
    | cons p t =>
      obtain ⟨s, f⟩ := p
      have z : sz ((s, f) :: t) = s.flat.length + sz t := sz_cons _ _
      have fp := flat_pos s
      have hs : s.Ok := hok.hd
      have tl := cut_tail (nd (s, f) :: t.map nd)
      rw [List.tail_cons] at tl
      have hne := nds_ne (s, f) t
      have stop : ∀ w : Str, s.w = w → decide (("set" : Str) = w) = false → decide (("need" : Str) = w) = false → decide (("if" : Str) = w) = false → ∃ e, (whlT ⟨ioOf T, callF T (k + 5)⟩ loops none t52_0 l52_0 (m + (n + 1) + 1) [.val (.tuple (((s, f) :: t).map nd)), .val (gD g), s2] >>= thenB ⟨ioOf T, callF T (k + 5)⟩ loops none m52_1) = .ok (e, .rt (.val (thrD (some ((s, f) :: t), g)))) := fun w hw w1 w2 w3 => by
        have hd : ∃ r, nd (s, f) = .tuple (.str w :: r) := by
          subst hw
          cases s <;> exact ⟨_, rfl⟩
        obtain ⟨r, hd⟩ := hd
        have hc : evalE ⟨ioOf T, callF T (k + 5)⟩ t52_0 [.val (.tuple (((s, f) :: t).map nd)), .val (gD g), s2] = .ok (.val (.bool false), [.val (.tuple (((s, f) :: t).map nd)), .val (gD g), s2]) := by
          rw [hd] at hne
          simp! [t52_0, hd, hne, item0, in_3, w1, w2, w3]
        rw [whl_end hc]
        refine ⟨[.val (.tuple (((s, f) :: t).map nd)), .val (gD g), s2], ?_⟩
        simp! [m52_1, thrD]
      have e9 : m + (n + 1) + 1 = (m + n + 1) + 1 := rfl
      cases s with
      | set r e =>
        obtain ⟨e', ih⟩ := ih t (g.set r.toNat (worth e g)) (.val (nd (.set r e, f))) (by omega) (by omega) hok.tl (hg.set _ (hs.2.w hg))
        refine ⟨e', ?_⟩
        have q1 := worth4 k e g hs.2 hg
        have q2 := with_register (k + 4) g r (worth e g) hg.len hs.1
        have hc : evalE ⟨ioOf T, callF T (k + 5)⟩ t52_0 [.val (.tuple (((.set r e, f) :: t).map nd)), .val (gD g), s2] = .ok (.val (.bool true), [.val (.tuple (((.set r e, f) :: t).map nd)), .val (gD g), s2]) := by
          simp only [nd, St.nu, St.d] at hne
          simp! [t52_0, nd, St.nu, St.d, hne, item0, in_3]
        have hb : execB ⟨ioOf T, callF T (k + 5)⟩ loops none l52_0 [.val (.tuple (((.set r e, f) :: t).map nd)), .val (gD g), s2] = .ok ([.val (.tuple (t.map nd)), .val (gD (g.set r.toNat (worth e g))), .val (nd (.set r e, f))], .nx) := by
          simp only [nd, St.nu, St.d] at tl
          simp! [l52_0, l52_0_1, nd, St.nu, St.d, item0, item1, item2, eq_str, q1, q2, tl]
        rw [e9, whl_step hc hb, loopK_nx, ih]
        rfl
      | need e =>
        have q1 := worth4 k e g hs hg
        have hc : evalE ⟨ioOf T, callF T (k + 5)⟩ t52_0 [.val (.tuple (((.need e, f) :: t).map nd)), .val (gD g), s2] = .ok (.val (.bool true), [.val (.tuple (((.need e, f) :: t).map nd)), .val (gD g), s2]) := by
          simp only [nd, St.nu, St.d] at hne
          simp! [t52_0, nd, St.nu, St.d, hne, item0, in_3]
        cases hq : decide (worth e g = 0) with
        | true =>
          have hb : execB ⟨ioOf T, callF T (k + 5)⟩ loops none l52_0 [.val (.tuple (((.need e, f) :: t).map nd)), .val (gD g), s2] = .ok ([.val (.tuple (((.need e, f) :: t).map nd)), .val (gD g), .val (nd (.need e, f))], .rt (.val (.tuple [.none, gD g]))) := by
            simp! [l52_0, l52_0_1, nd, St.nu, St.d, item0, item1, item2, eq_str, eq_int, q1, hq]
          rw [e9, whl_step hc hb, loopK_rt]
          refine ⟨[.val (.tuple (((.need e, f) :: t).map nd)), .val (gD g), .val (nd (.need e, f))], ?_⟩
          simp only [ok_bind, thenB_rt, settleF, hq, if_true, thrD]
        | false =>
          obtain ⟨e', ih⟩ := ih t g (.val (nd (.need e, f))) (by omega) (by omega) hok.tl hg
          refine ⟨e', ?_⟩
          have hb : execB ⟨ioOf T, callF T (k + 5)⟩ loops none l52_0 [.val (.tuple (((.need e, f) :: t).map nd)), .val (gD g), s2] = .ok ([.val (.tuple (t.map nd)), .val (gD g), .val (nd (.need e, f))], .nx) := by
            simp only [nd, St.nu, St.d] at tl
            simp! [l52_0, l52_0_1, nd, St.nu, St.d, item0, item1, item2, eq_str, eq_int, q1, hq, tl]
          rw [e9, whl_step hc hb, loopK_nx, ih]
          simp only [settleF, hq, Bool.false_eq_true, if_false]
      | ifs e y q =>
        obtain ⟨he, hy, hq2, ly, lq⟩ := hs
        have q1 := worth4 k e g he hg
        have zi := sz_if e y q f t (decide (worth e g = 0))
        have tlen := sz_len t
        have hc : evalE ⟨ioOf T, callF T (k + 5)⟩ t52_0 [.val (.tuple (((.ifs e y q, f) :: t).map nd)), .val (gD g), s2] = .ok (.val (.bool true), [.val (.tuple (((.ifs e y q, f) :: t).map nd)), .val (gD g), s2]) := by
          simp only [nd, St.nu, St.d] at hne
          simp! [t52_0, nd, St.nu, St.d, hne, item0, in_3]
        obtain ⟨e', ih⟩ := ih ((if decide (worth e g = 0) = true then Bk.nl q (Bk.nu y f).2 else Bk.nl y f) ++ t) g (.val (nd (.ifs e y q, f))) (by omega) (by omega) (restOk.cat (by split; exact nl_ok _ _ hq2; exact nl_ok _ _ hy) hok.tl) hg
        refine ⟨e', ?_⟩
        have hb : execB ⟨ioOf T, callF T (k + 5)⟩ loops none l52_0 [.val (.tuple (((.ifs e y q, f) :: t).map nd)), .val (gD g), s2] = .ok ([.val (.tuple (((if decide (worth e g = 0) = true then Bk.nl q (Bk.nu y f).2 else Bk.nl y f) ++ t).map nd)), .val (gD g), .val (nd (.ifs e y q, f))], .nx) := by
          simp only [nd, St.nu, St.d] at tl
          cases hq : decide (worth e g = 0) with
          | true =>
            have lz : (Bk.nu q (Bk.nu y f).2).1.length + t.length ≤ big := by
              refine small _ ?_
              rw [← nl_nd, List.length_map]
              have := sz_len (Bk.nl q (Bk.nu y f).2)
              rw [nl_sz] at this
              have : (St.ifs e y q).flat.length = 1 + (y.flat.length + q.flat.length) := by simp [St.flat]; omega
              omega
            simp! [l52_0, l52_0_1, nd, St.nu, St.d, item0, item1, item2, item3, eq_str, neq_int, q1, hq, tl, List.map_append, nl_nd, List.length_map, lz]
          | false =>
            have lz : (Bk.nu y f).1.length + t.length ≤ big := by
              refine small _ ?_
              rw [← nl_nd, List.length_map]
              have := sz_len (Bk.nl y f)
              rw [nl_sz] at this
              have : (St.ifs e y q).flat.length = 1 + (y.flat.length + q.flat.length) := by simp [St.flat]; omega
              omega
            simp! [l52_0, l52_0_1, nd, St.nu, St.d, item0, item1, item2, item3, eq_str, neq_int, q1, hq, tl, List.map_append, nl_nd, List.length_map, lz]
        rw [e9, whl_step hc hb, loopK_nx, ih]
        simp only [settleF]
      | xch w r c e =>
        rcases hs.1 with rfl | rfl
        · exact stop "swap" rfl (by simp! [eq_self]) (by simp! [eq_self]) (by simp! [eq_self])
        · exact stop "add" rfl (by simp! [eq_self]) (by simp! [eq_self]) (by simp! [eq_self])
      | fence => exact stop "fence" rfl (by simp! [eq_self]) (by simp! [eq_self]) (by simp! [eq_self])
      | wr c m e => exact stop "write" rfl (by simp! [eq_self]) (by simp! [eq_self]) (by simp! [eq_self])
      | rd r c m => exact stop "read" rfl (by simp! [eq_self]) (by simp! [eq_self]) (by simp! [eq_self])
      | tr r c a b => exact stop "try" rfl (by simp! [eq_self]) (by simp! [eq_self]) (by simp! [eq_self])
theorem settled (k : Nat) (l : Rest) (g : List Int) (h : sz l ≤ 400) (hok : restOk l) (hg : gOk g) : callF T (k + 6) 52 [.val (.tuple (l.map nd)), .val (gD g)] = .ok (.val (thrD (settle l g)), .emp) := by
  have hl : loops = (999599 + 400) + 1 := rfl
  obtain ⟨e, q⟩ := settled_loop k 999599 400 l g .emp h (Nat.le_refl _) hok hg
  rw [← hl, settle_of g h] at q
  rw [ev_call (fd := f52) rfl rfl]
  simp! [f52, m52, q]
def lb58 : MB := l58_0
def call58 (k : Nat) (b : Bk) (f : Int) : R (Mi.Arg × Mi.Slot) := callF T k 58 [.val (.tuple b.ds), .val (.int f)]
theorem loop58 (k N : Nat) (v : Mi.Slot) (Hc : ∀ (y : Bk) (f : Int), y.Ok → y.nest < N → y.ds.length ≤ 12 → call58 (k + 1) y f = ans23 y f) : ∀ (b : Bk), b.Ok → b.nest ≤ N → ∀ (acc : List PyData) (f : Int) (s3 s4 s5 : Mi.Slot), acc.length + b.ds.length ≤ 500 →
    ∃ s3' s4' s5', forT ⟨ioOf T, callF T (k + 1)⟩ loops none (.nm 4) l58_0 b.ds [v, .val (.int f), .lst acc, s3, s4, s5] = .ok ([v, .val (.int (Bk.nu b f).2), .lst (acc ++ (Bk.nu b f).1), s3', s4', s5'], .nx)
  | .nil, _, _, acc, f, s3, s4, s5, _ => ⟨s3, s4, s5, by
    simp only [Bk.ds, Bk.nu, ev_forN, List.append_nil]⟩
  | .cons s r, hok, hn, acc, f, s3, s4, s5, hl => by
    obtain ⟨hs, hr⟩ := hok
    simp only [Bk.ds, List.length_cons] at hl
    have hnr : r.nest ≤ N := by
      simp only [Bk.nest] at hn
      omega
    have hns : s.nest ≤ N := by
      simp only [Bk.nest] at hn
      omega
    have c2 : acc.length < big := Nat.lt_of_lt_of_le (show acc.length < 1000 by omega) (by decide)
    have hacc := acc_of k s hs
    have e1 : ∀ x : PyData, acc ++ x :: (Bk.nu r (St.nu s f).2).1 = acc ++ [x] ++ (Bk.nu r (St.nu s f).2).1 := fun x => by simp
    have turn : ∃ s3' s5', execB ⟨ioOf T, callF T (k + 1)⟩ loops none l58_0 [v, .val (.int f), .lst acc, s3, .val s.d, s5] = .ok ([v, .val (.int (St.nu s f).2), .lst (acc ++ [(St.nu s f).1]), s3', .val s.d, s5'], .nx) := by
      cases s with
      | ifs e y n =>
        obtain ⟨_, hy, hn2, hy2, hn3⟩ := hs
        have q1 := Hc y f hy (by simp only [St.nest] at hns; omega) hy2
        have q2 := Hc n (Bk.nu y f).2 hn2 (by simp only [St.nest] at hns; omega) hn3
        refine ⟨.val (.tuple (Bk.nu n (Bk.nu y f).2).1), .val (.tuple (Bk.nu y f).1), ?_⟩
        simp only [call58, ans23] at q1 q2
        simp only [St.d] at hacc
        simp! [l58_0, St.d, hacc, St.acc, item0, item1, item2, item3, eq_str, c2, St.nu, q1, q2]
      | xch w x c e =>
        refine ⟨s3, s5, ?_⟩
        have hxw : isXw w := hs.1
        simp only [St.d] at hacc
        rcases hxw with rfl | rfl <;> simp! [l58_0, St.d, hacc, St.acc, item0, item1, item2, item3, eq_str, c2, St.nu, show 5 ≤ big by decide, show 6 ≤ big by decide]
      | _ =>
        refine ⟨s3, s5, ?_⟩
        simp only [St.d] at hacc
        simp! [l58_0, St.d, hacc, St.acc, item0, item1, item2, item3, eq_str, c2, St.nu, show 5 ≤ big by decide, show 6 ≤ big by decide]
    obtain ⟨t3, t5, ht⟩ := turn
    obtain ⟨s3', s4', s5', g⟩ := loop58 k N v Hc r hr hnr (acc ++ [(St.nu s f).1]) (St.nu s f).2 t3 (.val s.d) t5 (by simp; omega)
    refine ⟨s3', s4', s5', ?_⟩
    have hp : putT (.nm 4) s.d [v, .val (.int f), .lst acc, s3, s4, s5] = .ok [v, .val (.int f), .lst acc, s3, .val s.d, s5] := rfl
    simp only [Bk.ds, Bk.nu, e1]
    rw [for_step hp ht, loopK_nx, g]
theorem numbered_block : ∀ (k : Nat) (b : Bk) (f : Int), b.Ok → b.nest ≤ k → b.ds.length ≤ 12 → call58 (k + 2) b f = ans23 b f := by
  have main : ∀ (k N : Nat) (b : Bk) (f : Int), (∀ (y : Bk) (f : Int), y.Ok → y.nest < N → y.ds.length ≤ 12 → call58 (k + 1) y f = ans23 y f) → b.Ok → b.nest ≤ N → b.ds.length ≤ 12 → call58 (k + 2) b f = ans23 b f := by
    intro k N b f H hb hn hl
    obtain ⟨s3', s4', s5', g⟩ := loop58 k N (.val (.tuple b.ds)) H b hb hn [] f .emp .emp .emp (by simp; omega)
    rw [List.nil_append] at g
    unfold call58 ans23
    rw [ev_call (fd := f58) rfl rfl]
    simp! [f58, m58, m58_1, m58_2, g]
  intro k
  induction k with
  | zero => exact fun b f hb hn hl => main 0 0 b f (fun y f _ h => absurd h (Nat.not_lt_zero _)) hb hn hl
  | succ k ih => exact fun b f hb hn hl => main (k + 1) (k + 1) b f (fun y f hy h h12 => ih y f hy (by omega) h12) hb hn hl
theorem loop53 (k : Nat) (v : Mi.Slot) : ∀ (bs : List Bk), (∀ b ∈ bs, BkFit b) → ∀ (acc : List PyData) (f : Int) (s1 s4 : Mi.Slot), acc.length + bs.length ≤ 500 →
    ∃ s1' f' s4', forT ⟨ioOf T, callF T (k + 4)⟩ loops none (.nm 1) l53_0 (bs.map tup) [v, s1, .val (.int f), .lst acc, s4] = .ok ([v, s1', .val (.int f'), .lst (acc ++ prNu bs f), s4'], .nx)
  | [], _, acc, f, s1, s4, _ => ⟨s1, f, s4, by
    simp only [List.map_nil, prNu, ev_forN, List.append_nil]⟩
  | b :: r, h, acc, f, s1, s4, hl => by
    have hb := h b List.mem_cons_self
    simp only [List.length_cons] at hl
    have c1 : acc.length < big := Nat.lt_of_lt_of_le (show acc.length < 1000 by omega) (by decide)
    have q := numbered_block (k + 2) b f hb.ok (Nat.le_trans hb.nest (by omega)) hb.len
    obtain ⟨s1', f', s4', g⟩ := loop53 k v r (fun c hc => h c (List.mem_cons_of_mem _ hc)) (acc ++ [.tuple (Bk.nu b f).1]) (Bk.nu b f).2 (.val (tup b)) (.val (.tuple (Bk.nu b f).1)) (by simp; omega)
    refine ⟨s1', f', s4', ?_⟩
    have e1 : acc ++ prNu (b :: r) f = acc ++ [.tuple (Bk.nu b f).1] ++ prNu r (Bk.nu b f).2 := by
      simp [prNu]
    have hp : putT (.nm 1) (tup b) [v, s1, .val (.int f), .lst acc, s4] = .ok [v, .val (tup b), .val (.int f), .lst acc, s4] := rfl
    have ht : execB ⟨ioOf T, callF T (k + 4)⟩ loops none l53_0 [v, .val (tup b), .val (.int f), .lst acc, s4] = .ok ([v, .val (tup b), .val (.int (Bk.nu b f).2), .lst (acc ++ [.tuple (Bk.nu b f).1]), .val (.tuple (Bk.nu b f).1)], .nx) := by
      simp only [call58, ans23] at q
      simp! [l53_0, l53_0_1, tup, q, c1]
    rw [e1, List.map_cons, for_step hp ht, loopK_nx, g]
theorem numbered_threads (k : Nat) (bs : List Bk) (h : PrOk bs) : callF T (k + 5) 53 [.val (.tuple (bs.map tup))] = .ok (.val (.tuple (prNu bs 0)), .emp) := by
  obtain ⟨s1', f', s4', g⟩ := loop53 k (.val (.tuple (bs.map tup))) bs h.fit [] 0 .emp .emp (by
    have := h.four
    simp
    omega)
  rw [List.nil_append] at g
  rw [ev_call (fd := f53) rfl rfl]
  simp! [f53, m53, m53_1, m53_2, g]
theorem begun_all (k : Nat) (v : Mi.Slot) : ∀ (bs : List Bk) (f : Int), (∀ b ∈ bs, BkFit b) → lcL (turn1 ⟨ioOf T, callF T (k + 6)⟩ (.nm 1) [1] .nop ce40_0) (prNu bs f) [v, .emp] = .ok ((begun.go bs f).map thrD, [v, .emp])
  | [], f, _ => rfl
  | b :: r, f, h => by
    have hb := h b List.mem_cons_self
    have q := settled k (Bk.nl b f) [0, 0, 0] (by rw [nl_sz]; have := hb.all; omega) (nl_ok b f hb.ok) g0
    have ih := begun_all k v r (Bk.nu b f).2 fun c hc => h c (List.mem_cons_of_mem _ hc)
    have m3 : bin2 .mul (.tuple [.int 0]) (.int 3) = .ok (.val (.tuple [.int 0, .int 0, .int 0])) := rfl
    simp only [gD, List.map_cons, List.map_nil, nl_nd] at q
    simp only [prNu, begun.go, List.map_cons]
    rw [lc_cons, ev_turn1]
    simp only [ce40_0] at ih
    simp! [ce40_0, m3, q, ih]
theorem begun_ (k : Nat) (bs : List Bk) (h : PrOk bs) : callF T (k + 7) 40 [.val (.tuple (bs.map tup))] = .ok (.val (.tuple ((begun bs).map thrD)), .emp) := by
  have q1 := numbered_threads (k + 1) bs h
  have q2 := begun_all k (.val (.tuple (bs.map tup))) bs 0 h.fit
  rw [ev_call (fd := f40) rfl rfl]
  simp! [f40, m40, q1, q2]
  rfl
theorem first_state (k : Nat) (bs : List Bk) (h : PrOk bs) : callF T (k + 8) 19 [.val (.tuple (bs.map tup))] = .ok (.val (staD (start bs)), .emp) := by
  have q1 := begun_ k bs h
  have m4 : bin2 .mul (.tuple [.int 0]) (.int 4) = .ok (.val (.tuple [.int 0, .int 0, .int 0, .int 0])) := rfl
  rw [ev_call (fd := f19) rfl rfl]
  simp! [f19, m19, q1, m4, staD, start, gD]
theorem can_read (k : Nat) (s : St) (h : s.Ok) (ha : s.acc = true) (f : Int) : callF T (k + 1) 44 [.val (nd (s, f))] = .ok (.val (.bool s.reads), .emp) := by
  rw [ev_call (fd := f44) rfl rfl]
  cases s with
  | xch w r c e => rcases h.1 with rfl | rfl <;> simp! [f44, m44, nd, St.nu, item0, ne_str, St.reads]
  | wr c m e => simp! [f44, m44, nd, St.nu, item0, ne_str, St.reads]
  | rd r c m => simp! [f44, m44, nd, St.nu, item0, ne_str, St.reads]
  | tr r c a b => simp! [f44, m44, nd, St.nu, item0, ne_str, St.reads]
  | _ => cases ha
theorem cell_of (k : Nat) (s : St) (h : s.Ok) (ha : s.acc = true) (f : Int) : callF T (k + 1) 42 [.val (nd (s, f))] = .ok (.val (.int s.cl), .emp) := by
  rw [ev_call (fd := f42) rfl rfl]
  cases s with
  | xch w r c e => rcases h.1 with rfl | rfl <;> simp! [f42, m42, nd, St.nu, item0, item1, item2, eq_str, St.cl]
  | wr c m e => simp! [f42, m42, nd, St.nu, item0, item1, item2, eq_str, St.cl]
  | rd r c m => simp! [f42, m42, nd, St.nu, item0, item1, item2, eq_str, St.cl]
  | tr r c a b => simp! [f42, m42, nd, St.nu, item0, item1, item2, eq_str, St.cl]
  | _ => cases ha
theorem is_acc_nd (k : Nat) (s : St) (h : s.Ok) (f : Int) : callF T (k + 1) 41 [.val (nd (s, f))] = .ok (.val (.bool s.acc), .emp) := by
  have hd : ∃ r, nd (s, f) = .tuple (.str s.w :: r) := by
    cases s <;> exact ⟨_, rfl⟩
  obtain ⟨r, hd⟩ := hd
  have q := acc_of k s h
  rw [St.d_w, is_access] at q
  rw [hd, is_access]
  exact q
/-- what an access has read, as data: None for what does not read -/
def readD (s : St) (v : Int) : PyData := if s.reads = true then .int v else .none
def optD : Option Int → PyData
  | some v => .int v
  | none => .none
theorem written_by (k : Nat) (s : St) (h : s.Ok) (ha : s.acc = true) (f : Int) (g : List Int) (hg : gOk g) (v : Int) : callF T (k + 6) 43 [.val (nd (s, f)), .val (gD g), .val (readD s v)] = .ok (.val (optD (written s g v)), .emp) := by
  have p16 : (0 : Int) < 16 := by decide
  rw [ev_call (fd := f43) rfl rfl]
  cases s with
  | xch w r c e =>
    have q := worth4 k e g h.2.2.2 hg
    rcases h.1 with rfl | rfl <;> simp! [f43, m43_5, m43_4, m43_3, m43_2, m43_1, m43, nd, St.nu, item0, item3, eq_str, readD, St.reads, q, written, optD, b_mod, p16]
  | wr c m e =>
    have q := worth4 k e g h.2.2 hg
    simp! [f43, m43_5, m43_4, m43_3, m43_2, m43_1, m43, nd, St.nu, item0, item3, eq_str, readD, St.reads, q, written, optD]
  | rd r c m => simp! [f43, m43_5, m43_4, m43_3, m43_2, m43_1, m43, nd, St.nu, item0, item3, eq_str, readD, St.reads, written, optD]
  | tr r c a b =>
    have q1 := worth4 k a g h.2.2.1 hg
    have q2 := worth4 k b g h.2.2.2 hg
    have i4 : ∀ (a b c d e : PyData) (r : List PyData), itemAt (a :: b :: c :: d :: e :: r) 4 = .ok e := fun a b c d e r => item_nat 4 rfl
    cases hq : decide (v = worth a g) <;> simp! [f43, m43_5, m43_4, m43_3, m43_2, m43_1, m43, nd, St.nu, item0, item3, i4, eq_str, eq_int, readD, St.reads, q1, q2, hq, written, optD]
  | _ => cases ha
theorem behind_ (k : Nat) (s : St) (f : Int) (t : Rest) (h : restOk ((s, f) :: t)) (hz : sz ((s, f) :: t) ≤ 400) (g : List Int) (hg : gOk g) (v : Int) (hv : vOk v) : callF T (k + 7) 45 [.val (.tuple (((s, f) :: t).map nd)), .val (gD g), .val (readD s v)] = .ok (.val (thrD (behind s t g v)), .emp) := by
  have z : sz ((s, f) :: t) = s.flat.length + sz t := sz_cons _ _
  have tl := cut_tail (nd (s, f) :: t.map nd)
  rw [List.tail_cons] at tl
  have q1 := is_acc_nd (k + 5) s h.hd f
  rw [ev_call (fd := f45) rfl rfl]
  simp only [behind]
  cases hr : s.reads with
  | false =>
    have q4 := settled k t g (by omega) h.tl hg
    cases ha : s.acc with
    | false => simp! [f45, m45_2, m45_1, m45, item0, q1, ha, tl, q4]
    | true =>
      have q2 := can_read (k + 5) s h.hd ha f
      simp! [f45, m45_2, m45_1, m45, item0, q1, ha, q2, hr, tl, q4]
  | true =>
    have q4 := settled k t (g.set s.rg.toNat v) (by omega) h.tl (hg.set _ hv)
    have ha : s.acc = true := by cases s <;> first | rfl | cases hr
    have q2 := can_read (k + 5) s h.hd ha f
    have hrg : rOk s.rg := by
      have := h.hd
      cases s with
      | rd r c m => exact this.1
      | xch w r c e => exact this.2.1
      | tr r c a b => exact this.1
      | _ => cases hr
    have q3 := with_register (k + 5) g s.rg v hg.len hrg
    have hi : ∃ a r, nd (s, f) = .tuple (a :: .int s.rg :: r) := by
      cases s <;> first | exact ⟨_, _, rfl⟩ | cases hr
    obtain ⟨a, r, hi⟩ := hi
    rw [hi] at q1 q2 tl
    simp! [f45, m45_2, m45_1, m45, item0, item1, hi, q1, ha, q2, hr, readD, q3, tl, q4]
def stopped (x : Sta) (i : Nat) : Bool := (nextOf x i).isNone
theorem can_step (k : Nat) (x : Sta) (i : Nat) (hi : i < x.1.length) : callF T (k + 1) 24 [.val (staD x), .val (.int (i : Int))] = .ok (.val (.bool (nextOf x i).isSome), .emp) := by
  obtain ⟨o, g⟩ : Thr := x.1[i]
  have e : x.1[i]? = some x.1[i] := List.getElem?_eq_getElem hi
  have q : itemAt (x.1.map thrD) (i : Int) = .ok (thrD x.1[i]) := item_nat i (by rw [List.getElem?_map, e]; rfl)
  unfold nextOf
  rw [e]
  cases hx : x.1[i] with
  | mk o g =>
    rw [hx] at q
    have n1 : cmp2 .IsNot .none .none = .ok false := rfl
    have n2 : ∀ l : List PyData, cmp2 .IsNot (.tuple l) .none = .ok true := fun l => rfl
    rw [ev_call (fd := f24) rfl rfl]
    cases o with
    | none => simp! [f24, m24_1, m24, staD, item0, q, thrD, n1, Option.isSome_none]
    | some l =>
      cases l with
      | nil =>
        have hne : cmp2 .NotEq (.tuple []) (.tuple []) = .ok false := ne_unit rfl
        simp! [f24, m24_1, m24, staD, item0, q, thrD, n2, hne, Option.isSome_none]
      | cons p t => simp! [f24, m24_1, m24, staD, item0, q, thrD, n2, nds_ne p t, Option.isSome_some]
theorem stepped_ (k : Nat) (x : Sta) (i : Nat) (hx : staOk 400 x) (s : St) (f : Int) (t : Rest) (g : List Int) (e : x.1[i]? = some (some ((s, f) :: t), g)) : callF T (k + 8) 20 [.val (staD x), .val (.int (i : Int))] = .ok (.val (staD (stepped x i)), .emp) := by
  have hi : i < x.1.length := by
    rcases Nat.lt_or_ge i x.1.length with h | h
    · exact h
    · rw [List.getElem?_eq_none h] at e
      cases e
  have h1 := hx.ths _ (List.mem_of_getElem? e)
  have h2 := h1.rest _ rfl
  have hs : s.Ok := h2.1.hd
  have q : itemAt (x.1.map thrD) (i : Int) = .ok (.tuple [.tuple (((s, f) :: t).map nd), gD g]) := item_nat i (by rw [List.getElem?_map, e]; rfl)
  have hlen := hx.len
  have hv := at0_ok hx.mem.val s.cl
  obtain ⟨z1, z2, e1⟩ := put_facts (x.1.map thrD) (i : Int) (thrD (behind s t g (at0 x.2 s.cl))) (by omega) (by rw [List.length_map]; omega) (by rw [List.length_map]; omega)
  rw [Int.toNat_natCast, ← List.map_set] at e1
  have b := behind_ k s f t h2.1 h2.2 g h1.reg (at0 x.2 s.cl) hv
  have qa := is_acc_nd (k + 6) s hs f
  have hst : stepped x i = (x.1.set i (behind s t g (at0 x.2 s.cl)), if s.acc = true then match written s g (at0 x.2 s.cl) with | some v => x.2.set s.cl.toNat v | none => x.2 else x.2) := by
    unfold stepped
    (rw [e]) <;> rfl
  rw [hst]
  simp only [List.map_cons] at b q
  rw [ev_call (fd := f20) rfl rfl]
  cases ha : s.acc with
  | false =>
    have hr : readD s (at0 x.2 s.cl) = .none := by cases s <;> first | rfl | cases ha
    rw [hr] at b
    simp! [f20, m20_4, m20_3, m20_2, m20_1, m20, staD, q, item0, List.map_cons, qa, ha, b, z1, z2, e1, List.length_append]
  | true =>
    have qc := cell_of (k + 6) s hs ha f
    have qr := can_read (k + 6) s hs ha f
    have hc : cOk s.cl := by
      cases s with
      | wr c m e => exact hs.1
      | rd r c m => exact hs.2.1
      | xch w r c e => exact hs.2.2.1
      | tr r c a b => exact hs.2.1
      | _ => cases ha
    have hc2 : s.cl < (x.2.length : Int) := by
      rw [hx.mem.len]
      have := hc.2
      omega
    have qm := item_gD x.2 s.cl hc.1 hc2
    have qw := written_by (k + 1) s hs ha f g h1.reg (at0 x.2 s.cl)
    have n1 : cmp2 .IsNot .none .none = .ok false := rfl
    have n2 : ∀ v : Int, cmp2 .IsNot (.int v) .none = .ok true := fun v => rfl
    simp only [gD] at q b qw
    have e9 : staD (x.1, x.2) = .tuple [.tuple (x.1.map thrD), .tuple (x.2.map .int)] := rfl
    cases hw : written s g (at0 x.2 s.cl) with
    | none =>
      rw [hw] at qw
      cases hr : s.reads with
      | true =>
        simp only [readD, hr, if_true, optD] at b qw
        simp! [f20, m20_4, m20_3, m20_2, m20_1, m20, staD, q, item0, List.map_cons, qa, ha, qc, qr, hr, gD, qm, qw, n1, b, z1, z2, e1, List.length_append]
      | false =>
        simp only [readD, hr, Bool.false_eq_true, if_false, optD] at b qw
        simp! [f20, m20_4, m20_3, m20_2, m20_1, m20, staD, q, item0, List.map_cons, qa, ha, qc, qr, hr, gD, qm, qw, n1, b, z1, z2, e1, List.length_append]
    | some v =>
      rw [hw] at qw
      obtain ⟨y1, y2, e2⟩ := put_facts (x.2.map .int) s.cl (.int v) hc.1 (by rw [List.length_map]; exact hc2) (by rw [List.length_map, hx.mem.len]; omega)
      rw [← List.map_set] at e2
      cases hr : s.reads with
      | true =>
        simp only [readD, hr, if_true, optD] at b qw
        simp! [f20, m20_4, m20_3, m20_2, m20_1, m20, staD, q, item0, List.map_cons, qa, ha, qc, qr, hr, gD, qm, qw, n2, b, z1, z2, e1, y1, y2, e2, List.length_append]
      | false =>
        simp only [readD, hr, Bool.false_eq_true, if_false, optD] at b qw
        simp! [f20, m20_4, m20_3, m20_2, m20_1, m20, staD, q, item0, List.map_cons, qa, ha, qc, qr, hr, gD, qm, qw, n2, b, z1, z2, e1, y1, y2, e2, List.length_append]
end
end K48

set_option Elab.async false
set_option linter.all false
set_option maxRecDepth 100000
set_option maxHeartbeats 4000000
namespace K48
open PySem Mi
section
local macro_rules
  | `(tactic| simp! [$xs,*] $[$loc]?) => `(tactic| simp -implicitDefEqProofs only [$xs,*, ev_var, ev_and, ev_or, ev_chn, ev_ite, ev_iff, ev_while, ev_for, ev_forN, ev_lc, ev_lc2, ev_cons, ev_nil, ev_cst, ev_gbl, ev_tup, ev_lst, ev_sub, ev_slc, ev_op2, ev_neg, ev_not, ev_cmp, ev_callE, ev_blt, ev_isi, ev_trg, ev_app, ev_pop, ev_nilA, ev_consA, ev_nilF, ev_consF, ev_nilM, ev_consM, ev_seq, ev_rng1, ev_enm, ev_zip, ev_asg, ev_par, ev_exp, ev_aug, ev_sti, ev_popAt, someS_lst, someS_val, onS_lst, ev_ret, ev_rse, ok_bind, exn_bind, stk_bind, pure_ok, varR_val, varR_lst, seeB_val, see_val, see_lst, see_slot, slotSee_lst, slotSee_val, frz_val', frz_lst', frz_slot, slotFrz_lst, slotFrz_val, bool1_bool, int1_int, optInt_no, optInt_yes, ME.isNop, onL_lst, settle_val, settle_lst, settle_slot, mv_val, mv_lst, mv_slot, thenB_nx, thenB_rt, thenB_bk, thenB_ct, loopK_nx, loopK_ct, loopK_bk, loopK_rt, endF_rt, endF_nx, ioS_no, ioS_lst, retA_val, retA_lst, retA_slot, call_no, call_io, args_nil, args_cons, seeAll_nil, seeAll_cons, ite_and, ite_or, Mi.get, put, fill, Slot.own, seqOf_list, seqOf_tuple, sub_tup, sub_lst, b_add, b_addb, b_sub, b_addt, b_addl, s_tup, s_lst, i_int, i_intb, i_intt, i_ints, i_bool, i_booli, i_boolt, i_str, i_stri, i_strt, i_tup, i_tupi, i_tups, i_lst, i_lstt, i_lsti, i_lsts, i_non, f_lenl, f_lent, f_int, f_intb, f_listl, f_listt, f_lists, f_tupl, f_tupt, f_all, f_any, a_lst, a_int, asg_v, asg_l, asg_t, asgs_nil, asgs_cons, put_nm, put_tp, puts_nil, puts_cons, c_lt, c_le, c_gt, c_ge, List.map_cons, List.map_nil, List.length_cons, List.length_nil, List.replicate, List.append_nil, List.cons_append, List.nil_append, if_true, if_false, Bool.false_eq_true, Bool.not_false, Bool.not_true, Nat.reduceAdd, Nat.reduceSub, Nat.reduceLT, ev_turn1, ev_turn2, ev_condN, lc_nil, lc_cons, lc2_nil, lc2_cons, optC_some, optC_none, frzR_eq, noX_ok, wipeE, backE, noOwn, List.all_cons, List.all_nil, str_eq, String.reduceEq, eq_self, Int.cast_ofNat_Int, Int.reduceLE, Int.reduceLT, Int.reduceSub, Int.reduceAdd, Int.reduceEq, Int.natCast_add, Int.reduceNeg, Int.natCast_zero, decide_true, decide_false, Bool.and_true, Bool.and_false, Bool.true_and, Bool.false_and, Bool.or_false, Bool.false_or, Bool.or_true, Bool.true_or, Bool.and_self, Bool.not_eq_true, not_true_eq_false, not_false_eq_true, and_self, and_true, true_and, and_false, false_and, reduceIte, io0, io1, io2, io3, io4, io5, io6, io7, io8, io9, io10, io11, io12, io13, io14, io15, io16, io17, io18, io19, io20, io21, io22, io23, io24, io25, io26, io27, io28, io29, io30, io31, io32, io33, io34, io35, io36, io37, io38, io39, io40, io41, io42, io43, io44, io45, io46, io47, io48, io49, io50, io51, io52, io53, io54, io55, io56, io57, io58, io59, io60, io61, io62, io63, io64, io65] $[$loc]?)
/-! the law's strong machine computes the typed one -/
theorem law_worth : ∀ (n k : Nat) (e : Ex) (g : List Int), e.Ok (n : Int) → gOk g → callF T (k + n + 1) 49 [.val e.d, .val (gD g)] = .ok (.val (.int (worth e g)), .emp)
  | n, k, .num v, g, h, hg => by
    rw [ev_call (fd := f49) rfl rfl]
    simp! [f49, m49_4, m49_3, m49_2, m49_1, m49, Ex.d, worth, item0, item1, eq_str]
  | n, k, .reg r, g, h, hg => by
    have q := item_gD g r h.2.1 (by rw [hg.len]; have := h.2.2; omega)
    rw [ev_call (fd := f49) rfl rfl]
    simp! [f49, m49_4, m49_3, m49_2, m49_1, m49, Ex.d, worth, item0, item1, eq_str, gD, q]
  | n, k, .op w a b, g, h, hg => by
    obtain ⟨h1, hw, ha, hb⟩ := h
    obtain ⟨m, rfl⟩ : ∃ m, n = m + 1 := ⟨n - 1, by omega⟩
    have e : ((m + 1 : Nat) : Int) - 1 = (m : Int) := by omega
    rw [e] at ha hb
    have i1 : callF T (k + (m + 1)) 49 [.val a.d, .val (gD g)] = .ok (.val (.int (worth a g)), .emp) := law_worth m k a g ha hg
    have i2 : callF T (k + (m + 1)) 49 [.val b.d, .val (gD g)] = .ok (.val (.int (worth b g)), .emp) := law_worth m k b g hb hg
    have fm := fm15 (y := worth b g) (worth_ok a m g ha hg)
    have p16 : (0 : Int) < 16 := by decide
    rw [ev_call (fd := f49) rfl rfl]
    simp only [isW, Bool.or_eq_true, decide_eq_true_eq] at hw
    rcases hw with rfl | rfl | rfl | rfl | rfl
    · simp! [f49, m49_4, m49_3, m49_2, m49_1, m49, Ex.d, worth, item0, item1, item2, eq_str, in_2, i1, i2, b_mod, p16]
    · simp! [f49, m49_4, m49_3, m49_2, m49_1, m49, Ex.d, worth, item0, item1, item2, eq_str, in_2, i1, i2, b_mod, p16]
    · simp! [f49, m49_4, m49_3, m49_2, m49_1, m49, Ex.d, worth, item0, item1, item2, eq_str, in_2, i1, i2, b_mod, p16, b_mul, fm]
    · cases hq : decide (worth a g = worth b g) <;> simp! [f49, m49_4, m49_3, m49_2, m49_1, m49, Ex.d, worth, item0, item1, item2, eq_str, in_2, eq_int, i1, i2, hq]
    · cases hq : decide (worth a g < worth b g) <;> simp! [f49, m49_4, m49_3, m49_2, m49_1, m49, Ex.d, worth, item0, item1, item2, eq_str, in_2, eq_int, i1, i2, hq]
theorem lworth4 (k : Nat) (e : Ex) (g : List Int) (h : eOk e) (hg : gOk g) : callF T (k + 5) 49 [.val e.d, .val (gD g)] = .ok (.val (.int (worth e g)), .emp) := law_worth 4 k e g h.1 hg
theorem nds_neL (p : St × Int) (t : Rest) : cmp2 .NotEq (.tuple (nd p :: t.map nd)) (.tuple []) = .ok true := ne_unit (nds_plain (p :: t))
theorem law_settled_loop (k m : Nat) : ∀ (n : Nat) (l : Rest) (g : List Int) (s2 s3 : Mi.Slot), sz l ≤ n → n ≤ 400 → restOk l → gOk g → ∃ e, (whlT ⟨ioOf T, callF T (k + 5)⟩ loops none t33_0 l33_0 (m + n + 1) [.val (.tuple (l.map nd)), .val (gD g), s2, s3] >>= thenB ⟨ioOf T, callF T (k + 5)⟩ loops none m33_1) = .ok (e, .rt (.val (thrD (settleF n l g)))) := by
  have nil : ∀ (n : Nat) (g : List Int) (s2 s3 : Mi.Slot), ∃ e, (whlT ⟨ioOf T, callF T (k + 5)⟩ loops none t33_0 l33_0 (n + 1) [.val (.tuple []), .val (gD g), s2, s3] >>= thenB ⟨ioOf T, callF T (k + 5)⟩ loops none m33_1) = .ok (e, .rt (.val (thrD (some [], g)))) := fun n g s2 s3 => by
    have hne : cmp2 .NotEq (.tuple []) (.tuple []) = .ok false := ne_unit rfl
    have hc : evalE ⟨ioOf T, callF T (k + 5)⟩ t33_0 [.val (.tuple []), .val (gD g), s2, s3] = .ok (.val (.bool false), [.val (.tuple []), .val (gD g), s2, s3]) := by
      simp! [t33_0, hne]
    rw [whl_end hc]
    refine ⟨[.val (.tuple []), .val (gD g), s2, s3], ?_⟩
    simp! [m33_1, thrD]
  intro n
  induction n with
  | zero =>
    intro l g s2 s3 h _ _ _
    have : l = [] := by
      have := sz_len l
      exact List.eq_nil_of_length_eq_zero (by omega)
    subst this
    exact nil m g s2 s3
  | succ n ih =>
    intro l g s2 s3 h hn hok hg
    cases l with
    | nil => exact nil (m + (n + 1)) g s2 s3
    | cons p t =>
      obtain ⟨s, f⟩ := p
      have z : sz ((s, f) :: t) = s.flat.length + sz t := sz_cons _ _
      have fp := flat_pos s
      have hs : s.Ok := hok.hd
      have tl := cut_tail (nd (s, f) :: t.map nd)
      rw [List.tail_cons] at tl
      have hne := nds_neL (s, f) t
      have stop : ∀ w : Str, s.w = w → decide (("set" : Str) = w) = false → decide (("need" : Str) = w) = false → decide (("if" : Str) = w) = false → ∃ e, (whlT ⟨ioOf T, callF T (k + 5)⟩ loops none t33_0 l33_0 (m + (n + 1) + 1) [.val (.tuple (((s, f) :: t).map nd)), .val (gD g), s2, s3] >>= thenB ⟨ioOf T, callF T (k + 5)⟩ loops none m33_1) = .ok (e, .rt (.val (thrD (some ((s, f) :: t), g)))) := fun w hw w1 w2 w3 => by
        have hd : ∃ r, nd (s, f) = .tuple (.str w :: r) := by
          subst hw
          cases s <;> exact ⟨_, rfl⟩
        obtain ⟨r, hd⟩ := hd
        have hc : evalE ⟨ioOf T, callF T (k + 5)⟩ t33_0 [.val (.tuple (((s, f) :: t).map nd)), .val (gD g), s2, s3] = .ok (.val (.bool false), [.val (.tuple (((s, f) :: t).map nd)), .val (gD g), s2, s3]) := by
          rw [hd] at hne
          simp! [t33_0, hd, hne, item0, in_3, w1, w2, w3]
        rw [whl_end hc]
        refine ⟨[.val (.tuple (((s, f) :: t).map nd)), .val (gD g), s2, s3], ?_⟩
        simp! [m33_1, thrD]
      have e9 : m + (n + 1) + 1 = (m + n + 1) + 1 := rfl
      cases s with
      | set r e =>
        obtain ⟨e', ih⟩ := ih t (g.set r.toNat (worth e g)) (.val (nd (.set r e, f))) (.val (.int (worth e g))) (by omega) (by omega) hok.tl (hg.set _ (hs.2.w hg))
        refine ⟨e', ?_⟩
        have q1 := lworth4 k e g hs.2 hg
        obtain ⟨z1, z2, e2⟩ := put_facts (g.map .int) r (.int (worth e g)) hs.1.1 (by rw [List.length_map, hg.len]; have := hs.1.2; omega) (by rw [List.length_map, hg.len]; omega)
        rw [← List.map_set] at e2
        have hc : evalE ⟨ioOf T, callF T (k + 5)⟩ t33_0 [.val (.tuple (((.set r e, f) :: t).map nd)), .val (gD g), s2, s3] = .ok (.val (.bool true), [.val (.tuple (((.set r e, f) :: t).map nd)), .val (gD g), s2, s3]) := by
          simp only [nd, St.nu, St.d] at hne
          simp! [t33_0, nd, St.nu, St.d, hne, item0, in_3]
        have hb : execB ⟨ioOf T, callF T (k + 5)⟩ loops none l33_0 [.val (.tuple (((.set r e, f) :: t).map nd)), .val (gD g), s2, s3] = .ok ([.val (.tuple (t.map nd)), .val (gD (g.set r.toNat (worth e g))), .val (nd (.set r e, f)), .val (.int (worth e g))], .nx) := by
          simp only [nd, St.nu, St.d] at tl
          simp only [gD] at q1
          simp! [l33_0, l33_0_1, l33_0_2, l33_0_3, nd, St.nu, St.d, item0, item1, item2, eq_str, gD, q1, tl, z1, z2, e2, List.length_append]
        rw [e9, whl_step hc hb, loopK_nx, ih]
        rfl
      | need e =>
        have q1 := lworth4 k e g hs hg
        have hc : evalE ⟨ioOf T, callF T (k + 5)⟩ t33_0 [.val (.tuple (((.need e, f) :: t).map nd)), .val (gD g), s2, s3] = .ok (.val (.bool true), [.val (.tuple (((.need e, f) :: t).map nd)), .val (gD g), s2, s3]) := by
          simp only [nd, St.nu, St.d] at hne
          simp! [t33_0, nd, St.nu, St.d, hne, item0, in_3]
        cases hq : decide (worth e g = 0) with
        | true =>
          have hb : execB ⟨ioOf T, callF T (k + 5)⟩ loops none l33_0 [.val (.tuple (((.need e, f) :: t).map nd)), .val (gD g), s2, s3] = .ok ([.val (.tuple (((.need e, f) :: t).map nd)), .val (gD g), .val (nd (.need e, f)), .val (.int (worth e g))], .rt (.val (.tuple [.none, gD g]))) := by
            simp! [l33_0, l33_0_1, l33_0_2, l33_0_3, nd, St.nu, St.d, item0, item1, item2, eq_str, eq_int, q1, hq]
          rw [e9, whl_step hc hb, loopK_rt]
          refine ⟨[.val (.tuple (((.need e, f) :: t).map nd)), .val (gD g), .val (nd (.need e, f)), .val (.int (worth e g))], ?_⟩
          simp only [ok_bind, thenB_rt, settleF, hq, if_true, thrD]
        | false =>
          obtain ⟨e', ih⟩ := ih t g (.val (nd (.need e, f))) (.val (.int (worth e g))) (by omega) (by omega) hok.tl hg
          refine ⟨e', ?_⟩
          have hb : execB ⟨ioOf T, callF T (k + 5)⟩ loops none l33_0 [.val (.tuple (((.need e, f) :: t).map nd)), .val (gD g), s2, s3] = .ok ([.val (.tuple (t.map nd)), .val (gD g), .val (nd (.need e, f)), .val (.int (worth e g))], .nx) := by
            simp only [nd, St.nu, St.d] at tl
            simp! [l33_0, l33_0_1, l33_0_2, l33_0_3, nd, St.nu, St.d, item0, item1, item2, eq_str, eq_int, q1, hq, tl]
          rw [e9, whl_step hc hb, loopK_nx, ih]
          simp only [settleF, hq, Bool.false_eq_true, if_false]
      | ifs e y q =>
        obtain ⟨he, hy, hq2, ly, lq⟩ := hs
        have q1 := lworth4 k e g he hg
        have zi := sz_if e y q f t (decide (worth e g = 0))
        have tlen := sz_len t
        have hc : evalE ⟨ioOf T, callF T (k + 5)⟩ t33_0 [.val (.tuple (((.ifs e y q, f) :: t).map nd)), .val (gD g), s2, s3] = .ok (.val (.bool true), [.val (.tuple (((.ifs e y q, f) :: t).map nd)), .val (gD g), s2, s3]) := by
          simp only [nd, St.nu, St.d] at hne
          simp! [t33_0, nd, St.nu, St.d, hne, item0, in_3]
        obtain ⟨e', ih⟩ := ih ((if decide (worth e g = 0) = true then Bk.nl q (Bk.nu y f).2 else Bk.nl y f) ++ t) g (.val (nd (.ifs e y q, f))) (.val (.int (worth e g))) (by omega) (by omega) (restOk.cat (by split; exact nl_ok _ _ hq2; exact nl_ok _ _ hy) hok.tl) hg
        refine ⟨e', ?_⟩
        have hb : execB ⟨ioOf T, callF T (k + 5)⟩ loops none l33_0 [.val (.tuple (((.ifs e y q, f) :: t).map nd)), .val (gD g), s2, s3] = .ok ([.val (.tuple (((if decide (worth e g = 0) = true then Bk.nl q (Bk.nu y f).2 else Bk.nl y f) ++ t).map nd)), .val (gD g), .val (nd (.ifs e y q, f)), .val (.int (worth e g))], .nx) := by
          simp only [nd, St.nu, St.d] at tl
          cases hq : decide (worth e g = 0) with
          | true =>
            have lz : (Bk.nu q (Bk.nu y f).2).1.length + t.length ≤ big := by
              refine small _ ?_
              rw [← nl_nd, List.length_map]
              have := sz_len (Bk.nl q (Bk.nu y f).2)
              rw [nl_sz] at this
              have : (St.ifs e y q).flat.length = 1 + (y.flat.length + q.flat.length) := by simp [St.flat]; omega
              omega
            simp! [l33_0, l33_0_1, l33_0_2, l33_0_3, nd, St.nu, St.d, item0, item1, item2, item3, eq_str, neq_int, q1, hq, tl, List.map_append, nl_nd, List.length_map, lz]
          | false =>
            have lz : (Bk.nu y f).1.length + t.length ≤ big := by
              refine small _ ?_
              rw [← nl_nd, List.length_map]
              have := sz_len (Bk.nl y f)
              rw [nl_sz] at this
              have : (St.ifs e y q).flat.length = 1 + (y.flat.length + q.flat.length) := by simp [St.flat]; omega
              omega
            simp! [l33_0, l33_0_1, l33_0_2, l33_0_3, nd, St.nu, St.d, item0, item1, item2, item3, eq_str, neq_int, q1, hq, tl, List.map_append, nl_nd, List.length_map, lz]
        rw [e9, whl_step hc hb, loopK_nx, ih]
        simp only [settleF]
      | xch w r c e =>
        rcases hs.1 with rfl | rfl
        · exact stop "swap" rfl (by simp! [eq_self]) (by simp! [eq_self]) (by simp! [eq_self])
        · exact stop "add" rfl (by simp! [eq_self]) (by simp! [eq_self]) (by simp! [eq_self])
      | fence => exact stop "fence" rfl (by simp! [eq_self]) (by simp! [eq_self]) (by simp! [eq_self])
      | wr c m e => exact stop "write" rfl (by simp! [eq_self]) (by simp! [eq_self]) (by simp! [eq_self])
      | rd r c m => exact stop "read" rfl (by simp! [eq_self]) (by simp! [eq_self]) (by simp! [eq_self])
      | tr r c a b => exact stop "try" rfl (by simp! [eq_self]) (by simp! [eq_self]) (by simp! [eq_self])
theorem law_settled (k : Nat) (l : Rest) (g : List Int) (h : sz l ≤ 400) (hok : restOk l) (hg : gOk g) : callF T (k + 6) 33 [.val (.tuple (l.map nd)), .val (gD g)] = .ok (.val (thrD (settle l g)), .emp) := by
  have hl : loops = (999599 + 400) + 1 := rfl
  obtain ⟨e, q⟩ := law_settled_loop k 999599 400 l g .emp .emp h (Nat.le_refl _) hok hg
  rw [← hl, settle_of g h] at q
  rw [ev_call (fd := f33) rfl rfl]
  simp! [f33, m33, q]
theorem lbegun_all (k : Nat) (v : Mi.Slot) : ∀ (bs : List Bk) (f : Int), (∀ b ∈ bs, BkFit b) → lcL (turn1 ⟨ioOf T, callF T (k + 6)⟩ (.nm 1) [1] .nop ce14_0) (prNu bs f) [v, .emp] = .ok ((begun.go bs f).map thrD, [v, .emp])
  | [], f, _ => rfl
  | b :: r, f, h => by
    have hb := h b List.mem_cons_self
    have q := law_settled k (Bk.nl b f) [0, 0, 0] (by rw [nl_sz]; have := hb.all; omega) (nl_ok b f hb.ok) g0
    have ih := lbegun_all k v r (Bk.nu b f).2 fun c hc => h c (List.mem_cons_of_mem _ hc)
    simp only [gD, List.map_cons, List.map_nil, nl_nd] at q
    simp only [prNu, begun.go, List.map_cons]
    rw [lc_cons, ev_turn1]
    simp only [ce14_0] at ih
    simp! [ce14_0, q, ih]
theorem law_begun (k : Nat) (bs : List Bk) (h : PrOk bs) : callF T (k + 7) 14 [.val (.tuple (bs.map tup))] = .ok (.val (.tuple ((begun bs).map thrD)), .emp) := by
  have q1 := law_threads (k + 1) bs h
  have q2 := lbegun_all k (.val (.tuple (bs.map tup))) bs 0 h.fit
  rw [ev_call (fd := f14) rfl rfl]
  simp! [f14, m14, q1, q2]
  rfl
theorem law_cell (k : Nat) (s : St) (h : s.Ok) (ha : s.acc = true) (f : Int) : callF T (k + 1) 31 [.val (nd (s, f))] = .ok (.val (.int s.cl), .emp) := by
  rw [ev_call (fd := f31) rfl rfl]
  cases s with
  | xch w r c e => rcases h.1 with rfl | rfl <;> simp! [f31, m31, nd, St.nu, item0, item1, item2, eq_str, St.cl]
  | wr c m e => simp! [f31, m31, nd, St.nu, item0, item1, item2, eq_str, St.cl]
  | rd r c m => simp! [f31, m31, nd, St.nu, item0, item1, item2, eq_str, St.cl]
  | tr r c a b => simp! [f31, m31, nd, St.nu, item0, item1, item2, eq_str, St.cl]
  | _ => cases ha
theorem nd_w (s : St) (f : Int) : ∃ r, nd (s, f) = .tuple (.str s.w :: r) := by
  cases s <;> exact ⟨_, rfl⟩
theorem w_write (s : St) (h : s.Ok) : decide (s.w = ("write" : Str)) = match s with | .wr _ _ _ => true | _ => false := by
  cases s with
  | xch w r c e => rcases h.1 with rfl | rfl <;> simp! [St.w]
  | _ => simp! [St.w]
theorem law_is_acc_nd (k : Nat) (s : St) (h : s.Ok) (f : Int) : callF T (k + 1) 29 [.val (nd (s, f))] = .ok (.val (.bool s.acc), .emp) := by
  obtain ⟨r, hd⟩ := nd_w s f
  have q := law_acc_of k s h
  rw [St.d_w, law_is_access] at q
  rw [hd, law_is_access]
  exact q
theorem law_written (k : Nat) (s : St) (h : s.Ok) (ha : s.acc = true) (f : Int) (g : List Int) (hg : gOk g) (v : Int) : callF T (k + 6) 34 [.val (nd (s, f)), .val (gD g), .val (readD s v)] = .ok (.val (optD (written s g v)), .emp) := by
  have p16 : (0 : Int) < 16 := by decide
  rw [ev_call (fd := f34) rfl rfl]
  cases s with
  | xch w r c e =>
    have q := lworth4 k e g h.2.2.2 hg
    rcases h.1 with rfl | rfl <;> simp! [f34, m34_4, m34_3, m34_2, m34_1, m34, nd, St.nu, item0, item3, eq_str, in_2, readD, St.reads, q, written, optD, b_mod, p16]
  | wr c m e =>
    have q := lworth4 k e g h.2.2 hg
    simp! [f34, m34_4, m34_3, m34_2, m34_1, m34, nd, St.nu, item0, item3, eq_str, in_2, readD, St.reads, q, written, optD]
  | rd r c m => simp! [f34, m34_4, m34_3, m34_2, m34_1, m34, nd, St.nu, item0, item3, eq_str, in_2, readD, St.reads, written, optD]
  | tr r c a b =>
    have q1 := lworth4 k a g h.2.2.1 hg
    have q2 := lworth4 k b g h.2.2.2 hg
    have i4 : ∀ (a b c d e : PyData) (r : List PyData), itemAt (a :: b :: c :: d :: e :: r) 4 = .ok e := fun a b c d e r => item_nat 4 rfl
    cases hq : decide (v = worth a g) <;> simp! [f34, m34_4, m34_3, m34_2, m34_1, m34, nd, St.nu, item0, item3, i4, eq_str, in_2, eq_int, readD, St.reads, q1, q2, hq, written, optD]
  | _ => cases ha
theorem neq_write (s : St) (h : s.Ok) (ha : s.acc = true) : cmp2 .NotEq (.str s.w) (.str "write") = .ok s.reads := by
  rw [ne_str, w_write s h]
  cases s <;> first | rfl | cases ha
theorem law_behind (k : Nat) (s : St) (f : Int) (t : Rest) (h : restOk ((s, f) :: t)) (hz : sz ((s, f) :: t) ≤ 400) (g : List Int) (hg : gOk g) (v : Int) (hv : vOk v) : callF T (k + 7) 35 [.val (.tuple (((s, f) :: t).map nd)), .val (gD g), .val (readD s v)] = .ok (.val (thrD (behind s t g v)), .emp) := by
  have z : sz ((s, f) :: t) = s.flat.length + sz t := sz_cons _ _
  have tl := cut_tail (nd (s, f) :: t.map nd)
  rw [List.tail_cons] at tl
  have q1 := law_is_acc_nd (k + 5) s h.hd f
  rw [ev_call (fd := f35) rfl rfl]
  simp only [behind]
  cases hr : s.reads with
  | false =>
    have q4 := law_settled k t g (by omega) h.tl hg
    cases ha : s.acc with
    | false => simp! [f35, m35_2, m35_1, m35, item0, q1, ha, tl, q4]
    | true =>
      have q2 := neq_write s h.hd ha
      obtain ⟨r, hd⟩ := nd_w s f
      rw [hd] at q1 tl
      simp! [f35, m35_2, m35_1, m35, item0, hd, q1, ha, q2, hr, tl, q4]
  | true =>
    have q4 := law_settled k t (g.set s.rg.toNat v) (by omega) h.tl (hg.set _ hv)
    have ha : s.acc = true := by cases s <;> first | rfl | cases hr
    have q2 := neq_write s h.hd ha
    have hrg : rOk s.rg := by
      have := h.hd
      cases s with
      | rd r c m => exact this.1
      | xch w r c e => exact this.2.1
      | tr r c a b => exact this.1
      | _ => cases hr
    obtain ⟨z1, z2, e2⟩ := put_facts (g.map .int) s.rg (.int v) hrg.1 (by rw [List.length_map, hg.len]; have := hrg.2; omega) (by rw [List.length_map, hg.len]; omega)
    rw [← List.map_set] at e2
    have hi : ∃ r, nd (s, f) = .tuple (.str s.w :: .int s.rg :: r) := by
      cases s <;> first | exact ⟨_, rfl⟩ | cases hr
    obtain ⟨r, hi⟩ := hi
    rw [hi] at q1 tl
    simp only [gD] at q4
    simp! [f35, m35_2, m35_1, m35, item0, item1, hi, q1, ha, q2, hr, readD, gD, z1, z2, e2, List.length_append, tl, q4]
/-- the next access or fence as data -/
def ndO : Option (St × Int) → PyData
  | some p => nd p
  | none => .none
theorem law_next (k : Nat) (x : Sta) (i : Nat) (hi : i < x.1.length) : callF T (k + 1) 16 [.val (staD x), .val (.int (i : Int))] = .ok (.val (ndO (nextOf x i)), .emp) := by
  have e : x.1[i]? = some x.1[i] := List.getElem?_eq_getElem hi
  have q : itemAt (x.1.map thrD) (i : Int) = .ok (thrD x.1[i]) := item_nat i (by rw [List.getElem?_map, e]; rfl)
  unfold nextOf
  rw [e]
  cases hx : x.1[i] with
  | mk o g =>
    rw [hx] at q
    have n1 : cmp2 .IsNot .none .none = .ok false := rfl
    have n2 : ∀ l : List PyData, cmp2 .IsNot (.tuple l) .none = .ok true := fun l => rfl
    rw [ev_call (fd := f16) rfl rfl]
    cases o with
    | none => simp! [f16, m16_1, m16, staD, item0, q, thrD, n1, ndO]
    | some l =>
      cases l with
      | nil =>
        have hne : cmp2 .NotEq (.tuple []) (.tuple []) = .ok false := ne_unit rfl
        simp! [f16, m16_1, m16, staD, item0, q, thrD, n2, hne, ndO]
      | cons p t => simp! [f16, m16_1, m16, staD, item0, q, thrD, n2, nds_neL p t, ndO]
theorem set_at0 (g : List Int) (c : Int) : g.set c.toNat (at0 g c) = g := by
  unfold at0
  apply List.ext_getElem?
  intro j
  rw [List.getElem?_set]
  split
  · rename_i h
    subst h
    split
    · rename_i h
      rw [List.getElem?_eq_getElem h]
      rfl
    · rename_i h
      rw [List.getElem?_eq_none (by omega)]
  · rfl
theorem law_stepped (k : Nat) (x : Sta) (i : Nat) (hx : staOk 400 x) (s : St) (f : Int) (t : Rest) (g : List Int) (e : x.1[i]? = some (some ((s, f) :: t), g)) : callF T (k + 8) 15 [.val (staD x), .val (.int (i : Int))] = .ok (.val (staD (stepped x i)), .emp) := by
  have hi : i < x.1.length := by
    rcases Nat.lt_or_ge i x.1.length with h | h
    · exact h
    · rw [List.getElem?_eq_none h] at e
      cases e
  have h1 := hx.ths _ (List.mem_of_getElem? e)
  have h2 := h1.rest _ rfl
  have hs : s.Ok := h2.1.hd
  have q : itemAt (x.1.map thrD) (i : Int) = .ok (.tuple [.tuple (((s, f) :: t).map nd), gD g]) := item_nat i (by rw [List.getElem?_map, e]; rfl)
  have hlen := hx.len
  have hv := at0_ok hx.mem.val s.cl
  obtain ⟨z1, z2, e1⟩ := put_facts (x.1.map thrD) (i : Int) (thrD (behind s t g (at0 x.2 s.cl))) (by omega) (by rw [List.length_map]; omega) (by rw [List.length_map]; omega)
  rw [Int.toNat_natCast, ← List.map_set] at e1
  have b := law_behind k s f t h2.1 h2.2 g h1.reg (at0 x.2 s.cl) hv
  have qa := law_is_acc_nd (k + 6) s hs f
  have hst : stepped x i = (x.1.set i (behind s t g (at0 x.2 s.cl)), if s.acc = true then match written s g (at0 x.2 s.cl) with | some v => x.2.set s.cl.toNat v | none => x.2 else x.2) := by
    unfold stepped
    (rw [e]) <;> rfl
  rw [hst]
  simp only [List.map_cons] at b q
  rw [ev_call (fd := f15) rfl rfl]
  cases ha : s.acc with
  | false =>
    have hr : readD s (at0 x.2 s.cl) = .none := by cases s <;> first | rfl | cases ha
    rw [hr] at b
    simp! [f15, m15_4, m15_3, m15_2, m15_1, m15, staD, q, item0, List.map_cons, qa, ha, b, z1, z2, e1, List.length_append]
  | true =>
    have qc := law_cell (k + 6) s hs ha f
    have qr := neq_write s hs ha
    obtain ⟨r, hd⟩ := nd_w s f
    have hc : cOk s.cl := by
      cases s with
      | wr c m e => exact hs.1
      | rd r c m => exact hs.2.1
      | xch w r c e => exact hs.2.2.1
      | tr r c a b => exact hs.2.1
      | _ => cases ha
    have hc2 : s.cl < (x.2.length : Int) := by
      rw [hx.mem.len]
      have := hc.2
      omega
    have qm := item_gD x.2 s.cl hc.1 hc2
    have qw := law_written (k + 1) s hs ha f g h1.reg (at0 x.2 s.cl)
    have n1 : cmp2 .Is .none .none = .ok true := rfl
    have n2 : ∀ v : Int, cmp2 .Is (.int v) .none = .ok false := fun v => rfl
    rw [hd] at q b qa qc qw
    simp only [gD] at q b qw
    cases hw : written s g (at0 x.2 s.cl) with
    | none =>
      rw [hw] at qw
      obtain ⟨y1, y2, e2⟩ := put_facts (x.2.map .int) s.cl (.int (at0 x.2 s.cl)) hc.1 (by rw [List.length_map]; exact hc2) (by rw [List.length_map, hx.mem.len]; omega)
      rw [← List.map_set, set_at0] at e2
      cases hr : s.reads with
      | true =>
        simp only [readD, hr, if_true, optD] at b qw
        simp! [f15, m15_4, m15_3, m15_2, m15_1, m15, staD, q, item0, List.map_cons, qa, ha, qc, qr, hr, gD, qm, qw, n1, b, z1, z2, e1, y1, y2, e2, List.length_append]
      | false =>
        simp only [readD, hr, Bool.false_eq_true, if_false, optD] at b qw
        simp! [f15, m15_4, m15_3, m15_2, m15_1, m15, staD, q, item0, List.map_cons, qa, ha, qc, qr, hr, gD, qm, qw, n1, b, z1, z2, e1, y1, y2, e2, List.length_append]
    | some v =>
      rw [hw] at qw
      obtain ⟨y1, y2, e2⟩ := put_facts (x.2.map .int) s.cl (.int v) hc.1 (by rw [List.length_map]; exact hc2) (by rw [List.length_map, hx.mem.len]; omega)
      rw [← List.map_set] at e2
      cases hr : s.reads with
      | true =>
        simp only [readD, hr, if_true, optD] at b qw
        simp! [f15, m15_4, m15_3, m15_2, m15_1, m15, staD, q, item0, List.map_cons, qa, ha, qc, qr, hr, gD, qm, qw, n2, b, z1, z2, e1, y1, y2, e2, List.length_append]
      | false =>
        simp only [readD, hr, Bool.false_eq_true, if_false, optD] at b qw
        simp! [f15, m15_4, m15_3, m15_2, m15_1, m15, staD, q, item0, List.map_cons, qa, ha, qc, qr, hr, gD, qm, qw, n2, b, z1, z2, e1, y1, y2, e2, List.length_append]
end
end K48

set_option Elab.async false
set_option linter.all false
set_option maxRecDepth 100000
set_option maxHeartbeats 4000000
namespace K48
open PySem Mi
section
local macro_rules
  | `(tactic| simp! [$xs,*] $[$loc]?) => `(tactic| simp -implicitDefEqProofs only [$xs,*, ev_var, ev_and, ev_or, ev_chn, ev_ite, ev_iff, ev_while, ev_for, ev_forN, ev_lc, ev_lc2, ev_cons, ev_nil, ev_cst, ev_gbl, ev_tup, ev_lst, ev_sub, ev_slc, ev_op2, ev_neg, ev_not, ev_cmp, ev_callE, ev_blt, ev_isi, ev_trg, ev_app, ev_pop, ev_nilA, ev_consA, ev_nilF, ev_consF, ev_nilM, ev_consM, ev_seq, ev_rng1, ev_enm, ev_zip, ev_asg, ev_par, ev_exp, ev_aug, ev_sti, ev_popAt, someS_lst, someS_val, onS_lst, ev_ret, ev_rse, ok_bind, exn_bind, stk_bind, pure_ok, varR_val, varR_lst, seeB_val, see_val, see_lst, see_slot, slotSee_lst, slotSee_val, frz_val', frz_lst', frz_slot, slotFrz_lst, slotFrz_val, bool1_bool, int1_int, optInt_no, optInt_yes, ME.isNop, onL_lst, settle_val, settle_lst, settle_slot, mv_val, mv_lst, mv_slot, thenB_nx, thenB_rt, thenB_bk, thenB_ct, loopK_nx, loopK_ct, loopK_bk, loopK_rt, endF_rt, endF_nx, ioS_no, ioS_lst, retA_val, retA_lst, retA_slot, call_no, call_io, args_nil, args_cons, seeAll_nil, seeAll_cons, ite_and, ite_or, Mi.get, put, fill, Slot.own, seqOf_list, seqOf_tuple, sub_tup, sub_lst, b_add, b_addb, b_sub, b_addt, b_addl, s_tup, s_lst, i_int, i_intb, i_intt, i_ints, i_bool, i_booli, i_boolt, i_str, i_stri, i_strt, i_tup, i_tupi, i_tups, i_lst, i_lstt, i_lsti, i_lsts, i_non, f_lenl, f_lent, f_int, f_intb, f_listl, f_listt, f_lists, f_tupl, f_tupt, f_all, f_any, a_lst, a_int, asg_v, asg_l, asg_t, asgs_nil, asgs_cons, put_nm, put_tp, puts_nil, puts_cons, c_lt, c_le, c_gt, c_ge, List.map_cons, List.map_nil, List.length_cons, List.length_nil, List.replicate, List.append_nil, List.cons_append, List.nil_append, if_true, if_false, Bool.false_eq_true, Bool.not_false, Bool.not_true, Nat.reduceAdd, Nat.reduceSub, Nat.reduceLT, ev_turn1, ev_turn2, ev_condN, lc_nil, lc_cons, lc2_nil, lc2_cons, optC_some, optC_none, frzR_eq, noX_ok, wipeE, backE, noOwn, List.all_cons, List.all_nil, str_eq, String.reduceEq, eq_self, Int.cast_ofNat_Int, Int.reduceLE, Int.reduceLT, Int.reduceSub, Int.reduceAdd, Int.reduceEq, Int.natCast_add, Int.reduceNeg, Int.natCast_zero, decide_true, decide_false, Bool.and_true, Bool.and_false, Bool.true_and, Bool.false_and, Bool.or_false, Bool.false_or, Bool.or_true, Bool.true_or, Bool.and_self, Bool.not_eq_true, not_true_eq_false, not_false_eq_true, and_self, and_true, true_and, and_false, false_and, reduceIte, io0, io1, io2, io3, io4, io5, io6, io7, io8, io9, io10, io11, io12, io13, io14, io15, io16, io17, io18, io19, io20, io21, io22, io23, io24, io25, io26, io27, io28, io29, io30, io31, io32, io33, io34, io35, io36, io37, io38, io39, io40, io41, io42, io43, io44, io45, io46, io47, io48, io49, io50, io51, io52, io53, io54, io55, io56, io57, io58, io59, io60, io61, io62, io63, io64, io65] $[$loc]?)
/-! pairs that meet: typed, and by the program -/
def ownOf (x : Sta) (i : Nat) : Option (St × Int) := match nextOf x i with
  | some p => if p.1.acc = true then some p else none
  | none => none
def wouldW (x : Sta) (i : Nat) : Bool := match x.1[i]? with
  | some (some ((s, _) :: _), g) => (written s g (at0 x.2 s.cl)).isSome
  | _ => false
def meet (x : Sta) (j i : Nat) : List (Int × Int) := match ownOf x j, ownOf x i with
  | some p, some q => if decide (p.1.cl = q.1.cl) = true then (if (wouldW x j || wouldW x i) = true then [(p.2, q.2)] else []) else []
  | _, _ => []
def pairsTo (x : Sta) (i : Nat) : List Nat → List (Int × Int) := fun js => js.flatMap fun j => meet x j i
def pairs (x : Sta) : List (Int × Int) := (List.range x.1.length).flatMap fun i => pairsTo x i (List.range i)
def pD (p : Int × Int) : PyData := .tuple [.int p.1, .int p.2]
theorem nextOf_some {x : Sta} {i : Nat} {p : St × Int} (h : nextOf x i = some p) : ∃ t g, x.1[i]? = some (some (p :: t), g) := by
  unfold nextOf at h
  split at h
  · rename_i q t g e
    cases h
    exact ⟨t, g, e⟩
  · cases h
theorem ownOf_some {x : Sta} {i : Nat} {p : St × Int} (h : ownOf x i = some p) : nextOf x i = some p ∧ p.1.acc = true := by
  unfold ownOf at h
  split at h
  · split at h
    · rename_i q e a
      cases h
      exact ⟨e, a⟩
    · cases h
  · cases h
theorem next_ok {n : Nat} {x : Sta} (hx : staOk n x) {i : Nat} {p : St × Int} (h : nextOf x i = some p) : p.1.Ok := by
  obtain ⟨t, g, e⟩ := nextOf_some h
  exact ((hx.ths _ (List.mem_of_getElem? e)).rest _ rfl).1.hd
theorem next_access (k : Nat) (x : Sta) (i : Nat) (hx : staOk 400 x) (hi : i < x.1.length) : callF T (k + 2) 46 [.val (staD x), .val (.int (i : Int))] = .ok (.val (ndO (ownOf x i)), .emp) := by
  have q1 := can_step k x i hi
  rw [ev_call (fd := f46) rfl rfl]
  cases h : nextOf x i with
  | none =>
    rw [h] at q1
    simp! [f46, m46_1, m46, q1, Option.isSome_none, ownOf, h, ndO]
  | some p =>
    obtain ⟨t, g, e⟩ := nextOf_some h
    have q2 : itemAt (x.1.map thrD) (i : Int) = .ok (.tuple [.tuple (nd p :: t.map nd), gD g]) := item_nat i (by rw [List.getElem?_map, e]; rfl)
    have q3 := is_acc_nd k p.1 (next_ok hx h) p.2
    rw [h] at q1
    cases ha : p.1.acc with
    | true =>
      rw [ha] at q3
      simp only [staD] at q1
      simp! [f46, m46_1, m46, staD, q1, Option.isSome_some, item0, q2, q3, ownOf, h, ha, ndO]
    | false =>
      rw [ha] at q3
      simp only [staD] at q1
      simp! [f46, m46_1, m46, staD, q1, Option.isSome_some, item0, q2, q3, ownOf, h, ha, ndO]
theorem optD_not (o : Option Int) : cmp2 .IsNot (optD o) .none = .ok o.isSome := by cases o <;> rfl
theorem would_write (k : Nat) (x : Sta) (i : Nat) (hx : staOk 400 x) {p : St × Int} (h : ownOf x i = some p) : callF T (k + 7) 47 [.val (staD x), .val (.int (i : Int))] = .ok (.val (.bool (wouldW x i)), .emp) := by
  obtain ⟨h1, ha⟩ := ownOf_some h
  have hs := next_ok hx h1
  obtain ⟨t, g, e⟩ := nextOf_some h1
  have q2 : itemAt (x.1.map thrD) (i : Int) = .ok (.tuple [.tuple (nd p :: t.map nd), gD g]) := item_nat i (by rw [List.getElem?_map, e]; rfl)
  have hg := (hx.ths _ (List.mem_of_getElem? e)).reg
  have qr := can_read (k + 5) p.1 hs ha p.2
  have qc := cell_of (k + 5) p.1 hs ha p.2
  have qw := written_by k p.1 hs ha p.2 g hg (at0 x.2 p.1.cl)
  have hw : wouldW x i = (written p.1 g (at0 x.2 p.1.cl)).isSome := by
    unfold wouldW
    rw [e]
  have hc : cOk p.1.cl := by
    obtain ⟨s, f⟩ := p
    cases s with
    | wr c m e => exact hs.1
    | rd r c m => exact hs.2.1
    | xch w r c e => exact hs.2.2.1
    | tr r c a b => exact hs.2.1
    | _ => cases ha
  have qm := item_gD x.2 p.1.cl hc.1 (by rw [hx.mem.len]; have := hc.2; omega)
  simp only [gD] at q2 qw
  rw [hw, ev_call (fd := f47) rfl rfl]
  cases hr : p.1.reads with
  | true =>
    simp only [readD, hr, if_true] at qw
    simp! [f47, m47_2, m47_1, m47, staD, gD, item0, item1, q2, qr, hr, qc, qm, qw, optD_not]
  | false =>
    simp only [readD, hr, Bool.false_eq_true, if_false] at qw
    simp! [f47, m47_2, m47_1, m47, staD, gD, item0, item1, q2, qr, hr, qc, qm, qw, optD_not]
theorem last_nd (p : St × Int) (h : p.1.acc = true) : ∃ ds : List PyData, nd p = .tuple ds ∧ itemAt ds (-1) = .ok (.int p.2) ∧ ds.length ≤ 6 := by
  obtain ⟨s, f⟩ := p
  cases s <;> first | exact ⟨_, rfl, rfl, by simp⟩ | cases h
theorem meet_le (x : Sta) (j i : Nat) : (meet x j i).length ≤ 1 := by
  unfold meet
  split
  · split
    · split <;> simp
    · simp
  · simp
theorem pairsTo_le (x : Sta) (i : Nat) : ∀ js : List Nat, (pairsTo x i js).length ≤ js.length
  | [] => Nat.le_refl _
  | j :: r => by
    have h1 := meet_le x j i
    have h2 := pairsTo_le x i r
    simp only [pairsTo, List.flatMap_cons, List.length_append, List.length_cons] at h2 ⊢
    omega
theorem rng_nat (n : Nat) (h : n ≤ 1000) : rng 0 (n : Int) = .ok ((List.range n).map nat) := by
  have e : ((n : Int) - 0).toNat = n := by omega
  have c : -(2 ^ 62) ≤ (0 : Int) ∧ (0 : Int) < 2 ^ 62 ∧ -(2 ^ 62) ≤ (n : Int) ∧ (n : Int) < 2 ^ 62 ∧ ((n : Int) - 0).toNat ≤ big := ⟨by decide, by decide, by omega, by omega, by rw [e]; exact small _ h⟩
  unfold rng
  rw [if_pos c, e]
  apply congrArg R.ok
  apply List.map_congr_left
  intro i _
  show PyData.int (0 + (i : Int)) = PyData.int (i : Int)
  rw [Int.zero_add]
theorem ndO_not (o : Option (St × Int)) : cmp2 .IsNot (ndO o) .none = .ok o.isSome := by
  cases o with
  | none => rfl
  | some p =>
    obtain ⟨r, e⟩ := nd_w p.1 p.2
    show cmp2 .IsNot (nd (p.1, p.2)) .none = .ok true
    rw [e]
    rfl
theorem pairs_turn (k : Nat) (x : Sta) (hx : staOk 400 x) (i j : Nat) (hi : i < x.1.length) (hj : j < x.1.length) (acc : List PyData) (hl : acc.length < 400) (s2 s5 : Mi.Slot) : ∃ s2' s5', execB ⟨ioOf T, callF T (k + 7)⟩ loops none l21_1 [.val (staD x), .lst acc, s2, .val (.int (j : Int)), .val (.int (i : Int)), s5] = .ok ([.val (staD x), .lst (acc ++ (meet x j i).map pD), s2', .val (.int (j : Int)), .val (.int (i : Int)), s5'], .nx) := by
  have q1 := next_access (k + 5) x j hx hj
  have q2 := next_access (k + 5) x i hx hi
  have c2 : acc.length < big := Nat.lt_of_lt_of_le (show acc.length < 1000 by omega) (by decide)
  refine ⟨.val (ndO (ownOf x j)), .val (ndO (ownOf x i)), ?_⟩
  have n1 := ndO_not (ownOf x j)
  have n2 := ndO_not (ownOf x i)
  have ht : execB ⟨ioOf T, callF T (k + 7)⟩ loops none l21_1_1 [.val (staD x), .lst acc, .val (ndO (ownOf x j)), .val (.int (j : Int)), .val (.int (i : Int)), .val (ndO (ownOf x i))] = .ok ([.val (staD x), .lst (acc ++ (meet x j i).map pD), .val (ndO (ownOf x j)), .val (.int (j : Int)), .val (.int (i : Int)), .val (ndO (ownOf x i))], .nx) := by
    cases hj' : ownOf x j with
    | none =>
      have hm : meet x j i = [] := by unfold meet; rw [hj']
      rw [hj'] at n1
      rw [hm]
      simp! [l21_1_1, n1, Option.isSome_none]
    | some p =>
      cases hi' : ownOf x i with
      | none =>
        have hm : meet x j i = [] := by unfold meet; rw [hj', hi']
        rw [hj'] at n1
        rw [hi'] at n2
        rw [hm]
        simp! [l21_1_1, n1, n2, Option.isSome_none, Option.isSome_some]
      | some q =>
        obtain ⟨a1, a2⟩ := ownOf_some hj'
        obtain ⟨b1, b2⟩ := ownOf_some hi'
        have c1 := cell_of (k + 6) p.1 (next_ok hx a1) a2 p.2
        have c3 := cell_of (k + 6) q.1 (next_ok hx b1) b2 q.2
        have w1 := would_write k x j hx hj'
        have w2 := would_write k x i hx hi'
        obtain ⟨d1, e1, f1, _⟩ := last_nd p a2
        obtain ⟨d2, e2, f2, _⟩ := last_nd q b2
        rw [hj'] at n1
        rw [hi'] at n2
        have hm : meet x j i = if decide (p.1.cl = q.1.cl) = true then (if (wouldW x j || wouldW x i) = true then [(p.2, q.2)] else []) else [] := by
          unfold meet
          rw [hj', hi']
        simp only [ndO] at n1 n2 ⊢
        rw [e1] at n1 c1
        rw [e2] at n2 c3
        rw [hm, e1, e2]
        cases hc : decide (p.1.cl = q.1.cl) with
        | false => simp! [l21_1_1, n1, n2, Option.isSome_some, c1, c3, eq_int, hc]
        | true =>
          cases hw1 : wouldW x j with
          | true =>
            rw [hw1] at w1
            simp! [l21_1_1, n1, n2, Option.isSome_some, c1, c3, eq_int, hc, w1, ev_neg, f1, f2, c2, pD]
          | false =>
            rw [hw1] at w1
            cases hw2 : wouldW x i with
            | true =>
              rw [hw2] at w2
              simp! [l21_1_1, n1, n2, Option.isSome_some, c1, c3, eq_int, hc, w1, w2, ev_neg, f1, f2, c2, pD]
            | false =>
              rw [hw2] at w2
              simp! [l21_1_1, n1, n2, Option.isSome_some, c1, c3, eq_int, hc, w1, w2]
  simp! [l21_1, q1, q2, ht]
theorem pairs_loop1 (k : Nat) (x : Sta) (hx : staOk 400 x) (i : Nat) (hi : i < x.1.length) : ∀ (js : List Nat), (∀ j ∈ js, j < x.1.length) → ∀ (acc : List PyData), acc.length + js.length ≤ 300 → ∀ (s2 s3 s5 : Mi.Slot), ∃ s2' s3' s5', forT ⟨ioOf T, callF T (k + 7)⟩ loops none (.nm 3) l21_1 (js.map nat) [.val (staD x), .lst acc, s2, s3, .val (.int (i : Int)), s5] = .ok ([.val (staD x), .lst (acc ++ (pairsTo x i js).map pD), s2', s3', .val (.int (i : Int)), s5'], .nx)
  | [], _, acc, _, s2, s3, s5 => ⟨s2, s3, s5, by simp only [List.map_nil, ev_forN, pairsTo, List.flatMap_nil, List.append_nil]⟩
  | j :: r, h, acc, hl, s2, s3, s5 => by
    simp only [List.length_cons] at hl
    obtain ⟨t2, t5, ht⟩ := pairs_turn k x hx i j hi (h j List.mem_cons_self) acc (by omega) s2 s5
    have := meet_le x j i
    obtain ⟨s2', s3', s5', g⟩ := pairs_loop1 k x hx i hi r (fun y hy => h y (List.mem_cons_of_mem _ hy)) (acc ++ (meet x j i).map pD) (by rw [List.length_append, List.length_map]; omega) t2 (.val (.int (j : Int))) t5
    refine ⟨s2', s3', s5', ?_⟩
    have hp : putT (.nm 3) (nat j) [.val (staD x), .lst acc, s2, s3, .val (.int (i : Int)), s5] = .ok [.val (staD x), .lst acc, s2, .val (.int (j : Int)), .val (.int (i : Int)), s5] := rfl
    rw [List.map_cons, for_step hp ht, loopK_nx, g]
    simp only [pairsTo, List.flatMap_cons, List.map_append, List.append_assoc]
theorem pairs_loop2 (k : Nat) (x : Sta) (hx : staOk 400 x) : ∀ (is : List Nat), (∀ i ∈ is, i < x.1.length) → ∀ (acc : List PyData), acc.length + 4 * is.length ≤ 200 → ∀ (s2 s3 s4 s5 : Mi.Slot), ∃ s2' s3' s4' s5', forT ⟨ioOf T, callF T (k + 7)⟩ loops none (.nm 4) l21_0 (is.map nat) [.val (staD x), .lst acc, s2, s3, s4, s5] = .ok ([.val (staD x), .lst (acc ++ (is.flatMap fun i => pairsTo x i (List.range i)).map pD), s2', s3', s4', s5'], .nx)
  | [], _, acc, _, s2, s3, s4, s5 => ⟨s2, s3, s4, s5, by simp only [List.map_nil, ev_forN, List.flatMap_nil, List.append_nil]⟩
  | i :: r, h, acc, hl, s2, s3, s4, s5 => by
    simp only [List.length_cons] at hl
    have hi := h i List.mem_cons_self
    have hlen := hx.len
    have hle := pairsTo_le x i (List.range i)
    rw [List.length_range] at hle
    obtain ⟨t2, t3, t5, ht⟩ := pairs_loop1 k x hx i hi (List.range i) (fun j hj => by have := List.mem_range.mp hj; omega) acc (by rw [List.length_range]; omega) s2 s3 s5
    obtain ⟨s2', s3', s4', s5', g⟩ := pairs_loop2 k x hx r (fun y hy => h y (List.mem_cons_of_mem _ hy)) (acc ++ (pairsTo x i (List.range i)).map pD) (by rw [List.length_append, List.length_map]; omega) t2 t3 (.val (.int (i : Int))) t5
    refine ⟨s2', s3', s4', s5', ?_⟩
    have hr := rng_nat i (by omega)
    have hp : putT (.nm 4) (nat i) [.val (staD x), .lst acc, s2, s3, s4, s5] = .ok [.val (staD x), .lst acc, s2, s3, .val (.int (i : Int)), s5] := rfl
    have hb : execB ⟨ioOf T, callF T (k + 7)⟩ loops none l21_0 [.val (staD x), .lst acc, s2, s3, .val (.int (i : Int)), s5] = .ok ([.val (staD x), .lst (acc ++ (pairsTo x i (List.range i)).map pD), t2, t3, .val (.int (i : Int)), t5], .nx) := by
      simp! [l21_0, hr, ht]
    rw [List.map_cons, for_step hp hb, loopK_nx, g]
    simp only [List.flatMap_cons, List.map_append, List.append_assoc]
theorem pairs_in (k : Nat) (x : Sta) (hx : staOk 400 x) : callF T (k + 8) 21 [.val (staD x)] = .ok (.lst ((pairs x).map pD), .emp) := by
  have hlen := hx.len
  have hr := rng_nat x.1.length (by omega)
  obtain ⟨s2, s3, s4, s5, g⟩ := pairs_loop2 k x hx (List.range x.1.length) (fun i hi => List.mem_range.mp hi) [] (by rw [List.length_range]; simp; omega) .emp .emp .emp .emp
  rw [List.nil_append] at g
  simp only [staD] at g
  rw [ev_call (fd := f21) rfl rfl]
  simp! [f21, m21, m21_1, m21_2, staD, item0, List.length_map, hr, g]
  rfl
end
end K48

set_option Elab.async false
set_option linter.all false
set_option maxRecDepth 100000
set_option maxHeartbeats 4000000
namespace K48
open PySem Mi
section
local macro_rules
  | `(tactic| simp! [$xs,*] $[$loc]?) => `(tactic| simp -implicitDefEqProofs only [$xs,*, ev_var, ev_and, ev_or, ev_chn, ev_ite, ev_iff, ev_while, ev_for, ev_forN, ev_lc, ev_lc2, ev_cons, ev_nil, ev_cst, ev_gbl, ev_tup, ev_lst, ev_sub, ev_slc, ev_op2, ev_neg, ev_not, ev_cmp, ev_callE, ev_blt, ev_isi, ev_trg, ev_app, ev_pop, ev_nilA, ev_consA, ev_nilF, ev_consF, ev_nilM, ev_consM, ev_seq, ev_rng1, ev_enm, ev_zip, ev_asg, ev_par, ev_exp, ev_aug, ev_sti, ev_popAt, someS_lst, someS_val, onS_lst, ev_ret, ev_rse, ok_bind, exn_bind, stk_bind, pure_ok, varR_val, varR_lst, seeB_val, see_val, see_lst, see_slot, slotSee_lst, slotSee_val, frz_val', frz_lst', frz_slot, slotFrz_lst, slotFrz_val, bool1_bool, int1_int, optInt_no, optInt_yes, ME.isNop, onL_lst, settle_val, settle_lst, settle_slot, mv_val, mv_lst, mv_slot, thenB_nx, thenB_rt, thenB_bk, thenB_ct, loopK_nx, loopK_ct, loopK_bk, loopK_rt, endF_rt, endF_nx, ioS_no, ioS_lst, retA_val, retA_lst, retA_slot, call_no, call_io, args_nil, args_cons, seeAll_nil, seeAll_cons, ite_and, ite_or, Mi.get, put, fill, Slot.own, seqOf_list, seqOf_tuple, sub_tup, sub_lst, b_add, b_addb, b_sub, b_addt, b_addl, s_tup, s_lst, i_int, i_intb, i_intt, i_ints, i_bool, i_booli, i_boolt, i_str, i_stri, i_strt, i_tup, i_tupi, i_tups, i_lst, i_lstt, i_lsti, i_lsts, i_non, f_lenl, f_lent, f_int, f_intb, f_listl, f_listt, f_lists, f_tupl, f_tupt, f_all, f_any, a_lst, a_int, asg_v, asg_l, asg_t, asgs_nil, asgs_cons, put_nm, put_tp, puts_nil, puts_cons, c_lt, c_le, c_gt, c_ge, List.map_cons, List.map_nil, List.length_cons, List.length_nil, List.replicate, List.append_nil, List.cons_append, List.nil_append, if_true, if_false, Bool.false_eq_true, Bool.not_false, Bool.not_true, Nat.reduceAdd, Nat.reduceSub, Nat.reduceLT, ev_turn1, ev_turn2, ev_condN, lc_nil, lc_cons, lc2_nil, lc2_cons, optC_some, optC_none, frzR_eq, noX_ok, wipeE, backE, noOwn, List.all_cons, List.all_nil, str_eq, String.reduceEq, eq_self, Int.cast_ofNat_Int, Int.reduceLE, Int.reduceLT, Int.reduceSub, Int.reduceAdd, Int.reduceEq, Int.natCast_add, Int.reduceNeg, Int.natCast_zero, decide_true, decide_false, Bool.and_true, Bool.and_false, Bool.true_and, Bool.false_and, Bool.or_false, Bool.false_or, Bool.or_true, Bool.true_or, Bool.and_self, Bool.not_eq_true, not_true_eq_false, not_false_eq_true, and_self, and_true, true_and, and_false, false_and, reduceIte, io0, io1, io2, io3, io4, io5, io6, io7, io8, io9, io10, io11, io12, io13, io14, io15, io16, io17, io18, io19, io20, io21, io22, io23, io24, io25, io26, io27, io28, io29, io30, io31, io32, io33, io34, io35, io36, io37, io38, io39, io40, io41, io42, io43, io44, io45, io46, io47, io48, io49, io50, io51, io52, io53, io54, io55, io56, io57, io58, io59, io60, io61, io62, io63, io64, io65] $[$loc]?)
/-! pairs that meet, by the law -/
theorem law_own (k : Nat) (x : Sta) (i : Nat) (hx : staOk 400 x) (hi : i < x.1.length) : callF T (k + 2) 30 [.val (staD x), .val (.int (i : Int))] = .ok (.val (ndO (ownOf x i)), .emp) := by
  have q1 := law_next k x i hi
  have n1 := ndO_not (nextOf x i)
  rw [ev_call (fd := f30) rfl rfl]
  cases h : nextOf x i with
  | none =>
    rw [h] at q1 n1
    simp only [ndO, Option.isSome_none] at q1 n1
    simp! [f30, m30_1, m30, q1, n1, ownOf, h, ndO]
  | some p =>
    have q3 := law_is_acc_nd k p.1 (next_ok hx h) p.2
    obtain ⟨r, e⟩ := nd_w p.1 p.2
    have e : nd p = .tuple (.str p.1.w :: r) := e
    have q3 : callF T (k + 1) 29 [.val (nd p)] = .ok (.val (.bool p.1.acc), .emp) := q3
    rw [h] at q1 n1
    simp only [ndO] at q1 n1
    rw [e] at q1 n1 q3
    cases ha : p.1.acc with
    | true =>
      rw [ha] at q3
      simp! [f30, m30_1, m30, q1, n1, Option.isSome_some, q3, ownOf, h, ha, ndO, e]
    | false =>
      rw [ha] at q3
      simp! [f30, m30_1, m30, q1, n1, Option.isSome_some, q3, ownOf, h, ha, ndO, e]
theorem law_would_write (k : Nat) (x : Sta) (i : Nat) (hx : staOk 400 x) {p : St × Int} (h : ownOf x i = some p) : callF T (k + 7) 32 [.val (staD x), .val (.int (i : Int))] = .ok (.val (.bool (wouldW x i)), .emp) := by
  obtain ⟨h1, ha⟩ := ownOf_some h
  have hs := next_ok hx h1
  obtain ⟨t, g, e⟩ := nextOf_some h1
  have hi : i < x.1.length := by
    rcases Nat.lt_or_ge i x.1.length with h | h
    · exact h
    · rw [List.getElem?_eq_none h] at e
      cases e
  have q1 := law_own (k + 4) x i hx hi
  have q2 : itemAt (x.1.map thrD) (i : Int) = .ok (.tuple [.tuple (nd p :: t.map nd), gD g]) := item_nat i (by rw [List.getElem?_map, e]; rfl)
  have hg := (hx.ths _ (List.mem_of_getElem? e)).reg
  have qr := neq_write p.1 hs ha
  have qr2 := w_write p.1 hs
  have qc : callF T (k + 5 + 1) 31 [.val (nd p)] = .ok (.val (.int p.1.cl), .emp) := law_cell (k + 5) p.1 hs ha p.2
  have qw : callF T (k + 6) 34 [.val (nd p), .val (gD g), .val (readD p.1 (at0 x.2 p.1.cl))] = .ok (.val (optD (written p.1 g (at0 x.2 p.1.cl))), .emp) := law_written k p.1 hs ha p.2 g hg (at0 x.2 p.1.cl)
  have hw : wouldW x i = (written p.1 g (at0 x.2 p.1.cl)).isSome := by
    unfold wouldW
    rw [e]
  have hc : cOk p.1.cl := by
    obtain ⟨s, f⟩ := p
    cases s with
    | wr c m e => exact hs.1
    | rd r c m => exact hs.2.1
    | xch w r c e => exact hs.2.2.1
    | tr r c a b => exact hs.2.1
    | _ => cases ha
  have qm := item_gD x.2 p.1.cl hc.1 (by rw [hx.mem.len]; have := hc.2; omega)
  obtain ⟨r, e3⟩ := nd_w p.1 p.2
  have e3 : nd p = .tuple (.str p.1.w :: r) := e3
  rw [h] at q1
  simp only [ndO] at q1
  rw [e3] at q1 q2 qc qw
  simp only [gD] at q2 qw
  have e4 : decide (p.1.w = ("write" : Str)) = !p.1.reads := by
    rw [qr2]
    obtain ⟨s, f⟩ := p
    cases s <;> first | rfl | cases ha
  rw [hw, ev_call (fd := f32) rfl rfl]
  cases hr : p.1.reads with
  | true =>
    rw [hr] at e4
    simp only [readD, hr, if_true] at qw
    simp only [staD, gD] at q1
    simp! [f32, m32_2, m32_1, m32, staD, gD, item0, item1, q1, q2, eq_str, e4, qc, qm, qw, optD_not]
  | false =>
    rw [hr] at e4
    simp only [readD, hr, Bool.false_eq_true, if_false] at qw
    simp only [staD, gD] at q1
    simp! [f32, m32_2, m32_1, m32, staD, gD, item0, item1, q1, q2, eq_str, e4, qc, qm, qw, optD_not]
theorem lpairs_turn (k : Nat) (x : Sta) (hx : staOk 400 x) (i j : Nat) (hi : i < x.1.length) (hj : j < x.1.length) (acc : List PyData) (hl : acc.length < 400) (s2 s5 : Mi.Slot) : ∃ s2' s5', execB ⟨ioOf T, callF T (k + 7)⟩ loops none l13_1 [.val (staD x), .lst acc, s2, .val (.int (i : Int)), .val (.int (j : Int)), s5] = .ok ([.val (staD x), .lst (acc ++ (meet x j i).map pD), s2', .val (.int (i : Int)), .val (.int (j : Int)), s5'], .nx) := by
  have q1 := law_own (k + 5) x j hx hj
  have q2 := law_own (k + 5) x i hx hi
  have c2 : acc.length < big := Nat.lt_of_lt_of_le (show acc.length < 1000 by omega) (by decide)
  refine ⟨.val (ndO (ownOf x j)), .val (ndO (ownOf x i)), ?_⟩
  have n1 := ndO_not (ownOf x j)
  have n2 := ndO_not (ownOf x i)
  have ht : execB ⟨ioOf T, callF T (k + 7)⟩ loops none l13_1_1 [.val (staD x), .lst acc, .val (ndO (ownOf x j)), .val (.int (i : Int)), .val (.int (j : Int)), .val (ndO (ownOf x i))] = .ok ([.val (staD x), .lst (acc ++ (meet x j i).map pD), .val (ndO (ownOf x j)), .val (.int (i : Int)), .val (.int (j : Int)), .val (ndO (ownOf x i))], .nx) := by
    cases hj' : ownOf x j with
    | none =>
      have hm : meet x j i = [] := by unfold meet; rw [hj']
      rw [hj'] at n1
      rw [hm]
      simp! [l13_1_1, n1, Option.isSome_none]
    | some p =>
      cases hi' : ownOf x i with
      | none =>
        have hm : meet x j i = [] := by unfold meet; rw [hj', hi']
        rw [hj'] at n1
        rw [hi'] at n2
        rw [hm]
        simp! [l13_1_1, n1, n2, Option.isSome_none, Option.isSome_some]
      | some q =>
        obtain ⟨a1, a2⟩ := ownOf_some hj'
        obtain ⟨b1, b2⟩ := ownOf_some hi'
        have c1 := law_cell (k + 6) p.1 (next_ok hx a1) a2 p.2
        have c3 := law_cell (k + 6) q.1 (next_ok hx b1) b2 q.2
        have w1 := law_would_write k x j hx hj'
        have w2 := law_would_write k x i hx hi'
        obtain ⟨d1, e1, f1, _⟩ := last_nd p a2
        obtain ⟨d2, e2, f2, _⟩ := last_nd q b2
        rw [hj'] at n1
        rw [hi'] at n2
        have hm : meet x j i = if decide (p.1.cl = q.1.cl) = true then (if (wouldW x j || wouldW x i) = true then [(p.2, q.2)] else []) else [] := by
          unfold meet
          rw [hj', hi']
        simp only [ndO] at n1 n2 ⊢
        rw [e1] at n1 c1
        rw [e2] at n2 c3
        rw [hm, e1, e2]
        cases hc : decide (p.1.cl = q.1.cl) with
        | false => simp! [l13_1_1, n1, n2, Option.isSome_some, c1, c3, eq_int, hc]
        | true =>
          cases hw1 : wouldW x j with
          | true =>
            rw [hw1] at w1
            simp! [l13_1_1, n1, n2, Option.isSome_some, c1, c3, eq_int, hc, w1, ev_neg, f1, f2, c2, pD]
          | false =>
            rw [hw1] at w1
            cases hw2 : wouldW x i with
            | true =>
              rw [hw2] at w2
              simp! [l13_1_1, n1, n2, Option.isSome_some, c1, c3, eq_int, hc, w1, w2, ev_neg, f1, f2, c2, pD]
            | false =>
              rw [hw2] at w2
              simp! [l13_1_1, n1, n2, Option.isSome_some, c1, c3, eq_int, hc, w1, w2]
  simp! [l13_1, q1, q2, ht]
theorem lpairs_loop1 (k : Nat) (x : Sta) (hx : staOk 400 x) (i : Nat) (hi : i < x.1.length) : ∀ (js : List Nat), (∀ j ∈ js, j < x.1.length) → ∀ (acc : List PyData), acc.length + js.length ≤ 300 → ∀ (s2 s3 s5 : Mi.Slot), ∃ s2' s3' s5', forT ⟨ioOf T, callF T (k + 7)⟩ loops none (.nm 4) l13_1 (js.map nat) [.val (staD x), .lst acc, s2, .val (.int (i : Int)), s3, s5] = .ok ([.val (staD x), .lst (acc ++ (pairsTo x i js).map pD), s2', .val (.int (i : Int)), s3', s5'], .nx)
  | [], _, acc, _, s2, s3, s5 => ⟨s2, s3, s5, by simp only [List.map_nil, ev_forN, pairsTo, List.flatMap_nil, List.append_nil]⟩
  | j :: r, h, acc, hl, s2, s3, s5 => by
    simp only [List.length_cons] at hl
    obtain ⟨t2, t5, ht⟩ := lpairs_turn k x hx i j hi (h j List.mem_cons_self) acc (by omega) s2 s5
    have := meet_le x j i
    obtain ⟨s2', s3', s5', g⟩ := lpairs_loop1 k x hx i hi r (fun y hy => h y (List.mem_cons_of_mem _ hy)) (acc ++ (meet x j i).map pD) (by rw [List.length_append, List.length_map]; omega) t2 (.val (.int (j : Int))) t5
    refine ⟨s2', s3', s5', ?_⟩
    have hp : putT (.nm 4) (nat j) [.val (staD x), .lst acc, s2, .val (.int (i : Int)), s3, s5] = .ok [.val (staD x), .lst acc, s2, .val (.int (i : Int)), .val (.int (j : Int)), s5] := rfl
    rw [List.map_cons, for_step hp ht, loopK_nx, g]
    simp only [pairsTo, List.flatMap_cons, List.map_append, List.append_assoc]
theorem lpairs_loop2 (k : Nat) (x : Sta) (hx : staOk 400 x) : ∀ (is : List Nat), (∀ i ∈ is, i < x.1.length) → ∀ (acc : List PyData), acc.length + 4 * is.length ≤ 200 → ∀ (s2 s3 s4 s5 : Mi.Slot), ∃ s2' s3' s4' s5', forT ⟨ioOf T, callF T (k + 7)⟩ loops none (.nm 3) l13_0 (is.map nat) [.val (staD x), .lst acc, s2, s3, s4, s5] = .ok ([.val (staD x), .lst (acc ++ (is.flatMap fun i => pairsTo x i (List.range i)).map pD), s2', s3', s4', s5'], .nx)
  | [], _, acc, _, s2, s3, s4, s5 => ⟨s2, s3, s4, s5, by simp only [List.map_nil, ev_forN, List.flatMap_nil, List.append_nil]⟩
  | i :: r, h, acc, hl, s2, s3, s4, s5 => by
    simp only [List.length_cons] at hl
    have hi := h i List.mem_cons_self
    have hlen := hx.len
    have hle := pairsTo_le x i (List.range i)
    rw [List.length_range] at hle
    obtain ⟨t2, t4, t5, ht⟩ := lpairs_loop1 k x hx i hi (List.range i) (fun j hj => by have := List.mem_range.mp hj; omega) acc (by rw [List.length_range]; omega) s2 s4 s5
    obtain ⟨s2', s3', s4', s5', g⟩ := lpairs_loop2 k x hx r (fun y hy => h y (List.mem_cons_of_mem _ hy)) (acc ++ (pairsTo x i (List.range i)).map pD) (by rw [List.length_append, List.length_map]; omega) t2 (.val (.int (i : Int))) t4 t5
    refine ⟨s2', s3', s4', s5', ?_⟩
    have hr := rng_nat i (by omega)
    have hp : putT (.nm 3) (nat i) [.val (staD x), .lst acc, s2, s3, s4, s5] = .ok [.val (staD x), .lst acc, s2, .val (.int (i : Int)), s4, s5] := rfl
    have hb : execB ⟨ioOf T, callF T (k + 7)⟩ loops none l13_0 [.val (staD x), .lst acc, s2, .val (.int (i : Int)), s4, s5] = .ok ([.val (staD x), .lst (acc ++ (pairsTo x i (List.range i)).map pD), t2, .val (.int (i : Int)), t4, t5], .nx) := by
      simp! [l13_0, hr, ht]
    rw [List.map_cons, for_step hp hb, loopK_nx, g]
    simp only [List.flatMap_cons, List.map_append, List.append_assoc]
theorem law_meets (k : Nat) (x : Sta) (hx : staOk 400 x) : callF T (k + 8) 13 [.val (staD x)] = .ok (.lst ((pairs x).map pD), .emp) := by
  have hlen := hx.len
  have hr := rng_nat x.1.length (by omega)
  obtain ⟨s2, s3, s4, s5, g⟩ := lpairs_loop2 k x hx (List.range x.1.length) (fun i hi => List.mem_range.mp hi) [] (by rw [List.length_range]; simp; omega) .emp .emp .emp .emp
  rw [List.nil_append] at g
  simp only [staD] at g
  rw [ev_call (fd := f13) rfl rfl]
  simp! [f13, m13, m13_1, m13_2, staD, item0, List.length_map, hr, g]
  rfl
end
end K48

set_option Elab.async false
set_option linter.all false
set_option maxRecDepth 100000
set_option maxHeartbeats 4000000
namespace K48
open PySem Mi
section
local macro_rules
  | `(tactic| simp! [$xs,*] $[$loc]?) => `(tactic| simp -implicitDefEqProofs only [$xs,*, ev_var, ev_and, ev_or, ev_chn, ev_ite, ev_iff, ev_while, ev_for, ev_forN, ev_lc, ev_lc2, ev_cons, ev_nil, ev_cst, ev_gbl, ev_tup, ev_lst, ev_sub, ev_slc, ev_op2, ev_neg, ev_not, ev_cmp, ev_callE, ev_blt, ev_isi, ev_trg, ev_app, ev_pop, ev_nilA, ev_consA, ev_nilF, ev_consF, ev_nilM, ev_consM, ev_seq, ev_rng1, ev_enm, ev_zip, ev_asg, ev_par, ev_exp, ev_aug, ev_sti, ev_popAt, someS_lst, someS_val, onS_lst, ev_ret, ev_rse, ok_bind, exn_bind, stk_bind, pure_ok, varR_val, varR_lst, seeB_val, see_val, see_lst, see_slot, slotSee_lst, slotSee_val, frz_val', frz_lst', frz_slot, slotFrz_lst, slotFrz_val, bool1_bool, int1_int, optInt_no, optInt_yes, ME.isNop, onL_lst, settle_val, settle_lst, settle_slot, mv_val, mv_lst, mv_slot, thenB_nx, thenB_rt, thenB_bk, thenB_ct, loopK_nx, loopK_ct, loopK_bk, loopK_rt, endF_rt, endF_nx, ioS_no, ioS_lst, retA_val, retA_lst, retA_slot, call_no, call_io, args_nil, args_cons, seeAll_nil, seeAll_cons, ite_and, ite_or, Mi.get, put, fill, Slot.own, seqOf_list, seqOf_tuple, sub_tup, sub_lst, b_add, b_addb, b_sub, b_addt, b_addl, s_tup, s_lst, i_int, i_intb, i_intt, i_ints, i_bool, i_booli, i_boolt, i_str, i_stri, i_strt, i_tup, i_tupi, i_tups, i_lst, i_lstt, i_lsti, i_lsts, i_non, f_lenl, f_lent, f_int, f_intb, f_listl, f_listt, f_lists, f_tupl, f_tupt, f_all, f_any, a_lst, a_int, asg_v, asg_l, asg_t, asgs_nil, asgs_cons, put_nm, put_tp, puts_nil, puts_cons, c_lt, c_le, c_gt, c_ge, List.map_cons, List.map_nil, List.length_cons, List.length_nil, List.replicate, List.append_nil, List.cons_append, List.nil_append, if_true, if_false, Bool.false_eq_true, Bool.not_false, Bool.not_true, Nat.reduceAdd, Nat.reduceSub, Nat.reduceLT, ev_turn1, ev_turn2, ev_condN, lc_nil, lc_cons, lc2_nil, lc2_cons, optC_some, optC_none, frzR_eq, noX_ok, wipeE, backE, noOwn, List.all_cons, List.all_nil, str_eq, String.reduceEq, eq_self, Int.cast_ofNat_Int, Int.reduceLE, Int.reduceLT, Int.reduceSub, Int.reduceAdd, Int.reduceEq, Int.natCast_add, Int.reduceNeg, Int.natCast_zero, decide_true, decide_false, Bool.and_true, Bool.and_false, Bool.true_and, Bool.false_and, Bool.or_false, Bool.false_or, Bool.or_true, Bool.true_or, Bool.and_self, Bool.not_eq_true, not_true_eq_false, not_false_eq_true, and_self, and_true, true_and, and_false, false_and, reduceIte, io0, io1, io2, io3, io4, io5, io6, io7, io8, io9, io10, io11, io12, io13, io14, io15, io16, io17, io18, io19, io20, io21, io22, io23, io24, io25, io26, io27, io28, io29, io30, io31, io32, io33, io34, io35, io36, io37, io38, io39, io40, io41, io42, io43, io44, io45, io46, io47, io48, io49, io50, io51, io52, io53, io54, io55, io56, io57, io58, io59, io60, io61, io62, io63, io64, io65] $[$loc]?)
/-! numbers of accesses; which are strong -/
def cnt (l : List St) : Int := ((l.filter St.acc).length : Int)
theorem cnt_nn (l : List St) : 0 ≤ cnt l := by simp [cnt]
theorem cnt_cat (a b : List St) : cnt (a ++ b) = cnt a + cnt b := by simp [cnt]
mutual
theorem St.nu_cnt : ∀ (s : St) (f : Int), (St.nu s f).2 = f + cnt s.flat
  | .fence, f => by simp [St.nu, cnt, St.flat, St.acc]
  | .set r e, f => by simp [St.nu, cnt, St.flat, St.acc]
  | .need e, f => by simp [St.nu, cnt, St.flat, St.acc]
  | .wr c m e, f => rfl
  | .rd r c m, f => rfl
  | .xch w r c e, f => rfl
  | .tr r c a b, f => rfl
  | .ifs e y n, f => by
    have h1 := Bk.nu_cnt y f
    have h2 := Bk.nu_cnt n (Bk.nu y f).2
    have h3 : cnt (St.ifs e y n).flat = cnt y.flat + cnt n.flat := by simp [cnt, St.flat, List.filter_cons, St.acc]
    simp only [St.nu]
    rw [h2, h1, h3]
    omega
theorem Bk.nu_cnt : ∀ (b : Bk) (f : Int), (Bk.nu b f).2 = f + cnt b.flat
  | .nil, f => by simp [Bk.nu, cnt, Bk.flat]
  | .cons s r, f => by
    have h1 := St.nu_cnt s f
    have h2 := Bk.nu_cnt r (St.nu s f).2
    simp only [Bk.nu, Bk.flat, cnt_cat]
    rw [h2, h1]
    omega
end
def numOk (M : Int) (l : Rest) : Prop := ∀ p ∈ l, 0 ≤ p.2 ∧ p.2 + cnt p.1.flat ≤ M
theorem nl_num (M : Int) : ∀ (b : Bk) (f : Int), 0 ≤ f → f + cnt b.flat ≤ M → numOk M (Bk.nl b f)
  | .nil, f, _, _ => fun p hp => nomatch hp
  | .cons s r, f, h0, h1 => fun p hp => by
    have c1 := cnt_nn s.flat
    have c2 := cnt_nn r.flat
    simp only [Bk.flat, cnt_cat] at h1
    simp only [Bk.nl] at hp
    rcases List.mem_cons.mp hp with q | q
    · rw [q]
      exact ⟨h0, by show f + cnt s.flat ≤ M; omega⟩
    · rw [St.nu_cnt] at q
      exact nl_num M r _ (by omega) (by omega) p q
theorem settleF_num (M : Int) : ∀ (n : Nat) (l : Rest) (g : List Int), numOk M l → ∀ l', (settleF n l g).1 = some l' → numOk M l'
  | 0, l, g, h, l', e => by cases e; exact h
  | n + 1, [], g, h, l', e => by cases e; exact h
  | n + 1, (s, f) :: t, g, h, l', e => by
    have ht : numOk M t := fun q hq => h q (List.mem_cons_of_mem _ hq)
    have hs := h (s, f) List.mem_cons_self
    cases s with
    | set r x => exact settleF_num M n t _ ht l' e
    | need x =>
      simp only [settleF] at e
      split at e
      · cases e
      · exact settleF_num M n t _ ht l' e
    | ifs x y q =>
      simp only [settleF] at e
      refine settleF_num M n _ g (fun p hp => ?_) l' e
      have h3 : cnt (St.ifs x y q).flat = cnt y.flat + cnt q.flat := by simp [cnt, St.flat, List.filter_cons, St.acc]
      have c1 := cnt_nn y.flat
      have c2 := cnt_nn q.flat
      rw [h3] at hs
      rcases List.mem_append.mp hp with k | k
      · split at k
        · rw [Bk.nu_cnt] at k
          exact nl_num M q _ (by have := hs.1; omega) (by have := hs.2; omega) p k
        · exact nl_num M y f hs.1 (by have := hs.2; omega) p k
      · exact ht p k
    | _ => cases e; exact h
def staNum (M : Int) (x : Sta) : Prop := ∀ p ∈ x.1, ∀ l, p.1 = some l → numOk M l
theorem stepped_num {M : Int} {x : Sta} (h : staNum M x) (i : Nat) : staNum M (stepped x i) := by
  unfold stepped
  split
  · rename_i s f t g e
    have h1 := h _ (List.mem_of_getElem? e) _ rfl
    intro p hp l hl
    rcases List.mem_or_eq_of_mem_set hp with q | q
    · exact h p q l hl
    · rw [q] at hl
      exact settleF_num M _ t _ (fun q hq => h1 q (List.mem_cons_of_mem _ hq)) l hl
  · exact h
theorem go_num (M : Int) : ∀ (bs : List Bk) (f : Int), 0 ≤ f → f + cnt (every bs) ≤ M → ∀ p ∈ begun.go bs f, ∀ l, p.1 = some l → numOk M l
  | [], _, _, _ => fun p hp => nomatch hp
  | b :: r, f, h0, h1 => fun p hp l hl => by
    have e : cnt (every (b :: r)) = cnt b.flat + cnt (every r) := by simp only [every, List.flatMap_cons, cnt_cat]
    have c1 := cnt_nn b.flat
    have c2 := cnt_nn (every r)
    rw [e] at h1
    simp only [begun.go] at hp
    rcases List.mem_cons.mp hp with q | q
    · rw [q] at hl
      exact settleF_num M _ _ _ (nl_num M b f h0 (by omega)) l hl
    · rw [Bk.nu_cnt] at q
      exact go_num M r _ (by omega) (by omega) p q l hl
theorem start_num (bs : List Bk) : staNum (manyOf bs : Int) (start bs) := go_num _ bs 0 (Int.le_refl _) (by
  simp only [cnt, manyOf]
  omega)
theorem own_num {M : Int} {x : Sta} (h : staNum M x) {i : Nat} {p : St × Int} (e : ownOf x i = some p) : 0 ≤ p.2 ∧ p.2 < M := by
  obtain ⟨e1, ha⟩ := ownOf_some e
  obtain ⟨t, g, e2⟩ := nextOf_some e1
  have := h _ (List.mem_of_getElem? e2) _ rfl p List.mem_cons_self
  obtain ⟨s, f⟩ := p
  have c : cnt s.flat = 1 := by
    obtain ⟨f1, _, _⟩ := acc_flat ha
    simp [f1, cnt, show s.acc = true from ha]
  rw [c] at this
  exact ⟨this.1, by have := this.2; omega⟩
theorem pairs_num {M : Int} {x : Sta} (h : staNum M x) : ∀ p ∈ pairs x, (0 ≤ p.1 ∧ p.1 < M) ∧ (0 ≤ p.2 ∧ p.2 < M) := by
  intro p hp
  obtain ⟨i, _, hp⟩ := List.mem_flatMap.mp hp
  obtain ⟨j, _, hp⟩ := List.mem_flatMap.mp hp
  unfold meet at hp
  split at hp
  · rename_i a b e1 e2
    split at hp
    · split at hp
      · rw [List.mem_singleton.mp hp]
        exact ⟨own_num h e1, own_num h e2⟩
      · cases hp
    · cases hp
  · cases hp
/-! ### strong ones -/
def St.strong : St → Bool
  | .wr _ m _ => decide (m = ("strong" : Str))
  | .rd _ _ m => decide (m = ("strong" : Str))
  | .xch _ _ _ _ => true
  | .tr _ _ _ _ => true
  | _ => false
def strongs (bs : List Bk) : List Bool := ((every bs).filter St.acc).map St.strong
theorem strongs_len (bs : List Bk) : (strongs bs).length = manyOf bs := by simp [strongs, manyOf]
theorem mode_strong (k : Nat) (s : St) (h : s.Ok) (ha : s.acc = true) : ∃ m : Str, callF T (k + 1) 39 [.val s.d] = .ok (.val (.str m), .emp) ∧ decide (m = ("strong" : Str)) = s.strong := by
  cases s with
  | wr c m e =>
    refine ⟨m, ?_, rfl⟩
    rw [ev_call (fd := f39) rfl rfl]
    simp! [f39, m39, St.d, item0, item2, eq_str]
  | rd r c m =>
    refine ⟨m, ?_, rfl⟩
    rw [ev_call (fd := f39) rfl rfl]
    simp! [f39, m39, St.d, item0, item3, eq_str]
  | xch w r c e =>
    refine ⟨"strong", ?_, by simp! [St.strong]⟩
    rw [ev_call (fd := f39) rfl rfl]
    rcases h.1 with rfl | rfl <;> simp! [f39, m39, St.d, item0, eq_str]
  | tr r c a b =>
    refine ⟨"strong", ?_, by simp! [St.strong]⟩
    rw [ev_call (fd := f39) rfl rfl]
    simp! [f39, m39, St.d, item0, eq_str]
  | _ => cases ha
theorem law_mode_strong (k : Nat) (s : St) (f : Int) (h : s.Ok) (ha : s.acc = true) : ∃ m : Str, callF T (k + 1) 48 [.val (nd (s, f))] = .ok (.val (.str m), .emp) ∧ decide (m = ("strong" : Str)) = s.strong := by
  cases s with
  | wr c m e =>
    refine ⟨m, ?_, rfl⟩
    rw [ev_call (fd := f48) rfl rfl]
    simp! [f48, m48, nd, St.nu, item0, item2, eq_str]
  | rd r c m =>
    refine ⟨m, ?_, rfl⟩
    rw [ev_call (fd := f48) rfl rfl]
    simp! [f48, m48, nd, St.nu, item0, item3, eq_str]
  | xch w r c e =>
    refine ⟨"strong", ?_, by simp! [St.strong]⟩
    rw [ev_call (fd := f48) rfl rfl]
    rcases h.1 with rfl | rfl <;> simp! [f48, m48, nd, St.nu, item0, eq_str]
  | tr r c a b =>
    refine ⟨"strong", ?_, by simp! [St.strong]⟩
    rw [ev_call (fd := f48) rfl rfl]
    simp! [f48, m48, nd, St.nu, item0, eq_str]
  | _ => cases ha
def accT : Nat → List Bk → List (Nat × St)
  | _, [] => []
  | n, b :: r => ((b.flat.filter St.acc).map fun s => (n, s)) ++ accT (n + 1) r
theorem accT_d : ∀ (bs : List Bk) (n : Nat), accsF n bs = (accT n bs).map fun p => .tuple [.int p.1, p.2.d]
  | [], _ => rfl
  | b :: r, n => by simp only [accsF, accT, accT_d r, List.map_append, List.map_map]; rfl
theorem accT_snd : ∀ (bs : List Bk) (n : Nat), (accT n bs).map Prod.snd = (every bs).filter St.acc
  | [], _ => rfl
  | b :: r, n => by
    simp only [accT, List.map_append, List.map_map, accT_snd r, every, List.flatMap_cons, List.filter_append]
    congr 1
    exact List.map_id _
mutual
def St.ap : St → Int → Rest
  | .ifs _ y n, f => Bk.ap y f ++ Bk.ap n (Bk.nu y f).2
  | .wr c m e, f => [(.wr c m e, f)]
  | .rd r c m, f => [(.rd r c m, f)]
  | .xch w r c e, f => [(.xch w r c e, f)]
  | .tr r c a b, f => [(.tr r c a b, f)]
  | _, _ => []
def Bk.ap : Bk → Int → Rest
  | .nil, _ => []
  | .cons s r, f => St.ap s f ++ Bk.ap r (St.nu s f).2
end
mutual
theorem St.ap_na : ∀ (s : St) (f : Int), (St.ap s f).map nd = St.na s f
  | .ifs e y n, f => by simp only [St.ap, St.na, List.map_append, Bk.ap_na y, Bk.ap_na n]
  | .wr c m e, f => rfl
  | .rd r c m, f => rfl
  | .xch w r c e, f => rfl
  | .tr r c a b, f => rfl
  | .fence, f => rfl
  | .set r e, f => rfl
  | .need e, f => rfl
theorem Bk.ap_na : ∀ (b : Bk) (f : Int), (Bk.ap b f).map nd = Bk.na b f
  | .nil, f => rfl
  | .cons s r, f => by simp only [Bk.ap, Bk.na, List.map_append, St.ap_na s, Bk.ap_na r]
end
mutual
theorem St.ap_fst : ∀ (s : St) (f : Int), (St.ap s f).map Prod.fst = s.flat.filter St.acc
  | .ifs e y n, f => by simp only [St.ap, St.flat, List.map_append, Bk.ap_fst y, Bk.ap_fst n, List.filter_cons, St.acc, Bool.false_eq_true, if_false, List.filter_append]
  | .wr c m e, f => rfl
  | .rd r c m, f => rfl
  | .xch w r c e, f => rfl
  | .tr r c a b, f => rfl
  | .fence, f => rfl
  | .set r e, f => rfl
  | .need e, f => rfl
theorem Bk.ap_fst : ∀ (b : Bk) (f : Int), (Bk.ap b f).map Prod.fst = b.flat.filter St.acc
  | .nil, f => rfl
  | .cons s r, f => by simp only [Bk.ap, Bk.flat, List.map_append, St.ap_fst s, Bk.ap_fst r, List.filter_append]
end
def accN : Nat → Int → List Bk → List (Nat × (St × Int))
  | _, _, [] => []
  | n, f, b :: r => ((Bk.ap b f).map fun p => (n, p)) ++ accN (n + 1) (Bk.nu b f).2 r
theorem accN_d : ∀ (bs : List Bk) (n : Nat) (f : Int), allF n f bs = (accN n f bs).map fun p => .tuple [.int p.1, nd p.2]
  | [], _, _ => rfl
  | b :: r, n, f => by
    simp only [allF, accN, accN_d r, List.map_append, List.map_map, ← Bk.ap_na]
    rfl
theorem accN_snd : ∀ (bs : List Bk) (n : Nat) (f : Int), (accN n f bs).map (fun p => p.2.1) = (every bs).filter St.acc
  | [], _, _ => rfl
  | b :: r, n, f => by
    simp only [accN, List.map_append, List.map_map, accN_snd r, every, List.flatMap_cons, List.filter_append, ← Bk.ap_fst b f]
    rfl
theorem acc_all_ok {bs : List Bk} (h : PrOk bs) : ∀ s ∈ (every bs).filter St.acc, s.Ok ∧ s.acc = true := fun s hs => by
  obtain ⟨h1, h2⟩ := List.mem_filter.mp hs
  exact ⟨every_ok h s h1, h2⟩
theorem strong_numbers (k : Nat) (bs : List Bk) (h : PrOk bs) : callF T (k + 4) 18 [.val (.tuple (bs.map tup))] = .ok (.lst ((strongs bs).map .bool), .emp) := by
  have q := accesses_in k bs h
  have e : lcL (turn1 ⟨ioOf T, callF T (k + 3)⟩ (.tp (.cons (.nm 2) (.cons (.nm 1) .nil))) [2, 1] .nop ce18_0) (accsF 0 bs) [.val (.tuple (bs.map tup)), .emp, .emp] = .ok ((strongs bs).map .bool, [.val (.tuple (bs.map tup)), .emp, .emp]) := by
    rw [accT_d, lc_list (fun p : Nat × St => .tuple [.int p.1, p.2.d]) (fun p => some (.bool p.2.strong)) (accT 0 bs) fun p hp => by
      have : p.2 ∈ (every bs).filter St.acc := by
        rw [← accT_snd bs 0]
        exact List.mem_map_of_mem hp
      obtain ⟨o, a⟩ := acc_all_ok h _ this
      obtain ⟨m, g, d⟩ := mode_strong (k + 2) p.2 o a
      rw [ev_turn1]
      simp! [ce18_0, g, eq_str, d]]
    rw [filterMap_true]
    unfold strongs
    rw [← accT_snd bs 0, List.map_map, List.map_map]
    rfl
  rw [ev_call (fd := f18) rfl rfl]
  simp! [f18, m18, q, e]
theorem law_strong_ones (k : Nat) (bs : List Bk) (h : PrOk bs) : callF T (k + 7) 25 [.val (.tuple (bs.map tup))] = .ok (.lst ((strongs bs).map .bool), .emp) := by
  have q := law_all_ k bs h
  have e : lcL (turn1 ⟨ioOf T, callF T (k + 6)⟩ (.tp (.cons (.nm 2) (.cons (.nm 1) .nil))) [2, 1] .nop ce25_0) (allF 0 0 bs) [.val (.tuple (bs.map tup)), .emp, .emp] = .ok ((strongs bs).map .bool, [.val (.tuple (bs.map tup)), .emp, .emp]) := by
    rw [accN_d, lc_list (fun p : Nat × (St × Int) => .tuple [.int p.1, nd p.2]) (fun p => some (.bool p.2.1.strong)) (accN 0 0 bs) fun p hp => by
      have : p.2.1 ∈ (every bs).filter St.acc := by
        rw [← accN_snd bs 0 0]
        exact List.mem_map_of_mem (f := fun p : Nat × (St × Int) => p.2.1) hp
      obtain ⟨o, a⟩ := acc_all_ok h _ this
      obtain ⟨m, g, d⟩ := law_mode_strong (k + 5) p.2.1 p.2.2 o a
      rw [ev_turn1]
      simp! [ce25_0, g, eq_str, d]]
    rw [filterMap_true]
    unfold strongs
    rw [← accN_snd bs 0 0, List.map_map, List.map_map]
    rfl
  rw [ev_call (fd := f25) rfl rfl]
  simp! [f25, m25, q, e]
end
end K48

set_option Elab.async false
set_option linter.all false
set_option maxRecDepth 100000
set_option maxHeartbeats 4000000
namespace K48
open PySem Mi
section
local macro_rules
  | `(tactic| simp! [$xs,*] $[$loc]?) => `(tactic| simp -implicitDefEqProofs only [$xs,*, ev_var, ev_and, ev_or, ev_chn, ev_ite, ev_iff, ev_while, ev_for, ev_forN, ev_lc, ev_lc2, ev_cons, ev_nil, ev_cst, ev_gbl, ev_tup, ev_lst, ev_sub, ev_slc, ev_op2, ev_neg, ev_not, ev_cmp, ev_callE, ev_blt, ev_isi, ev_trg, ev_app, ev_pop, ev_nilA, ev_consA, ev_nilF, ev_consF, ev_nilM, ev_consM, ev_seq, ev_rng1, ev_enm, ev_zip, ev_asg, ev_par, ev_exp, ev_aug, ev_sti, ev_popAt, someS_lst, someS_val, onS_lst, ev_ret, ev_rse, ok_bind, exn_bind, stk_bind, pure_ok, varR_val, varR_lst, seeB_val, see_val, see_lst, see_slot, slotSee_lst, slotSee_val, frz_val', frz_lst', frz_slot, slotFrz_lst, slotFrz_val, bool1_bool, int1_int, optInt_no, optInt_yes, ME.isNop, onL_lst, settle_val, settle_lst, settle_slot, mv_val, mv_lst, mv_slot, thenB_nx, thenB_rt, thenB_bk, thenB_ct, loopK_nx, loopK_ct, loopK_bk, loopK_rt, endF_rt, endF_nx, ioS_no, ioS_lst, retA_val, retA_lst, retA_slot, call_no, call_io, args_nil, args_cons, seeAll_nil, seeAll_cons, ite_and, ite_or, Mi.get, put, fill, Slot.own, seqOf_list, seqOf_tuple, sub_tup, sub_lst, b_add, b_addb, b_sub, b_addt, b_addl, s_tup, s_lst, i_int, i_intb, i_intt, i_ints, i_bool, i_booli, i_boolt, i_str, i_stri, i_strt, i_tup, i_tupi, i_tups, i_lst, i_lstt, i_lsti, i_lsts, i_non, f_lenl, f_lent, f_int, f_intb, f_listl, f_listt, f_lists, f_tupl, f_tupt, f_all, f_any, a_lst, a_int, asg_v, asg_l, asg_t, asgs_nil, asgs_cons, put_nm, put_tp, puts_nil, puts_cons, c_lt, c_le, c_gt, c_ge, List.map_cons, List.map_nil, List.length_cons, List.length_nil, List.replicate, List.append_nil, List.cons_append, List.nil_append, if_true, if_false, Bool.false_eq_true, Bool.not_false, Bool.not_true, Nat.reduceAdd, Nat.reduceSub, Nat.reduceLT, ev_turn1, ev_turn2, ev_condN, lc_nil, lc_cons, lc2_nil, lc2_cons, optC_some, optC_none, frzR_eq, noX_ok, wipeE, backE, noOwn, List.all_cons, List.all_nil, str_eq, String.reduceEq, eq_self, Int.cast_ofNat_Int, Int.reduceLE, Int.reduceLT, Int.reduceSub, Int.reduceAdd, Int.reduceEq, Int.natCast_add, Int.reduceNeg, Int.natCast_zero, decide_true, decide_false, Bool.and_true, Bool.and_false, Bool.true_and, Bool.false_and, Bool.or_false, Bool.false_or, Bool.or_true, Bool.true_or, Bool.and_self, Bool.not_eq_true, not_true_eq_false, not_false_eq_true, and_self, and_true, true_and, and_false, false_and, reduceIte, io0, io1, io2, io3, io4, io5, io6, io7, io8, io9, io10, io11, io12, io13, io14, io15, io16, io17, io18, io19, io20, io21, io22, io23, io24, io25, io26, io27, io28, io29, io30, io31, io32, io33, io34, io35, io36, io37, io38, io39, io40, io41, io42, io43, io44, io45, io46, io47, io48, io49, io50, io51, io52, io53, io54, io55, io56, io57, io58, io59, io60, io61, io62, io63, io64, io65] $[$loc]?)
/-! races judged by the program -/
def walk (n : Nat) : List PyData → Sta → Option Sta
  | [], x => some x
  | d :: r, x => match d with
    | .int v => if (decide (0 ≤ v) && decide (v ≤ (n : Int) - 1)) = true then (if (nextOf x v.toNat).isSome = true then walk n r (stepped x v.toNat) else none) else none
    | _ => none
def hasP (ps : List (Int × Int)) (a b : Int) : Bool := ps.any fun p => decide (p.1 = a) && decide (p.2 = b)
theorem pD_plain : ∀ ps : List (Int × Int), PyData.plainAll (ps.map pD) = true
  | [] => rfl
  | p :: r => by
    simp only [List.map_cons, PyData.plainAll, pD_plain r, Bool.and_true]
    rfl
theorem in_pairs (ps : List (Int × Int)) (a b : Int) : cmp2 .In (.tuple [.int a, .int b]) (.list (ps.map pD)) = .ok (hasP ps a b) := by
  have h2 : min (PyData.depthAll (ps.map pD)) (PyData.tuple [.int a, .int b]).depth ≤ 100 := Nat.le_trans (Nat.min_le_right _ _) (by simp [PyData.depth, PyData.depthAll])
  have hp : (PyData.tuple [.int a, .int b]).plain = true := rfl
  simp only [cmp2, dataIn, hp, pD_plain ps, h2, Bool.true_and, decide_true, if_true, hasP, List.any_map]
  congr 2
  funext p
  simp [pD, PyData.eqv, PyData.eqvAll]
  rfl
theorem f_min (i j : Int) : bltF .min2 [.int i, .int j] = .ok (.val (.int (if j < i then j else i))) := rfl
theorem f_max (i j : Int) : bltF .max2 [.int i, .int j] = .ok (.val (.int (if j > i then j else i))) := rfl
def mn (i j : Int) : Int := if j < i then j else i
def mx (i j : Int) : Int := if j > i then j else i
theorem mn_comm (i j : Int) : mn i j = mn j i := by
  unfold mn
  split <;> split <;> omega
theorem mx_comm (i j : Int) : mx i j = mx j i := by
  unfold mx
  split <;> split <;> omega
theorem thrOk.mono {n m : Nat} {p : Thr} (h : thrOk n p) (hn : n ≤ m) : thrOk m p := ⟨fun l e => ⟨(h.rest l e).1, Nat.le_trans (h.rest l e).2 hn⟩, h.reg⟩
theorem staOk.mono {n m : Nat} {x : Sta} (h : staOk n x) (hn : n ≤ m) : staOk m x := ⟨fun p hp => (h.ths p hp).mono hn, h.mem, h.len⟩
theorem start_400 {bs : List Bk} (h : PrOk bs) : staOk 400 (start bs) := (start_ok h).mono (by decide)
theorem need_number (k : Nat) (hi : Int) (d : PyData) (h : noD d = true) : callF T (k + 2) 37 [.val d, .val (.int 0), .val (.int hi)] = if wh hi d = true then .ok (.val .none, .emp) else .exn 1 [] := by
  have q := is_whole_d k hi d h
  rw [ev_call (fd := f37) rfl rfl]
  cases hw : wh hi d with
  | true =>
    rw [hw] at q
    simp! [f37, m37, q]
  | false =>
    rw [hw] at q
    simp! [f37, m37, q]
theorem need_pair_ok (k : Nat) (bs : List Bk) (h : PrOk bs) (a b : PyData) (ha : noD a = true) (hb : noD b = true) (wa : wh ((manyOf bs : Int) - 1) a = true) (wb : wh ((manyOf bs : Int) - 1) b = true) : callF T (k + 8) 17 [.val (.tuple (bs.map tup)), .val a, .val b] = .ok (.val .none, .emp) := by
  have q1 := need_ok k bs h
  have q2 := accesses_in (k + 4) bs h
  have q3 := need_number (k + 5) ((manyOf bs : Int) - 1) a ha
  have q4 := need_number (k + 5) ((manyOf bs : Int) - 1) b hb
  have hm : (accsF 0 bs).length = manyOf bs := accsF_len bs 0
  rw [if_pos wa] at q3
  rw [if_pos wb] at q4
  rw [ev_call (fd := f17) rfl rfl]
  simp! [f17, m17_3, m17_2, m17_1, m17, q1, q2, hm, q3, q4]
theorem need_pair_1 (k : Nat) (bs : List Bk) (h : PrOk bs) (a b : PyData) (ha : noD a = true) (wa : wh ((manyOf bs : Int) - 1) a = false) : callF T (k + 8) 17 [.val (.tuple (bs.map tup)), .val a, .val b] = .exn 1 [] := by
  have q1 := need_ok k bs h
  have q2 := accesses_in (k + 4) bs h
  have q3 := need_number (k + 5) ((manyOf bs : Int) - 1) a ha
  have hm : (accsF 0 bs).length = manyOf bs := accsF_len bs 0
  rw [wa, if_neg Bool.false_ne_true] at q3
  rw [ev_call (fd := f17) rfl rfl]
  simp! [f17, m17_3, m17_2, m17_1, m17, q1, q2, hm, q3]
theorem need_pair_2 (k : Nat) (bs : List Bk) (h : PrOk bs) (a b : PyData) (ha : noD a = true) (hb : noD b = true) (wa : wh ((manyOf bs : Int) - 1) a = true) (wb : wh ((manyOf bs : Int) - 1) b = false) : callF T (k + 8) 17 [.val (.tuple (bs.map tup)), .val a, .val b] = .exn 1 [] := by
  have q1 := need_ok k bs h
  have q2 := accesses_in (k + 4) bs h
  have q3 := need_number (k + 5) ((manyOf bs : Int) - 1) a ha
  have q4 := need_number (k + 5) ((manyOf bs : Int) - 1) b hb
  have hm : (accsF 0 bs).length = manyOf bs := accsF_len bs 0
  rw [if_pos wa] at q3
  rw [wb, if_neg Bool.false_ne_true] at q4
  rw [ev_call (fd := f17) rfl rfl]
  simp! [f17, m17_3, m17_2, m17_1, m17, q1, q2, hm, q3, q4]
theorem need_pair_li (k : Nat) (ds : List PyData) (a b : PyData) : callF T (k + 4) 17 [.val (.list ds), .val a, .val b] = .exn 0 [] := by
  have q1 := need_li k ds
  rw [ev_call (fd := f17) rfl rfl]
  simp! [f17, m17_3, m17_2, m17_1, m17, q1]
def atB (l : List Bool) (i : Int) : Bool := l[i.toNat]?.getD false
theorem item_bools (l : List Bool) (i : Int) (h0 : 0 ≤ i) (h1 : i < l.length) : itemAt (l.map .bool) i = .ok (.bool (atB l i)) := by
  have hi : i.toNat < l.length := by omega
  refine item_int i h0 ?_
  rw [List.getElem?_map, List.getElem?_eq_getElem hi]
  simp [atB, List.getElem?_eq_getElem hi]
def ends (n : Nat) (ds : List PyData) (x : Sta) (a b : Int) : Bool := match walk n ds x with
  | some y => hasP (pairs y) (mn a b) (mx a b)
  | none => false
theorem wh_some {hi : Int} {d : PyData} (h : wh hi d = true) : ∃ i : Nat, d = .int (i : Int) ∧ (i : Int) ≤ hi := by
  cases d with
  | int v =>
    simp only [wh, Bool.and_eq_true, decide_eq_true_eq] at h
    obtain ⟨i, rfl⟩ := Int.eq_ofNat_of_zero_le h.1
    exact ⟨i, rfl, h.2⟩
  | _ => cases h
theorem walk_no {n : Nat} {d : PyData} {r : List PyData} {x : Sta} (h : wh ((n : Int) - 1) d = false) : walk n (d :: r) x = none := by
  cases d with
  | int v =>
    simp only [wh] at h
    simp only [walk, h, Bool.false_eq_true, if_false]
  | _ => rfl
theorem walk_go {n : Nat} {i : Nat} {r : List PyData} {x : Sta} (h : (i : Int) ≤ (n : Int) - 1) : walk n (.int (i : Int) :: r) x = if (nextOf x i).isSome = true then walk n r (stepped x i) else none := by
  have c : (decide (0 ≤ (i : Int)) && decide ((i : Int) ≤ (n : Int) - 1)) = true := by
    simp only [Bool.and_eq_true, decide_eq_true_eq]
    omega
  simp only [walk, c, if_true, Int.toNat_natCast]
theorem next_some {x : Sta} {i : Nat} (h : (nextOf x i).isSome = true) : ∃ s f t g, x.1[i]? = some (some ((s, f) :: t), g) := by
  cases e : nextOf x i with
  | none => rw [e] at h; cases h
  | some p =>
    obtain ⟨t, g, e2⟩ := nextOf_some e
    exact ⟨p.1, p.2, t, g, e2⟩
theorem race_loop (k : Nat) (bs : List Bk) (a b : Int) (V S : Mi.Slot) : ∀ (ds : List PyData) (x : Sta) (s6 : Mi.Slot), (∀ d ∈ ds, noD d = true) → staOk 400 x → x.1.length = bs.length → ∃ e, (forT ⟨ioOf T, callF T (k + 9)⟩ loops none (.nm 6) l8_0 ds [.val (.tuple (bs.map tup)), .val (.int a), .val (.int b), V, .val (staD x), S, s6] >>= thenB ⟨ioOf T, callF T (k + 9)⟩ loops none m8_5) = .ok (e, .rt (.val (.bool (ends bs.length ds x a b))))
  | [], x, s6, _, hx, _ => by
    have q := pairs_in (k + 1) x hx
    refine ⟨[.val (.tuple (bs.map tup)), .val (.int a), .val (.int b), V, .val (staD x), S, s6], ?_⟩
    have ip := in_pairs (pairs x) (if b < a then b else a) (if b > a then b else a)
    rw [ev_forN]
    simp! [m8_5, f_min, f_max, q, ip, ends, walk, mn, mx]
  | d :: r, x, s6, hd, hx, hn => by
    have h1 := hd d List.mem_cons_self
    have q1 := is_whole_d (k + 8) ((bs.length : Int) - 1) d h1
    have hp : putT (.nm 6) d [.val (.tuple (bs.map tup)), .val (.int a), .val (.int b), V, .val (staD x), S, s6] = .ok [.val (.tuple (bs.map tup)), .val (.int a), .val (.int b), V, .val (staD x), S, .val d] := rfl
    cases hw : wh ((bs.length : Int) - 1) d with
    | false =>
      rw [hw] at q1
      have hb : execB ⟨ioOf T, callF T (k + 9)⟩ loops none l8_0 [.val (.tuple (bs.map tup)), .val (.int a), .val (.int b), V, .val (staD x), S, .val d] = .ok ([.val (.tuple (bs.map tup)), .val (.int a), .val (.int b), V, .val (staD x), S, .val d], .rt (.val (.bool false))) := by
        simp! [l8_0, l8_0_1, List.length_map, q1]
      refine ⟨[.val (.tuple (bs.map tup)), .val (.int a), .val (.int b), V, .val (staD x), S, .val d], ?_⟩
      rw [for_step hp hb, loopK_rt]
      simp only [ok_bind, thenB_rt, ends, walk_no hw]
    | true =>
      obtain ⟨i, rfl, hi⟩ := wh_some hw
      rw [hw] at q1
      have q2 := can_step (k + 8) x i (by omega)
      cases hs : (nextOf x i).isSome with
      | false =>
        rw [hs] at q2
        have hb : execB ⟨ioOf T, callF T (k + 9)⟩ loops none l8_0 [.val (.tuple (bs.map tup)), .val (.int a), .val (.int b), V, .val (staD x), S, .val (.int (i : Int))] = .ok ([.val (.tuple (bs.map tup)), .val (.int a), .val (.int b), V, .val (staD x), S, .val (.int (i : Int))], .rt (.val (.bool false))) := by
          simp! [l8_0, l8_0_1, List.length_map, q1, q2]
        refine ⟨[.val (.tuple (bs.map tup)), .val (.int a), .val (.int b), V, .val (staD x), S, .val (.int (i : Int))], ?_⟩
        rw [for_step hp hb, loopK_rt]
        simp only [ok_bind, thenB_rt, ends, walk_go hi, hs, Bool.false_eq_true, if_false]
      | true =>
        rw [hs] at q2
        obtain ⟨s, f, t, g, e⟩ := next_some hs
        have q3 := stepped_ (k + 1) x i hx s f t g e
        have hb : execB ⟨ioOf T, callF T (k + 9)⟩ loops none l8_0 [.val (.tuple (bs.map tup)), .val (.int a), .val (.int b), V, .val (staD x), S, .val (.int (i : Int))] = .ok ([.val (.tuple (bs.map tup)), .val (.int a), .val (.int b), V, .val (staD (stepped x i)), S, .val (.int (i : Int))], .nx) := by
          simp! [l8_0, l8_0_1, List.length_map, q1, q2, q3]
        obtain ⟨e', ih⟩ := race_loop k bs a b V S r (stepped x i) (.val (.int (i : Int))) (fun y hy => hd y (List.mem_cons_of_mem _ hy)) (stepped_ok hx i) (by rw [stepped_len, hn])
        refine ⟨e', ?_⟩
        rw [for_step hp hb, loopK_nx, ih]
        simp only [ends, walk_go hi, hs, if_true]
def raceOk (bs : List Bk) (a b : Int) (v : PyData) : Bool := if (atB (strongs bs) a && atB (strongs bs) b) = true then false else match v with
  | .tuple ds => if decide (ds.length ≤ 100) = true then ends bs.length ds (start bs) a b else false
  | _ => false
/-- values that are judged -/
def judged : PyData → Prop
  | .tuple ds => ∀ d ∈ ds, noD d = true
  | .list _ => True
  | .none => True
  | _ => False
theorem is_race_run (k : Nat) (bs : List Bk) (h : PrOk bs) (a b : Int) (a0 : 0 ≤ a) (a1 : a < manyOf bs) (b0 : 0 ≤ b) (b1 : b < manyOf bs) (v : PyData) (hv : judged v) : callF T (k + 10) 8 [.val (.tuple (bs.map tup)), .val (.int a), .val (.int b), .val v] = .ok (.val (.bool (raceOk bs a b v)), .emp) := by
  have wa : wh ((manyOf bs : Int) - 1) (.int a) = true := by
    simp only [wh, Bool.and_eq_true, decide_eq_true_eq]
    omega
  have wb : wh ((manyOf bs : Int) - 1) (.int b) = true := by
    simp only [wh, Bool.and_eq_true, decide_eq_true_eq]
    omega
  have q1 := need_pair_ok (k + 1) bs h (.int a) (.int b) rfl rfl wa wb
  have q2 := strong_numbers (k + 5) bs h
  have i1 := item_bools (strongs bs) a a0 (by rw [strongs_len]; exact a1)
  have i2 := item_bools (strongs bs) b b0 (by rw [strongs_len]; exact b1)
  have q3 := first_state (k + 1) bs h
  rw [ev_call (fd := f8) rfl rfl]
  cases sa : atB (strongs bs) a with
  | true =>
    rw [sa] at i1
    cases sb : atB (strongs bs) b with
    | true =>
      rw [sb] at i2
      simp! [f8, m8, m8_1, m8_2, q1, q2, i1, i2, raceOk, sa, sb]
    | false =>
      rw [sb] at i2
      cases v with
      | tuple ds =>
        have q4 := is_tuple_of (k + 8) ds 0 100
        have c0 : decide ((0 : Int) ≤ (ds.length : Int)) = true := by simp
        have cz : decide ((ds.length : Int) ≤ 100) = decide (ds.length ≤ 100) := by
          congr 1
          exact propext (by omega)
        rw [c0, cz, Bool.true_and] at q4
        cases hl : decide (ds.length ≤ 100) with
        | false =>
          rw [hl] at q4
          simp! [f8, m8, m8_1, m8_2, q1, q2, i1, i2, q4, raceOk, sa, sb, hl]
        | true =>
          rw [hl] at q4
          obtain ⟨e, q5⟩ := race_loop k bs a b (.val (.tuple ds)) (.lst ((strongs bs).map .bool)) ds (start bs) .emp hv (start_400 h) (start_len bs h.fit)
          simp! [f8, m8, m8_1, m8_2, m8_3, m8_4, q1, q2, i1, i2, q4, q3, q5, raceOk, sa, sb, hl]
      | list ds =>
        have q4 := is_tuple_li (k + 8) ds 0 100
        simp! [f8, m8, m8_1, m8_2, q1, q2, i1, i2, q4, raceOk, sa, sb]
      | none =>
        have q4 := is_tuple_no (k + 8) 0 100
        simp! [f8, m8, m8_1, m8_2, q1, q2, i1, i2, q4, raceOk, sa, sb]
      | _ => exact hv.elim
  | false =>
    rw [sa] at i1
    cases v with
    | tuple ds =>
      have q4 := is_tuple_of (k + 8) ds 0 100
      have c0 : decide ((0 : Int) ≤ (ds.length : Int)) = true := by simp
      have cz : decide ((ds.length : Int) ≤ 100) = decide (ds.length ≤ 100) := by
        congr 1
        exact propext (by omega)
      rw [c0, cz, Bool.true_and] at q4
      cases hl : decide (ds.length ≤ 100) with
      | false =>
        rw [hl] at q4
        simp! [f8, m8, m8_1, m8_2, q1, q2, i1, q4, raceOk, sa, hl]
      | true =>
        rw [hl] at q4
        obtain ⟨e, q5⟩ := race_loop k bs a b (.val (.tuple ds)) (.lst ((strongs bs).map .bool)) ds (start bs) .emp hv (start_400 h) (start_len bs h.fit)
        simp! [f8, m8, m8_1, m8_2, m8_3, m8_4, q1, q2, i1, q4, q3, q5, raceOk, sa, hl]
    | list ds =>
      have q4 := is_tuple_li (k + 8) ds 0 100
      simp! [f8, m8, m8_1, m8_2, q1, q2, i1, q4, raceOk, sa]
    | none =>
      have q4 := is_tuple_no (k + 8) 0 100
      simp! [f8, m8, m8_1, m8_2, q1, q2, i1, q4, raceOk, sa]
    | _ => exact hv.elim
end
end K48

set_option Elab.async false
set_option linter.all false
set_option maxRecDepth 100000
set_option maxHeartbeats 4000000
namespace K48
open PySem Mi
section
local macro_rules
  | `(tactic| simp! [$xs,*] $[$loc]?) => `(tactic| simp -implicitDefEqProofs only [$xs,*, ev_var, ev_and, ev_or, ev_chn, ev_ite, ev_iff, ev_while, ev_for, ev_forN, ev_lc, ev_lc2, ev_cons, ev_nil, ev_cst, ev_gbl, ev_tup, ev_lst, ev_sub, ev_slc, ev_op2, ev_neg, ev_not, ev_cmp, ev_callE, ev_blt, ev_isi, ev_trg, ev_app, ev_pop, ev_nilA, ev_consA, ev_nilF, ev_consF, ev_nilM, ev_consM, ev_seq, ev_rng1, ev_enm, ev_zip, ev_asg, ev_par, ev_exp, ev_aug, ev_sti, ev_popAt, someS_lst, someS_val, onS_lst, ev_ret, ev_rse, ok_bind, exn_bind, stk_bind, pure_ok, varR_val, varR_lst, seeB_val, see_val, see_lst, see_slot, slotSee_lst, slotSee_val, frz_val', frz_lst', frz_slot, slotFrz_lst, slotFrz_val, bool1_bool, int1_int, optInt_no, optInt_yes, ME.isNop, onL_lst, settle_val, settle_lst, settle_slot, mv_val, mv_lst, mv_slot, thenB_nx, thenB_rt, thenB_bk, thenB_ct, loopK_nx, loopK_ct, loopK_bk, loopK_rt, endF_rt, endF_nx, ioS_no, ioS_lst, retA_val, retA_lst, retA_slot, call_no, call_io, args_nil, args_cons, seeAll_nil, seeAll_cons, ite_and, ite_or, Mi.get, put, fill, Slot.own, seqOf_list, seqOf_tuple, sub_tup, sub_lst, b_add, b_addb, b_sub, b_addt, b_addl, s_tup, s_lst, i_int, i_intb, i_intt, i_ints, i_bool, i_booli, i_boolt, i_str, i_stri, i_strt, i_tup, i_tupi, i_tups, i_lst, i_lstt, i_lsti, i_lsts, i_non, f_lenl, f_lent, f_int, f_intb, f_listl, f_listt, f_lists, f_tupl, f_tupt, f_all, f_any, a_lst, a_int, asg_v, asg_l, asg_t, asgs_nil, asgs_cons, put_nm, put_tp, puts_nil, puts_cons, c_lt, c_le, c_gt, c_ge, List.map_cons, List.map_nil, List.length_cons, List.length_nil, List.replicate, List.append_nil, List.cons_append, List.nil_append, if_true, if_false, Bool.false_eq_true, Bool.not_false, Bool.not_true, Nat.reduceAdd, Nat.reduceSub, Nat.reduceLT, ev_turn1, ev_turn2, ev_condN, lc_nil, lc_cons, lc2_nil, lc2_cons, optC_some, optC_none, frzR_eq, noX_ok, wipeE, backE, noOwn, List.all_cons, List.all_nil, str_eq, String.reduceEq, eq_self, Int.cast_ofNat_Int, Int.reduceLE, Int.reduceLT, Int.reduceSub, Int.reduceAdd, Int.reduceEq, Int.natCast_add, Int.reduceNeg, Int.natCast_zero, decide_true, decide_false, Bool.and_true, Bool.and_false, Bool.true_and, Bool.false_and, Bool.or_false, Bool.false_or, Bool.or_true, Bool.true_or, Bool.and_self, Bool.not_eq_true, not_true_eq_false, not_false_eq_true, and_self, and_true, true_and, and_false, false_and, reduceIte, io0, io1, io2, io3, io4, io5, io6, io7, io8, io9, io10, io11, io12, io13, io14, io15, io16, io17, io18, io19, io20, io21, io22, io23, io24, io25, io26, io27, io28, io29, io30, io31, io32, io33, io34, io35, io36, io37, io38, io39, io40, io41, io42, io43, io44, io45, io46, io47, io48, io49, io50, io51, io52, io53, io54, io55, io56, io57, io58, io59, io60, io61, io62, io63, io64, io65] $[$loc]?)
/-! races judged by the law; random rows -/
theorem ndO_is (o : Option (St × Int)) : cmp2 .Is (ndO o) .none = .ok (!o.isSome) := by
  cases o with
  | none => rfl
  | some p =>
    obtain ⟨r, e⟩ := nd_w p.1 p.2
    show cmp2 .Is (nd (p.1, p.2)) .none = .ok false
    rw [e]
    rfl
theorem i_strb (x : Str) : isTy (.str x) .bool = .ok false := rfl
theorem i_lstb (x : List PyData) : isTy (.list x) .bool = .ok false := rfl
theorem i_tupb (x : List PyData) : isTy (.tuple x) .bool = .ok false := rfl
theorem lrace_loop (k : Nat) (bs : List Bk) (a b : Int) (V S : Mi.Slot) : ∀ (ds : List PyData) (x : Sta) (s6 : Mi.Slot), (∀ d ∈ ds, noD d = true) → staOk 400 x → x.1.length = bs.length → ∃ e, (forT ⟨ioOf T, callF T (k + 9)⟩ loops none (.nm 6) l9_0 ds [.val (.tuple (bs.map tup)), .val (.int a), .val (.int b), V, .val (staD x), S, s6] >>= thenB ⟨ioOf T, callF T (k + 9)⟩ loops none m9_3) = .ok (e, .rt (.val (.bool (ends bs.length ds x a b))))
  | [], x, s6, _, hx, _ => by
    have q := law_meets (k + 1) x hx
    refine ⟨[.val (.tuple (bs.map tup)), .val (.int a), .val (.int b), V, .val (staD x), S, s6], ?_⟩
    have ip := in_pairs (pairs x) (if b < a then b else a) (if b > a then b else a)
    rw [ev_forN]
    simp! [m9_3, f_min, f_max, q, ip, ends, walk, mn, mx]
  | d :: r, x, s6, hd, hx, hn => by
    have h1 := hd d List.mem_cons_self
    have hp : putT (.nm 6) d [.val (.tuple (bs.map tup)), .val (.int a), .val (.int b), V, .val (staD x), S, s6] = .ok [.val (.tuple (bs.map tup)), .val (.int a), .val (.int b), V, .val (staD x), S, .val d] := rfl
    have stop : wh ((bs.length : Int) - 1) d = false → execB ⟨ioOf T, callF T (k + 9)⟩ loops none l9_0 [.val (.tuple (bs.map tup)), .val (.int a), .val (.int b), V, .val (staD x), S, .val d] = .ok ([.val (.tuple (bs.map tup)), .val (.int a), .val (.int b), V, .val (staD x), S, .val d], .rt (.val (.bool false))) := fun hw => by
      cases d with
      | int v =>
        simp only [wh, Bool.and_eq_false_iff, decide_eq_false_iff_not] at hw
        cases h0 : decide ((0 : Int) ≤ v) with
        | false => simp! [l9_0, h0]
        | true =>
          have h0' : (0 : Int) ≤ v := of_decide_eq_true h0
          have h2 : decide (v < (bs.length : Int)) = false := by
            simp only [decide_eq_false_iff_not]
            omega
          simp! [l9_0, h0, h2, List.length_map]
      | dict v => cases h1
      | _ => simp! [l9_0, i_strb, i_lstb, i_tupb]
    cases hw : wh ((bs.length : Int) - 1) d with
    | false =>
      refine ⟨[.val (.tuple (bs.map tup)), .val (.int a), .val (.int b), V, .val (staD x), S, .val d], ?_⟩
      rw [for_step hp (stop hw), loopK_rt]
      simp only [ok_bind, thenB_rt, ends, walk_no hw]
    | true =>
      obtain ⟨i, rfl, hi⟩ := wh_some hw
      have q2 := law_next (k + 8) x i (by omega)
      have n2 := ndO_is (nextOf x i)
      have h0 : decide ((0 : Int) ≤ (i : Int)) = true := by simp
      have h2 : decide ((i : Int) < (bs.length : Int)) = true := by
        simp only [decide_eq_true_eq]
        omega
      cases hs : (nextOf x i).isSome with
      | false =>
        rw [hs] at n2
        have hb : execB ⟨ioOf T, callF T (k + 9)⟩ loops none l9_0 [.val (.tuple (bs.map tup)), .val (.int a), .val (.int b), V, .val (staD x), S, .val (.int (i : Int))] = .ok ([.val (.tuple (bs.map tup)), .val (.int a), .val (.int b), V, .val (staD x), S, .val (.int (i : Int))], .rt (.val (.bool false))) := by
          simp! [l9_0, h0, h2, List.length_map, q2, n2]
        refine ⟨[.val (.tuple (bs.map tup)), .val (.int a), .val (.int b), V, .val (staD x), S, .val (.int (i : Int))], ?_⟩
        rw [for_step hp hb, loopK_rt]
        simp only [ok_bind, thenB_rt, ends, walk_go hi, hs, Bool.false_eq_true, if_false]
      | true =>
        rw [hs] at n2
        obtain ⟨s, f, t, g, e⟩ := next_some hs
        have q3 := law_stepped (k + 1) x i hx s f t g e
        have hb : execB ⟨ioOf T, callF T (k + 9)⟩ loops none l9_0 [.val (.tuple (bs.map tup)), .val (.int a), .val (.int b), V, .val (staD x), S, .val (.int (i : Int))] = .ok ([.val (.tuple (bs.map tup)), .val (.int a), .val (.int b), V, .val (staD (stepped x i)), S, .val (.int (i : Int))], .nx) := by
          simp! [l9_0, l9_0_1, h0, h2, List.length_map, q2, n2, q3]
        obtain ⟨e', ih⟩ := lrace_loop k bs a b V S r (stepped x i) (.val (.int (i : Int))) (fun y hy => hd y (List.mem_cons_of_mem _ hy)) (stepped_ok hx i) (by rw [stepped_len, hn])
        refine ⟨e', ?_⟩
        rw [for_step hp hb, loopK_nx, ih]
        simp only [ends, walk_go hi, hs, if_true]
theorem law_is_right (k : Nat) (bs : List Bk) (h : PrOk bs) (a b : Int) (a0 : 0 ≤ a) (a1 : a < manyOf bs) (b0 : 0 ≤ b) (b1 : b < manyOf bs) (v : PyData) (hv : judged v) : callF T (k + 10) 9 [.val (.tuple (bs.map tup)), .val (.int a), .val (.int b), .val v] = .ok (.val (.bool (raceOk bs a b v)), .emp) := by
  have q2 := law_strong_ones (k + 2) bs h
  have i1 := item_bools (strongs bs) a a0 (by rw [strongs_len]; exact a1)
  have i2 := item_bools (strongs bs) b b0 (by rw [strongs_len]; exact b1)
  have q3 := law_begun (k + 2) bs h
  have e3 : staD (start bs) = .tuple [.tuple ((begun bs).map thrD), .tuple [.int 0, .int 0, .int 0, .int 0]] := rfl
  have ht : ∀ (ds : List PyData) (sab : (atB (strongs bs) a && atB (strongs bs) b) = false), v = .tuple ds → ∃ e, execB ⟨ioOf T, callF T (k + 9)⟩ loops none m9_2 [.val (.tuple (bs.map tup)), .val (.int a), .val (.int b), .val (.tuple ds), .val (staD (start bs)), .lst ((strongs bs).map .bool), .emp] = .ok (e, .rt (.val (.bool (ends bs.length ds (start bs) a b)))) := fun ds sab hvd => by
    subst hvd
    obtain ⟨e, q5⟩ := lrace_loop k bs a b (.val (.tuple ds)) (.lst ((strongs bs).map .bool)) ds (start bs) .emp hv (start_400 h) (start_len bs h.fit)
    refine ⟨e, ?_⟩
    simp! [m9_2, q5]
  rw [ev_call (fd := f9) rfl rfl]
  cases sa : atB (strongs bs) a with
  | true =>
    rw [sa] at i1
    cases sb : atB (strongs bs) b with
    | true =>
      rw [sb] at i2
      simp! [f9, m9, m9_1, q2, q3, i1, i2, raceOk, sa, sb]
    | false =>
      rw [sb] at i2
      cases v with
      | tuple ds =>
        cases hl : decide (ds.length ≤ 100) with
        | false =>
          have hl2 : decide ((100 : Int) < (ds.length : Int)) = true := by
            have := of_decide_eq_false hl
            simp only [decide_eq_true_eq]
            omega
          simp! [f9, m9, m9_1, q2, q3, i1, i2, raceOk, sa, sb, hl, hl2]
        | true =>
          have hl2 : decide ((100 : Int) < (ds.length : Int)) = false := by
            have := of_decide_eq_true hl
            simp only [decide_eq_false_iff_not]
            omega
          obtain ⟨e, q5⟩ := ht ds (by rw [sa, sb]; rfl) rfl
          rw [e3] at q5
          simp! [f9, m9, m9_1, q2, q3, i1, i2, raceOk, sa, sb, hl, hl2, q5]
      | list ds => simp! [f9, m9, m9_1, q2, q3, i1, i2, raceOk, sa, sb]
      | none => simp! [f9, m9, m9_1, q2, q3, i1, i2, raceOk, sa, sb]
      | _ => exact hv.elim
  | false =>
    rw [sa] at i1
    cases v with
    | tuple ds =>
      cases hl : decide (ds.length ≤ 100) with
      | false =>
        have hl2 : decide ((100 : Int) < (ds.length : Int)) = true := by
          have := of_decide_eq_false hl
          simp only [decide_eq_true_eq]
          omega
        simp! [f9, m9, m9_1, q2, q3, i1, raceOk, sa, hl, hl2]
      | true =>
        have hl2 : decide ((100 : Int) < (ds.length : Int)) = false := by
          have := of_decide_eq_true hl
          simp only [decide_eq_false_iff_not]
          omega
        obtain ⟨e, q5⟩ := ht ds (by rw [sa]; rfl) rfl
        rw [e3] at q5
        simp! [f9, m9, m9_1, q2, q3, i1, raceOk, sa, hl, hl2, q5]
    | list ds => simp! [f9, m9, m9_1, q2, q3, i1, raceOk, sa]
    | none => simp! [f9, m9, m9_1, q2, q3, i1, raceOk, sa]
    | _ => exact hv.elim
/-! ### random rows -/
def runTo : List Nat → Sta → Option Sta
  | [], x => some x
  | i :: r, x => if (nextOf x i).isSome = true then runTo r (stepped x i) else none
theorem runTo_cat : ∀ (r : List Nat) (x y : Sta) (i : Nat), runTo r x = some y → (nextOf y i).isSome = true → runTo (r ++ [i]) x = some (stepped y i)
  | [], x, y, i, h, hi => by
    cases h
    simp only [List.nil_append, runTo, hi, if_true]
  | j :: r, x, y, i, h, hi => by
    simp only [runTo] at h
    split at h
    · rename_i hj
      simp only [List.cons_append, runTo, hj, if_true]
      exact runTo_cat r _ y i h hi
    · cases h
theorem runTo_keep {P : Sta → Prop} (hP : ∀ x i, P x → P (stepped x i)) : ∀ (r : List Nat) (x y : Sta), runTo r x = some y → P x → P y
  | [], x, y, h, p => by
    cases h
    exact p
  | j :: r, x, y, h, p => by
    simp only [runTo] at h
    split at h
    · exact runTo_keep hP r _ y h (hP x j p)
    · cases h
def ableOf (x : Sta) : List Nat := (List.range x.1.length).filter fun i => (nextOf x i).isSome
theorem item_last (l : List PyData) (d : PyData) : itemAt (l ++ [d]) (-1) = .ok d := by
  have h : ixAt (l ++ [d]).length (-1) = some l.length := by
    have a : ¬ ((0 : Int) ≤ -1) := by decide
    have b : -(((l ++ [d]).length : Nat) : Int) ≤ -1 := by
      simp only [List.length_append, List.length_cons, List.length_nil]
      omega
    unfold ixAt
    rw [if_neg a, if_pos b]
    congr 1
    simp only [List.length_append, List.length_cons, List.length_nil]
    omega
  unfold itemAt
  rw [h]
  simp
end
end K48

set_option Elab.async false
set_option linter.all false
set_option maxRecDepth 100000
set_option maxHeartbeats 4000000
namespace K48
open PySem Mi
section
local macro_rules
  | `(tactic| simp! [$xs,*] $[$loc]?) => `(tactic| simp -implicitDefEqProofs only [$xs,*, ev_var, ev_and, ev_or, ev_chn, ev_ite, ev_iff, ev_while, ev_for, ev_forN, ev_lc, ev_lc2, ev_cons, ev_nil, ev_cst, ev_gbl, ev_tup, ev_lst, ev_sub, ev_slc, ev_op2, ev_neg, ev_not, ev_cmp, ev_callE, ev_blt, ev_isi, ev_trg, ev_app, ev_pop, ev_nilA, ev_consA, ev_nilF, ev_consF, ev_nilM, ev_consM, ev_seq, ev_rng1, ev_enm, ev_zip, ev_asg, ev_par, ev_exp, ev_aug, ev_sti, ev_popAt, someS_lst, someS_val, onS_lst, ev_ret, ev_rse, ok_bind, exn_bind, stk_bind, pure_ok, varR_val, varR_lst, seeB_val, see_val, see_lst, see_slot, slotSee_lst, slotSee_val, frz_val', frz_lst', frz_slot, slotFrz_lst, slotFrz_val, bool1_bool, int1_int, optInt_no, optInt_yes, ME.isNop, onL_lst, settle_val, settle_lst, settle_slot, mv_val, mv_lst, mv_slot, thenB_nx, thenB_rt, thenB_bk, thenB_ct, loopK_nx, loopK_ct, loopK_bk, loopK_rt, endF_rt, endF_nx, ioS_no, ioS_lst, retA_val, retA_lst, retA_slot, call_no, call_io, args_nil, args_cons, seeAll_nil, seeAll_cons, ite_and, ite_or, Mi.get, put, fill, Slot.own, seqOf_list, seqOf_tuple, sub_tup, sub_lst, b_add, b_addb, b_sub, b_addt, b_addl, s_tup, s_lst, i_int, i_intb, i_intt, i_ints, i_bool, i_booli, i_boolt, i_str, i_stri, i_strt, i_tup, i_tupi, i_tups, i_lst, i_lstt, i_lsti, i_lsts, i_non, f_lenl, f_lent, f_int, f_intb, f_listl, f_listt, f_lists, f_tupl, f_tupt, f_all, f_any, a_lst, a_int, asg_v, asg_l, asg_t, asgs_nil, asgs_cons, put_nm, put_tp, puts_nil, puts_cons, c_lt, c_le, c_gt, c_ge, List.map_cons, List.map_nil, List.length_cons, List.length_nil, List.replicate, List.append_nil, List.cons_append, List.nil_append, if_true, if_false, Bool.false_eq_true, Bool.not_false, Bool.not_true, Nat.reduceAdd, Nat.reduceSub, Nat.reduceLT, ev_turn1, ev_turn2, ev_condN, lc_nil, lc_cons, lc2_nil, lc2_cons, optC_some, optC_none, frzR_eq, noX_ok, wipeE, backE, noOwn, List.all_cons, List.all_nil, str_eq, String.reduceEq, eq_self, Int.cast_ofNat_Int, Int.reduceLE, Int.reduceLT, Int.reduceSub, Int.reduceAdd, Int.reduceEq, Int.natCast_add, Int.reduceNeg, Int.natCast_zero, decide_true, decide_false, Bool.and_true, Bool.and_false, Bool.true_and, Bool.false_and, Bool.or_false, Bool.false_or, Bool.or_true, Bool.true_or, Bool.and_self, Bool.not_eq_true, not_true_eq_false, not_false_eq_true, and_self, and_true, true_and, and_false, false_and, reduceIte, io0, io1, io2, io3, io4, io5, io6, io7, io8, io9, io10, io11, io12, io13, io14, io15, io16, io17, io18, io19, io20, io21, io22, io23, io24, io25, io26, io27, io28, io29, io30, io31, io32, io33, io34, io35, io36, io37, io38, io39, io40, io41, io42, io43, io44, io45, io46, io47, io48, io49, io50, io51, io52, io53, io54, io55, io56, io57, io58, io59, io60, io61, io62, io63, io64, io65] $[$loc]?)
/-! a random walk -/
theorem able_comp (k : Nat) (x : Sta) (c s1 s2 s3 s6 : Mi.Slot) : lcL (turn1 ⟨ioOf T, callF T (k + 1)⟩ (.nm 5) [5] cd4_0 ce4_0) ((List.range x.1.length).map nat) [c, s1, s2, s3, .val (staD x), .emp, s6] = .ok ((ableOf x).map nat, [c, s1, s2, s3, .val (staD x), .emp, s6]) := by
  rw [lc_list nat (fun i => if (nextOf x i).isSome = true then some (nat i) else none) (List.range x.1.length) fun i hi => by
    have q := law_next k x i (List.mem_range.mp hi)
    have n1 := ndO_not (nextOf x i)
    have cc := ev_cond (c := ⟨ioOf T, callF T (k + 1)⟩) (env := [c, s1, s2, s3, .val (staD x), .val (nat i), s6]) cd4_0 rfl
    rw [ev_turn1]
    cases hs : (nextOf x i).isSome with
    | true =>
      rw [hs] at n1
      simp only [nat] at cc ⊢
      simp! [cc]
      simp! [cd4_0, ce4_0, q, n1]
    | false =>
      rw [hs] at n1
      simp only [nat] at cc ⊢
      simp! [cc]
      simp! [cd4_0, ce4_0, q, n1]]
  rw [filterMap_if]
  rfl
theorem nats_plain : ∀ l : List Nat, PyData.plainAll (l.map nat) = true
  | [] => rfl
  | p :: r => by
    simp only [List.map_cons, PyData.plainAll, nats_plain r, Bool.and_true]
    rfl
theorem able_mem {x : Sta} {d : PyData} (h : d ∈ (ableOf x).map nat) : ∃ i : Nat, d = nat i ∧ i < x.1.length ∧ (nextOf x i).isSome = true := by
  obtain ⟨i, hi, rfl⟩ := List.mem_map.mp h
  obtain ⟨h1, h2⟩ := List.mem_filter.mp hi
  exact ⟨i, rfl, List.mem_range.mp h1, h2⟩
theorem walk_turn (k : Nat) (bs : List Bk) (a b : Int) (hc : CupOk a b) (row : List Nat) (x : Sta) (hx : staOk 400 x) (hn : x.1.length = bs.length) (hr : row.length ≤ 100) (s2 s6 : Mi.Slot) : ∃ (row' : List Nat) (x' : Sta) (a' b' : Int) (s2' : Mi.Slot), execB ⟨ioOf T, callF T (k + 9)⟩ loops (some 0) l4_0 [cupD a b, .val (.tuple (bs.map tup)), s2, .val (.tuple (row.map nat)), .val (staD x), .emp, s6] = .ok ([cupD a' b', .val (.tuple (bs.map tup)), s2', .val (.tuple (row'.map nat)), .val (staD x'), .emp, s6], .nx) ∧ CupOk a' b' ∧
    ((row' = row ∧ x' = x) ∨ ∃ i, row' = row ++ [i] ∧ (nextOf x i).isSome = true ∧ x' = stepped x i) := by
  have q1 := able_comp (k + 8) x (cupD a b) (.val (.tuple (bs.map tup))) s2 (.val (.tuple (row.map nat))) s6
  have hrn := rng_nat bs.length (by have := hx.len; omega)
  have hne := ne_nil (nats_plain (ableOf x))
  rw [hn] at q1
  have c1 : (row.map nat).length + 1 ≤ big := small _ (by rw [List.length_map]; omega)
  simp only [cupD] at q1 ⊢
  cases he : ((ableOf x).map nat).isEmpty with
  | true =>
    rw [he] at hne
    refine ⟨row, x, a, b, .lst ((ableOf x).map nat), ?_, hc, .inl ⟨rfl, rfl⟩⟩
    simp! [l4_0, l4_0_1, List.length_map, hrn, q1, hne]
  | false =>
    rw [he] at hne
    have hl : 0 < ((ableOf x).map nat).length := by
      cases h : (ableOf x).map nat with
      | nil => rw [h] at he; cases he
      | cons _ _ => simp
    obtain ⟨d, a1, b1, g, c, hd⟩ := some_ (k + 7) a b ((ableOf x).map nat) hc hl (by
      have : (ableOf x).length ≤ x.1.length := by
        have := List.length_filter_le (fun i => (nextOf x i).isSome) (List.range x.1.length)
        rw [List.length_range] at this
        exact this
      have := hx.len
      rw [List.length_map]
      omega)
    obtain ⟨i, rfl, hi, hs⟩ := able_mem hd
    obtain ⟨s, f, t, gg, e⟩ := next_some hs
    have q3 := law_stepped (k + 1) x i hx s f t gg e
    have il := item_last (row.map nat) (.int (i : Int))
    simp only [cupD, nat] at g
    refine ⟨row ++ [i], stepped x i, a1, b1, .val (.list ((ableOf x).map nat)), ?_, c, .inr ⟨i, rfl, hs, rfl⟩⟩
    have e9 : (row ++ [i]).map nat = row.map nat ++ [.int (i : Int)] := by simp [nat]
    rw [e9]
    simp! [l4_0, l4_0_1, List.length_map, hrn, q1, hne, g, ev_neg, il, q3, c1]
    rw [List.length_map] at c1
    simp! [c1, ev_neg, il, q3]
theorem walk_loop (k : Nat) (bs : List Bk) : ∀ (ds : List PyData) (a b : Int) (row : List Nat) (x : Sta) (s2 s6 : Mi.Slot), CupOk a b → staOk 400 x → x.1.length = bs.length → row.length + ds.length ≤ 100 → runTo row (start bs) = some x →
    ∃ (row' : List Nat) (x' : Sta) (a' b' : Int) (s2' s6' : Mi.Slot), forT ⟨ioOf T, callF T (k + 9)⟩ loops (some 0) (.nm 6) l4_0 ds [cupD a b, .val (.tuple (bs.map tup)), s2, .val (.tuple (row.map nat)), .val (staD x), .emp, s6] = .ok ([cupD a' b', .val (.tuple (bs.map tup)), s2', .val (.tuple (row'.map nat)), .val (staD x'), .emp, s6'], .nx) ∧ CupOk a' b' ∧ runTo row' (start bs) = some x' ∧ row'.length ≤ row.length + ds.length
  | [], a, b, row, x, s2, s6, hc, hx, hn, hl, hr => ⟨row, x, a, b, s2, s6, by rw [ev_forN], hc, hr, Nat.le_refl _⟩
  | d :: ds, a, b, row, x, s2, s6, hc, hx, hn, hl, hr => by
    simp only [List.length_cons] at hl
    obtain ⟨row1, x1, a1, b1, t2, g, c1, hh⟩ := walk_turn k bs a b hc row x hx hn (by omega) s2 (.val d)
    have key : staOk 400 x1 ∧ x1.1.length = bs.length ∧ runTo row1 (start bs) = some x1 ∧ row1.length ≤ row.length + 1 := by
      rcases hh with ⟨rfl, rfl⟩ | ⟨i, rfl, hs, rfl⟩
      · exact ⟨hx, hn, hr, Nat.le_succ _⟩
      · exact ⟨stepped_ok hx i, by rw [stepped_len, hn], runTo_cat _ _ _ _ hr hs, by simp⟩
    obtain ⟨k1, k2, k3, k4⟩ := key
    obtain ⟨row2, x2, a2, b2, u2, u6, g2, c2, h2, l2⟩ := walk_loop k bs ds a1 b1 row1 x1 t2 (.val d) c1 k1 k2 (by omega) k3
    refine ⟨row2, x2, a2, b2, u2, u6, ?_, c2, h2, by simp only [List.length_cons]; omega⟩
    have hp : putT (.nm 6) d [cupD a b, .val (.tuple (bs.map tup)), s2, .val (.tuple (row.map nat)), .val (staD x), .emp, s6] = .ok [cupD a b, .val (.tuple (bs.map tup)), s2, .val (.tuple (row.map nat)), .val (staD x), .emp, .val d] := rfl
    rw [for_step hp g, loopK_nx, g2]
theorem law_walk (k : Nat) (bs : List Bk) (h : PrOk bs) (a b : Int) (hc : CupOk a b) : ∃ (row : List Nat) (x : Sta) (a' b' : Int), callF T (k + 10) 4 [cupD a b, .val (.tuple (bs.map tup))] = .ok (.val (.tuple [.tuple (row.map nat), .list ((pairs x).map pD)]), cupD a' b') ∧ CupOk a' b' ∧ runTo row (start bs) = some x ∧ row.length ≤ 4 := by
  obtain ⟨v, a1, b1, g1, c1, v0, v1⟩ := roll (k + 8) a b 5 hc (by decide) (by decide)
  obtain ⟨j, rfl⟩ := Int.eq_ofNat_of_zero_le v0
  have hr := rng_nat j (by omega)
  obtain ⟨row, x, a2, b2, s2, s6, g2, c2, h2, l2⟩ := walk_loop k bs ((List.range j).map nat) a1 b1 [] (start bs) .emp .emp c1 (start_400 h) (start_len bs h.fit) (by simp; omega) rfl
  have hx : staOk 400 x := runTo_keep (P := staOk 400) (fun x i p => stepped_ok p i) row _ _ h2 (start_400 h)
  have q := law_meets (k + 1) x hx
  have q3 := law_begun (k + 2) bs h
  have e3 : staD (start bs) = .tuple [.tuple ((begun bs).map thrD), .tuple [.int 0, .int 0, .int 0, .int 0]] := rfl
  refine ⟨row, x, a2, b2, ?_, c2, h2, by simpa [List.length_range] using Nat.le_trans l2 (by simp; omega)⟩
  rw [e3] at g2
  simp only [cupD, List.map_nil] at g1 g2 ⊢
  rw [ev_call (fd := f4) rfl rfl]
  simp! [f4, m4, m4_1, m4_2, q3, g1, hr, g2, q]
end
end K48

set_option Elab.async false
set_option linter.all false
set_option maxRecDepth 100000
set_option maxHeartbeats 4000000
namespace K48
open PySem Mi
section
local macro_rules
  | `(tactic| simp! [$xs,*] $[$loc]?) => `(tactic| simp -implicitDefEqProofs only [$xs,*, ev_var, ev_and, ev_or, ev_chn, ev_ite, ev_iff, ev_while, ev_for, ev_forN, ev_lc, ev_lc2, ev_cons, ev_nil, ev_cst, ev_gbl, ev_tup, ev_lst, ev_sub, ev_slc, ev_op2, ev_neg, ev_not, ev_cmp, ev_callE, ev_blt, ev_isi, ev_trg, ev_app, ev_pop, ev_nilA, ev_consA, ev_nilF, ev_consF, ev_nilM, ev_consM, ev_seq, ev_rng1, ev_enm, ev_zip, ev_asg, ev_par, ev_exp, ev_aug, ev_sti, ev_popAt, someS_lst, someS_val, onS_lst, ev_ret, ev_rse, ok_bind, exn_bind, stk_bind, pure_ok, varR_val, varR_lst, seeB_val, see_val, see_lst, see_slot, slotSee_lst, slotSee_val, frz_val', frz_lst', frz_slot, slotFrz_lst, slotFrz_val, bool1_bool, int1_int, optInt_no, optInt_yes, ME.isNop, onL_lst, settle_val, settle_lst, settle_slot, mv_val, mv_lst, mv_slot, thenB_nx, thenB_rt, thenB_bk, thenB_ct, loopK_nx, loopK_ct, loopK_bk, loopK_rt, endF_rt, endF_nx, ioS_no, ioS_lst, retA_val, retA_lst, retA_slot, call_no, call_io, args_nil, args_cons, seeAll_nil, seeAll_cons, ite_and, ite_or, Mi.get, put, fill, Slot.own, seqOf_list, seqOf_tuple, sub_tup, sub_lst, b_add, b_addb, b_sub, b_addt, b_addl, s_tup, s_lst, i_int, i_intb, i_intt, i_ints, i_bool, i_booli, i_boolt, i_str, i_stri, i_strt, i_tup, i_tupi, i_tups, i_lst, i_lstt, i_lsti, i_lsts, i_non, f_lenl, f_lent, f_int, f_intb, f_listl, f_listt, f_lists, f_tupl, f_tupt, f_all, f_any, a_lst, a_int, asg_v, asg_l, asg_t, asgs_nil, asgs_cons, put_nm, put_tp, puts_nil, puts_cons, c_lt, c_le, c_gt, c_ge, List.map_cons, List.map_nil, List.length_cons, List.length_nil, List.replicate, List.append_nil, List.cons_append, List.nil_append, if_true, if_false, Bool.false_eq_true, Bool.not_false, Bool.not_true, Nat.reduceAdd, Nat.reduceSub, Nat.reduceLT, ev_turn1, ev_turn2, ev_condN, lc_nil, lc_cons, lc2_nil, lc2_cons, optC_some, optC_none, frzR_eq, noX_ok, wipeE, backE, noOwn, List.all_cons, List.all_nil, str_eq, String.reduceEq, eq_self, Int.cast_ofNat_Int, Int.reduceLE, Int.reduceLT, Int.reduceSub, Int.reduceAdd, Int.reduceEq, Int.natCast_add, Int.reduceNeg, Int.natCast_zero, decide_true, decide_false, Bool.and_true, Bool.and_false, Bool.true_and, Bool.false_and, Bool.or_false, Bool.false_or, Bool.or_true, Bool.true_or, Bool.and_self, Bool.not_eq_true, not_true_eq_false, not_false_eq_true, and_self, and_true, true_and, and_false, false_and, reduceIte, io0, io1, io2, io3, io4, io5, io6, io7, io8, io9, io10, io11, io12, io13, io14, io15, io16, io17, io18, io19, io20, io21, io22, io23, io24, io25, io26, io27, io28, io29, io30, io31, io32, io33, io34, io35, io36, io37, io38, io39, io40, io41, io42, io43, io44, io45, io46, io47, io48, io49, io50, io51, io52, io53, io54, io55, io56, io57, io58, io59, io60, io61, io62, io63, io64, io65] $[$loc]?)
/-! the plain law of k48 -/
theorem try_ok {c : Cl} {L : Nat} {lk : Option Nat} {env : Mi.Env} {b : MB} {ks : List Nat} {v : Option Nat} {h0 : HX} {r : Mi.Env × Mi.Flow} (h : execB c L lk b env = .ok r) : execS c L lk (.tryS b ks v h0) env = .ok r := by
  simp only [execS, h]
theorem repr_bool (b : Bool) : bltF .repr [.bool b] = .ok (.val (.str (PyData.shown (.bool b)))) := by
  cases b <;> rfl
theorem word_ok (k : Nat) (p a b : PyData) (t : Bool) (h : callF T (k + 1) 8 [.val p, .val a, .val b, .val (.tuple [])] = .ok (.val (.bool t), .emp)) : callF T (k + 2) 7 [.val p, .val a, .val b] = .ok (.val (.bool t), .emp) := by
  have hb : execB ⟨ioOf T, callF T (k + 1)⟩ loops none (.cons (.ret (.call 8 (.cons (.var 0) (.cons (.var 1) (.cons (.var 2) (.cons (.tup .nil) .nil)))))) .nil) [.val p, .val a, .val b, .emp] = .ok ([.val p, .val a, .val b, .emp], .rt (.val (.bool t))) := by
    simp! [h]
  rw [ev_call (fd := f7) rfl rfl]
  simp! [f7, m7, try_ok hb]
theorem word_num (k : Nat) (p a b : PyData) (h : callF T (k + 1) 8 [.val p, .val a, .val b, .val (.tuple [])] = .exn 1 []) : callF T (k + 2) 7 [.val p, .val a, .val b] = .ok (.val (.str "number"), .emp) := by
  have hb : execB ⟨ioOf T, callF T (k + 1)⟩ loops none (.cons (.ret (.call 8 (.cons (.var 0) (.cons (.var 1) (.cons (.var 2) (.cons (.tup .nil) .nil)))))) .nil) [.val p, .val a, .val b, .emp] = .exn 1 [] := by
    simp! [h]
  rw [ev_call (fd := f7) rfl rfl]
  simp! [f7, m7]
  rw [ev_try hb rfl (a := .val (.str "number")) rfl]
  rfl
theorem word_prog (k : Nat) (p a b : PyData) (h : callF T (k + 1) 8 [.val p, .val a, .val b, .val (.tuple [])] = .exn 0 []) : callF T (k + 2) 7 [.val p, .val a, .val b] = .ok (.val (.str "program"), .emp) := by
  have hb : execB ⟨ioOf T, callF T (k + 1)⟩ loops none (.cons (.ret (.call 8 (.cons (.var 0) (.cons (.var 1) (.cons (.var 2) (.cons (.tup .nil) .nil)))))) .nil) [.val p, .val a, .val b, .emp] = .exn 0 [] := by
    simp! [h]
  rw [ev_call (fd := f7) rfl rfl]
  simp! [f7, m7]
  rw [ev_try hb rfl (a := .val (.str "program")) rfl]
  rfl
theorem race_exn (k n : Nat) (p a b v : PyData) (h : callF T (k + 1) 17 [.val p, .val a, .val b] = .exn n []) : callF T (k + 2) 8 [.val p, .val a, .val b, .val v] = .exn n [] := by
  rw [ev_call (fd := f8) rfl rfl]
  simp! [f8, m8, h]
theorem raceOk_comm (bs : List Bk) (a b : Int) (v : PyData) : raceOk bs a b v = raceOk bs b a v := by
  unfold raceOk ends
  rw [Bool.and_comm, mn_comm, mx_comm]
/-- the slots of the law's loop -/
def envL (s0 s1 : Mi.Slot) (a b M : Int) (s4 s5 s6 s7 : Mi.Slot) (bs : List Bk) (s9 s10 s11 : Mi.Slot) : Mi.Env := [s0, s1, .lst [.int a, .int b], .val (.int M), s4, s5, s6, s7, .val (.tuple (bs.map tup)), s9, s10, s11]
theorem turn_pair (k : Nat) (s0 s1 : Mi.Slot) (a b : Int) (M : Nat) (hM : 2 ≤ M) (hM2 : M ≤ 1000) (s4 s5 s7 : Mi.Slot) (bs : List Bk) (s9 s10 s11 : Mi.Slot) (hc : CupOk a b) (ps : List (Int × Int)) (hps : ∀ p ∈ ps, (0 ≤ p.1 ∧ p.1 < (M : Int)) ∧ (0 ≤ p.2 ∧ p.2 < (M : Int))) (hpl : ps.length ≤ 1000) :
    ∃ (p q a' b' : Int), execB ⟨ioOf T, callF T (k + 20)⟩ loops none l65_0_1 (envL s0 s1 a b M s4 s5 (.val (.list (ps.map pD))) s7 bs s9 s10 s11) = execB ⟨ioOf T, callF T (k + 20)⟩ loops none l65_0_2 (envL s0 s1 a' b' M s4 (.val (.tuple [.int p, .int q])) (.val (.list (ps.map pD))) s7 bs s9 s10 s11) ∧ CupOk a' b' ∧ (0 ≤ p ∧ p < (M : Int)) ∧ (0 ≤ q ∧ q < (M : Int)) := by
  have hne := ne_nil (pD_plain ps)
  have rolls : ∀ a1 b1 : Int, CupOk a1 b1 → ∃ (p q a2 b2 a3 b3 : Int), callF T (k + 19 + 1) 6 [cupD a1 b1, .val (.int (M : Int))] = .ok (.val (.int p), cupD a2 b2) ∧ callF T (k + 19 + 1) 6 [cupD a2 b2, .val (.int (M : Int))] = .ok (.val (.int q), cupD a3 b3) ∧ CupOk a3 b3 ∧ (0 ≤ p ∧ p < (M : Int)) ∧ (0 ≤ q ∧ q < (M : Int)) := fun a1 b1 c1 => by
    obtain ⟨p, a2, b2, g2, c2, p0, p1⟩ := roll (k + 19) a1 b1 (M : Int) c1 (by omega) (by omega)
    obtain ⟨q, a3, b3, g3, c3, q0, q1⟩ := roll (k + 19) a2 b2 (M : Int) c2 (by omega) (by omega)
    exact ⟨p, q, a2, b2, a3, b3, g2, g3, c3, ⟨p0, p1⟩, ⟨q0, q1⟩⟩
  cases he : (ps.map pD).isEmpty with
  | true =>
    rw [he] at hne
    obtain ⟨p, q, a2, b2, a3, b3, g2, g3, c3, hp, hq⟩ := rolls a b hc
    refine ⟨p, q, a3, b3, ?_, c3, hp, hq⟩
    simp only [cupD] at g2 g3
    simp! [l65_0_1, envL, hne, g2, g3]
  | false =>
    rw [he] at hne
    obtain ⟨v, a1, b1, g1, c1, v0, v1⟩ := roll (k + 19) a b 4 hc (by decide) (by decide)
    cases hv : decide (0 < v) with
    | false =>
      obtain ⟨p, q, a2, b2, a3, b3, g2, g3, c3, hp, hq⟩ := rolls a1 b1 c1
      refine ⟨p, q, a3, b3, ?_, c3, hp, hq⟩
      simp only [cupD] at g1 g2 g3
      simp! [l65_0_1, envL, hne, g1, hv, g2, g3]
    | true =>
      have hl : 0 < (ps.map pD).length := by
        cases h : ps.map pD with
        | nil => rw [h] at he; cases he
        | cons _ _ => simp
      obtain ⟨d, a2, b2, g2, c2, hd⟩ := some_ (k + 18) a1 b1 (ps.map pD) c1 hl (by rw [List.length_map]; omega)
      obtain ⟨pq, hm, rfl⟩ := List.mem_map.mp hd
      have := hps pq hm
      refine ⟨pq.1, pq.2, a2, b2, ?_, c2, this.1, this.2⟩
      simp only [cupD, pD] at g1 g2
      simp! [l65_0_1, envL, hne, g1, hv, g2]
def others (R : List PyData) (n : Int) : List PyData := [.tuple R, .tuple R, .tuple R, .list R, .tuple (R ++ [.int n]), .tuple (R ++ [.int (-1)]), .tuple (.bool true :: R), .tuple (R ++ [.int 0]), .tuple (List.replicate 101 (.int 0)), .none, .tuple (cut R none (some (-1)))]
theorem others_judged (R : List PyData) (n : Int) (h : ∀ d ∈ R, noD d = true) : ∀ d ∈ others R n, judged d := by
  have app : ∀ v : Int, ∀ d ∈ R ++ [.int v], noD d = true := fun v d hd => by
    rcases List.mem_append.mp hd with q | q
    · exact h d q
    · rw [List.mem_singleton.mp q]
      rfl
  intro d hd
  simp only [others, List.mem_cons, List.not_mem_nil, or_false] at hd
  rcases hd with rfl | rfl | rfl | rfl | rfl | rfl | rfl | rfl | rfl | rfl | rfl
  · exact h
  · exact h
  · exact h
  · trivial
  · exact app n
  · exact app (-1)
  · intro d hd
    rcases List.mem_cons.mp hd with q | q
    · rw [q]
      rfl
    · exact h d q
  · exact app 0
  · intro d hd
    rw [(List.mem_replicate.mp hd).2]
    rfl
  · trivial
  · intro d hd
    exact h d (List.mem_of_mem_drop (List.mem_of_mem_take hd))
theorem turn_rest (k : Nat) (s0 s1 : Mi.Slot) (a b : Int) (s4 s6 s7 : Mi.Slot) (bs : List Bk) (hb : PrOk bs) (row : List Nat) (hr : row.length ≤ 100) (j : Nat) (s11 : Mi.Slot) (hc : CupOk a b) (p q : Int) (hp : 0 ≤ p ∧ p < (manyOf bs : Int)) (hq : 0 ≤ q ∧ q < (manyOf bs : Int)) :
    ∃ (a' b' : Int) (s4' s11' : Mi.Slot), execB ⟨ioOf T, callF T (k + 20)⟩ loops none l65_0_2 (envL s0 s1 a b (manyOf bs : Int) s4 (.val (.tuple [.int p, .int q])) s6 s7 bs (.val (.tuple (row.map nat))) (.val (.int (j : Int))) s11) = .ok (envL s0 s1 a' b' (manyOf bs : Int) s4' (.val (.tuple [.int p, .int q])) s6 s7 bs (.val (.tuple (row.map nat))) (.val (.int (j : Int))) s11', .nx) ∧ CupOk a' b' := by
  have hR : ∀ d ∈ row.map nat, noD d = true := fun d hd => by
    obtain ⟨i, _, rfl⟩ := List.mem_map.mp hd
    rfl
  obtain ⟨v, a1, b1, g1, c1, hv⟩ := some_ (k + 18) a b (others (row.map nat) (bs.length : Int)) hc (by simp [others]) (by simp [others])
  have hj := others_judged _ _ hR v hv
  have z1 : row.length + 1 ≤ big := small _ (by omega)
  have z2 : 1 + row.length ≤ big := small _ (by omega)
  have m101 : bin2 .mul (.tuple [.int 0]) (.int 101) = .ok (.val (.tuple (List.replicate 101 (.int 0)))) := rfl
  have F : evalF ⟨ioOf T, callF T (k + 20)⟩ a65_0 (envL s0 s1 a b (manyOf bs : Int) s4 (.val (.tuple [.int p, .int q])) s6 s7 bs (.val (.tuple (row.map nat))) (.val (.int (j : Int))) s11) = .ok (others (row.map nat) (bs.length : Int), envL s0 s1 a b (manyOf bs : Int) s4 (.val (.tuple [.int p, .int q])) s6 s7 bs (.val (.tuple (row.map nat))) (.val (.int (j : Int))) s11) := by
    unfold a65_0 others
    iterate 8 refine F_same (by simp! [envL, z1, z2, List.length_map, ev_neg]) ?_
    refine F_same (by simp! [m101]) ?_
    iterate 2 refine F_same (by simp! [envL, ev_neg]) ?_
    exact F_nil
  refine ⟨a1, b1, .val (.list (others (row.map nat) (bs.length : Int))), .val v, ?_, c1⟩
  have q1 : ∀ x y : Int, (0 ≤ x ∧ x < (manyOf bs : Int)) → (0 ≤ y ∧ y < (manyOf bs : Int)) → callF T (k + 20) 8 [.val (.tuple (bs.map tup)), .val (.int x), .val (.int y), .val v] = .ok (.val (.bool (raceOk bs x y v)), .emp) := fun x y hx hy => is_race_run (k + 10) bs hb x y hx.1 hx.2 hy.1 hy.2 v hj
  have q2 : callF T (k + 20) 9 [.val (.tuple (bs.map tup)), .val (.int p), .val (.int q), .val v] = .ok (.val (.bool (raceOk bs p q v)), .emp) := law_is_right (k + 10) bs hb p q hp.1 hp.2 hq.1 hq.2 v hj
  have p2 : (0 : Int) < 2 := by decide
  have t4 : execB ⟨ioOf T, callF T (k + 20)⟩ loops none l65_0_4 (envL s0 s1 a1 b1 (manyOf bs : Int) (.val (.list (others (row.map nat) (bs.length : Int)))) (.val (.tuple [.int p, .int q])) s6 s7 bs (.val (.tuple (row.map nat))) (.val (.int (j : Int))) (.val v)) = .ok (envL s0 s1 a1 b1 (manyOf bs : Int) (.val (.list (others (row.map nat) (bs.length : Int)))) (.val (.tuple [.int p, .int q])) s6 s7 bs (.val (.tuple (row.map nat))) (.val (.int (j : Int))) (.val v), .nx) := by
    have hm : ((j : Int) % 2 = 0) ∨ ((j : Int) % 2 = 1) := by omega
    rcases hm with hm | hm
    · simp! [l65_0_4, envL, b_mod, p2, hm, item0, item1, q1 p q hp hq, q2, repr_bool, ne_str]
    · simp! [l65_0_4, envL, b_mod, p2, hm, item0, item1, q1 q p hq hp, raceOk_comm bs q p, q2, repr_bool, ne_str]
  simp only [cupD] at g1
  simp only [envL] at F t4 ⊢
  simp! [l65_0_2, l65_0_3, F, g1, t4]
theorem law_turn (k : Nat) (s0 s1 : Mi.Slot) (a b : Int) (s4 s5 s6 s7 : Mi.Slot) (bs : List Bk) (hb : PrOk bs) (h2 : 2 ≤ manyOf bs) (s9 s11 : Mi.Slot) (j : Nat) (hc : CupOk a b) :
    ∃ (a' b' : Int) (s4' s5' s6' s9' s11' : Mi.Slot), execB ⟨ioOf T, callF T (k + 20)⟩ loops none l65_0 (envL s0 s1 a b (manyOf bs : Int) s4 s5 s6 s7 bs s9 (.val (.int (j : Int))) s11) = .ok (envL s0 s1 a' b' (manyOf bs : Int) s4' s5' s6' s7 bs s9' (.val (.int (j : Int))) s11', .nx) ∧ CupOk a' b' := by
  obtain ⟨row, x, a1, b1, g1, c1, hr, hl⟩ := law_walk (k + 10) bs hb a b hc
  have hx : staOk 400 x := runTo_keep (P := staOk 400) (fun x i p => stepped_ok p i) row _ _ hr (start_400 hb)
  have hn : staNum (manyOf bs : Int) x := runTo_keep (P := staNum (manyOf bs : Int)) (fun x i p => stepped_num p i) row _ _ hr (start_num bs)
  have h8 : manyOf bs ≤ 8 := hb.acc
  have hple : (pairs x).length ≤ 1000 := by
    have lx := hx.len
    have : ∀ is : List Nat, (∀ i ∈ is, i ≤ 4) → (is.flatMap fun i => pairsTo x i (List.range i)).length ≤ 4 * is.length := fun is => by
      induction is with
      | nil => intro _; simp
      | cons i r ih =>
        intro h
        have h1 := pairsTo_le x i (List.range i)
        have h2 := ih fun y hy => h y (List.mem_cons_of_mem _ hy)
        have h3 := h i List.mem_cons_self
        rw [List.length_range] at h1
        simp only [List.flatMap_cons, List.length_append, List.length_cons]
        omega
    have := this (List.range x.1.length) (fun i hi => by have := List.mem_range.mp hi; omega)
    rw [List.length_range] at this
    unfold pairs
    omega
  obtain ⟨p, q, a2, b2, g2, c2, hp, hq⟩ := turn_pair k s0 s1 a1 b1 (manyOf bs) h2 (by omega) s4 s5 s7 bs (.val (.tuple (row.map nat))) (.val (.int (j : Int))) s11 c1 (pairs x) (pairs_num hn) hple
  obtain ⟨a3, b3, s4', s11', g3, c3⟩ := turn_rest k s0 s1 a2 b2 s4 (.val (.list ((pairs x).map pD))) s7 bs hb row (by omega) j s11 c2 p q hp hq
  refine ⟨a3, b3, s4', .val (.tuple [.int p, .int q]), .val (.list ((pairs x).map pD)), .val (.tuple (row.map nat)), s11', ?_, c3⟩
  rw [← g3, ← g2]
  simp only [cupD] at g1
  simp! [l65_0, envL, g1]
theorem law_loop (k : Nat) (s0 s1 s7 : Mi.Slot) (bs : List Bk) (hb : PrOk bs) (h2 : 2 ≤ manyOf bs) : ∀ (js : List Nat) (a b : Int) (s4 s5 s6 s9 s10 s11 : Mi.Slot), CupOk a b →
    ∃ (a' b' : Int) (s4' s5' s6' s9' s10' s11' : Mi.Slot), forT ⟨ioOf T, callF T (k + 20)⟩ loops none (.nm 10) l65_0 (js.map nat) (envL s0 s1 a b (manyOf bs : Int) s4 s5 s6 s7 bs s9 s10 s11) = .ok (envL s0 s1 a' b' (manyOf bs : Int) s4' s5' s6' s7 bs s9' s10' s11', .nx) ∧ CupOk a' b'
  | [], a, b, s4, s5, s6, s9, s10, s11, hc => ⟨a, b, s4, s5, s6, s9, s10, s11, by rw [List.map_nil, ev_forN], hc⟩
  | j :: r, a, b, s4, s5, s6, s9, s10, s11, hc => by
    obtain ⟨a1, b1, t4, t5, t6, t9, t11, g, c⟩ := law_turn k s0 s1 a b s4 s5 s6 s7 bs hb h2 s9 s11 j hc
    obtain ⟨a2, b2, u4, u5, u6, u9, u10, u11, g2, c2⟩ := law_loop k s0 s1 s7 bs hb h2 r a1 b1 t4 t5 t6 t9 (.val (.int (j : Int))) t11 c
    refine ⟨a2, b2, u4, u5, u6, u9, u10, u11, ?_, c2⟩
    have hp : putT (.nm 10) (nat j) (envL s0 s1 a b (manyOf bs : Int) s4 s5 s6 s7 bs s9 s10 s11) = .ok (envL s0 s1 a b (manyOf bs : Int) s4 s5 s6 s7 bs s9 (.val (.int (j : Int))) s11) := rfl
    rw [List.map_cons, for_step hp g, loopK_nx, g2]
/-! ### written programs -/
def plainB : Bk := .cons (.xch "add" 0 0 (.num 1)) (.cons (.xch "add" 1 0 (.num 1)) .nil)
def lastB : Bk := .cons (.wr 0 "plain" (.num 1)) .nil
theorem one_ok : eOk (.num 1) := eNum 1 (by decide) (by decide)
theorem plainB_fit : BkFit plainB := ⟨⟨⟨.inr rfl, ⟨by decide, by decide⟩, ⟨by decide, by decide⟩, one_ok⟩, ⟨.inr rfl, ⟨by decide, by decide⟩, ⟨by decide, by decide⟩, one_ok⟩, trivial⟩, by simp [plainB, Bk.ds], by simp [plainB, Bk.flat, St.flat], by simp [plainB, Bk.nest, St.nest]⟩
theorem lastB_fit : BkFit lastB := ⟨⟨⟨⟨by decide, by decide⟩, plainW, one_ok⟩, trivial⟩, by simp [lastB, Bk.ds], by simp [lastB, Bk.flat, St.flat], by simp [lastB, Bk.nest, St.nest]⟩
def bs4 : List Bk := [plainB, plainB, plainB, plainB]
def bs5 : List Bk := [plainB, plainB, plainB, lastB]
theorem bs4_ok : PrOk bs4 := by
  refine ⟨by simp [bs4], by simp [bs4], fun b hb => ?_, ?_, ?_⟩
  · simp only [bs4, List.mem_cons, List.not_mem_nil, or_false, or_self] at hb
    rw [hb]
    exact plainB_fit
  · simp [bs4, every, plainB, Bk.flat, St.flat, List.filter_cons, St.acc]
  · simp [bs4, every, plainB, Bk.flat, St.flat, List.filter_cons, St.isFence]
theorem bs5_ok : PrOk bs5 := by
  refine ⟨by simp [bs5], by simp [bs5], fun b hb => ?_, ?_, ?_⟩
  · simp only [bs5, List.mem_cons, List.not_mem_nil, or_false] at hb
    rcases hb with rfl | rfl | rfl | rfl
    · exact plainB_fit
    · exact plainB_fit
    · exact plainB_fit
    · exact lastB_fit
  · simp [bs5, every, plainB, lastB, Bk.flat, St.flat, List.filter_cons, St.acc]
  · simp [bs5, every, plainB, lastB, Bk.flat, St.flat, List.filter_cons, St.isFence]
theorem race4 : raceOk bs4 0 2 (.tuple []) = false := by decide +kernel
theorem race5 : raceOk bs5 0 6 (.tuple []) = true := by decide +kernel
theorem many4 : manyOf bs4 = 8 := by decide +kernel
theorem many5 : manyOf bs5 = 7 := by decide +kernel
theorem is_bb (a b : Bool) : cmp2 .Is (.bool a) (.bool b) = .ok (decide (a = b)) := rfl
theorem law_end (k : Nat) (s0 : Mi.Slot) (bad : PyData) (a b M : Int) (s4 s5 s6 : Mi.Slot) (bs : List Bk) (s9 s10 s11 : Mi.Slot) (hb : PrOk bs) (h2 : 2 ≤ manyOf bs) (nb : noD bad = true) (wb : wh ((manyOf bs : Int) - 1) bad = false) :
    ∃ e, execB ⟨ioOf T, callF T (k + 20)⟩ loops none m65_5 (envL s0 (.val bad) a b M s4 s5 s6 (.val (tup plainB)) bs s9 s10 s11) = .ok (e, .rt (.val (.bool true))) := by
  have w0 : wh ((manyOf bs : Int) - 1) (.int 0) = true := by
    simp only [wh, Bool.and_eq_true, decide_eq_true_eq]
    omega
  have q1 := word_num (k + 18) (.tuple (bs.map tup)) bad (.int 0) (race_exn (k + 17) _ _ _ _ _ (need_pair_1 (k + 10) bs hb bad (.int 0) nb wb))
  have q2 := word_num (k + 18) (.tuple (bs.map tup)) (.int 0) bad (race_exn (k + 17) _ _ _ _ _ (need_pair_2 (k + 10) bs hb (.int 0) bad rfl nb w0 wb))
  have q3 := word_prog (k + 18) (.list (bs.map tup)) bad (.int 0) (race_exn (k + 17) _ _ _ _ _ (need_pair_li (k + 14) (bs.map tup) bad (.int 0)))
  have q4 := word_ok (k + 18) (.tuple (bs4.map tup)) (.int 0) (.int 2) false (by rw [← race4]; exact is_race_run (k + 9) bs4 bs4_ok 0 2 (by decide) (by rw [many4]; decide) (by decide) (by rw [many4]; decide) (.tuple []) (fun d hd => nomatch hd))
  have q5 := word_ok (k + 18) (.tuple (bs5.map tup)) (.int 0) (.int 6) true (by rw [← race5]; exact is_race_run (k + 9) bs5 bs5_ok 0 6 (by decide) (by rw [many5]; decide) (by decide) (by rw [many5]; decide) (.tuple []) (fun d hd => nomatch hd))
  have m5 : bin2 .mul (.tuple [tup plainB]) (.int 3) = .ok (.val (.tuple [tup plainB, tup plainB, tup plainB])) := rfl
  have e6 : PyData.tuple [.tuple [.str "write", .int 0, .str "plain", .tuple [.str "num", .int 1]]] = tup lastB := rfl
  refine ⟨envL s0 (.val bad) a b M s4 s5 s6 (.val (tup plainB)) bs s9 s10 s11, ?_⟩
  have t6 : execB ⟨ioOf T, callF T (k + 20)⟩ loops none m65_6 (envL s0 (.val bad) a b M s4 s5 s6 (.val (tup plainB)) bs s9 s10 s11) = .ok (envL s0 (.val bad) a b M s4 s5 s6 (.val (tup plainB)) bs s9 s10 s11, .rt (.val (.bool true))) := by
    have q4' : callF T (k + 18 + 2) 7 [.val (.tuple [tup plainB, tup plainB, tup plainB, tup plainB]), .val (.int 0), .val (.int 2)] = .ok (.val (.bool false), .emp) := q4
    have q5' : callF T (k + 18 + 2) 7 [.val (.tuple [tup plainB, tup plainB, tup plainB, tup lastB]), .val (.int 0), .val (.int 6)] = .ok (.val (.bool true), .emp) := q5
    have m4' : bin2 .mul (.tuple [tup plainB]) (.int 4) = .ok (.val (.tuple [tup plainB, tup plainB, tup plainB, tup plainB])) := rfl
    simp! [m65_6, envL, m4', q4', m5, e6, show 4 ≤ big by decide, q5', is_bb]
  simp only [envL] at t6 ⊢
  simp! [m65_5, q1, q2, q3, ne_str, t6]
theorem law_tail (k : Nat) (a b : Int) (bs : List Bk) (s0 : Mi.Slot) (hc : CupOk a b) (h : PrOk bs) (h2 : 2 ≤ manyOf bs) : ∃ e, execB ⟨ioOf T, callF T (k + 20)⟩ loops none m65_2 [s0, .emp, cupD a b, .emp, .emp, .emp, .emp, .emp, .val (.tuple (bs.map tup)), .emp, .emp, .emp] = .ok (e, .rt (.val (.bool true))) := by
  obtain ⟨l, ga, la⟩ := law_all (k + 14) bs h
  obtain ⟨a1, b1, s4, s5, s6, s9, s10, s11, g, c⟩ := law_loop k s0 .emp .emp bs h h2 (List.range 8) a b .emp .emp .emp .emp .emp .emp hc
  have hr : rng 0 8 = .ok ((List.range 8).map nat) := rng_nat 8 (by decide)
  obtain ⟨d, a2, b2, g2, c2, hd⟩ := some_ (k + 18) a1 b1 [.int (-1), .int (manyOf bs : Int), .bool true, .none, .str "0"] c (by simp) (by simp)
  have hbad : noD d = true ∧ wh ((manyOf bs : Int) - 1) d = false := by
    simp only [List.mem_cons, List.not_mem_nil, or_false] at hd
    rcases hd with rfl | rfl | rfl | rfl | rfl
    · exact ⟨rfl, by simp [wh]⟩
    · refine ⟨rfl, ?_⟩
      simp [wh]
      omega
    · exact ⟨rfl, rfl⟩
    · exact ⟨rfl, rfl⟩
    · exact ⟨rfl, rfl⟩
  obtain ⟨e, t⟩ := law_end k s0 d a2 b2 (manyOf bs : Int) s4 s5 s6 bs s9 s10 s11 h h2 hbad.1 hbad.2
  refine ⟨e, ?_⟩
  have e7 : PyData.tuple [.tuple [.str "add", .int 0, .int 0, .tuple [.str "num", .int 1]], .tuple [.str "add", .int 1, .int 0, .tuple [.str "num", .int 1]]] = tup plainB := rfl
  have t4 : execB ⟨ioOf T, callF T (k + 20)⟩ loops none m65_4 (envL s0 .emp a1 b1 (manyOf bs : Int) s4 s5 s6 .emp bs s9 s10 s11) = .ok (e, .rt (.val (.bool true))) := by
    simp only [cupD] at g2
    simp only [envL] at t ⊢
    simp! [m65_4, ev_neg, g2, e7, t]
  simp only [envL] at g t4
  have t3 : execB ⟨ioOf T, callF T (k + 20)⟩ loops none m65_3 [s0, .emp, .lst [.int a, .int b], .val (.int (manyOf bs : Int)), .emp, .emp, .emp, .emp, .val (.tuple (bs.map tup)), .emp, .emp, .emp] = .ok (e, .rt (.val (.bool true))) := by
    simp! [m65_3, hr, g, t4]
  simp only [cupD]
  simp! [m65_2, ga, la, t3]
theorem law (ns : List Int) (hl : ns.length ≤ 63) : callF T 200 65 [.val (.dict [(.none, .list (ns.map .int))])] = .ok (.val (.bool true), .emp) := by
  obtain ⟨a, b, g0, c0⟩ := cup0 198 ns hl
  obtain ⟨v, a1, b1, g1, c1, v0, v1⟩ := roll 198 a b 6 c0 (by decide) (by decide)
  simp only [cupD] at g0 g1
  rw [ev_call (fd := f65) (k := 199) rfl rfl]
  cases hv : decide (v = 0) with
  | true =>
    obtain ⟨r, x, a2, b2, g2, c2, p, _⟩ := told_program 196 a1 b1 c1
    have h2 : 2 ≤ manyOf [told1 r, told2 x] := by simp [manyOf, every, told1, told2, toldI, Bk.flat, St.flat, List.filter_cons, St.acc]
    generalize [told1 r, told2 x] = bs at g2 p h2
    obtain ⟨e, t⟩ := law_tail 179 a2 b2 bs (.val (.dict [(.none, .list (ns.map .int))])) c2 p h2
    simp only [cupD] at g2 t
    simp! [f65, m65, m65_1, g0, g1, g2, eq_int, hv, t]
  | false =>
    obtain ⟨w, a2, b2, g2, c2, w0, w1⟩ := roll 198 a1 b1 4 c1 (by decide) (by decide)
    obtain ⟨j, rfl⟩ := Int.eq_ofNat_of_zero_le w0
    obtain ⟨bs, ms, a3, b3, g3, c3, D, u⟩ := program 192 a2 b2 (2 + j) c2 (by omega) (by omega)
    obtain ⟨e, t⟩ := law_tail 179 a3 b3 bs (.val (.dict [(.none, .list (ns.map .int))])) c3 D.ok (by rw [D.many]; omega)
    simp only [cupD] at g2 g3 t
    have e2 : ((2 + j : Nat) : Int) = 2 + (j : Int) := by omega
    rw [e2] at g3
    simp! [f65, m65, m65_1, g0, g1, g2, g3, eq_int, hv, t]
end
end K48


set_option Elab.async false
set_option linter.all false
set_option maxRecDepth 100000
set_option maxHeartbeats 0
/-! the law's row from the plain law -/
namespace K48
open PySem PySem.Spec PyProof.Rows L2 Mi
section
variable {K : PySem.W.Frag} {h : Heap} {mg : Str → Option Value}
theorem w0 (X : K.In h) (N : h.Ns mainGlobals mg) (c : SaysM ask fn K) : ∃ fdat, Made T ask.glo K mg f0 (He.fAd K d0.at_) fdat p0 ∧ ∀ (s : Shared) (us : List Value), us.length = p0.length → BindsTo s fdat ⟨us, []⟩ (p0.zip us) :=
  made_of X N c (d := d0) (Ns := n0) (by unfold fn; simp) rfl rfl rfl rfl s0 rfl rfl c0 b0
theorem w1 (X : K.In h) (N : h.Ns mainGlobals mg) (c : SaysM ask fn K) : ∃ fdat, Made T ask.glo K mg f1 (He.fAd K d1.at_) fdat p1 ∧ ∀ (s : Shared) (us : List Value), us.length = p1.length → BindsTo s fdat ⟨us, []⟩ (p1.zip us) :=
  made_of X N c (d := d1) (Ns := n1) (by unfold fn; simp) rfl rfl rfl rfl s1 rfl rfl c1 b1
theorem w2 (X : K.In h) (N : h.Ns mainGlobals mg) (c : SaysM ask fn K) : ∃ fdat, Made T ask.glo K mg f2 (He.fAd K d2.at_) fdat p2 ∧ ∀ (s : Shared) (us : List Value), us.length = p2.length → BindsTo s fdat ⟨us, []⟩ (p2.zip us) :=
  made_of X N c (d := d2) (Ns := n2) (by unfold fn; simp) rfl rfl rfl rfl s2 rfl rfl c2 b2
theorem w3 (X : K.In h) (N : h.Ns mainGlobals mg) (c : SaysM ask fn K) : ∃ fdat, Made T ask.glo K mg f3 (He.fAd K d3.at_) fdat p3 ∧ ∀ (s : Shared) (us : List Value), us.length = p3.length → BindsTo s fdat ⟨us, []⟩ (p3.zip us) :=
  made_of X N c (d := d3) (Ns := n3) (by unfold fn; simp) rfl rfl rfl rfl s3 rfl rfl c3 b3
theorem w4 (X : K.In h) (N : h.Ns mainGlobals mg) (c : SaysM ask fn K) : ∃ fdat, Made T ask.glo K mg f4 (He.fAd K d4.at_) fdat p4 ∧ ∀ (s : Shared) (us : List Value), us.length = p4.length → BindsTo s fdat ⟨us, []⟩ (p4.zip us) :=
  made_of X N c (d := d4) (Ns := n4) (by unfold fn; simp) rfl rfl rfl rfl s4 rfl rfl c4 b4
theorem w5 (X : K.In h) (N : h.Ns mainGlobals mg) (c : SaysM ask fn K) : ∃ fdat, Made T ask.glo K mg f5 (He.fAd K d5.at_) fdat p5 ∧ ∀ (s : Shared) (us : List Value), us.length = p5.length → BindsTo s fdat ⟨us, []⟩ (p5.zip us) :=
  made_of X N c (d := d5) (Ns := n5) (by unfold fn; simp) rfl rfl rfl rfl s5 rfl rfl c5 b5
theorem w6 (X : K.In h) (N : h.Ns mainGlobals mg) (c : SaysM ask fn K) : ∃ fdat, Made T ask.glo K mg f6 (He.fAd K d6.at_) fdat p6 ∧ ∀ (s : Shared) (us : List Value), us.length = p6.length → BindsTo s fdat ⟨us, []⟩ (p6.zip us) :=
  made_of X N c (d := d6) (Ns := n6) (by unfold fn; simp) rfl rfl rfl rfl s6 rfl rfl c6 b6
theorem w7 (X : K.In h) (N : h.Ns mainGlobals mg) (c : SaysM ask fn K) : ∃ fdat, Made T ask.glo K mg f7 (He.fAd K d7.at_) fdat p7 ∧ ∀ (s : Shared) (us : List Value), us.length = p7.length → BindsTo s fdat ⟨us, []⟩ (p7.zip us) :=
  made_of X N c (d := d7) (Ns := n7) (by unfold fn; simp) rfl rfl rfl rfl s7 rfl rfl c7 b7
theorem w8 (X : K.In h) (N : h.Ns mainGlobals mg) (c : SaysM ask fn K) : ∃ fdat, Made T ask.glo K mg f8 (He.fAd K d8.at_) fdat p8 ∧ ∀ (s : Shared) (us : List Value), us.length = p8.length → BindsTo s fdat ⟨us, []⟩ (p8.zip us) :=
  made_of X N c (d := d8) (Ns := n8) (by unfold fn; simp) rfl rfl rfl rfl s8 rfl rfl c8 b8
theorem w9 (X : K.In h) (N : h.Ns mainGlobals mg) (c : SaysM ask fn K) : ∃ fdat, Made T ask.glo K mg f9 (He.fAd K d9.at_) fdat p9 ∧ ∀ (s : Shared) (us : List Value), us.length = p9.length → BindsTo s fdat ⟨us, []⟩ (p9.zip us) :=
  made_of X N c (d := d9) (Ns := n9) (by unfold fn; simp) rfl rfl rfl rfl s9 rfl rfl c9 b9
theorem w10 (X : K.In h) (N : h.Ns mainGlobals mg) (c : SaysM ask fn K) : ∃ fdat, Made T ask.glo K mg f10 (He.fAd K d10.at_) fdat p10 ∧ ∀ (s : Shared) (us : List Value), us.length = p10.length → BindsTo s fdat ⟨us, []⟩ (p10.zip us) :=
  made_of X N c (d := d10) (Ns := n10) (by unfold fn; simp) rfl rfl rfl rfl s10 rfl rfl c10 b10
theorem w11 (X : K.In h) (N : h.Ns mainGlobals mg) (c : SaysM ask fn K) : ∃ fdat, Made T ask.glo K mg f11 (He.fAd K d11.at_) fdat p11 ∧ ∀ (s : Shared) (us : List Value), us.length = p11.length → BindsTo s fdat ⟨us, []⟩ (p11.zip us) :=
  made_of X N c (d := d11) (Ns := n11) (by unfold fn; simp) rfl rfl rfl rfl s11 rfl rfl c11 b11
theorem w12 (X : K.In h) (N : h.Ns mainGlobals mg) (c : SaysM ask fn K) : ∃ fdat, Made T ask.glo K mg f12 (He.fAd K d12.at_) fdat p12 ∧ ∀ (s : Shared) (us : List Value), us.length = p12.length → BindsTo s fdat ⟨us, []⟩ (p12.zip us) :=
  made_of X N c (d := d12) (Ns := n12) (by unfold fn; simp) rfl rfl rfl rfl s12 rfl rfl c12 b12
theorem w13 (X : K.In h) (N : h.Ns mainGlobals mg) (c : SaysM ask fn K) : ∃ fdat, Made T ask.glo K mg f13 (He.fAd K d13.at_) fdat p13 ∧ ∀ (s : Shared) (us : List Value), us.length = p13.length → BindsTo s fdat ⟨us, []⟩ (p13.zip us) :=
  made_of X N c (d := d13) (Ns := n13) (by unfold fn; simp) rfl rfl rfl rfl s13 rfl rfl c13 b13
theorem w14 (X : K.In h) (N : h.Ns mainGlobals mg) (c : SaysM ask fn K) : ∃ fdat, Made T ask.glo K mg f14 (He.fAd K d14.at_) fdat p14 ∧ ∀ (s : Shared) (us : List Value), us.length = p14.length → BindsTo s fdat ⟨us, []⟩ (p14.zip us) :=
  made_of X N c (d := d14) (Ns := n14) (by unfold fn; simp) rfl rfl rfl rfl s14 rfl rfl c14 b14
theorem w15 (X : K.In h) (N : h.Ns mainGlobals mg) (c : SaysM ask fn K) : ∃ fdat, Made T ask.glo K mg f15 (He.fAd K d15.at_) fdat p15 ∧ ∀ (s : Shared) (us : List Value), us.length = p15.length → BindsTo s fdat ⟨us, []⟩ (p15.zip us) :=
  made_of X N c (d := d15) (Ns := n15) (by unfold fn; simp) rfl rfl rfl rfl s15 rfl rfl c15 b15
theorem w16 (X : K.In h) (N : h.Ns mainGlobals mg) (c : SaysM ask fn K) : ∃ fdat, Made T ask.glo K mg f16 (He.fAd K d16.at_) fdat p16 ∧ ∀ (s : Shared) (us : List Value), us.length = p16.length → BindsTo s fdat ⟨us, []⟩ (p16.zip us) :=
  made_of X N c (d := d16) (Ns := n16) (by unfold fn; simp) rfl rfl rfl rfl s16 rfl rfl c16 b16
theorem w17 (X : K.In h) (N : h.Ns mainGlobals mg) (c : SaysM ask fn K) : ∃ fdat, Made T ask.glo K mg f17 (He.fAd K d17.at_) fdat p17 ∧ ∀ (s : Shared) (us : List Value), us.length = p17.length → BindsTo s fdat ⟨us, []⟩ (p17.zip us) :=
  made_of X N c (d := d17) (Ns := n17) (by unfold fn; simp) rfl rfl rfl rfl s17 rfl rfl c17 b17
theorem w18 (X : K.In h) (N : h.Ns mainGlobals mg) (c : SaysM ask fn K) : ∃ fdat, Made T ask.glo K mg f18 (He.fAd K d18.at_) fdat p18 ∧ ∀ (s : Shared) (us : List Value), us.length = p18.length → BindsTo s fdat ⟨us, []⟩ (p18.zip us) :=
  made_of X N c (d := d18) (Ns := n18) (by unfold fn; simp) rfl rfl rfl rfl s18 rfl rfl c18 b18
theorem w19 (X : K.In h) (N : h.Ns mainGlobals mg) (c : SaysM ask fn K) : ∃ fdat, Made T ask.glo K mg f19 (He.fAd K d19.at_) fdat p19 ∧ ∀ (s : Shared) (us : List Value), us.length = p19.length → BindsTo s fdat ⟨us, []⟩ (p19.zip us) :=
  made_of X N c (d := d19) (Ns := n19) (by unfold fn; simp) rfl rfl rfl rfl s19 rfl rfl c19 b19
theorem w20 (X : K.In h) (N : h.Ns mainGlobals mg) (c : SaysM ask fn K) : ∃ fdat, Made T ask.glo K mg f20 (He.fAd K d20.at_) fdat p20 ∧ ∀ (s : Shared) (us : List Value), us.length = p20.length → BindsTo s fdat ⟨us, []⟩ (p20.zip us) :=
  made_of X N c (d := d20) (Ns := n20) (by unfold fn; simp) rfl rfl rfl rfl s20 rfl rfl c20 b20
theorem w21 (X : K.In h) (N : h.Ns mainGlobals mg) (c : SaysM ask fn K) : ∃ fdat, Made T ask.glo K mg f21 (He.fAd K d21.at_) fdat p21 ∧ ∀ (s : Shared) (us : List Value), us.length = p21.length → BindsTo s fdat ⟨us, []⟩ (p21.zip us) :=
  made_of X N c (d := d21) (Ns := n21) (by unfold fn; simp) rfl rfl rfl rfl s21 rfl rfl c21 b21
theorem w22 (X : K.In h) (N : h.Ns mainGlobals mg) (c : SaysM ask fn K) : ∃ fdat, Made T ask.glo K mg f22 (He.fAd K d22.at_) fdat p22 ∧ ∀ (s : Shared) (us : List Value), us.length = p22.length → BindsTo s fdat ⟨us, []⟩ (p22.zip us) :=
  made_of X N c (d := d22) (Ns := n22) (by unfold fn; simp) rfl rfl rfl rfl s22 rfl rfl c22 b22
theorem w23 (X : K.In h) (N : h.Ns mainGlobals mg) (c : SaysM ask fn K) : ∃ fdat, Made T ask.glo K mg f23 (He.fAd K d23.at_) fdat p23 ∧ ∀ (s : Shared) (us : List Value), us.length = p23.length → BindsTo s fdat ⟨us, []⟩ (p23.zip us) :=
  made_of X N c (d := d23) (Ns := n23) (by unfold fn; simp) rfl rfl rfl rfl s23 rfl rfl c23 b23
theorem w24 (X : K.In h) (N : h.Ns mainGlobals mg) (c : SaysM ask fn K) : ∃ fdat, Made T ask.glo K mg f24 (He.fAd K d24.at_) fdat p24 ∧ ∀ (s : Shared) (us : List Value), us.length = p24.length → BindsTo s fdat ⟨us, []⟩ (p24.zip us) :=
  made_of X N c (d := d24) (Ns := n24) (by unfold fn; simp) rfl rfl rfl rfl s24 rfl rfl c24 b24
theorem w25 (X : K.In h) (N : h.Ns mainGlobals mg) (c : SaysM ask fn K) : ∃ fdat, Made T ask.glo K mg f25 (He.fAd K d25.at_) fdat p25 ∧ ∀ (s : Shared) (us : List Value), us.length = p25.length → BindsTo s fdat ⟨us, []⟩ (p25.zip us) :=
  made_of X N c (d := d25) (Ns := n25) (by unfold fn; simp) rfl rfl rfl rfl s25 rfl rfl c25 b25
theorem w26 (X : K.In h) (N : h.Ns mainGlobals mg) (c : SaysM ask fn K) : ∃ fdat, Made T ask.glo K mg f26 (He.fAd K d26.at_) fdat p26 ∧ ∀ (s : Shared) (us : List Value), us.length = p26.length → BindsTo s fdat ⟨us, []⟩ (p26.zip us) :=
  made_of X N c (d := d26) (Ns := n26) (by unfold fn; simp) rfl rfl rfl rfl s26 rfl rfl c26 b26
theorem w27 (X : K.In h) (N : h.Ns mainGlobals mg) (c : SaysM ask fn K) : ∃ fdat, Made T ask.glo K mg f27 (He.fAd K d27.at_) fdat p27 ∧ ∀ (s : Shared) (us : List Value), us.length = p27.length → BindsTo s fdat ⟨us, []⟩ (p27.zip us) :=
  made_of X N c (d := d27) (Ns := n27) (by unfold fn; simp) rfl rfl rfl rfl s27 rfl rfl c27 b27
theorem w28 (X : K.In h) (N : h.Ns mainGlobals mg) (c : SaysM ask fn K) : ∃ fdat, Made T ask.glo K mg f28 (He.fAd K d28.at_) fdat p28 ∧ ∀ (s : Shared) (us : List Value), us.length = p28.length → BindsTo s fdat ⟨us, []⟩ (p28.zip us) :=
  made_of X N c (d := d28) (Ns := n28) (by unfold fn; simp) rfl rfl rfl rfl s28 rfl rfl c28 b28
theorem w29 (X : K.In h) (N : h.Ns mainGlobals mg) (c : SaysM ask fn K) : ∃ fdat, Made T ask.glo K mg f29 (He.fAd K d29.at_) fdat p29 ∧ ∀ (s : Shared) (us : List Value), us.length = p29.length → BindsTo s fdat ⟨us, []⟩ (p29.zip us) :=
  made_of X N c (d := d29) (Ns := n29) (by unfold fn; simp) rfl rfl rfl rfl s29 rfl rfl c29 b29
theorem w30 (X : K.In h) (N : h.Ns mainGlobals mg) (c : SaysM ask fn K) : ∃ fdat, Made T ask.glo K mg f30 (He.fAd K d30.at_) fdat p30 ∧ ∀ (s : Shared) (us : List Value), us.length = p30.length → BindsTo s fdat ⟨us, []⟩ (p30.zip us) :=
  made_of X N c (d := d30) (Ns := n30) (by unfold fn; simp) rfl rfl rfl rfl s30 rfl rfl c30 b30
theorem w31 (X : K.In h) (N : h.Ns mainGlobals mg) (c : SaysM ask fn K) : ∃ fdat, Made T ask.glo K mg f31 (He.fAd K d31.at_) fdat p31 ∧ ∀ (s : Shared) (us : List Value), us.length = p31.length → BindsTo s fdat ⟨us, []⟩ (p31.zip us) :=
  made_of X N c (d := d31) (Ns := n31) (by unfold fn; simp) rfl rfl rfl rfl s31 rfl rfl c31 b31
theorem w32 (X : K.In h) (N : h.Ns mainGlobals mg) (c : SaysM ask fn K) : ∃ fdat, Made T ask.glo K mg f32 (He.fAd K d32.at_) fdat p32 ∧ ∀ (s : Shared) (us : List Value), us.length = p32.length → BindsTo s fdat ⟨us, []⟩ (p32.zip us) :=
  made_of X N c (d := d32) (Ns := n32) (by unfold fn; simp) rfl rfl rfl rfl s32 rfl rfl c32 b32
theorem w33 (X : K.In h) (N : h.Ns mainGlobals mg) (c : SaysM ask fn K) : ∃ fdat, Made T ask.glo K mg f33 (He.fAd K d33.at_) fdat p33 ∧ ∀ (s : Shared) (us : List Value), us.length = p33.length → BindsTo s fdat ⟨us, []⟩ (p33.zip us) :=
  made_of X N c (d := d33) (Ns := n33) (by unfold fn; simp) rfl rfl rfl rfl s33 rfl rfl c33 b33
theorem w34 (X : K.In h) (N : h.Ns mainGlobals mg) (c : SaysM ask fn K) : ∃ fdat, Made T ask.glo K mg f34 (He.fAd K d34.at_) fdat p34 ∧ ∀ (s : Shared) (us : List Value), us.length = p34.length → BindsTo s fdat ⟨us, []⟩ (p34.zip us) :=
  made_of X N c (d := d34) (Ns := n34) (by unfold fn; simp) rfl rfl rfl rfl s34 rfl rfl c34 b34
theorem w35 (X : K.In h) (N : h.Ns mainGlobals mg) (c : SaysM ask fn K) : ∃ fdat, Made T ask.glo K mg f35 (He.fAd K d35.at_) fdat p35 ∧ ∀ (s : Shared) (us : List Value), us.length = p35.length → BindsTo s fdat ⟨us, []⟩ (p35.zip us) :=
  made_of X N c (d := d35) (Ns := n35) (by unfold fn; simp) rfl rfl rfl rfl s35 rfl rfl c35 b35
theorem w36 (X : K.In h) (N : h.Ns mainGlobals mg) (c : SaysM ask fn K) : ∃ fdat, Made T ask.glo K mg f36 (He.fAd K d36.at_) fdat p36 ∧ ∀ (s : Shared) (us : List Value), us.length = p36.length → BindsTo s fdat ⟨us, []⟩ (p36.zip us) :=
  made_of X N c (d := d36) (Ns := n36) (by unfold fn; simp) rfl rfl rfl rfl s36 rfl rfl c36 b36
theorem w37 (X : K.In h) (N : h.Ns mainGlobals mg) (c : SaysM ask fn K) : ∃ fdat, Made T ask.glo K mg f37 (He.fAd K d37.at_) fdat p37 ∧ ∀ (s : Shared) (us : List Value), us.length = p37.length → BindsTo s fdat ⟨us, []⟩ (p37.zip us) :=
  made_of X N c (d := d37) (Ns := n37) (by unfold fn; simp) rfl rfl rfl rfl s37 rfl rfl c37 b37
theorem w38 (X : K.In h) (N : h.Ns mainGlobals mg) (c : SaysM ask fn K) : ∃ fdat, Made T ask.glo K mg f38 (He.fAd K d38.at_) fdat p38 ∧ ∀ (s : Shared) (us : List Value), us.length = p38.length → BindsTo s fdat ⟨us, []⟩ (p38.zip us) :=
  made_of X N c (d := d38) (Ns := n38) (by unfold fn; simp) rfl rfl rfl rfl s38 rfl rfl c38 b38
theorem w39 (X : K.In h) (N : h.Ns mainGlobals mg) (c : SaysM ask fn K) : ∃ fdat, Made T ask.glo K mg f39 (He.fAd K d39.at_) fdat p39 ∧ ∀ (s : Shared) (us : List Value), us.length = p39.length → BindsTo s fdat ⟨us, []⟩ (p39.zip us) :=
  made_of X N c (d := d39) (Ns := n39) (by unfold fn; simp) rfl rfl rfl rfl s39 rfl rfl c39 b39
theorem w40 (X : K.In h) (N : h.Ns mainGlobals mg) (c : SaysM ask fn K) : ∃ fdat, Made T ask.glo K mg f40 (He.fAd K d40.at_) fdat p40 ∧ ∀ (s : Shared) (us : List Value), us.length = p40.length → BindsTo s fdat ⟨us, []⟩ (p40.zip us) :=
  made_of X N c (d := d40) (Ns := n40) (by unfold fn; simp) rfl rfl rfl rfl s40 rfl rfl c40 b40
theorem w41 (X : K.In h) (N : h.Ns mainGlobals mg) (c : SaysM ask fn K) : ∃ fdat, Made T ask.glo K mg f41 (He.fAd K d41.at_) fdat p41 ∧ ∀ (s : Shared) (us : List Value), us.length = p41.length → BindsTo s fdat ⟨us, []⟩ (p41.zip us) :=
  made_of X N c (d := d41) (Ns := n41) (by unfold fn; simp) rfl rfl rfl rfl s41 rfl rfl c41 b41
theorem w42 (X : K.In h) (N : h.Ns mainGlobals mg) (c : SaysM ask fn K) : ∃ fdat, Made T ask.glo K mg f42 (He.fAd K d42.at_) fdat p42 ∧ ∀ (s : Shared) (us : List Value), us.length = p42.length → BindsTo s fdat ⟨us, []⟩ (p42.zip us) :=
  made_of X N c (d := d42) (Ns := n42) (by unfold fn; simp) rfl rfl rfl rfl s42 rfl rfl c42 b42
theorem w43 (X : K.In h) (N : h.Ns mainGlobals mg) (c : SaysM ask fn K) : ∃ fdat, Made T ask.glo K mg f43 (He.fAd K d43.at_) fdat p43 ∧ ∀ (s : Shared) (us : List Value), us.length = p43.length → BindsTo s fdat ⟨us, []⟩ (p43.zip us) :=
  made_of X N c (d := d43) (Ns := n43) (by unfold fn; simp) rfl rfl rfl rfl s43 rfl rfl c43 b43
theorem w44 (X : K.In h) (N : h.Ns mainGlobals mg) (c : SaysM ask fn K) : ∃ fdat, Made T ask.glo K mg f44 (He.fAd K d44.at_) fdat p44 ∧ ∀ (s : Shared) (us : List Value), us.length = p44.length → BindsTo s fdat ⟨us, []⟩ (p44.zip us) :=
  made_of X N c (d := d44) (Ns := n44) (by unfold fn; simp) rfl rfl rfl rfl s44 rfl rfl c44 b44
theorem w45 (X : K.In h) (N : h.Ns mainGlobals mg) (c : SaysM ask fn K) : ∃ fdat, Made T ask.glo K mg f45 (He.fAd K d45.at_) fdat p45 ∧ ∀ (s : Shared) (us : List Value), us.length = p45.length → BindsTo s fdat ⟨us, []⟩ (p45.zip us) :=
  made_of X N c (d := d45) (Ns := n45) (by unfold fn; simp) rfl rfl rfl rfl s45 rfl rfl c45 b45
theorem w46 (X : K.In h) (N : h.Ns mainGlobals mg) (c : SaysM ask fn K) : ∃ fdat, Made T ask.glo K mg f46 (He.fAd K d46.at_) fdat p46 ∧ ∀ (s : Shared) (us : List Value), us.length = p46.length → BindsTo s fdat ⟨us, []⟩ (p46.zip us) :=
  made_of X N c (d := d46) (Ns := n46) (by unfold fn; simp) rfl rfl rfl rfl s46 rfl rfl c46 b46
theorem w47 (X : K.In h) (N : h.Ns mainGlobals mg) (c : SaysM ask fn K) : ∃ fdat, Made T ask.glo K mg f47 (He.fAd K d47.at_) fdat p47 ∧ ∀ (s : Shared) (us : List Value), us.length = p47.length → BindsTo s fdat ⟨us, []⟩ (p47.zip us) :=
  made_of X N c (d := d47) (Ns := n47) (by unfold fn; simp) rfl rfl rfl rfl s47 rfl rfl c47 b47
theorem w48 (X : K.In h) (N : h.Ns mainGlobals mg) (c : SaysM ask fn K) : ∃ fdat, Made T ask.glo K mg f48 (He.fAd K d48.at_) fdat p48 ∧ ∀ (s : Shared) (us : List Value), us.length = p48.length → BindsTo s fdat ⟨us, []⟩ (p48.zip us) :=
  made_of X N c (d := d48) (Ns := n48) (by unfold fn; simp) rfl rfl rfl rfl s48 rfl rfl c48 b48
theorem w49 (X : K.In h) (N : h.Ns mainGlobals mg) (c : SaysM ask fn K) : ∃ fdat, Made T ask.glo K mg f49 (He.fAd K d49.at_) fdat p49 ∧ ∀ (s : Shared) (us : List Value), us.length = p49.length → BindsTo s fdat ⟨us, []⟩ (p49.zip us) :=
  made_of X N c (d := d49) (Ns := n49) (by unfold fn; simp) rfl rfl rfl rfl s49 rfl rfl c49 b49
theorem w50 (X : K.In h) (N : h.Ns mainGlobals mg) (c : SaysM ask fn K) : ∃ fdat, Made T ask.glo K mg f50 (He.fAd K d50.at_) fdat p50 ∧ ∀ (s : Shared) (us : List Value), us.length = p50.length → BindsTo s fdat ⟨us, []⟩ (p50.zip us) :=
  made_of X N c (d := d50) (Ns := n50) (by unfold fn; simp) rfl rfl rfl rfl s50 rfl rfl c50 b50
theorem w51 (X : K.In h) (N : h.Ns mainGlobals mg) (c : SaysM ask fn K) : ∃ fdat, Made T ask.glo K mg f51 (He.fAd K d51.at_) fdat p51 ∧ ∀ (s : Shared) (us : List Value), us.length = p51.length → BindsTo s fdat ⟨us, []⟩ (p51.zip us) :=
  made_of X N c (d := d51) (Ns := n51) (by unfold fn; simp) rfl rfl rfl rfl s51 rfl rfl c51 b51
theorem w52 (X : K.In h) (N : h.Ns mainGlobals mg) (c : SaysM ask fn K) : ∃ fdat, Made T ask.glo K mg f52 (He.fAd K d52.at_) fdat p52 ∧ ∀ (s : Shared) (us : List Value), us.length = p52.length → BindsTo s fdat ⟨us, []⟩ (p52.zip us) :=
  made_of X N c (d := d52) (Ns := n52) (by unfold fn; simp) rfl rfl rfl rfl s52 rfl rfl c52 b52
theorem w53 (X : K.In h) (N : h.Ns mainGlobals mg) (c : SaysM ask fn K) : ∃ fdat, Made T ask.glo K mg f53 (He.fAd K d53.at_) fdat p53 ∧ ∀ (s : Shared) (us : List Value), us.length = p53.length → BindsTo s fdat ⟨us, []⟩ (p53.zip us) :=
  made_of X N c (d := d53) (Ns := n53) (by unfold fn; simp) rfl rfl rfl rfl s53 rfl rfl c53 b53
theorem w54 (X : K.In h) (N : h.Ns mainGlobals mg) (c : SaysM ask fn K) : ∃ fdat, Made T ask.glo K mg f54 (He.fAd K d54.at_) fdat p54 ∧ ∀ (s : Shared) (us : List Value), us.length = p54.length → BindsTo s fdat ⟨us, []⟩ (p54.zip us) :=
  made_of X N c (d := d54) (Ns := n54) (by unfold fn; simp) rfl rfl rfl rfl s54 rfl rfl c54 b54
theorem w55 (X : K.In h) (N : h.Ns mainGlobals mg) (c : SaysM ask fn K) : ∃ fdat, Made T ask.glo K mg f55 (He.fAd K d55.at_) fdat p55 ∧ ∀ (s : Shared) (us : List Value), us.length = p55.length → BindsTo s fdat ⟨us, []⟩ (p55.zip us) :=
  made_of X N c (d := d55) (Ns := n55) (by unfold fn; simp) rfl rfl rfl rfl s55 rfl rfl c55 b55
theorem w56 (X : K.In h) (N : h.Ns mainGlobals mg) (c : SaysM ask fn K) : ∃ fdat, Made T ask.glo K mg f56 (He.fAd K d56.at_) fdat p56 ∧ ∀ (s : Shared) (us : List Value), us.length = p56.length → BindsTo s fdat ⟨us, []⟩ (p56.zip us) :=
  made_of X N c (d := d56) (Ns := n56) (by unfold fn; simp) rfl rfl rfl rfl s56 rfl rfl c56 b56
theorem w57 (X : K.In h) (N : h.Ns mainGlobals mg) (c : SaysM ask fn K) : ∃ fdat, Made T ask.glo K mg f57 (He.fAd K d57.at_) fdat p57 ∧ ∀ (s : Shared) (us : List Value), us.length = p57.length → BindsTo s fdat ⟨us, []⟩ (p57.zip us) :=
  made_of X N c (d := d57) (Ns := n57) (by unfold fn; simp) rfl rfl rfl rfl s57 rfl rfl c57 b57
theorem w58 (X : K.In h) (N : h.Ns mainGlobals mg) (c : SaysM ask fn K) : ∃ fdat, Made T ask.glo K mg f58 (He.fAd K d58.at_) fdat p58 ∧ ∀ (s : Shared) (us : List Value), us.length = p58.length → BindsTo s fdat ⟨us, []⟩ (p58.zip us) :=
  made_of X N c (d := d58) (Ns := n58) (by unfold fn; simp) rfl rfl rfl rfl s58 rfl rfl c58 b58
theorem w59 (X : K.In h) (N : h.Ns mainGlobals mg) (c : SaysM ask fn K) : ∃ fdat, Made T ask.glo K mg f59 (He.fAd K d59.at_) fdat p59 ∧ ∀ (s : Shared) (us : List Value), us.length = p59.length → BindsTo s fdat ⟨us, []⟩ (p59.zip us) :=
  made_of X N c (d := d59) (Ns := n59) (by unfold fn; simp) rfl rfl rfl rfl s59 rfl rfl c59 b59
theorem w60 (X : K.In h) (N : h.Ns mainGlobals mg) (c : SaysM ask fn K) : ∃ fdat, Made T ask.glo K mg f60 (He.fAd K d60.at_) fdat p60 ∧ ∀ (s : Shared) (us : List Value), us.length = p60.length → BindsTo s fdat ⟨us, []⟩ (p60.zip us) :=
  made_of X N c (d := d60) (Ns := n60) (by unfold fn; simp) rfl rfl rfl rfl s60 rfl rfl c60 b60
theorem w61 (X : K.In h) (N : h.Ns mainGlobals mg) (c : SaysM ask fn K) : ∃ fdat, Made T ask.glo K mg f61 (He.fAd K d61.at_) fdat p61 ∧ ∀ (s : Shared) (us : List Value), us.length = p61.length → BindsTo s fdat ⟨us, []⟩ (p61.zip us) :=
  made_of X N c (d := d61) (Ns := n61) (by unfold fn; simp) rfl rfl rfl rfl s61 rfl rfl c61 b61
theorem w62 (X : K.In h) (N : h.Ns mainGlobals mg) (c : SaysM ask fn K) : ∃ fdat, Made T ask.glo K mg f62 (He.fAd K d62.at_) fdat p62 ∧ ∀ (s : Shared) (us : List Value), us.length = p62.length → BindsTo s fdat ⟨us, []⟩ (p62.zip us) :=
  made_of X N c (d := d62) (Ns := n62) (by unfold fn; simp) rfl rfl rfl rfl s62 rfl rfl c62 b62
theorem w63 (X : K.In h) (N : h.Ns mainGlobals mg) (c : SaysM ask fn K) : ∃ fdat, Made T ask.glo K mg f63 (He.fAd K d63.at_) fdat p63 ∧ ∀ (s : Shared) (us : List Value), us.length = p63.length → BindsTo s fdat ⟨us, []⟩ (p63.zip us) :=
  made_of X N c (d := d63) (Ns := n63) (by unfold fn; simp) rfl rfl rfl rfl s63 rfl rfl c63 b63
theorem w64 (X : K.In h) (N : h.Ns mainGlobals mg) (c : SaysM ask fn K) : ∃ fdat, Made T ask.glo K mg f64 (He.fAd K d64.at_) fdat p64 ∧ ∀ (s : Shared) (us : List Value), us.length = p64.length → BindsTo s fdat ⟨us, []⟩ (p64.zip us) :=
  made_of X N c (d := d64) (Ns := n64) (by unfold fn; simp) rfl rfl rfl rfl s64 rfl rfl c64 b64
theorem w65 (X : K.In h) (N : h.Ns mainGlobals mg) (c : SaysM ask fn K) : ∃ fdat, Made T ask.glo K mg f65 (He.fAd K d65.at_) fdat p65 ∧ ∀ (s : Shared) (us : List Value), us.length = p65.length → BindsTo s fdat ⟨us, []⟩ (p65.zip us) :=
  made_of X N c (d := d65) (Ns := n65) (by unfold fn; simp) rfl rfl rfl rfl s65 rfl rfl c65 b65
theorem all_made (X : K.In h) (N : h.Ns mainGlobals mg) (c : SaysM ask fn K) : ∀ fd ∈ tab, ∃ a fdat ps, Made T ask.glo K mg fd a fdat ps := by
  unfold tab
  refine List.forall_mem_cons.mpr ⟨(w0 X N c).elim fun fdat q => ⟨_, fdat, _, q.1⟩, ?_⟩
  refine List.forall_mem_cons.mpr ⟨(w1 X N c).elim fun fdat q => ⟨_, fdat, _, q.1⟩, ?_⟩
  refine List.forall_mem_cons.mpr ⟨(w2 X N c).elim fun fdat q => ⟨_, fdat, _, q.1⟩, ?_⟩
  refine List.forall_mem_cons.mpr ⟨(w3 X N c).elim fun fdat q => ⟨_, fdat, _, q.1⟩, ?_⟩
  refine List.forall_mem_cons.mpr ⟨(w4 X N c).elim fun fdat q => ⟨_, fdat, _, q.1⟩, ?_⟩
  refine List.forall_mem_cons.mpr ⟨(w5 X N c).elim fun fdat q => ⟨_, fdat, _, q.1⟩, ?_⟩
  refine List.forall_mem_cons.mpr ⟨(w6 X N c).elim fun fdat q => ⟨_, fdat, _, q.1⟩, ?_⟩
  refine List.forall_mem_cons.mpr ⟨(w7 X N c).elim fun fdat q => ⟨_, fdat, _, q.1⟩, ?_⟩
  refine List.forall_mem_cons.mpr ⟨(w8 X N c).elim fun fdat q => ⟨_, fdat, _, q.1⟩, ?_⟩
  refine List.forall_mem_cons.mpr ⟨(w9 X N c).elim fun fdat q => ⟨_, fdat, _, q.1⟩, ?_⟩
  refine List.forall_mem_cons.mpr ⟨(w10 X N c).elim fun fdat q => ⟨_, fdat, _, q.1⟩, ?_⟩
  refine List.forall_mem_cons.mpr ⟨(w11 X N c).elim fun fdat q => ⟨_, fdat, _, q.1⟩, ?_⟩
  refine List.forall_mem_cons.mpr ⟨(w12 X N c).elim fun fdat q => ⟨_, fdat, _, q.1⟩, ?_⟩
  refine List.forall_mem_cons.mpr ⟨(w13 X N c).elim fun fdat q => ⟨_, fdat, _, q.1⟩, ?_⟩
  refine List.forall_mem_cons.mpr ⟨(w14 X N c).elim fun fdat q => ⟨_, fdat, _, q.1⟩, ?_⟩
  refine List.forall_mem_cons.mpr ⟨(w15 X N c).elim fun fdat q => ⟨_, fdat, _, q.1⟩, ?_⟩
  refine List.forall_mem_cons.mpr ⟨(w16 X N c).elim fun fdat q => ⟨_, fdat, _, q.1⟩, ?_⟩
  refine List.forall_mem_cons.mpr ⟨(w17 X N c).elim fun fdat q => ⟨_, fdat, _, q.1⟩, ?_⟩
  refine List.forall_mem_cons.mpr ⟨(w18 X N c).elim fun fdat q => ⟨_, fdat, _, q.1⟩, ?_⟩
  refine List.forall_mem_cons.mpr ⟨(w19 X N c).elim fun fdat q => ⟨_, fdat, _, q.1⟩, ?_⟩
  refine List.forall_mem_cons.mpr ⟨(w20 X N c).elim fun fdat q => ⟨_, fdat, _, q.1⟩, ?_⟩
  refine List.forall_mem_cons.mpr ⟨(w21 X N c).elim fun fdat q => ⟨_, fdat, _, q.1⟩, ?_⟩
  refine List.forall_mem_cons.mpr ⟨(w22 X N c).elim fun fdat q => ⟨_, fdat, _, q.1⟩, ?_⟩
  refine List.forall_mem_cons.mpr ⟨(w23 X N c).elim fun fdat q => ⟨_, fdat, _, q.1⟩, ?_⟩
  refine List.forall_mem_cons.mpr ⟨(w24 X N c).elim fun fdat q => ⟨_, fdat, _, q.1⟩, ?_⟩
  refine List.forall_mem_cons.mpr ⟨(w25 X N c).elim fun fdat q => ⟨_, fdat, _, q.1⟩, ?_⟩
  refine List.forall_mem_cons.mpr ⟨(w26 X N c).elim fun fdat q => ⟨_, fdat, _, q.1⟩, ?_⟩
  refine List.forall_mem_cons.mpr ⟨(w27 X N c).elim fun fdat q => ⟨_, fdat, _, q.1⟩, ?_⟩
  refine List.forall_mem_cons.mpr ⟨(w28 X N c).elim fun fdat q => ⟨_, fdat, _, q.1⟩, ?_⟩
  refine List.forall_mem_cons.mpr ⟨(w29 X N c).elim fun fdat q => ⟨_, fdat, _, q.1⟩, ?_⟩
  refine List.forall_mem_cons.mpr ⟨(w30 X N c).elim fun fdat q => ⟨_, fdat, _, q.1⟩, ?_⟩
  refine List.forall_mem_cons.mpr ⟨(w31 X N c).elim fun fdat q => ⟨_, fdat, _, q.1⟩, ?_⟩
  refine List.forall_mem_cons.mpr ⟨(w32 X N c).elim fun fdat q => ⟨_, fdat, _, q.1⟩, ?_⟩
  refine List.forall_mem_cons.mpr ⟨(w33 X N c).elim fun fdat q => ⟨_, fdat, _, q.1⟩, ?_⟩
  refine List.forall_mem_cons.mpr ⟨(w34 X N c).elim fun fdat q => ⟨_, fdat, _, q.1⟩, ?_⟩
  refine List.forall_mem_cons.mpr ⟨(w35 X N c).elim fun fdat q => ⟨_, fdat, _, q.1⟩, ?_⟩
  refine List.forall_mem_cons.mpr ⟨(w36 X N c).elim fun fdat q => ⟨_, fdat, _, q.1⟩, ?_⟩
  refine List.forall_mem_cons.mpr ⟨(w37 X N c).elim fun fdat q => ⟨_, fdat, _, q.1⟩, ?_⟩
  refine List.forall_mem_cons.mpr ⟨(w38 X N c).elim fun fdat q => ⟨_, fdat, _, q.1⟩, ?_⟩
  refine List.forall_mem_cons.mpr ⟨(w39 X N c).elim fun fdat q => ⟨_, fdat, _, q.1⟩, ?_⟩
  refine List.forall_mem_cons.mpr ⟨(w40 X N c).elim fun fdat q => ⟨_, fdat, _, q.1⟩, ?_⟩
  refine List.forall_mem_cons.mpr ⟨(w41 X N c).elim fun fdat q => ⟨_, fdat, _, q.1⟩, ?_⟩
  refine List.forall_mem_cons.mpr ⟨(w42 X N c).elim fun fdat q => ⟨_, fdat, _, q.1⟩, ?_⟩
  refine List.forall_mem_cons.mpr ⟨(w43 X N c).elim fun fdat q => ⟨_, fdat, _, q.1⟩, ?_⟩
  refine List.forall_mem_cons.mpr ⟨(w44 X N c).elim fun fdat q => ⟨_, fdat, _, q.1⟩, ?_⟩
  refine List.forall_mem_cons.mpr ⟨(w45 X N c).elim fun fdat q => ⟨_, fdat, _, q.1⟩, ?_⟩
  refine List.forall_mem_cons.mpr ⟨(w46 X N c).elim fun fdat q => ⟨_, fdat, _, q.1⟩, ?_⟩
  refine List.forall_mem_cons.mpr ⟨(w47 X N c).elim fun fdat q => ⟨_, fdat, _, q.1⟩, ?_⟩
  refine List.forall_mem_cons.mpr ⟨(w48 X N c).elim fun fdat q => ⟨_, fdat, _, q.1⟩, ?_⟩
  refine List.forall_mem_cons.mpr ⟨(w49 X N c).elim fun fdat q => ⟨_, fdat, _, q.1⟩, ?_⟩
  refine List.forall_mem_cons.mpr ⟨(w50 X N c).elim fun fdat q => ⟨_, fdat, _, q.1⟩, ?_⟩
  refine List.forall_mem_cons.mpr ⟨(w51 X N c).elim fun fdat q => ⟨_, fdat, _, q.1⟩, ?_⟩
  refine List.forall_mem_cons.mpr ⟨(w52 X N c).elim fun fdat q => ⟨_, fdat, _, q.1⟩, ?_⟩
  refine List.forall_mem_cons.mpr ⟨(w53 X N c).elim fun fdat q => ⟨_, fdat, _, q.1⟩, ?_⟩
  refine List.forall_mem_cons.mpr ⟨(w54 X N c).elim fun fdat q => ⟨_, fdat, _, q.1⟩, ?_⟩
  refine List.forall_mem_cons.mpr ⟨(w55 X N c).elim fun fdat q => ⟨_, fdat, _, q.1⟩, ?_⟩
  refine List.forall_mem_cons.mpr ⟨(w56 X N c).elim fun fdat q => ⟨_, fdat, _, q.1⟩, ?_⟩
  refine List.forall_mem_cons.mpr ⟨(w57 X N c).elim fun fdat q => ⟨_, fdat, _, q.1⟩, ?_⟩
  refine List.forall_mem_cons.mpr ⟨(w58 X N c).elim fun fdat q => ⟨_, fdat, _, q.1⟩, ?_⟩
  refine List.forall_mem_cons.mpr ⟨(w59 X N c).elim fun fdat q => ⟨_, fdat, _, q.1⟩, ?_⟩
  refine List.forall_mem_cons.mpr ⟨(w60 X N c).elim fun fdat q => ⟨_, fdat, _, q.1⟩, ?_⟩
  refine List.forall_mem_cons.mpr ⟨(w61 X N c).elim fun fdat q => ⟨_, fdat, _, q.1⟩, ?_⟩
  refine List.forall_mem_cons.mpr ⟨(w62 X N c).elim fun fdat q => ⟨_, fdat, _, q.1⟩, ?_⟩
  refine List.forall_mem_cons.mpr ⟨(w63 X N c).elim fun fdat q => ⟨_, fdat, _, q.1⟩, ?_⟩
  refine List.forall_mem_cons.mpr ⟨(w64 X N c).elim fun fdat q => ⟨_, fdat, _, q.1⟩, ?_⟩
  refine List.forall_mem_cons.mpr ⟨(w65 X N c).elim fun fdat q => ⟨_, fdat, _, q.1⟩, ?_⟩
  exact fun _ z => nomatch z
theorem the_base (X : K.In h) (N : h.Ns mainGlobals mg) (c : SaysM ask fn K) : Base T ask.glo K (ask.EX K) mg := base_of X N c fun f fd hf => all_made X N c fd (List.mem_of_getElem? hf)
end
end K48
open PySem PySem.W PySem.Calls PyProof.Rows Mi
theorem PySem.Challenge.cw_mendedmodels_k48_race_runs_judged_holds : PySem.Challenge.rw_mendedmodels_k48_race_runs_judged.Holds := by
  w_on; o_law
  refine HandSHeadRun.head_any (r := K48.Rw) (q := view K48.Rw.prog [88]) (H := K48.hk) (ob := K48.ob) (M := 4000) (loose := K48.tops) (d := HandSHeadRun.topDef K48.Rw.prog 88) (kwd := []) K48.ob_eq
    (by kernel_rfl) (fun s => by kernel_rfl) K48.run (by kernel_rfl) (by kernel_rfl) (by kernel_rfl) (by rfl) (by first | assumption | decide +kernel) (by decide +kernel) ⟨rfl, rfl, rfl, rfl, rfl, by decide +kernel⟩ ?hw ?hc
  case hw => w_witness2
  case hc =>
    refine walk_mi (l := PySem.Challenge.rw_mendedmodels_k48_race_runs_judged) (n := 63) (k := 200) (x := "script") rfl (by decide) (by kernel_rfl) ⟨rfl, by decide, by decide⟩ ?F
    intro w mg fa h Y N mg0
    obtain ⟨K, X, c⟩ := Y
    have name : (HandSHeadRun.topDef K48.Rw.prog 88).name = ("law" : PySem.Str) := by kernel_rfl
    rw [name] at mg0
    obtain ⟨fdat, M, bnd⟩ := K48.w65 X N c
    have same := mg0.symm.trans M.glob
    cases same
    refine ⟨K, fdat, _, X, fun s u => bnd s [u] rfl, fun H a ns short hS => wish_of (T := K48.T) (k := 200) (f := 65) (EX := K48.ask.EX K) rfl hS (Nat.le_trans short (by decide)) (K48.law ns short), fun base X2 N2 => ?_⟩
    exact fnG_all (K48.the_base X N c) 200 65 K48.f65 _ fdat _ rfl M

