import PyProof.Rows.All
import Wide.All
import OpenK.AllK
import Wide.FinOn
import HandS.ForMost
import HandS.TryMany
import HandS.Lambda
import HandS.EndTab
import HandS.Conv
import HandS.Style
import HandS.TupAny
import HandS.ExcOwn
import KE.SortData
import KE.SortKeyHeap
import HandS.SortInts
import KE.DataCmp
import KE.DataMinMax
import HandS.SortKw
import HandS.GenOver
import PyProof.GenComp
import PyProof.GenQ
import HandS.AnyAll
import HandS.HeadHook4
import HandS.HeadWalk
import HandS.Head0
import HandS.Head1
import HandS.Head2
import HandS.HeadEnd
import HandS.HeadHook1
import HandS.HeadHook2
import Lean
import KE.KStateDown
import PySem.Challenge.RW_pipehall_k04_pumps
set_option Elab.async false
set_option linter.all false
set_option maxRecDepth 100000
section
set_option Elab.async false
set_option linter.all false
set_option maxRecDepth 100000
/-! TL1: what the programs compute, as plain functions: tree values, a store of numbered boxes. -/
namespace TL
open PySem

/-- a value: data, or the n-th box -/
inductive Val where
  | d (x : PyData)
  | box (n : Nat)
/-- what a box holds; ldic: a dict that is being walked -/
inductive Cell where
  | lst (xs : List PyData)
  | dic (kvs : List (PyData × PyData))
  | ldic (kvs : List (PyData × PyData))
  | obj (c : Str) (fs : List (Str × Val))
  | dead
abbrev Store := List Cell
abbrev Slots := List (Option Val)
inductive R (α : Type) where
  | ok (a : α) (st : Store)
  | exn (c : Str) (st : Store)
  | stuck
inductive SR where
  | nx (sl : Slots) (st : Store)
  | rt (v : Val) (st : Store)
  | bk (sl : Slots) (st : Store)
  | ct (sl : Slots) (st : Store)
  | exn (c : Str) (sl : Slots) (st : Store)
  | stuck
abbrev EM := Slots → Store → R Val
abbrev TM := Slots → Store → R Bool
abbrev AM := Slots → Store → R (List Val)
abbrev SM := Slots → Store → SR
abbrev FM := List Val → Store → R Val

def R.bind {α β : Type} (r : R α) (f : α → Store → R β) : R β :=
  match r with
  | .ok a st => f a st
  | .exn c st => .exn c st
  | .stuck => .stuck
@[simp] theorem R.bind_ok {α β : Type} (a : α) (st : Store) (f : α → Store → R β) : (R.ok a st).bind f = f a st := rfl
@[simp] theorem R.bind_exn {α β : Type} (c : Str) (st : Store) (f : α → Store → R β) : (R.exn c st : R α).bind f = .exn c st := rfl
@[simp] theorem R.bind_stuck {α β : Type} (f : α → Store → R β) : (R.stuck : R α).bind f = .stuck := rfl
def R.opt {α : Type} (o : Option α) (st : Store) : R α :=
  match o with
  | some a => .ok a st
  | none => .stuck
@[simp] theorem R.opt_some {α : Type} (a : α) (st : Store) : R.opt (some a) st = .ok a st := rfl
@[simp] theorem R.opt_none {α : Type} (st : Store) : R.opt (none : Option α) st = .stuck := rfl

/-- the data behind a value -/
def deref (v : Val) (st : Store) : Option PyData :=
  match v with
  | .d x => some x
  | .box n =>
    match st[n]? with
    | some (.lst xs) => some (.list xs)
    | some (.dic kvs) => some (.dict kvs)
    | some (.ldic kvs) => some (.dict kvs)
    | _ => none
@[simp] theorem deref_d (x : PyData) (st : Store) : deref (.d x) st = some x := rfl
def dataOf : Val → Option PyData
  | .d x => some x
  | .box _ => none
def datas : List Val → Option (List PyData)
  | [] => some []
  | .d x :: r => (datas r).map (x :: ·)
  | .box _ :: _ => none
def derefs : List Val → Store → Option (List PyData)
  | [], _ => some []
  | v :: r, st =>
    match deref v st, derefs r st with
    | some x, some xs => some (x :: xs)
    | _, _ => none

/-! ### expressions -/
def mVar (i : Nat) : EM := fun sl st =>
  match sl[i]? with
  | some (some v) => .ok v st
  | _ => .stuck
def mC (x : PyData) : EM := fun _ st => .ok (.d x) st
/-- a one-place operation on data -/
def mP1 (f : PyData → Option PyData) (m : EM) : EM := fun sl st =>
  (m sl st).bind fun v st1 => R.opt (((deref v st1).bind f).map .d) st1
def mP2 (f : PyData → PyData → Option PyData) (a b : EM) : EM := fun sl st =>
  (a sl st).bind fun v st1 => (b sl st1).bind fun u st2 =>
    R.opt (((deref v st2).bind fun x => (deref u st2).bind fun y => f x y).map .d) st2
def aNil : AM := fun _ st => .ok [] st
def aCons (m : EM) (a : AM) : AM := fun sl st =>
  (m sl st).bind fun v st1 => (a sl st1).bind fun vs st2 => .ok (v :: vs) st2
/-- an operation on the data of its arguments -/
def mPn (f : List PyData → Option PyData) (a : AM) : EM := fun sl st =>
  (a sl st).bind fun vs st1 => R.opt (((derefs vs st1).bind f).map .d) st1
def lineN : Nat := 16777216
def pTup (xs : List PyData) : Option PyData := if xs.length ≤ lineN then some (.tuple xs) else none
def pLst (xs : List PyData) : Option PyData := if xs.length ≤ lineN then some (.list xs) else none
/-- displays hold what is no box -/
def mDisp (f : List PyData → Option PyData) (a : AM) : EM := fun sl st =>
  (a sl st).bind fun vs st1 => R.opt (((datas vs).bind f).map .d) st1
def mIf (c : TM) (a b : EM) : EM := fun sl st =>
  (c sl st).bind fun t st1 => bif t then a sl st1 else b sl st1
def tOfE (m : EM) : TM := fun sl st =>
  (m sl st).bind fun v st1 =>
    match v with
    | .d (.bool b) => .ok b st1
    | _ => .stuck
def tAnd (a b : TM) : TM := fun sl st => (a sl st).bind fun t st1 => bif t then b sl st1 else .ok false st1
def tOr (a b : TM) : TM := fun sl st => (a sl st).bind fun t st1 => bif t then .ok true st1 else b sl st1
def tNot (a : TM) : TM := fun sl st => (a sl st).bind fun t st1 => .ok (!t) st1
/-- .. as values: bools alone -/
def mOfT (t : TM) : EM := fun sl st => (t sl st).bind fun b st1 => .ok (.d (.bool b)) st1
def isNon : Val → Bool
  | .d .none => true
  | _ => false
def mIsN (m : EM) : EM := fun sl st => (m sl st).bind fun v st1 => .ok (.d (.bool (isNon v))) st1
def mNotN (m : EM) : EM := fun sl st => (m sl st).bind fun v st1 => .ok (.d (.bool (!isNon v))) st1

/-! ### objects -/
def getF : List (Str × Val) → Str → Option Val
  | [], _ => none
  | (g, v) :: r, f => if f = g then some v else getF r f
def setF (f : Str) (v : Val) : List (Str × Val) → List (Str × Val)
  | [] => [(f, v)]
  | (g, u) :: r => if g = f then (g, v) :: r else (g, u) :: setF f v r
def fldOf (c : Str) (v : Val) (f : Str) (st : Store) : Option Val :=
  match v with
  | .box n =>
    match st[n]? with
    | some (.obj c' fs) => if c' = c then getF fs f else none
    | _ => none
  | .d _ => none
def mFld (c : Str) (m : EM) (f : Str) : EM := fun sl st =>
  (m sl st).bind fun v st1 => R.opt (fldOf c v f st1) st1
/-- an instance of c without an attribute m -/
def isObj (c m : Str) (v : Val) (st : Store) : Bool :=
  match v with
  | .box n =>
    match st[n]? with
    | some (.obj c' fs) => decide (c' = c) && (getF fs m).isNone
    | _ => false
  | .d _ => false
/-! ### calls -/
def mCall (F : FM) (a : AM) : EM := fun sl st => (a sl st).bind F
def mMeth (c g : Str) (F : FM) (m : EM) (a : AM) : EM := fun sl st =>
  (m sl st).bind fun v st1 => bif isObj c g v st1 then (a sl st1).bind fun vs st2 => F (v :: vs) st2 else .stuck
def mMake (c : Str) (F : FM) (a : AM) : EM := fun sl st =>
  (a sl st).bind fun vs st1 =>
    (F (.box st1.length :: vs) (st1 ++ [.obj c []])).bind fun v st2 =>
      match v with
      | .d .none => .ok (.box st1.length) st2
      | _ => .stuck
def boxBelow (k : Nat) : Val → Bool
  | .d _ => true
  | .box n => decide (n < k)
def cellBelow (k : Nat) : Cell → Bool
  | .obj _ fs => fs.all fun p => boxBelow k p.2
  | _ => true
def frozen (k : Nat) (v : Val) (st : Store) : Val :=
  match v with
  | .box n =>
    if n < k then v else
      match st[n]? with
      | some (.lst xs) => .d (.list xs)
      | some (.dic kvs) => .d (.dict kvs)
      | _ => v
  | .d _ => v
/-- what a call leaves: the boxes that are its own are let go where nothing points at them -/
def leave (k : Nat) (v : Val) (st : Store) : R Val :=
  if st.length = k then .ok v st else
    if boxBelow k (frozen k v st) && (st.take k).all (cellBelow k) then .ok (frozen k v st) (st.take k) else .ok v st
def leaveX (k : Nat) (c : Str) (st : Store) : R Val :=
  if st.length = k then .exn c st else if (st.take k).all (cellBelow k) then .exn c (st.take k) else .exn c st
def left (k : Nat) : R Val → R Val
  | .ok v st => leave k v st
  | .exn c st => leaveX k c st
  | .stuck => .stuck
def mLeave (m : EM) : EM := fun sl st => left st.length (m sl st)
/-- a def by its body: N names -/
def fnOf (N : Nat) (b : SM) : FM := fun vs st =>
  left st.length <|
    match b (vs.map some ++ List.replicate (N - vs.length) none) st with
    | .nx _ st1 => .ok (.d .none) st1
    | .rt v st1 => .ok v st1
    | .exn c _ st1 => .exn c st1
    | _ => .stuck
/-- told: the first clause that takes the error -/
def mTold (tbl : List (Str × Str)) (m : EM) : EM := fun sl st =>
  left st.length <|
    match m sl st with
    | .exn c st1 =>
      match tbl.lookup c with
      | some w => .ok (.d (.str w)) st1
      | none => .stuck
    | r => r

/-! ### targets -/
inductive Tg where
  | name (i : Nat)
  | tup (ts : List Tg)
mutual
def Tg.put : Tg → PyData → Slots → Option Slots
  | .name i, x, sl => some (sl.set i (some (.d x)))
  | .tup ts, x, sl =>
    match x with
    | .tuple xs => Tg.puts ts xs sl
    | _ => none
def Tg.puts : List Tg → List PyData → Slots → Option Slots
  | [], [], sl => some sl
  | t :: ts, x :: xs, sl => (Tg.put t x sl).bind fun sl1 => Tg.puts ts xs sl1
  | _, _, _ => none
end
/-! ### what is walked -/
abbrev IM := Slots → Store → R (List PyData)
def seqD : PyData → Option (List PyData)
  | .list xs => some xs
  | .tuple xs => some xs
  | .str s => some (s.cps.toList.map fun c => .str ⟨#[c]⟩)
  | _ => none
def iterD : PyData → Option (List PyData)
  | .dict kvs => some (kvs.map (·.1))
  | x => seqD x
def lockOf (v : Val) (st : Store) : Option Nat :=
  match v with
  | .box n =>
    match st[n]? with
    | some (.dic _) => some n
    | _ => none
  | .d _ => none
def iSeq (m : EM) : IM := fun sl st => (m sl st).bind fun v st1 => R.opt ((dataOf v).bind seqD) st1
def itemsD : PyData → Option (List PyData)
  | .dict kvs => some (kvs.map fun p => .tuple [p.1, p.2])
  | _ => none
def valuesD : PyData → Option (List PyData)
  | .dict kvs => some (kvs.map (·.2))
  | _ => none
/-- items reckoned from the arguments' data -/
def iPn (f : List PyData → Option (List PyData)) (a : AM) : IM := fun sl st => (a sl st).bind fun vs st1 => R.opt ((datas vs).bind f) st1
def rangeN (lo step : Int) (n : Nat) : List PyData := (List.range n).map fun (k : Nat) => .int (lo + (k : Int) * step)
def smallI (i : Int) : Bool := decide (-(2 ^ 62) ≤ i) && decide (i < 2 ^ 62)
def pRange1 : List PyData → Option (List PyData)
  | [.int j] => if smallI j then some (rangeN 0 1 j.toNat) else none
  | _ => none
def pRange2 : List PyData → Option (List PyData)
  | [.int i, .int j] => if smallI i && smallI j then some (rangeN i 1 (j - i).toNat) else none
  | _ => none
def pRange3 : List PyData → Option (List PyData)
  | [.int i, .int j, .int k] => if k ≠ 0 ∧ k.natAbs < 1073741824 ∧ Builtin.Range.small i j k = true then some (rangeN i k (Builtin.Range.rangeSize i j k).toNat) else none
  | _ => none
def enumL : Nat → List PyData → List PyData
  | _, [] => []
  | k, x :: xs => .tuple [.int (k : Int), x] :: enumL (k + 1) xs
def pEnum : List PyData → Option (List PyData)
  | [.list xs] => some (enumL 0 xs)
  | _ => none
def zipL : List PyData → List PyData → List PyData
  | x :: xs, y :: ys => .tuple [x, y] :: zipL xs ys
  | _, _ => []
def pZip : List PyData → Option (List PyData)
  | [.list xs, .list ys] => some (zipL xs ys)
  | _ => none
def lockS (o : Option Nat) (st : Store) : Store :=
  match o with
  | none => st
  | some n =>
    match st[n]? with
    | some (.dic kvs) => st.set n (.ldic kvs)
    | _ => st
def unlockS (o : Option Nat) (st : Store) : Store :=
  match o with
  | none => st
  | some n =>
    match st[n]? with
    | some (.ldic kvs) => st.set n (.dic kvs)
    | _ => st
/-! ### comprehensions: own names are those of the target -/
def compL (tg : Tg) (c : TM) (e : EM) (sl : Slots) : List PyData → Store → R (List PyData)
  | [], st => .ok [] st
  | x :: xs, st =>
    match tg.put x sl with
    | none => .stuck
    | some sl1 =>
      (c sl1 st).bind fun b st1 =>
        bif b then
          (e sl1 st1).bind fun v st2 =>
            match v with
            | .d y => (compL tg c e sl xs st2).bind fun ys st3 => .ok (y :: ys) st3
            | .box _ => .stuck
        else compL tg c e sl xs st1
def wipeS (sl : Slots) : List Nat → Slots
  | [] => sl
  | i :: is => (wipeS sl is).set i none
def tYes : TM := fun _ st => .ok true st
/-- no error leaves a comprehension -/
def noX {α : Type} : R α → R α
  | .exn _ _ => .stuck
  | r => r
def compR (own : List Nat) (tg : Tg) (c : TM) (e : EM) (sl : Slots) (xs : List PyData) (st : Store) : R Val :=
  (noX (compL tg c e (wipeS sl own) xs st)).bind fun ys st2 => R.opt ((pLst ys).map .d) st2
def mComp (own : List Nat) (tg : Tg) (it : IM) (c : TM) (e : EM) : EM := fun sl st =>
  (it sl st).bind fun xs st1 => compR own tg c e sl xs st1
/-- over a dict (its keys, values, items), or a sequence -/
def mCompD (own : List Nat) (tg : Tg) (f : PyData → Option (List PyData)) (m : EM) (c : TM) (e : EM) : EM := fun sl st =>
  (m sl st).bind fun v st1 => (R.opt ((deref v st1).bind f) st1).bind fun xs st1 =>
    (compR own tg c e sl xs (lockS (lockOf v st1) st1)).bind fun y st2 => .ok y (unlockS (lockOf v st1) st2)
/-- a fresh list or dict put into a box -/
def mOwn (m : EM) : EM := fun sl st =>
  (m sl st).bind fun v st1 =>
    match v with
    | .d (.list xs) => .ok (.box st1.length) (st1 ++ [.lst xs])
    | .d (.dict kvs) => .ok (.box st1.length) (st1 ++ [.dic kvs])
    | _ => .stuck

/-! ### statements -/
def eS (r : R Val) (sl : Slots) (f : Val → Store → SR) : SR :=
  match r with
  | .ok v st => f v st
  | .exn c st => .exn c sl st
  | .stuck => .stuck
def aS {α : Type} (r : R α) (sl : Slots) (f : α → Store → SR) : SR :=
  match r with
  | .ok v st => f v st
  | .exn c st => .exn c sl st
  | .stuck => .stuck
@[simp] theorem aS_ok {α : Type} (a : α) (st : Store) (sl : Slots) (f : α → Store → SR) : aS (.ok a st) sl f = f a st := rfl
@[simp] theorem aS_exn {α : Type} (c : Str) (st : Store) (sl : Slots) (f : α → Store → SR) : aS (.exn c st : R α) sl f = .exn c sl st := rfl
@[simp] theorem aS_stuck {α : Type} (sl : Slots) (f : α → Store → SR) : aS (.stuck : R α) sl f = .stuck := rfl
def SR.opt {α : Type} (o : Option α) (f : α → SR) : SR :=
  match o with
  | some a => f a
  | none => .stuck
def SR.then (r : SR) (f : Slots → Store → SR) : SR :=
  match r with
  | .nx sl st => f sl st
  | r => r
@[simp] theorem SR.then_nx (sl : Slots) (st : Store) (f : Slots → Store → SR) : (SR.nx sl st).then f = f sl st := rfl
@[simp] theorem SR.then_rt (v : Val) (st : Store) (f : Slots → Store → SR) : (SR.rt v st).then f = .rt v st := rfl
@[simp] theorem SR.then_bk (sl : Slots) (st : Store) (f : Slots → Store → SR) : (SR.bk sl st).then f = .bk sl st := rfl
@[simp] theorem SR.then_ct (sl : Slots) (st : Store) (f : Slots → Store → SR) : (SR.ct sl st).then f = .ct sl st := rfl
@[simp] theorem SR.then_exn (c : Str) (sl : Slots) (st : Store) (f : Slots → Store → SR) : (SR.exn c sl st).then f = .exn c sl st := rfl
@[simp] theorem SR.then_stuck (f : Slots → Store → SR) : (SR.stuck).then f = .stuck := rfl
def sNil : SM := fun sl st => .nx sl st
def sSeq (a b : SM) : SM := fun sl st => (a sl st).then b
def sExpr (m : EM) : SM := fun sl st => aS (m sl st) sl fun _ st1 => .nx sl st1
def sRet (m : EM) : SM := fun sl st => aS (m sl st) sl fun v st1 => .rt v st1
def sRetN : SM := fun _ st => .rt (.d .none) st
def sIf (c : TM) (a b : SM) : SM := fun sl st => aS (c sl st) sl fun t st1 => bif t then a sl st1 else b sl st1
def sRaise (c : Str) : SM := fun sl st => .exn c sl st
def sBreak : SM := fun sl st => .bk sl st
def sSet (i : Nat) (m : EM) : SM := fun sl st => aS (m sl st) sl fun v st1 => .nx (sl.set i (some v)) st1
def putAll : List Nat → List Val → Slots → Slots
  | i :: is, v :: vs, sl => putAll is vs (sl.set i (some v))
  | _, _, sl => sl
/-- a, b, .. = x, y, .. : names -/
def sPar (is : List Nat) (a : AM) : SM := fun sl st => aS (a sl st) sl fun vs st1 => if vs.length = is.length then .nx (putAll is vs sl) st1 else .stuck
/-- a target of names unpacked -/
def sUnp (tg : Tg) (m : EM) : SM := fun sl st => aS (m sl st) sl fun v st1 => SR.opt ((deref v st1).bind fun x => tg.put x sl) fun sl1 => .nx sl1 st1
def putFld (c : Str) (u : Val) (f : Str) (v : Val) (st : Store) : Option Store :=
  match u with
  | .box n =>
    match st[n]? with
    | some (.obj c' fs) => if c' = c ∧ fs.length < 999 then some (st.set n (.obj c (setF f v fs))) else none
    | _ => none
  | .d _ => none
def sFld (c : Str) (o : EM) (f : Str) (m : EM) : SM := fun sl st =>
  aS (m sl st) sl fun v st1 => aS (o sl st1) sl fun u st2 => SR.opt (putFld c u f v st2) fun st3 => .nx sl st3
def sAug (i : Nat) (f : PyData → PyData → Option PyData) (m : EM) : SM := fun sl st =>
  aS (mP2 f (mVar i) m sl st) sl fun v st1 => .nx (sl.set i (some v)) st1
def sAugFld (c : Str) (o : EM) (g : Str) (f : PyData → PyData → Option PyData) (m : EM) : SM := fun sl st =>
  aS (o sl st) sl fun u st1 => SR.opt (fldOf c u g st1) fun x => aS (m sl st1) sl fun y st2 =>
    SR.opt ((deref x st2).bind fun x' => (deref y st2).bind fun y' => f x' y') fun z => SR.opt (putFld c u g (.d z) st2) fun st3 => .nx sl st3
def whileN (c : TM) (b : SM) : Nat → SM
  | 0, _, _ => .stuck
  | n + 1, sl, st => aS (c sl st) sl fun t st1 =>
      bif t then
        match b sl st1 with
        | .nx sl2 st2 => whileN c b n sl2 st2
        | .ct sl2 st2 => whileN c b n sl2 st2
        | .bk sl2 st2 => .nx sl2 st2
        | r => r
      else .nx sl st1
def sWhile (c : TM) (b : SM) : SM := whileN c b 1000000
def forL (tg : Tg) (b : SM) : List PyData → SM
  | [], sl, st => .nx sl st
  | x :: xs, sl, st =>
    match tg.put x sl with
    | none => .stuck
    | some sl1 =>
      match b sl1 st with
      | .nx sl2 st2 => forL tg b xs sl2 st2
      | .ct sl2 st2 => forL tg b xs sl2 st2
      | .bk sl2 st2 => .nx sl2 st2
      | r => r
def SR.unlock (o : Option Nat) : SR → SR
  | .nx sl st => .nx sl (unlockS o st)
  | .rt v st => .rt v (unlockS o st)
  | .bk sl st => .bk sl (unlockS o st)
  | .ct sl st => .ct sl (unlockS o st)
  | .exn c sl st => .exn c sl st
  | .stuck => .stuck
def sFor (tg : Tg) (it : IM) (b : SM) : SM := fun sl st => aS (it sl st) sl fun xs st1 => forL tg b xs sl st1
def sForD (tg : Tg) (f : PyData → Option (List PyData)) (m : EM) (b : SM) : SM := fun sl st =>
  aS (m sl st) sl fun v st1 => SR.opt ((deref v st1).bind f) fun xs => (forL tg b xs sl (lockS (lockOf v st1) st1)).unlock (lockOf v st1)
/-- try: .. except E1: .. except E2: .. : clauses by the error's class -/
def catchS (hs : List (Str × SM)) : SR → SR
  | .exn c sl st =>
    match hs.lookup c with
    | some b => b sl st
    | none => .exn c sl st
  | r => r
def sTry (b : SM) (hs : List (Str × SM)) : SM := fun sl st => catchS hs (b sl st)
end TL
end

section
set_option Elab.async false
set_option linter.all false
set_option maxRecDepth 100000
set_option autoImplicit false
/-! TL2: how tree values and boxes stand in the hand layer's abstract heap. -/
namespace TL
open PySem L2

def core : HO → HO
  | .frz _ u => u
  | o => o
def isDic : HO → Bool
  | .dK _ => true
  | .dT _ => true
  | _ => false
def isTbl : HO → Bool
  | .tbl _ => true
  | _ => false
def isFrz : HO → Bool
  | .frz _ _ => true
  | _ => false
def keyD : Key → PyData
  | .inl i => .int i
  | .inr x => .str x
def tupD (l : List Key) : PyData := .tuple (l.map keyD)
/-- the keys ks (as data) with the values vs, as a dict of the abstract heap -/
def DkO (ks : List PyData) (vs : List V) (o : HO) : Prop :=
  vs.length = ks.length ∧ ((∃ kk : List Key, ks = kk.map keyD ∧ o = .dK (kk.zip vs)) ∨ (∃ kk : List (List Key), ks = kk.map tupD ∧ o = .dT (kk.zip vs)))
theorem DkO.dic {ks : List PyData} {vs : List V} {o : HO} (h : DkO ks vs o) : isDic o = true := by
  obtain ⟨_, ⟨_, _, rfl⟩ | ⟨_, _, rfl⟩⟩ := h <;> rfl
theorem core_is {u o : HO} (h : core u = o) (hf : isFrz o = false) : u = o ∨ ∃ ob, u = .frz ob o := by
  cases u with
  | frz ob w => exact .inr ⟨ob, by rw [show w = o from h]⟩
  | _ => exact .inl h

/-- a list, a tuple of the written part -/
def KL (K : PySem.W.Frag) (a : Addr) (xs : List V) : Prop :=
  ∃ (its : List Value) (n : Nat), K.lookup a = some { cls := .type "list", data := .seq its.toArray n } ∧ its.length ≤ sizeLine ∧ Vals xs its
def KT (K : PySem.W.Frag) (a : Addr) (xs : List V) : Prop :=
  ∃ (o : Obj) (its : Array Value) (n : Nat), K.lookup a = some o ∧ o.cls = .type "tuple" ∧ o.data = .seq its n ∧ its.size ≤ sizeLine ∧ Vals xs its.toList
section
variable (K : PySem.W.Frag) (O : Addr → Prop) (H : Hp)
def LsAt (K : PySem.W.Frag) (H : Hp) (a : Addr) (vs : List V) : Prop := Rd H a (.lst vs) ∨ KL K a vs
theorem LsAt.sq {K : PySem.W.Frag} {H : Hp} {a : Addr} {vs : List V} (h : LsAt K H a vs) : SqL K H a vs := by
  rcases h with h | ⟨its, n, h1, h2, h3⟩
  · exact .inl h
  · exact .inr ⟨_, its.toArray, n, h1, rfl, rfl, rfl, by simpa using h2, by simpa using h3⟩
def ListAt (a : Addr) (vs : List V) : Prop := (Rd H a (.lst vs) ∧ ¬ O a) ∨ KL K a vs
def TupAt (a : Addr) (vs : List V) : Prop := (Rd H a (.tup vs) ∧ ¬ O a) ∨ KT K a vs
mutual
def DR : PyData → V → Prop
  | .none, v => v = .non
  | .bool b, v => v = .bl b
  | .int i, v => v = .int i
  | .str x, v => v = .str x
  | .list xs, v => ∃ a vs, v = .ref a ∧ ListAt K O H a vs ∧ DRs xs vs
  | .tuple xs, v => ∃ a vs, v = .ref a ∧ TupAt K O H a vs ∧ DRs xs vs
  | .dict kvs, v => ∃ a o vs, v = .ref a ∧ (Rd H a o ∧ ¬ O a) ∧ DkO (kvs.map (·.1)) vs o ∧ DRv kvs vs
def DRs : List PyData → List V → Prop
  | [], vs => vs = []
  | x :: xs, vs => ∃ v r, vs = v :: r ∧ DR x v ∧ DRs xs r
def DRv : List (PyData × PyData) → List V → Prop
  | [], vs => vs = []
  | (_, x) :: xs, vs => ∃ v r, vs = v :: r ∧ DR x v ∧ DRv xs r
end
end
theorem ListAt.ls {K : PySem.W.Frag} {O : Addr → Prop} {H : Hp} {a : Addr} {vs : List V} (h : ListAt K O H a vs) : LsAt K H a vs := h.imp (·.1) id
theorem ListAt.sq {K : PySem.W.Frag} {O : Addr → Prop} {H : Hp} {a : Addr} {vs : List V} (h : ListAt K O H a vs) : SqL K H a vs := h.ls.sq
theorem LsAt.at {X : Cx} {H : Hp} {a : Addr} {vs : List V} {pins : List (Addr × Obj)} {σ : L2.St} {s : Shared} (I : Inv X pins σ H s) (h : LsAt X.K H a vs) :
    vs.length ≤ sizeLine ∧ ∃ (its : List Value) (n : Nat), Vals vs its ∧ vs.length = its.length ∧ s.heap.get? a = some { cls := .type "list", data := .seq its.toArray n } := by
  rcases h with h | ⟨its, n, h1, h2, h3⟩
  · obtain ⟨z, its, n, r, e⟩ := h.ok I.hok
    exact ⟨z, its, n, r, r.length, e⟩
  · exact ⟨by rw [h3.length]; exact h2, its, n, h3, h3.length, I.kIn a _ h1⟩
theorem TupAt.sq {K : PySem.W.Frag} {O : Addr → Prop} {H : Hp} {a : Addr} {vs : List V} (h : TupAt K O H a vs) : SqT K H a vs := by
  rcases h with ⟨h, _⟩ | h
  · exact .inl h
  · exact .inr h

/-- what stood apart from O stands apart from O' -/
structure Mon (O : Addr → Prop) (H : Hp) (O' : Addr → Prop) (H' : Hp) : Prop where
  keep : ∀ a u, H a = some u → ¬ O a → isTbl u = false → H' a = some u ∨ (isDic (core u) = true ∧ ∃ u', H' a = some u' ∧ core u' = core u)
  out : ∀ a, H a ≠ none → ¬ O a → ¬ O' a
theorem rd_at {H : Hp} {a : Addr} {o : HO} (h : Rd H a o) : ∃ u, H a = some u ∧ (u = o ∨ ∃ ob, u = .frz ob o) := by
  rcases h with h | ⟨ob, h⟩
  · exact ⟨o, h, .inl rfl⟩
  · exact ⟨_, h, .inr ⟨ob, rfl⟩⟩
theorem rd_ne {H : Hp} {a : Addr} {o : HO} (h : Rd H a o) : H a ≠ none := by
  obtain ⟨u, e, _⟩ := rd_at h
  rw [e]
  exact fun z => nomatch z
theorem dic_not {o : HO} (h : isDic o = true) : isTbl o = false ∧ isFrz o = false := by
  cases o <;> first | exact ⟨rfl, rfl⟩ | (exact absurd h (by decide)) | cases h
section
variable {K : PySem.W.Frag} {O O' : Addr → Prop} {H H' : Hp}
theorem Mon.rd (m : Mon O H O' H') {a : Addr} {o : HO} (h : Rd H a o) (n : ¬ O a) (ht : isTbl o = false) (hf : isFrz o = false) : Rd H' a o := by
  obtain ⟨u, e, hu⟩ := rd_at h
  have hc : core u = o := by
    rcases hu with rfl | ⟨ob, rfl⟩
    · cases u with
      | frz ob w => cases hf
      | _ => rfl
    · rfl
  have nt : isTbl u = false := by
    rcases hu with rfl | ⟨ob, rfl⟩
    · exact ht
    · rfl
  rcases m.keep a u e n nt with q | ⟨_, u', q2, q3⟩
  · rcases hu with rfl | ⟨ob, rfl⟩
    · exact .inl q
    · exact .inr ⟨ob, q⟩
  · rcases core_is (q3.trans hc) hf with rfl | ⟨ob, rfl⟩
    · exact .inl q2
    · exact .inr ⟨ob, q2⟩
theorem Mon.list (m : Mon O H O' H') {a : Addr} {vs : List V} (h : ListAt K O H a vs) : ListAt K O' H' a vs := by
  rcases h with ⟨h, n⟩ | h
  · exact .inl ⟨m.rd h n rfl rfl, m.out a (rd_ne h) n⟩
  · exact .inr h
theorem Mon.tup (m : Mon O H O' H') {a : Addr} {vs : List V} (h : TupAt K O H a vs) : TupAt K O' H' a vs := by
  rcases h with ⟨h, n⟩ | h
  · exact .inl ⟨m.rd h n rfl rfl, m.out a (rd_ne h) n⟩
  · exact .inr h
mutual
theorem DR.mon (m : Mon O H O' H') : ∀ (x : PyData) (v : V), DR K O H x v → DR K O' H' x v
  | .none, v, h => h
  | .bool _, v, h => h
  | .int _, v, h => h
  | .str _, v, h => h
  | .list xs, v, ⟨a, vs, e, h1, h2⟩ => ⟨a, vs, e, m.list h1, DRs.mon m xs vs h2⟩
  | .tuple xs, v, ⟨a, vs, e, h1, h2⟩ => ⟨a, vs, e, m.tup h1, DRs.mon m xs vs h2⟩
  | .dict kvs, v, ⟨a, o, vs, e, ⟨h1, n⟩, h2, h3⟩ => ⟨a, o, vs, e, ⟨m.rd h1 n (dic_not h2.dic).1 (dic_not h2.dic).2, m.out a (rd_ne h1) n⟩, h2, DRv.mon m kvs vs h3⟩
theorem DRs.mon (m : Mon O H O' H') : ∀ (xs : List PyData) (vs : List V), DRs K O H xs vs → DRs K O' H' xs vs
  | [], vs, h => h
  | x :: xs, vs, ⟨v, r, e, h1, h2⟩ => ⟨v, r, e, DR.mon m x v h1, DRs.mon m xs r h2⟩
theorem DRv.mon (m : Mon O H O' H') : ∀ (xs : List (PyData × PyData)) (vs : List V), DRv K O H xs vs → DRv K O' H' xs vs
  | [], vs, h => h
  | (_, x) :: xs, vs, ⟨v, r, e, h1, h2⟩ => ⟨v, r, e, DR.mon m x v h1, DRv.mon m xs r h2⟩
end
theorem DRs.length : ∀ {xs : List PyData} {vs : List V}, DRs K O H xs vs → vs.length = xs.length
  | [], _, h => by rw [show _ = _ from h]; rfl
  | x :: xs, _, ⟨v, r, e, _, h2⟩ => by rw [e, List.length_cons, List.length_cons, DRs.length h2]
theorem DRs.at : ∀ {xs : List PyData} {vs : List V} {i : Nat} {x : PyData}, DRs K O H xs vs → xs[i]? = some x → ∃ v, vs[i]? = some v ∧ DR K O H x v
  | [], _, _, _, _, e => by simp at e
  | y :: xs, _, 0, x, ⟨v, r, e, h1, h2⟩, ex => by
    simp at ex; subst ex; rw [e]; exact ⟨v, rfl, h1⟩
  | y :: xs, _, i + 1, x, ⟨v, r, e, h1, h2⟩, ex => by
    rw [e]; simp at ex ⊢; exact DRs.at h2 ex
theorem DRs.at' : ∀ {xs : List PyData} {vs : List V} {i : Nat} {v : V}, DRs K O H xs vs → vs[i]? = some v → ∃ x, xs[i]? = some x ∧ DR K O H x v
  | [], _, _, _, h, e => by rw [show _ = _ from h] at e; simp at e
  | y :: xs, _, 0, x, ⟨v, r, e, h1, h2⟩, ex => by
    rw [e] at ex; simp at ex; subst ex; exact ⟨y, rfl, h1⟩
  | y :: xs, _, i + 1, x, ⟨v, r, e, h1, h2⟩, ex => by
    rw [e] at ex; simp at ex ⊢; exact DRs.at' h2 ex
theorem DRs.append : ∀ {xs ys : List PyData} {vs us : List V}, DRs K O H xs vs → DRs K O H ys us → DRs K O H (xs ++ ys) (vs ++ us)
  | [], _, _, _, h, h' => by rw [show _ = _ from h]; exact h'
  | x :: xs, _, _, _, ⟨v, r, e, h1, h2⟩, h' => by rw [e]; exact ⟨v, _, rfl, h1, DRs.append h2 h'⟩
theorem DRs.one {x : PyData} {v : V} (h : DR K O H x v) : DRs K O H [x] [v] := ⟨v, [], rfl, h, rfl⟩
theorem DRs.set : ∀ {xs : List PyData} {vs : List V} {x : PyData} {v : V} (i : Nat), DRs K O H xs vs → DR K O H x v → DRs K O H (xs.set i x) (vs.set i v)
  | [], _, _, _, _, h, _ => by rw [show _ = _ from h]; exact rfl
  | y :: xs, _, x, v, 0, ⟨w, r, e, h1, h2⟩, hx => by rw [e]; exact ⟨v, r, rfl, hx, h2⟩
  | y :: xs, _, x, v, i + 1, ⟨w, r, e, h1, h2⟩, hx => by rw [e]; exact ⟨w, _, rfl, h1, DRs.set i h2 hx⟩
theorem DRs.take : ∀ {xs : List PyData} {vs : List V} (n : Nat), DRs K O H xs vs → DRs K O H (xs.take n) (vs.take n)
  | _, _, 0, _ => by rw [List.take_zero, List.take_zero]; rfl
  | [], _, _ + 1, h => by rw [show _ = _ from h]; rfl
  | y :: xs, _, n + 1, ⟨w, r, e, h1, h2⟩ => by rw [e]; exact ⟨w, _, rfl, h1, DRs.take n h2⟩
theorem DRs.drop : ∀ {xs : List PyData} {vs : List V} (n : Nat), DRs K O H xs vs → DRs K O H (xs.drop n) (vs.drop n)
  | _, _, 0, h => h
  | [], _, _ + 1, h => by rw [show _ = _ from h]; rfl
  | y :: xs, _, n + 1, ⟨w, r, e, h1, h2⟩ => by rw [e]; exact DRs.drop n h2
theorem DRv.drs : ∀ {xs : List (PyData × PyData)} {vs : List V}, DRv K O H xs vs ↔ DRs K O H (xs.map (·.2)) vs
  | [], vs => Iff.rfl
  | (k, x) :: xs, vs => by
    constructor
    · rintro ⟨v, r, e, h1, h2⟩
      exact ⟨v, r, e, h1, DRv.drs.mp h2⟩
    · rintro ⟨v, r, e, h1, h2⟩
      exact ⟨v, r, e, h1, DRv.drs.mpr h2⟩
end

/-! ### the store -/
def isLive : Cell → Bool
  | .dead => false
  | _ => true
/-- the boxes' addresses, and what else no value may lean on -/
structure Num where
  ids : List Addr
  av : Addr → Prop
def Num.push (φ : Num) (p : Addr) : Num := { φ with ids := φ.ids ++ [p] }
def Live (φ : Num) (st : Store) (a : Addr) : Prop := ∃ (n : Nat) (c : Cell), st[n]? = some c ∧ isLive c = true ∧ φ.ids[n]? = some a
def Av (φ : Num) (st : Store) (a : Addr) : Prop := Live φ st a ∨ φ.av a
section
variable (K : PySem.W.Frag) (φ : Num) (st : Store) (H : Hp)
def VR : Val → V → Prop
  | .d x, v => DR K (Av φ st) H x v
  | .box n, v => ∃ a, φ.ids[n]? = some a ∧ v = .ref a
def FR : List (Str × Val) → List (Str × V) → Prop
  | [], fs => fs = []
  | (f, v) :: r, fs => ∃ u s, fs = (f, u) :: s ∧ VR K φ st H v u ∧ FR r s
def CR (mg : Str → Option Value) (a : Addr) : Cell → Prop
  | .lst xs => ∃ vs, H a = some (.lst vs) ∧ DRs K (Av φ st) H xs vs
  | .dic kvs => ∃ o vs, H a = some o ∧ DkO (kvs.map (·.1)) vs o ∧ DRs K (Av φ st) H (kvs.map (·.2)) vs
  | .ldic kvs => ∃ ob o vs, H a = some (.frz ob o) ∧ DkO (kvs.map (·.1)) vs o ∧ DRs K (Av φ st) H (kvs.map (·.2)) vs
  | .obj c fs => ∃ C dx us, mg c = some (.ref C) ∧ H a = some (.ins C dx us) ∧ FR K φ st H fs us
  | .dead => H a ≠ none
end
/-- a table of code objects: those made at pos bear the name nm pos -/
structure Tb where
  P : Addr
  nm : Nat → Nat → Option Str
def TabN (H : Hp) (t : Tb) : Prop :=
  ∃ ps : Array Value, H t.P = some (.tbl ps) ∧ TriplesOk ps.toList ∧ ∀ (pos : Pos) (cv : Value) (q : Str), codeAmong pos ps.toList = some cv → t.nm pos.line pos.col = some q → ∃ c, cv = .ref c ∧ H c = some (LamX.CodeO c q)
structure StR (K : PySem.W.Frag) (mg : Str → Option Value) (T : List Tb) (φ : Num) (st : Store) (H : Hp) : Prop where
  len : φ.ids.length = st.length
  nd : φ.ids.Nodup
  av : ∀ a, φ.av a → (∃ xs : List V, H a = some (HO.lst xs)) ∧ a ∉ φ.ids
  cell : ∀ (n : Nat) (c : Cell) (a : Addr), st[n]? = some c → φ.ids[n]? = some a → CR K φ st H mg a c
  tabs : ∀ t ∈ T, TabN H t
structure Stp (φ : Num) (st : Store) (H : Hp) (φ' : Num) (st' : Store) (H' : Hp) : Prop where
  pre : φ.ids <+: φ'.ids
  av : (∀ a, φ.av a → φ'.av a) ∧ ∀ a, φ'.av a → φ.av a ∨ H a = none
  keep : ∀ (a : Addr) (u : HO), H a = some u → ¬ Live φ st a → isTbl u = false → H' a = some u ∨ (isDic (core u) = true ∧ ∃ u', H' a = some u' ∧ core u' = core u)
  live : ∀ a, Live φ' st' a → Live φ st a ∨ H a = none
  sm : ∀ a, H a ≠ none → H' a ≠ none
  frz : ∀ (a : Addr) (ob : Obj) (u : HO), H a = some (HO.frz ob u) → H' a = some (HO.frz ob u)
/-- the abstract heap has only grown -/
def Gr (H H' : Hp) : Prop := ∀ a o, H a = some o → H' a = some o
section
variable {K : PySem.W.Frag} {mg : Str → Option Value} {T : List Tb} {φ φ' φ2 : Num} {st st' st2 : Store} {H H' H2 : Hp}
theorem Stp.mon (s : Stp φ st H φ' st' H') : Mon (Av φ st) H (Av φ' st') H' :=
  ⟨fun a u h n t => s.keep a u h (fun l => n (.inl l)) t, fun a h n l => l.elim (fun l => (s.live a l).elim (fun l => n (.inl l)) h) fun l => (s.av.2 a l).elim (fun l => n (.inr l)) h⟩
theorem Gr.refl (H : Hp) : Gr H H := fun _ _ h => h
theorem Gr.trans (a : Gr H H') (b : Gr H' H2) : Gr H H2 := fun c o h => b c o (a c o h)
theorem Gr.upd {p : Addr} {o : HO} (h : H p = none) : Gr H (upd H p o) := fun a u e => by
  rw [upd_ne (ne_of_none e h)]
  exact e
theorem Gr.step (g : Gr H H') : Stp φ st H φ st H' :=
  ⟨List.prefix_rfl, ⟨fun _ h => h, fun _ h => .inl h⟩, fun a u h _ _ => .inl (g a u h), fun a l => .inl l, fun a h => (by
    cases e : H a with
    | none => exact absurd e h
    | some o => rw [g a o e]; exact fun z => (nomatch z)), fun a ob u h => g a _ h⟩
theorem Stp.refl : Stp φ st H φ st H := (Gr.refl H).step
theorem Stp.trans (a : Stp φ st H φ' st' H') (b : Stp φ' st' H' φ2 st2 H2) : Stp φ st H φ2 st2 H2 := by
  have back : ∀ x, H' x = none → H x = none := fun x q => by
    cases e : H x with
    | none => rfl
    | some o => exact absurd q (a.sm x (by rw [e]; exact fun z => nomatch z))
  refine ⟨a.pre.trans b.pre, ⟨fun x q => b.av.1 x (a.av.1 x q), fun x q => (b.av.2 x q).elim (a.av.2 x) fun q => .inr (back x q)⟩, fun x u h n t => ?_, fun x l => ?_, fun x h => b.sm x (a.sm x h), fun x ob u h => b.frz x ob u (a.frz x ob u h)⟩
  · have n' : ¬ Live φ' st' x := fun l => (a.live x l).elim n fun z => by rw [h] at z; cases z
    rcases a.keep x u h n t with q | ⟨q1, u', q2, q3⟩
    · exact b.keep x u q n' t
    · have t' : isTbl u' = false := by
        cases u' with
        | tbl ps => rw [show core (HO.tbl ps) = HO.tbl ps from rfl] at q3; rw [← q3] at q1; cases q1
        | _ => rfl
      rcases b.keep x u' q2 n' t' with r | ⟨_, u2, r2, r3⟩
      · exact .inr ⟨q1, u', r, q3⟩
      · exact .inr ⟨q1, u2, r2, r3.trans q3⟩
  · rcases b.live x l with q | q
    · exact a.live x q
    · cases e : H x with
      | none => exact .inr rfl
      | some o => exact absurd q (a.sm x (by rw [e]; exact fun z => nomatch z))
theorem VR.mon (s : Stp φ st H φ' st' H') : ∀ {v : Val} {u : V}, VR K φ st H v u → VR K φ' st' H' v u
  | .d x, u, h => DR.mon s.mon x u h
  | .box n, u, ⟨a, h, e⟩ => ⟨a, by
      obtain ⟨l, hl⟩ := s.pre
      have hn := (List.getElem?_eq_some_iff.mp h).1
      rw [← hl, List.getElem?_append_left hn]; exact h, e⟩
theorem FR.mon (s : Stp φ st H φ' st' H') : ∀ {fs : List (Str × Val)} {us : List (Str × V)}, FR K φ st H fs us → FR K φ' st' H' fs us
  | [], _, h => h
  | (f, v) :: r, _, ⟨u, t, e, h1, h2⟩ => ⟨u, t, e, VR.mon s h1, FR.mon s h2⟩
theorem VR.mon' (m : Mon (Av φ st) H (Av φ' st') H') (p : φ.ids <+: φ'.ids) : ∀ {v : Val} {u : V}, VR K φ st H v u → VR K φ' st' H' v u
  | .d x, u, h => DR.mon m x u h
  | .box n, u, ⟨a, h, e⟩ => ⟨a, by
      obtain ⟨l, hl⟩ := p
      have hn := (List.getElem?_eq_some_iff.mp h).1
      rw [← hl, List.getElem?_append_left hn]; exact h, e⟩
theorem FR.mon' (m : Mon (Av φ st) H (Av φ' st') H') (p : φ.ids <+: φ'.ids) : ∀ {fs : List (Str × Val)} {us : List (Str × V)}, FR K φ st H fs us → FR K φ' st' H' fs us
  | [], _, h => h
  | (f, v) :: r, _, ⟨u, t, e, h1, h2⟩ => ⟨u, t, e, VR.mon' m p h1, FR.mon' m p h2⟩
theorem CR.mon' {a : Addr} (m : Mon (Av φ st) H (Av φ' st') H') (p : φ.ids <+: φ'.ids) (he : H' a = H a) : ∀ {c : Cell}, CR K φ st H mg a c → CR K φ' st' H' mg a c
  | .lst xs, ⟨vs, h1, h2⟩ => ⟨vs, he.trans h1, DRs.mon m _ _ h2⟩
  | .dic kvs, ⟨o, vs, h1, h2, h3⟩ => ⟨o, vs, he.trans h1, h2, DRs.mon m _ _ h3⟩
  | .ldic kvs, ⟨ob, o, vs, h1, h2, h3⟩ => ⟨ob, o, vs, he.trans h1, h2, DRs.mon m _ _ h3⟩
  | .obj c fs, ⟨C, dx, us, h0, h1, h2⟩ => ⟨C, dx, us, h0, he.trans h1, FR.mon' m p h2⟩
  | .dead, h => by
    show H' a ≠ none
    rw [he]; exact h
theorem TabN.gr {t : Tb} (g : Gr H H') (h : TabN H t) : TabN H' t := by
  obtain ⟨ps, h1, h2, h3⟩ := h
  refine ⟨ps, g _ _ h1, h2, fun pos cv q e1 e2 => ?_⟩
  obtain ⟨c, rfl, e⟩ := h3 pos cv q e1 e2
  exact ⟨c, rfl, g _ _ e⟩
theorem CR.gr {a : Addr} (g : Gr H H') : ∀ {c : Cell}, CR K φ st H mg a c → CR K φ st H' mg a c
  | .lst xs, ⟨vs, h1, h2⟩ => ⟨vs, g _ _ h1, DRs.mon (g.step (φ := φ) (st := st)).mon _ _ h2⟩
  | .dic kvs, ⟨o, vs, h1, h2, h3⟩ => ⟨o, vs, g _ _ h1, h2, DRs.mon (g.step (φ := φ) (st := st)).mon _ _ h3⟩
  | .ldic kvs, ⟨ob, o, vs, h1, h2, h3⟩ => ⟨ob, o, vs, g _ _ h1, h2, DRs.mon (g.step (φ := φ) (st := st)).mon _ _ h3⟩
  | .obj c fs, ⟨C, dx, us, h0, h1, h2⟩ => ⟨C, dx, us, h0, g _ _ h1, FR.mon g.step h2⟩
  | .dead, h => by
    cases e : H a with
    | none => exact absurd e h
    | some o => rw [show CR K φ st H' mg a .dead = (H' a ≠ none) from rfl, g a o e]; exact fun z => nomatch z
theorem StR.gr (g : Gr H H') (s : StR K mg T φ st H) : StR K mg T φ st H' :=
  ⟨s.len, s.nd, fun a h => ⟨let ⟨xs, e⟩ := (s.av a h).1; ⟨xs, g _ _ e⟩, (s.av a h).2⟩, fun n c a e1 e2 => (s.cell n c a e1 e2).gr g, fun t ht => (s.tabs t ht).gr g⟩
theorem StR.ne (s : StR K mg T φ st H) {a : Addr} (h : a ∈ φ.ids) : H a ≠ none := by
  obtain ⟨n, hn, e⟩ := List.mem_iff_getElem.mp h
  have hs : n < st.length := by rw [← s.len]; exact hn
  have := s.cell n st[n] a (List.getElem?_eq_getElem hs) (by rw [List.getElem?_eq_getElem hn, e])
  generalize st[n] = c at this
  cases c with
  | lst xs => obtain ⟨vs, h1, _⟩ := this; rw [h1]; exact fun z => nomatch z
  | dic kvs => obtain ⟨o, vs, h1, _⟩ := this; rw [h1]; exact fun z => nomatch z
  | ldic kvs => obtain ⟨ob, o, vs, h1, _⟩ := this; rw [h1]; exact fun z => nomatch z
  | obj c fs => obtain ⟨C, dx, us, _, h1, _⟩ := this; rw [h1]; exact fun z => nomatch z
  | dead => exact this
theorem StR.avne (s : StR K mg T φ st H) {a : Addr} (h : φ.av a) : H a ≠ none := by
  obtain ⟨⟨xs, e⟩, _⟩ := s.av a h
  rw [e]; exact fun z => nomatch z
/-- what is no list, dict, instance is no box's, and not avoided -/
theorem StR.apart (s : StR K mg T φ st H) {a : Addr} {xs : List V} (h : H a = some (.tup xs)) : ¬ Av φ st a := by
  rintro (⟨n, c, e1, e2, e3⟩ | l)
  · have := s.cell n c a e1 e3
    cases c with
    | lst xs => obtain ⟨vs, h1, _⟩ := this; rw [h] at h1; cases h1
    | dic kvs => obtain ⟨o, vs, h1, h2, _⟩ := this; rw [h] at h1; cases h1; exact nomatch h2.dic
    | ldic kvs => obtain ⟨ob, o, vs, h1, _⟩ := this; rw [h] at h1; cases h1
    | obj c fs => obtain ⟨C, dx, us, _, h1, _⟩ := this; rw [h] at h1; cases h1
    | dead => cases e2
  · obtain ⟨⟨ys, e⟩, _⟩ := s.av a l
    rw [h] at e; cases e
theorem Live.mem {a : Addr} (h : Live φ st a) : a ∈ φ.ids := by
  obtain ⟨n, c, _, _, e⟩ := h
  exact List.mem_of_getElem? e
theorem StR.fresh (s : StR K mg T φ st H) {p : Addr} (h : H p = none) : p ∉ φ.ids := fun z => s.ne z h
theorem StR.box {n : Nat} {a : Addr} {c : Cell} (s : StR K mg T φ st H) (e : φ.ids[n]? = some a) (ec : st[n]? = some c) : CR K φ st H mg a c := s.cell n c a ec e
theorem StR.at {n : Nat} {c : Cell} (s : StR K mg T φ st H) (ec : st[n]? = some c) : ∃ a, φ.ids[n]? = some a := by
  have h := (List.getElem?_eq_some_iff.mp ec).1
  exact ⟨φ.ids[n]'(by rw [s.len]; exact h), List.getElem?_eq_getElem _⟩

/-! ### addresses that no value leans on -/
def Num.with (φ : Num) (av : Addr → Prop) : Num := { φ with av := av }
def Num.hide (φ : Num) (p : Addr) : Num := φ.with fun a => φ.av a ∨ a = p
def Num.bare (φ : Num) (p : Addr) : Num := φ.with fun a => φ.av a ∧ a ≠ p
theorem Stp.bare (s : Stp φ st H φ' st' H') {p : Addr} (hp : H p = none) (np : ¬ φ.av p) : Stp φ st H (φ'.bare p) st' H' :=
  ⟨s.pre, ⟨fun a q => ⟨s.av.1 a q, fun z => np (by rw [← z]; exact q)⟩, fun a q => s.av.2 a q.1⟩, s.keep, s.live, s.sm, s.frz⟩
theorem Stp.hide {p : Addr} {o : HO} (hp : H p = none) : Stp φ st H (φ.hide p) st (upd H p o) :=
  ⟨List.prefix_rfl, ⟨fun a q => .inl q, fun a q => q.imp id fun z => by rw [z]; exact hp⟩, fun a u e _ _ => .inl (Gr.upd hp a u e), fun a l => .inl l, fun a h => ((Gr.upd hp).step (φ := φ) (st := st)).sm a h, fun a ob u h => Gr.upd hp a _ h⟩
theorem Stp.poke (s : Stp φ st H φ' st' H') {p : Addr} {o : HO} (hp : H p = none) : Stp φ st H φ' st' (upd H' p o) := by
  have ne : ∀ a u, H a = some u → a ≠ p := fun a u e z => by rw [z, hp] at e; cases e
  refine ⟨s.pre, s.av, fun a u e n t => by rw [upd_ne (ne a u e)]; exact s.keep a u e n t, s.live, fun a h => ?_, fun a ob u h => by rw [upd_ne (ne a _ h)]; exact s.frz a ob u h⟩
  by_cases z : a = p
  · rw [z, upd_same]; exact fun z => nomatch z
  · rw [upd_ne z]; exact s.sm a h
theorem mon_less {av : Addr → Prop} (h : ∀ a, av a → φ.av a) : Mon (Av φ st) H (Av (φ.with av) st) H := ⟨fun a u e _ _ => .inl e, fun a _ n l => n (l.imp id (h a))⟩
theorem StR.less (s : StR K mg T φ st H) {av : Addr → Prop} (h : ∀ a, av a → φ.av a) : StR K mg T (φ.with av) st H :=
  ⟨s.len, s.nd, fun a q => s.av a (h a q), fun n c a e1 e2 => (s.cell n c a e1 e2).mon' (mon_less h) List.prefix_rfl rfl, s.tabs⟩
theorem mon_hide {p : Addr} {o : HO} (hp : H p = none) : Mon (Av φ st) H (Av (φ.hide p) st) (upd H p o) :=
  ⟨fun a u e _ _ => .inl (Gr.upd hp a u e), fun a h n l => l.elim (fun l => n (.inl l)) fun l => l.elim (fun l => n (.inr l)) fun z => h (by rw [z]; exact hp)⟩
theorem StR.hide (s : StR K mg T φ st H) {p : Addr} {l : List V} (hp : H p = none) : StR K mg T (φ.hide p) st (upd H p (.lst l)) := by
  have ne : ∀ a ∈ φ.ids, a ≠ p := fun a h z => s.ne h (by rw [z]; exact hp)
  refine ⟨s.len, s.nd, fun a q => ?_, fun n c a e1 e2 => (s.cell n c a e1 e2).mon' (mon_hide hp) List.prefix_rfl (upd_ne (ne a (List.mem_of_getElem? e2))), fun t ht => (s.tabs t ht).gr (Gr.upd hp)⟩
  rcases q with q | q
  · exact ⟨let ⟨xs, e⟩ := (s.av a q).1; ⟨xs, Gr.upd hp _ _ e⟩, (s.av a q).2⟩
  · rw [q]
    exact ⟨⟨l, upd_same⟩, fun z => ne p z rfl⟩
theorem mon_poke {p : Addr} {o : HO} (hp : φ.av p) : Mon (Av φ st) H (Av φ st) (upd H p o) :=
  ⟨fun a u e n _ => .inl (by rw [upd_ne (fun z => n (.inr (by rw [z]; exact hp)))]; exact e), fun a _ n => n⟩
theorem StR.poke (s : StR K mg T φ st H) {p : Addr} {xs ys : List V} (hp : φ.av p) (hx : H p = some (.lst xs)) : StR K mg T φ st (upd H p (.lst ys)) := by
  have ne : ∀ a ∈ φ.ids, a ≠ p := fun a h z => (s.av p hp).2 (by rw [← z]; exact h)
  refine ⟨s.len, s.nd, fun a q => ⟨?_, (s.av a q).2⟩, fun n c a e1 e2 => (s.cell n c a e1 e2).mon' (mon_poke hp) List.prefix_rfl (upd_ne (ne a (List.mem_of_getElem? e2))), fun t ht => ?_⟩
  · by_cases h : a = p
    · exact ⟨ys, by rw [h, upd_same]⟩
    · rw [upd_ne h]; exact (s.av a q).1
  · obtain ⟨ps, q1, q2, q3⟩ := s.tabs t ht
    have n1 : t.P ≠ p := fun z => by rw [z, hx] at q1; cases q1
    refine ⟨ps, by rw [upd_ne n1]; exact q1, q2, fun pos cv q e1 e2 => ?_⟩
    obtain ⟨c, r1, r2⟩ := q3 pos cv q e1 e2
    have n2 : c ≠ p := fun z => by rw [z, hx] at r2; cases r2
    exact ⟨c, r1, by rw [upd_ne n2]; exact r2⟩

/-! ### slots -/
def SlR (K : PySem.W.Frag) (φ : Num) (st : Store) (H : Hp) (sl : Slots) (σ : L2.St) : Prop :=
  sl.length = σ.length ∧ ∀ (i : Nat) (v : Val), sl[i]? = some (some v) → ∃ u, σ[i]? = some (some u) ∧ VR K φ st H v u
theorem SlR.mon (s : Stp φ st H φ' st' H') {sl : Slots} {σ : L2.St} (h : SlR K φ st H sl σ) : SlR K φ' st' H' sl σ :=
  ⟨h.1, fun i v e => let ⟨u, e1, r⟩ := h.2 i v e; ⟨u, e1, r.mon s⟩⟩
theorem SlR.set {sl : Slots} {σ : L2.St} {i : Nat} {v : Val} {u : V} (h : SlR K φ st H sl σ) (r : VR K φ st H v u) : SlR K φ st H (sl.set i (some v)) (σ.set i (some u)) := by
  refine ⟨by simpa using h.1, fun j w e => ?_⟩
  by_cases hj : i = j
  · subst hj
    by_cases hi : i < sl.length
    · rw [List.getElem?_set_self hi] at e
      cases e
      exact ⟨u, by rw [List.getElem?_set_self (by rw [← h.1]; exact hi)], r⟩
    · rw [List.getElem?_eq_none (by simpa using hi)] at e
      cases e
  · rw [List.getElem?_set_ne hj] at e
    obtain ⟨u', e1, r1⟩ := h.2 j w e
    exact ⟨u', by rw [List.getElem?_set_ne hj]; exact e1, r1⟩

/-! ### readings -/
/-- what a result r of an expression asks of Q (values) and W (errors) -/
def EPost (K : PySem.W.Frag) (mg : Str → Option Value) (T : List Tb) (W : XK) (φ : Num) (st : Store) (H : Hp) (Q : VK) : R Val → Prop
  | .ok v st' => ∀ φ' H' u, Stp φ st H φ' st' H' → StR K mg T φ' st' H' → VR K φ' st' H' v u → Q u H'
  | .exn c st' => ∀ φ' H' C, Stp φ st H φ' st' H' → StR K mg T φ' st' H' → mg c = some (.ref C) → W (.ref C) none H'
  | .stuck => False
def APost (K : PySem.W.Frag) (mg : Str → Option Value) (T : List Tb) (W : XK) (φ : Num) (st : Store) (H : Hp) (Q : List V → Hp → Prop) : R (List Val) → Prop
  | .ok vs st' => ∀ φ' H' us, Stp φ st H φ' st' H' → StR K mg T φ' st' H' → Paired (VR K φ' st' H') vs us → Q us H'
  | .exn c st' => ∀ φ' H' C, Stp φ st H φ' st' H' → StR K mg T φ' st' H' → mg c = some (.ref C) → W (.ref C) none H'
  | .stuck => False
def TPost (K : PySem.W.Frag) (mg : Str → Option Value) (T : List Tb) (W : XK) (φ : Num) (st : Store) (H : Hp) (Q : Bool → Hp → Prop) : R Bool → Prop
  | .ok b st' => ∀ φ' H', Stp φ st H φ' st' H' → StR K mg T φ' st' H' → Q b H'
  | .exn c st' => ∀ φ' H' C, Stp φ st H φ' st' H' → StR K mg T φ' st' H' → mg c = some (.ref C) → W (.ref C) none H'
  | .stuck => False
def SPost (K : PySem.W.Frag) (mg : Str → Option Value) (T : List Tb) (W : XK) (φ : Num) (st : Store) (H : Hp) (D : Ends) : SR → Prop
  | .nx sl st' => ∀ φ' H' σ', Stp φ st H φ' st' H' → StR K mg T φ' st' H' → SlR K φ' st' H' sl σ' → D.nx σ' H'
  | .rt v st' => ∀ φ' H' u, Stp φ st H φ' st' H' → StR K mg T φ' st' H' → VR K φ' st' H' v u → D.rt u H'
  | .bk sl st' => ∀ φ' H' σ', Stp φ st H φ' st' H' → StR K mg T φ' st' H' → SlR K φ' st' H' sl σ' → D.bk σ' H'
  | .ct sl st' => ∀ φ' H' σ', Stp φ st H φ' st' H' → StR K mg T φ' st' H' → SlR K φ' st' H' sl σ' → D.ct σ' H'
  | .exn c sl st' => ∀ φ' H' σ' C, Stp φ st H φ' st' H' → StR K mg T φ' st' H' → SlR K φ' st' H' sl σ' → mg c = some (.ref C) → W (.ref C) none H'
  | .stuck => False
section
variable {W : XK} {σ : L2.St}
theorem EPost.shift {Q : VK} (s : Stp φ st H φ' st' H') : ∀ {r : R Val}, EPost K mg T W φ st H Q r → EPost K mg T W φ' st' H' Q r
  | .ok _ _, h => fun φ2 H2 u s2 => h φ2 H2 u (s.trans s2)
  | .exn _ _, h => fun φ2 H2 C s2 => h φ2 H2 C (s.trans s2)
  | .stuck, h => h
theorem APost.shift {Q : List V → Hp → Prop} (s : Stp φ st H φ' st' H') : ∀ {r : R (List Val)}, APost K mg T W φ st H Q r → APost K mg T W φ' st' H' Q r
  | .ok _ _, h => fun φ2 H2 u s2 => h φ2 H2 u (s.trans s2)
  | .exn _ _, h => fun φ2 H2 C s2 => h φ2 H2 C (s.trans s2)
  | .stuck, h => h
theorem TPost.shift {Q : Bool → Hp → Prop} (s : Stp φ st H φ' st' H') : ∀ {r : R Bool}, TPost K mg T W φ st H Q r → TPost K mg T W φ' st' H' Q r
  | .ok _ _, h => fun φ2 H2 s2 => h φ2 H2 (s.trans s2)
  | .exn _ _, h => fun φ2 H2 C s2 => h φ2 H2 C (s.trans s2)
  | .stuck, h => h
theorem SPost.shift {D : Ends} (s : Stp φ st H φ' st' H') : ∀ {r : SR}, SPost K mg T W φ st H D r → SPost K mg T W φ' st' H' D r
  | .nx _ _, h => fun φ2 H2 u s2 => h φ2 H2 u (s.trans s2)
  | .rt _ _, h => fun φ2 H2 u s2 => h φ2 H2 u (s.trans s2)
  | .bk _ _, h => fun φ2 H2 u s2 => h φ2 H2 u (s.trans s2)
  | .ct _ _, h => fun φ2 H2 u s2 => h φ2 H2 u (s.trans s2)
  | .exn _ _ _, h => fun φ2 H2 σ2 C s2 => h φ2 H2 σ2 C (s.trans s2)
  | .stuck, h => h
end
end
/-- at σ, H stand the slots sl and the store st, numbered by φ -/
structure At (K : PySem.W.Frag) (mg : Str → Option Value) (T : List Tb) (φ : Num) (sl : Slots) (st : Store) (σ : L2.St) (H : Hp) : Prop where
  s : StR K mg T φ st H
  l : SlR K φ st H sl σ
def tE (X : Cx) (T : List Tb) (W : XK) (m : EM) : TE := fun σ H Q => ∃ φ sl st, At X.K X.mg T φ sl st σ H ∧ EPost X.K X.mg T W φ st H Q (m sl st)
def tA (X : Cx) (T : List Tb) (W : XK) (m : AM) : TA := fun σ H Q => ∃ φ sl st, At X.K X.mg T φ sl st σ H ∧ APost X.K X.mg T W φ st H Q (m sl st)
def tT (X : Cx) (T : List Tb) (W : XK) (m : TM) : TT := fun σ H Q => ∃ φ sl st, At X.K X.mg T φ sl st σ H ∧ TPost X.K X.mg T W φ st H Q (m sl st)
def tS (X : Cx) (T : List Tb) (W : XK) (m : SM) : TS := fun D σ H => ∃ φ sl st, At X.K X.mg T φ sl st σ H ∧ SPost X.K X.mg T W φ st H D (m sl st)
structure E (X : Cx) (T : List Tb) (W : XK) (e : Expr) (m : EM) : Prop where
  run : PE X e (tE X T W m)
structure Ea (X : Cx) (T : List Tb) (W : XK) (es : List Expr) (m : AM) : Prop where
  run : PA X es (tA X T W m)
structure Et (X : Cx) (T : List Tb) (W : XK) (e : Expr) (m : TM) : Prop where
  run : PT X e (tT X T W m)
structure S (X : Cx) (T : List Tb) (W : XK) (st : Stmt) (m : SM) : Prop where
  run : PS X st (tS X T W m)
structure Ss (X : Cx) (T : List Tb) (W : XK) (sts : List Stmt) (m : SM) : Prop where
  run : PSs X sts (tS X T W m)
theorem PE.imp {X : Cx} {e : Expr} {t t' : TE} (h : PE X e t) (i : ∀ σ H Q, t' σ H Q → t σ H Q) : PE X e t' := ⟨fun p s σ H Q I q => h.run p s σ H Q I (i σ H Q q)⟩
theorem PA.imp {X : Cx} {e : List Expr} {t t' : TA} (h : PA X e t) (i : ∀ σ H Q, t' σ H Q → t σ H Q) : PA X e t' := ⟨fun pos p s σ H Q I q => h.run pos p s σ H Q I (i σ H Q q)⟩
theorem PT.imp {X : Cx} {e : Expr} {t t' : TT} (h : PT X e t) (i : ∀ σ H Q, t' σ H Q → t σ H Q) : PT X e t' := ⟨fun p s σ H Q I q => h.run p s σ H Q I (i σ H Q q)⟩
theorem PW.imp {X : Cx} {e : Expr} {t t' : TT} (h : PW X e t) (i : ∀ σ H Q, t' σ H Q → t σ H Q) : PW X e t' := ⟨fun w p s σ H Q I q => h.run w p s σ H Q I (i σ H Q q)⟩
theorem PS.imp {X : Cx} {e : Stmt} {t t' : TS} (h : PS X e t) (i : ∀ D σ H, t' D σ H → t D σ H) : PS X e t' := ⟨fun p s σ H D I q => h.run p s σ H D I (i D σ H q)⟩
theorem PSs.imp {X : Cx} {e : List Stmt} {t t' : TS} (h : PSs X e t) (i : ∀ D σ H, t' D σ H → t D σ H) : PSs X e t' := ⟨fun p s σ H D I q => h.run p s σ H D I (i D σ H q)⟩

section
variable {X : Cx} {T : List Tb} {W : XK} {φ : Num} {sl : Slots} {st : Store} {σ : L2.St} {H : Hp}
/-- one part evaluated: f is what follows -/
theorem tE_bind {m : EM} {f : Val → Store → R Val} {Q : VK} (a : At X.K X.mg T φ sl st σ H) (h : EPost X.K X.mg T W φ st H Q ((m sl st).bind f)) :
    tE X T W m σ H fun u H1 => ∃ φ1 st1 v, At X.K X.mg T φ1 sl st1 σ H1 ∧ VR X.K φ1 st1 H1 v u ∧ Stp φ st H φ1 st1 H1 ∧ EPost X.K X.mg T W φ1 st1 H1 Q (f v st1) := by
  refine ⟨φ, sl, st, a, ?_⟩
  cases e : m sl st with
  | ok v st1 =>
    rw [e] at h
    exact fun φ1 H1 u s1 r1 v1 => ⟨φ1, st1, v, ⟨r1, a.l.mon s1⟩, v1, s1, EPost.shift s1 h⟩
  | exn c st1 => rw [e] at h; exact h
  | stuck => rw [e] at h; exact h
theorem tE_bindA {m : EM} {f : Val → Store → R (List Val)} {Q : List V → Hp → Prop} (a : At X.K X.mg T φ sl st σ H) (h : APost X.K X.mg T W φ st H Q ((m sl st).bind f)) :
    tE X T W m σ H fun u H1 => ∃ φ1 st1 v, At X.K X.mg T φ1 sl st1 σ H1 ∧ VR X.K φ1 st1 H1 v u ∧ Stp φ st H φ1 st1 H1 ∧ APost X.K X.mg T W φ1 st1 H1 Q (f v st1) := by
  refine ⟨φ, sl, st, a, ?_⟩
  cases e : m sl st with
  | ok v st1 =>
    rw [e] at h
    exact fun φ1 H1 u s1 r1 v1 => ⟨φ1, st1, v, ⟨r1, a.l.mon s1⟩, v1, s1, APost.shift s1 h⟩
  | exn c st1 => rw [e] at h; exact h
  | stuck => rw [e] at h; exact h
theorem tE_bindT {m : EM} {f : Val → Store → R Bool} {Q : Bool → Hp → Prop} (a : At X.K X.mg T φ sl st σ H) (h : TPost X.K X.mg T W φ st H Q ((m sl st).bind f)) :
    tE X T W m σ H fun u H1 => ∃ φ1 st1 v, At X.K X.mg T φ1 sl st1 σ H1 ∧ VR X.K φ1 st1 H1 v u ∧ Stp φ st H φ1 st1 H1 ∧ TPost X.K X.mg T W φ1 st1 H1 Q (f v st1) := by
  refine ⟨φ, sl, st, a, ?_⟩
  cases e : m sl st with
  | ok v st1 =>
    rw [e] at h
    exact fun φ1 H1 u s1 r1 v1 => ⟨φ1, st1, v, ⟨r1, a.l.mon s1⟩, v1, s1, TPost.shift s1 h⟩
  | exn c st1 => rw [e] at h; exact h
  | stuck => rw [e] at h; exact h
theorem tA_bind {m : AM} {f : List Val → Store → R Val} {Q : VK} (a : At X.K X.mg T φ sl st σ H) (h : EPost X.K X.mg T W φ st H Q ((m sl st).bind f)) :
    tA X T W m σ H fun us H1 => ∃ φ1 st1 vs, At X.K X.mg T φ1 sl st1 σ H1 ∧ Paired (VR X.K φ1 st1 H1) vs us ∧ Stp φ st H φ1 st1 H1 ∧ EPost X.K X.mg T W φ1 st1 H1 Q (f vs st1) := by
  refine ⟨φ, sl, st, a, ?_⟩
  cases e : m sl st with
  | ok v st1 =>
    rw [e] at h
    exact fun φ1 H1 u s1 r1 v1 => ⟨φ1, st1, v, ⟨r1, a.l.mon s1⟩, v1, s1, EPost.shift s1 h⟩
  | exn c st1 => rw [e] at h; exact h
  | stuck => rw [e] at h; exact h
theorem tA_bindA {m : AM} {f : List Val → Store → R (List Val)} {Q : List V → Hp → Prop} (a : At X.K X.mg T φ sl st σ H) (h : APost X.K X.mg T W φ st H Q ((m sl st).bind f)) :
    tA X T W m σ H fun us H1 => ∃ φ1 st1 vs, At X.K X.mg T φ1 sl st1 σ H1 ∧ Paired (VR X.K φ1 st1 H1) vs us ∧ Stp φ st H φ1 st1 H1 ∧ APost X.K X.mg T W φ1 st1 H1 Q (f vs st1) := by
  refine ⟨φ, sl, st, a, ?_⟩
  cases e : m sl st with
  | ok v st1 =>
    rw [e] at h
    exact fun φ1 H1 u s1 r1 v1 => ⟨φ1, st1, v, ⟨r1, a.l.mon s1⟩, v1, s1, APost.shift s1 h⟩
  | exn c st1 => rw [e] at h; exact h
  | stuck => rw [e] at h; exact h
theorem tT_bind {m : TM} {f : Bool → Store → R Val} {Q : VK} (a : At X.K X.mg T φ sl st σ H) (h : EPost X.K X.mg T W φ st H Q ((m sl st).bind f)) :
    tT X T W m σ H fun b H1 => ∃ φ1 st1, At X.K X.mg T φ1 sl st1 σ H1 ∧ Stp φ st H φ1 st1 H1 ∧ EPost X.K X.mg T W φ1 st1 H1 Q (f b st1) := by
  refine ⟨φ, sl, st, a, ?_⟩
  cases e : m sl st with
  | ok v st1 =>
    rw [e] at h
    exact fun φ1 H1 s1 r1 => ⟨φ1, st1, ⟨r1, a.l.mon s1⟩, s1, EPost.shift s1 h⟩
  | exn c st1 => rw [e] at h; exact h
  | stuck => rw [e] at h; exact h
theorem tT_bindT {m : TM} {f : Bool → Store → R Bool} {Q : Bool → Hp → Prop} (a : At X.K X.mg T φ sl st σ H) (h : TPost X.K X.mg T W φ st H Q ((m sl st).bind f)) :
    tT X T W m σ H fun b H1 => ∃ φ1 st1, At X.K X.mg T φ1 sl st1 σ H1 ∧ Stp φ st H φ1 st1 H1 ∧ TPost X.K X.mg T W φ1 st1 H1 Q (f b st1) := by
  refine ⟨φ, sl, st, a, ?_⟩
  cases e : m sl st with
  | ok v st1 =>
    rw [e] at h
    exact fun φ1 H1 s1 r1 => ⟨φ1, st1, ⟨r1, a.l.mon s1⟩, s1, TPost.shift s1 h⟩
  | exn c st1 => rw [e] at h; exact h
  | stuck => rw [e] at h; exact h
theorem tE_bindS {m : EM} {f : Val → Store → SR} {D : Ends} (a : At X.K X.mg T φ sl st σ H) (h : SPost X.K X.mg T W φ st H D (aS (m sl st) sl f)) :
    tE X T W m σ H fun u H1 => ∃ φ1 st1 v, At X.K X.mg T φ1 sl st1 σ H1 ∧ VR X.K φ1 st1 H1 v u ∧ Stp φ st H φ1 st1 H1 ∧ SPost X.K X.mg T W φ1 st1 H1 D (f v st1) := by
  refine ⟨φ, sl, st, a, ?_⟩
  cases e : m sl st with
  | ok v st1 =>
    rw [e] at h
    exact fun φ1 H1 u s1 r1 v1 => ⟨φ1, st1, v, ⟨r1, a.l.mon s1⟩, v1, s1, SPost.shift s1 h⟩
  | exn c st1 => rw [e] at h; exact fun φ' H' C s1 r1 hc => h φ' H' σ C s1 r1 (a.l.mon s1) hc
  | stuck => rw [e] at h; exact h
theorem tA_bindS {m : AM} {f : List Val → Store → SR} {D : Ends} (a : At X.K X.mg T φ sl st σ H) (h : SPost X.K X.mg T W φ st H D (aS (m sl st) sl f)) :
    tA X T W m σ H fun us H1 => ∃ φ1 st1 vs, At X.K X.mg T φ1 sl st1 σ H1 ∧ Paired (VR X.K φ1 st1 H1) vs us ∧ Stp φ st H φ1 st1 H1 ∧ SPost X.K X.mg T W φ1 st1 H1 D (f vs st1) := by
  refine ⟨φ, sl, st, a, ?_⟩
  cases e : m sl st with
  | ok v st1 =>
    rw [e] at h
    exact fun φ1 H1 u s1 r1 v1 => ⟨φ1, st1, v, ⟨r1, a.l.mon s1⟩, v1, s1, SPost.shift s1 h⟩
  | exn c st1 => rw [e] at h; exact fun φ' H' C s1 r1 hc => h φ' H' σ C s1 r1 (a.l.mon s1) hc
  | stuck => rw [e] at h; exact h
theorem tT_bindS {m : TM} {f : Bool → Store → SR} {D : Ends} (a : At X.K X.mg T φ sl st σ H) (h : SPost X.K X.mg T W φ st H D (aS (m sl st) sl f)) :
    tT X T W m σ H fun b H1 => ∃ φ1 st1, At X.K X.mg T φ1 sl st1 σ H1 ∧ Stp φ st H φ1 st1 H1 ∧ SPost X.K X.mg T W φ1 st1 H1 D (f b st1) := by
  refine ⟨φ, sl, st, a, ?_⟩
  cases e : m sl st with
  | ok v st1 =>
    rw [e] at h
    exact fun φ1 H1 s1 r1 => ⟨φ1, st1, ⟨r1, a.l.mon s1⟩, s1, SPost.shift s1 h⟩
  | exn c st1 => rw [e] at h; exact fun φ' H' C s1 r1 hc => h φ' H' σ C s1 r1 (a.l.mon s1) hc
  | stuck => rw [e] at h; exact h
end
end TL
end

section
set_option Elab.async false
set_option linter.all false
set_option maxRecDepth 100000
set_option autoImplicit false
/-! TL3: rules for expressions. -/
namespace TL
open PySem L2

/-- a block's names by slot, its scope -/
structure DI where
  N : List Str
  sc : Scope
  cl : List Str
def DI.v (D : DI) (i : Nat) (x : Str) : Bool :=
  decide (D.N[i]? = some x) && (decide (D.sc.names.lookup x = some .local) || decide (D.sc.names.lookup x = some .cell) || decide (D.sc.names.lookup x = some .free)) && !(x == ("__debug__" : Str)) && !(x == ("__classdict__" : Str))
def DI.s (D : DI) (i : Nat) (x : Str) : Bool :=
  decide (D.N[i]? = some x) && (decide (D.sc.names.lookup x = some .local) || (decide (D.sc.names.lookup x = some .cell) && decide (x ∈ D.cl)))
def DI.g (D : DI) (x : Str) : Bool := decide (D.sc.names.lookup x = some .globalImplicit) && !(x == ("__debug__" : Str)) && !decide (x = "__name__")
structure Cin (D : DI) (k : Nat) (X : Cx) : Prop where
  N : X.N = D.N
  sc : X.env.scope = D.sc
  nd : X.N.Nodup
  room : Room k X.A
  calm : X.calm = true
  fn : ∀ x ∈ D.cl, X.fn x = true
  po : PassesOwn (model X.prog X.w) X.A X.env X.xe
section
variable {D : DI} {k : Nat} {X : Cx} {T : List Tb} {W : XK}
theorem Cin.vis (c : Cin D k X) {i : Nat} {x : Str} (h : D.v i x = true) : X.N[i]? = some x ∧ Vis X.env.scope x ∧ (x == ("__debug__" : Str)) = false ∧ (x == ("__classdict__" : Str)) = false := by
  unfold DI.v at h
  simp only [Bool.and_eq_true, Bool.or_eq_true, decide_eq_true_eq, Bool.not_eq_true'] at h
  obtain ⟨⟨⟨h1, h2⟩, h3⟩, h4⟩ := h
  refine ⟨by rw [c.N]; exact h1, ?_, h3, h4⟩
  unfold Vis
  rw [c.sc]
  rcases h2 with (h2 | h2) | h2
  · exact .inl h2
  · exact .inr (.inl h2)
  · exact .inr (.inr h2)
theorem Cin.put (c : Cin D k X) {i : Nat} {x : Str} (h : D.s i x = true) : X.N[i]? = some x ∧ L2.Loc X.env.scope x ∧ (X.fn x = true ∨ X.env.scope.names.lookup x = some .local) := by
  unfold DI.s at h
  simp only [Bool.and_eq_true, Bool.or_eq_true, decide_eq_true_eq] at h
  obtain ⟨h1, h2⟩ := h
  refine ⟨by rw [c.N]; exact h1, ?_, ?_⟩
  · unfold L2.Loc
    rw [c.sc]
    exact h2.imp id fun z => z.1
  · rcases h2 with h2 | h2
    · exact .inr (by rw [c.sc]; exact h2)
    · exact .inl (c.fn x h2.2)
theorem Cin.gl (c : Cin D k X) {x : Str} (h : D.g x = true) : Gl X x ∧ (x == ("__debug__" : Str)) = false ∧ x ≠ "__name__" := by
  unfold DI.g at h
  simp only [Bool.and_eq_true, Bool.not_eq_true', decide_eq_true_eq, decide_eq_false_iff_not] at h
  obtain ⟨⟨h1, h2⟩, h3⟩ := h
  refine ⟨?_, h2, h3⟩
  show X.env.scope.names.lookup x = _
  rw [c.sc]
  exact h1
theorem Cin.mono (c : Cin D k X) {j : Nat} (h : j ≤ k) : Cin D j X := ⟨c.N, c.sc, c.nd, c.room.mono h, c.calm, c.fn, c.po⟩

theorem E_var {i : Nat} {x : Str} {pos : Pos} (c : Cin D k X) (h : D.v i x = true) : E X T W (.Name x pos) (mVar i) := by
  obtain ⟨h1, h2, h3, h4⟩ := c.vis h
  refine ⟨PE.imp (pe_var h1 h2 h3 h4) ?_⟩
  rintro σ H Q ⟨φ, sl, st, a, h⟩
  unfold mVar at h
  cases e : sl[i]? with
  | none => rw [e] at h; exact h.elim
  | some o =>
    cases o with
    | none => rw [e] at h; exact h.elim
    | some v =>
      rw [e] at h
      obtain ⟨u, e1, r⟩ := a.l.2 i v e
      exact ⟨u, e1, h φ H u .refl a.s r⟩
theorem E_int {i : Int} {j : Nat} {pos : Pos} : E X T W (.Constant (.int i) j pos) (mC (.int i)) :=
  ⟨PE.imp pe_int fun σ H Q ⟨φ, sl, st, a, h⟩ => h φ H (.int i) .refl a.s rfl⟩
theorem E_bool {b : Bool} {j : Nat} {pos : Pos} : E X T W (.Constant (.bool b) j pos) (mC (.bool b)) :=
  ⟨PE.imp pe_bl fun σ H Q ⟨φ, sl, st, a, h⟩ => h φ H (.bl b) .refl a.s rfl⟩
theorem E_none {j : Nat} {pos : Pos} : E X T W (.Constant .none j pos) (mC .none) :=
  ⟨PE.imp pe_non fun σ H Q ⟨φ, sl, st, a, h⟩ => h φ H .non .refl a.s rfl⟩
theorem E_str {x : Str} {j : Nat} {pos : Pos} : E X T W (.Constant (.str x) j pos) (mC (.str x)) :=
  ⟨PE.imp pe_str fun σ H Q ⟨φ, sl, st, a, h⟩ => h φ H (.str x) .refl a.s rfl⟩

/-! ### operations on data -/
/-- x stands for the data d, as a value or as what its box holds -/
def VD (K : PySem.W.Frag) (φ : Num) (st : Store) (H : Hp) (d : PyData) (x : V) : Prop := ∃ v, VR K φ st H v x ∧ deref v st = some d
/-- an operation that reads data and lays new objects at most: r d: the data it makes -/
def OkD (X : Cx) (T : List Tb) (φ : Num) (st : Store) (H : Hp) (d : PyData) (Q : VK) : Prop := ∀ H' u, Gr H H' → DR X.K (Av φ st) H' d u → Q u H'
def r1 (X : Cx) (T : List Tb) (f : PyData → Option PyData) : V → Hp → VK → Prop := fun x H Q => ∃ φ st a d, StR X.K X.mg T φ st H ∧ VD X.K φ st H a x ∧ f a = some d ∧ OkD X T φ st H d Q
def r2 (X : Cx) (T : List Tb) (f : PyData → PyData → Option PyData) : R2 := fun x y H Q => ∃ φ st a b d, StR X.K X.mg T φ st H ∧ VD X.K φ st H a x ∧ VD X.K φ st H b y ∧ f a b = some d ∧ OkD X T φ st H d Q
def rn (X : Cx) (T : List Tb) (f : List PyData → Option PyData) : List V → Hp → VK → Prop := fun xs H Q => ∃ φ st as d, StR X.K X.mg T φ st H ∧ Paired (VD X.K φ st H) as xs ∧ f as = some d ∧ OkD X T φ st H d Q
section
variable {φ : Num} {sl : Slots} {st : Store} {H : Hp} {σ : L2.St}
theorem tE.mono {m : EM} {Q Q' : VK} (h : tE X T W m σ H Q) (i : ∀ u H', Q u H' → Q' u H') : tE X T W m σ H Q' := by
  obtain ⟨φ, sl, st, a, h⟩ := h
  refine ⟨φ, sl, st, a, ?_⟩
  cases e : m sl st with
  | ok v st1 => rw [e] at h; exact fun φ' H' u s r v => i _ _ (h φ' H' u s r v)
  | exn c st1 => rw [e] at h; exact h
  | stuck => rw [e] at h; exact h
theorem tA.mono {m : AM} {Q Q' : List V → Hp → Prop} (h : tA X T W m σ H Q) (i : ∀ u H', Q u H' → Q' u H') : tA X T W m σ H Q' := by
  obtain ⟨φ, sl, st, a, h⟩ := h
  refine ⟨φ, sl, st, a, ?_⟩
  cases e : m sl st with
  | ok v st1 => rw [e] at h; exact fun φ' H' u s r v => i _ _ (h φ' H' u s r v)
  | exn c st1 => rw [e] at h; exact h
  | stuck => rw [e] at h; exact h
theorem tT.mono {m : TM} {Q Q' : Bool → Hp → Prop} (h : tT X T W m σ H Q) (i : ∀ u H', Q u H' → Q' u H') : tT X T W m σ H Q' := by
  obtain ⟨φ, sl, st, a, h⟩ := h
  refine ⟨φ, sl, st, a, ?_⟩
  cases e : m sl st with
  | ok v st1 => rw [e] at h; exact fun φ' H' s r => i _ _ (h φ' H' s r)
  | exn c st1 => rw [e] at h; exact h
  | stuck => rw [e] at h; exact h
theorem okD_post {d : PyData} {Q : VK} (s : StR X.K X.mg T φ st H) (h : EPost X.K X.mg T W φ st H Q (.ok (.d d) st)) : OkD X T φ st H d Q :=
  fun H' u g r => h φ H' u g.step (s.gr g) r
theorem opt_ok {α : Type} {o : Option α} {st : Store} {P : R α → Prop} (hs : ¬ P .stuck) (h : P (R.opt o st)) : ∃ a, o = some a ∧ P (.ok a st) := by
  cases o with
  | none => exact absurd h hs
  | some a => exact ⟨a, rfl, h⟩
theorem E_bin {a b : Expr} {op : Operator} {pos : Pos} {f : PyData → PyData → Option PyData} {ma mb : EM} (ho : OpR X (binaryOp op) (r2 X T f)) (ha : E X T W a ma) (hb : E X T W b mb) : E X T W (.BinOp a op b pos) (mP2 f ma mb) := by
  refine ⟨PE.imp (pe_op ho ha.run hb.run) ?_⟩
  rintro σ H Q ⟨φ, sl, st, h0, h⟩
  refine (tE_bind h0 h).mono fun u H1 ⟨φ1, st1, v, a1, v1, s1, p1⟩ => (tE_bind a1 p1).mono fun w H2 ⟨φ2, st2, v', a2, v2, s2, p2⟩ => ?_
  obtain ⟨z, ez, pz⟩ := opt_ok (P := EPost X.K X.mg T W φ2 st2 H2 Q) (fun z => z) p2
  obtain ⟨d, ed, rfl⟩ := Option.map_eq_some_iff.mp ez
  obtain ⟨x, ex, ed⟩ := Option.bind_eq_some_iff.mp ed
  obtain ⟨y, ey, ed⟩ := Option.bind_eq_some_iff.mp ed
  exact ⟨φ2, st2, x, y, d, a2.s, ⟨v, v1.mon s2, ex⟩, ⟨v', v2, ey⟩, ed, okD_post a2.s pz⟩

/-! ### one place, comparisons, tests -/
theorem E_un {a : Expr} {op : UnaryOp} {pos : Pos} {f : PyData → Option PyData} {ma : EM} (ho : UnR X (unaryOp op) (r1 X T f)) (ha : E X T W a ma) : E X T W (.UnaryOp op a pos) (mP1 f ma) := by
  refine ⟨PE.imp (pe_un ho ha.run) ?_⟩
  rintro σ H Q ⟨φ, sl, st, h0, h⟩
  refine (tE_bind h0 h).mono fun u H1 ⟨φ1, st1, v, a1, v1, s1, p1⟩ => ?_
  obtain ⟨z, ez, pz⟩ := opt_ok (P := EPost X.K X.mg T W φ1 st1 H1 Q) (fun z => z) p1
  obtain ⟨d, ed, rfl⟩ := Option.map_eq_some_iff.mp ez
  obtain ⟨x, ex, ed⟩ := Option.bind_eq_some_iff.mp ed
  exact ⟨φ1, st1, x, d, a1.s, ⟨v, v1, ex⟩, ed, okD_post a1.s pz⟩
/-- the reading of two parts and an operation -/
theorem two {f : PyData → PyData → Option PyData} {ma mb : EM} {Q : VK} (h : tE X T W (mP2 f ma mb) σ H Q) : tOp (r2 X T f) (tE X T W ma) (tE X T W mb) σ H Q := by
  obtain ⟨φ, sl, st, h0, h⟩ := h
  refine (tE_bind h0 h).mono fun u H1 ⟨φ1, st1, v, a1, v1, s1, p1⟩ => (tE_bind a1 p1).mono fun w H2 ⟨φ2, st2, v', a2, v2, s2, p2⟩ => ?_
  obtain ⟨z, ez, pz⟩ := opt_ok (P := EPost X.K X.mg T W φ2 st2 H2 Q) (fun z => z) p2
  obtain ⟨d, ed, rfl⟩ := Option.map_eq_some_iff.mp ez
  obtain ⟨x, ex, ed⟩ := Option.bind_eq_some_iff.mp ed
  obtain ⟨y, ey, ed⟩ := Option.bind_eq_some_iff.mp ed
  exact ⟨φ2, st2, x, y, d, a2.s, ⟨v, v1.mon s2, ex⟩, ⟨v', v2, ey⟩, ed, okD_post a2.s pz⟩
theorem E_cmp {a b : Expr} {op : CmpOp} {pos : Pos} {f : PyData → PyData → Option PyData} {ma mb : EM} (ho : OpR X (compareOp op) (r2 X T f)) (ha : E X T W a ma) (hb : E X T W b mb) (hm : behindInMarks op b = false := by rfl) :
    E X T W (.Compare a [op] [b] pos) (mP2 f ma mb) := ⟨PE.imp (pe_cmpR ho ha.run hb.run hm) fun _ _ _ h => two h⟩
/-- a bool's reading as a test's -/
theorem test_of {m : EM} {Q : Bool → Hp → Prop} (h : tT X T W (tOfE m) σ H Q) : tTest (tE X T W m) σ H Q := by
  obtain ⟨φ, sl, st, h0, h⟩ := h
  refine (tE_bindT h0 h).mono fun u H1 ⟨φ1, st1, v, a1, v1, s1, p1⟩ => ?_
  cases v with
  | box n => exact p1.elim
  | d x =>
    cases x with
    | bool b => exact ⟨b, v1, p1 φ1 H1 .refl a1.s⟩
    | none => exact p1.elim
    | int _ => exact p1.elim
    | str _ => exact p1.elim
    | list _ => exact p1.elim
    | tuple _ => exact p1.elim
    | dict _ => exact p1.elim
theorem tOp_tT {f : PyData → PyData → Option PyData} {ma mb : EM} {Q : Bool → Hp → Prop} (h : tT X T W (tOfE (mP2 f ma mb)) σ H Q) : tTest (tOp (r2 X T f) (tE X T W ma) (tE X T W mb)) σ H Q := two (test_of h)
theorem Et_cmp {a b : Expr} {op : CmpOp} {pos : Pos} {f : PyData → PyData → Option PyData} {ma mb : EM} (ho : OpR X (compareOp op) (r2 X T f)) (ha : E X T W a ma) (hb : E X T W b mb) (hm : behindInMarks op b = false := by rfl) :
    Et X T W (.Compare a [op] [b] pos) (tOfE (mP2 f ma mb)) := ⟨PT.imp (pt_cmpR ho ha.run hb.run hm) fun _ _ _ h => tOp_tT h⟩
theorem Et_val {e : Expr} {m : EM} (h : E X T W e m) (he : ∀ whole, isTrue e X.env whole = (do let v ← whole; standAt e.pos; holding [v] (truthy v)) := by intro _; rfl) : Et X T W e (tOfE m) := by
  refine ⟨PT.imp (pt_val h.run he) fun σ H Q q => ?_⟩
  exact test_of q
structure Ew (X : Cx) (T : List Tb) (W : XK) (e : Expr) (m : TM) : Prop where
  run : PW X e (tT X T W m)
theorem Ew.t {e : Expr} {m : TM} (h : Ew X T W e m) : Et X T W e m := ⟨h.run.pt⟩
theorem tT_if {c m : TM} {Q : Bool → Hp → Prop} (h : tT X T W (tAnd c m) σ H Q) : tT X T W c σ H fun b H1 => if b = true then tT X T W m σ H1 Q else Q false H1 := by
  obtain ⟨φ, sl, st, h0, h⟩ := h
  refine (tT_bindT h0 h).mono fun b H1 ⟨φ1, st1, a1, s1, p1⟩ => ?_
  cases b with
  | true => exact ⟨φ1, sl, st1, a1, p1⟩
  | false => exact p1 φ1 H1 .refl a1.s
theorem tT_or {c m : TM} {Q : Bool → Hp → Prop} (h : tT X T W (tOr c m) σ H Q) : tT X T W c σ H fun b H1 => if b = true then Q true H1 else tT X T W m σ H1 Q := by
  obtain ⟨φ, sl, st, h0, h⟩ := h
  refine (tT_bindT h0 h).mono fun b H1 ⟨φ1, st1, a1, s1, p1⟩ => ?_
  cases b with
  | false => exact ⟨φ1, sl, st1, a1, p1⟩
  | true => exact p1 φ1 H1 .refl a1.s
theorem Ew_and1 {a : Expr} {pos : Pos} {m : TM} (h : Et X T W a m) : Ew X T W (.BoolOp .And [a] pos) m := ⟨pw_and1 h.run⟩
theorem Ew_or1 {a : Expr} {pos : Pos} {m : TM} (h : Et X T W a m) : Ew X T W (.BoolOp .Or [a] pos) m := ⟨pw_or1 h.run⟩
theorem Ew_and {a b : Expr} {rest : List Expr} {pos : Pos} {m n : TM} (h : Et X T W a m) (h2 : Ew X T W (.BoolOp .And (b :: rest) pos) n) : Ew X T W (.BoolOp .And (a :: b :: rest) pos) (tAnd m n) :=
  ⟨PW.imp (pw_and h.run h2.run) fun _ _ _ q => tT_if q⟩
theorem Ew_or {a b : Expr} {rest : List Expr} {pos : Pos} {m n : TM} (h : Et X T W a m) (h2 : Ew X T W (.BoolOp .Or (b :: rest) pos) n) : Ew X T W (.BoolOp .Or (a :: b :: rest) pos) (tOr m n) :=
  ⟨PW.imp (pw_or h.run h2.run) fun _ _ _ q => tT_or q⟩
theorem Et_not {a : Expr} {pos : Pos} {m : TM} (h : Et X T W a m) : Et X T W (.UnaryOp .Not a pos) (tNot m) := by
  refine ⟨PT.imp (pt_not h.run) ?_⟩
  rintro σ H Q ⟨φ, sl, st, h0, h⟩
  exact (tT_bindT h0 h).mono fun b H1 ⟨φ1, st1, a1, s1, p1⟩ => p1 φ1 H1 .refl a1.s
/-! values of and, or, not: of bools -/
theorem tE_bool {m : EM} {t : TM} {Q : VK} {f : Bool → Store → R Val} {φ : Num} {sl : Slots} {st : Store} (h0 : At X.K X.mg T φ sl st σ H) (h : EPost X.K X.mg T W φ st H Q ((tOfE m sl st).bind f)) :
    tE X T W m σ H fun u H1 => ∃ c, u = .bl c ∧ ∃ φ1 st1, At X.K X.mg T φ1 sl st1 σ H1 ∧ EPost X.K X.mg T W φ1 st1 H1 Q (f c st1) := by
  refine ⟨φ, sl, st, h0, ?_⟩
  unfold tOfE at h
  cases e : m sl st with
  | ok v st1 =>
    rw [e] at h
    cases v with
    | box n => exact h.elim
    | d x =>
      cases x with
      | bool b => exact fun φ1 H1 u s1 r1 v1 => ⟨b, v1, φ1, st1, ⟨r1, h0.l.mon s1⟩, EPost.shift s1 h⟩
      | none => exact h.elim
      | int _ => exact h.elim
      | str _ => exact h.elim
      | list _ => exact h.elim
      | tuple _ => exact h.elim
      | dict _ => exact h.elim
  | exn c st1 => rw [e] at h; exact h
  | stuck => rw [e] at h; exact h
theorem E_bool1 {op : BoolOp} {a : Expr} {pos : Pos} {m : EM} (h : E X T W a m) : E X T W (.BoolOp op [a] pos) m := ⟨pe_one h.run⟩
def mAnd (a b : EM) : EM := fun sl st => (tOfE a sl st).bind fun t st1 => bif t then b sl st1 else .ok (.d (.bool false)) st1
def mOr (a b : EM) : EM := fun sl st => (tOfE a sl st).bind fun t st1 => bif t then .ok (.d (.bool true)) st1 else b sl st1
def mNot (a : EM) : EM := fun sl st => (tOfE a sl st).bind fun t st1 => .ok (.d (.bool (!t))) st1
theorem E_and {a b : Expr} {rest : List Expr} {pos : Pos} {m n : EM} (h : E X T W a m) (h2 : E X T W (.BoolOp .And (b :: rest) pos) n) : E X T W (.BoolOp .And (a :: b :: rest) pos) (mAnd m n) := by
  refine ⟨PE.imp (pe_and h.run h2.run) ?_⟩
  rintro σ H Q ⟨φ, sl, st, h0, h⟩
  refine (tE_bool (t := fun _ _ => .stuck) h0 h).mono fun u H1 ⟨c, e, φ1, st1, a1, p⟩ => ⟨c, e, ?_⟩
  cases c with
  | true => exact ⟨φ1, sl, st1, a1, p⟩
  | false => exact p φ1 H1 _ .refl a1.s rfl
theorem E_or {a b : Expr} {rest : List Expr} {pos : Pos} {m n : EM} (h : E X T W a m) (h2 : E X T W (.BoolOp .Or (b :: rest) pos) n) : E X T W (.BoolOp .Or (a :: b :: rest) pos) (mOr m n) := by
  refine ⟨PE.imp (pe_or h.run h2.run) ?_⟩
  rintro σ H Q ⟨φ, sl, st, h0, h⟩
  refine (tE_bool (t := fun _ _ => .stuck) h0 h).mono fun u H1 ⟨c, e, φ1, st1, a1, p⟩ => ⟨c, e, ?_⟩
  cases c with
  | false => exact ⟨φ1, sl, st1, a1, p⟩
  | true => exact p φ1 H1 _ .refl a1.s rfl
theorem E_not {a : Expr} {pos : Pos} {m : EM} (h : E X T W a m) : E X T W (.UnaryOp .Not a pos) (mNot m) := by
  refine ⟨PE.imp (pe_not h.run) ?_⟩
  rintro σ H Q ⟨φ, sl, st, h0, h⟩
  exact (tE_bool (t := fun _ _ => .stuck) h0 h).mono fun u H1 ⟨c, e, φ1, st1, a1, p⟩ => ⟨c, e, p φ1 H1 _ .refl a1.s rfl⟩
theorem E_if {c a b : Expr} {pos : Pos} {t : TM} {m n : EM} (hc : Et X T W c t) (ha : E X T W a m) (hb : E X T W b n) : E X T W (.IfExp c a b pos) (mIf t m n) := by
  refine ⟨PE.imp (pe_ifExp hc.run ha.run hb.run) ?_⟩
  rintro σ H Q ⟨φ, sl, st, h0, h⟩
  refine (tT_bind h0 h).mono fun d H1 ⟨φ1, st1, a1, s1, p1⟩ => ?_
  cases d with
  | true => exact ⟨φ1, sl, st1, a1, p1⟩
  | false => exact ⟨φ1, sl, st1, a1, p1⟩
/-! is None -/
theorem VR.non {K : PySem.W.Frag} {φ : Num} {st : Store} {H : Hp} {v : Val} {u : V} (h : VR K φ st H v u) : isNon v = decide (u = .non) := by
  cases v with
  | box n =>
    obtain ⟨a, _, rfl⟩ := h
    rfl
  | d x =>
    cases x with
    | none => rw [show u = V.non from h]; rfl
    | bool _ => rw [show u = _ from h]; rfl
    | int _ => rw [show u = _ from h]; rfl
    | str _ => rw [show u = _ from h]; rfl
    | list _ => obtain ⟨a, _, rfl, _⟩ := h; rfl
    | tuple _ => obtain ⟨a, _, rfl, _⟩ := h; rfl
    | dict _ => obtain ⟨a, _, _, rfl, _⟩ := h; rfl
theorem isN_read {m : EM} {Q : VK} (h : tE X T W (mIsN m) σ H Q) : tIsN (tE X T W m) σ H Q := by
  obtain ⟨φ, sl, st, h0, h⟩ := h
  exact (tE_bind h0 h).mono fun u H1 ⟨φ1, st1, v, a1, v1, s1, p1⟩ => p1 φ1 H1 _ .refl a1.s (by rw [v1.non]; rfl)
theorem notN_read {m : EM} {Q : VK} (h : tE X T W (mNotN m) σ H Q) : tNotN (tE X T W m) σ H Q := by
  obtain ⟨φ, sl, st, h0, h⟩ := h
  exact (tE_bind h0 h).mono fun u H1 ⟨φ1, st1, v, a1, v1, s1, p1⟩ => p1 φ1 H1 _ .refl a1.s (by rw [v1.non]; rfl)
theorem E_isN {a : Expr} {j : Nat} {p pos : Pos} {m : EM} (h : E X T W a m) : E X T W (.Compare a [.Is] [.Constant .none j p] pos) (mIsN m) :=
  ⟨PE.imp (pe_cmp (pc_isN h.run) (nobehind _ (by decide) (by decide))) fun _ _ _ q => isN_read q⟩
theorem Et_isN {a : Expr} {j : Nat} {p pos : Pos} {m : EM} (h : E X T W a m) : Et X T W (.Compare a [.Is] [.Constant .none j p] pos) (tOfE (mIsN m)) :=
  ⟨PT.imp (pt_cmp (pc_isN h.run) (nobehind _ (by decide) (by decide))) fun _ _ _ q => isN_read (test_of q)⟩
theorem E_notN {a : Expr} {j : Nat} {p pos : Pos} {m : EM} (h : E X T W a m) : E X T W (.Compare a [.IsNot] [.Constant .none j p] pos) (mNotN m) :=
  ⟨PE.imp (pe_cmp (pc_notN h.run) (nobehind _ (by decide) (by decide))) fun _ _ _ q => notN_read q⟩
theorem Et_notN {a : Expr} {j : Nat} {p pos : Pos} {m : EM} (h : E X T W a m) : Et X T W (.Compare a [.IsNot] [.Constant .none j p] pos) (tOfE (mNotN m)) :=
  ⟨PT.imp (pt_cmp (pc_notN h.run) (nobehind _ (by decide) (by decide))) fun _ _ _ q => notN_read (test_of q)⟩

/-! ### chains -/
def mChain (f g : PyData → PyData → Option PyData) (a b c : EM) : EM := fun sl st =>
  (a sl st).bind fun v st1 => (b sl st1).bind fun u st2 =>
    (R.opt ((deref v st2).bind fun x => (deref u st2).bind fun y => f x y) st2).bind fun z st3 =>
      match z with
      | .bool true => (c sl st3).bind fun w st4 => R.opt (((deref u st4).bind fun y => (deref w st4).bind fun z => g y z).map .d) st4
      | .bool false => .ok (.d (.bool false)) st3
      | _ => .stuck
theorem chain_read {f g : PyData → PyData → Option PyData} {ma mb mc : EM} {Q : VK} (h : tE X T W (mChain f g ma mb mc) σ H Q) : tChain (r2 X T f) (r2 X T g) (tE X T W ma) (tE X T W mb) (tE X T W mc) σ H Q := by
  obtain ⟨φ, sl, st, h0, h⟩ := h
  refine (tE_bind h0 h).mono fun u H1 ⟨φ1, st1, v, a1, v1, s1, p1⟩ => (tE_bind a1 p1).mono fun w H2 ⟨φ2, st2, v', a2, v2, s2, p2⟩ => ?_
  cases eo : ((deref v st2).bind fun x => (deref v' st2).bind fun y => f x y) with
  | none => rw [eo] at p2; exact p2.elim
  | some z =>
    rw [eo] at p2
    obtain ⟨x, ex, ed⟩ := Option.bind_eq_some_iff.mp eo
    obtain ⟨y, ey, ed⟩ := Option.bind_eq_some_iff.mp ed
    refine ⟨φ2, st2, x, y, z, a2.s, ⟨v, v1.mon s2, ex⟩, ⟨v', v2, ey⟩, ed, fun H' u' gr hz => ?_⟩
    have a3 : At X.K X.mg T φ2 sl st2 σ H' := ⟨a2.s.gr gr, a2.l.mon gr.step⟩
    cases z with
    | bool b =>
      refine ⟨b, hz, ?_⟩
      have p4 := EPost.shift (gr.step (φ := φ2) (st := st2)) p2
      cases b with
      | true =>
        refine (tE_bind a3 p4).mono fun w' H4 ⟨φ4, st4, v4, a4, r4, s4, p5⟩ => ?_
        obtain ⟨z, ez, pz⟩ := opt_ok (P := EPost X.K X.mg T W φ4 st4 H4 Q) (fun z => z) p5
        obtain ⟨d, ed, rfl⟩ := Option.map_eq_some_iff.mp ez
        obtain ⟨x', ex', ed⟩ := Option.bind_eq_some_iff.mp ed
        obtain ⟨y', ey', ed⟩ := Option.bind_eq_some_iff.mp ed
        exact ⟨φ4, st4, x', y', d, a4.s, ⟨v', (v2.mon gr.step).mon s4, ex'⟩, ⟨v4, r4, ey'⟩, ed, okD_post a4.s pz⟩
      | false => exact p4 φ2 H' _ .refl a3.s rfl
    | none => exact p2.elim
    | int _ => exact p2.elim
    | str _ => exact p2.elim
    | list _ => exact p2.elim
    | tuple _ => exact p2.elim
    | dict _ => exact p2.elim
theorem E_chain {a b c : Expr} {op op' : CmpOp} {pos : Pos} {f g : PyData → PyData → Option PyData} {ma mb mc : EM} (ho : OpR X (compareOp op) (r2 X T f)) (ho' : OpR X (compareOp op') (r2 X T g)) (ha : E X T W a ma) (hb : E X T W b mb) (hc : E X T W c mc)
    (hm : lastMarks [op, op'] [b, c] = false := by with_unfolding_all rfl) : E X T W (.Compare a [op, op'] [b, c] pos) (mChain f g ma mb mc) := ⟨PE.imp (pe_chain ho ho' ha.run hb.run hc.run hm) fun _ _ _ q => chain_read q⟩
theorem Et_chain {a b c : Expr} {op op' : CmpOp} {pos : Pos} {f g : PyData → PyData → Option PyData} {ma mb mc : EM} (ho : OpR X (compareOp op) (r2 X T f)) (ho' : OpR X (compareOp op') (r2 X T g)) (ha : E X T W a ma) (hb : E X T W b mb) (hc : E X T W c mc)
    (hm : lastMarks [op, op'] [b, c] = false := by with_unfolding_all rfl) : Et X T W (.Compare a [op, op'] [b, c] pos) (tOfE (mChain f g ma mb mc)) := ⟨PT.imp (pt_chain ho ho' ha.run hb.run hc.run hm) fun _ _ _ q => chain_read (test_of q)⟩

/-! ### arguments, displays -/
theorem Ea_nil : Ea X T W [] aNil := ⟨PA.imp pa_nil fun σ H Q ⟨φ, sl, st, h0, h⟩ => h φ H [] .refl h0.s .nil⟩
theorem Ea_cons {e : Expr} {es : List Expr} {m : EM} {n : AM} (h1 : E X T W e m) (h2 : Ea X T W es n) (hs : starEach (e :: es) X.env = (false, eval e X.env) :: starEach es X.env := by rfl) : Ea X T W (e :: es) (aCons m n) := by
  refine ⟨PA.imp (pa_cons h1.run h2.run hs) ?_⟩
  rintro σ H Q ⟨φ, sl, st, h0, h⟩
  exact (tE_bindA h0 h).mono fun u H1 ⟨φ1, st1, v, a1, v1, s1, p1⟩ => (tA_bindA a1 p1).mono fun us H2 ⟨φ2, st2, vs, a2, v2, s2, p2⟩ => p2 φ2 H2 _ .refl a2.s (.cons (v1.mon s2) v2)
theorem datas_rel {K : PySem.W.Frag} {φ : Num} {st : Store} {H : Hp} : ∀ {vs : List Val} {us : List V} {xs : List PyData}, Paired (VR K φ st H) vs us → datas vs = some xs → DRs K (Av φ st) H xs us
  | [], _, _, .nil, e => by cases e; rfl
  | .d x :: vs, _, xs, .cons h r, e => by
    obtain ⟨ys, e1, rfl⟩ := Option.map_eq_some_iff.mp (show (datas vs).map (x :: ·) = some xs from e)
    exact ⟨_, _, rfl, h, datas_rel r e1⟩
  | .box _ :: vs, _, xs, _, e => nomatch (show (none : Option (List PyData)) = some xs from e)
theorem not_av {K : PySem.W.Frag} {mg : Str → Option Value} {T : List Tb} {φ : Num} {st : Store} {H : Hp} (s : StR K mg T φ st H) {p : Addr} (h : H p = none) : ¬ Av φ st p := fun l => l.elim (fun l => s.fresh h l.mem) fun l => s.avne l h
theorem not_live {K : PySem.W.Frag} {mg : Str → Option Value} {φ : Num} {st : Store} {H : Hp} (s : StR K mg T φ st H) {p : Addr} (h : H p = none) : ¬ Live φ st p := fun l => s.fresh h l.mem
theorem lineN_eq : lineN = sizeLine := by rw [PySem.sizeLine_eq]; rfl
theorem E_tup {es : List Expr} {x1 : Nat} {pos : Pos} {m : AM} (h : Ea X T W es m) : E X T W (.Tuple es x1 pos) (mDisp pTup m) := by
  refine ⟨PE.imp (pe_tup h.run) ?_⟩
  rintro σ H Q ⟨φ, sl, st, h0, h⟩
  refine (tA_bind h0 h).mono fun us H1 ⟨φ1, st1, vs, a1, v1, s1, p1⟩ => ?_
  obtain ⟨z, ez, pz⟩ := opt_ok (P := EPost X.K X.mg T W φ1 st1 H1 Q) (fun z => z) p1
  obtain ⟨d, ed, rfl⟩ := Option.map_eq_some_iff.mp ez
  obtain ⟨xs, ex, ed⟩ := Option.bind_eq_some_iff.mp ed
  have r := datas_rel v1 ex
  unfold pTup at ed
  split at ed
  · rename_i hl
    cases ed
    refine ⟨by rw [r.length]; rw [lineN_eq] at hl; exact hl, fun p hp => ?_⟩
    exact okD_post a1.s pz _ _ (Gr.upd hp) ⟨p, us, rfl, .inl ⟨.inl upd_same, not_av a1.s hp⟩, DRs.mon ((Gr.upd hp).step (φ := φ1) (st := st1)).mon _ _ r⟩
  · cases ed
theorem E_lst {es : List Expr} {pos : Pos} {m : AM} (h : Ea X T W es m) : E X T W (.List es pos) (mDisp pLst m) := by
  refine ⟨PE.imp (pe_lst h.run) ?_⟩
  rintro σ H Q ⟨φ, sl, st, h0, h⟩
  refine (tA_bind h0 h).mono fun us H1 ⟨φ1, st1, vs, a1, v1, s1, p1⟩ => ?_
  obtain ⟨z, ez, pz⟩ := opt_ok (P := EPost X.K X.mg T W φ1 st1 H1 Q) (fun z => z) p1
  obtain ⟨d, ed, rfl⟩ := Option.map_eq_some_iff.mp ez
  obtain ⟨xs, ex, ed⟩ := Option.bind_eq_some_iff.mp ed
  have r := datas_rel v1 ex
  unfold pLst at ed
  split at ed
  · rename_i hl
    cases ed
    refine ⟨by rw [r.length]; rw [lineN_eq] at hl; exact hl, fun p hp => ?_⟩
    exact okD_post a1.s pz _ _ (Gr.upd hp) ⟨p, us, rfl, .inl ⟨.inl upd_same, not_av a1.s hp⟩, DRs.mon ((Gr.upd hp).step (φ := φ1) (st := st1)).mon _ _ r⟩
  · cases ed
end
end
end TL
end

section
set_option Elab.async false
set_option linter.all false
set_option maxRecDepth 100000
set_option autoImplicit false
/-! TL4: attributes, calls of built-ins, of defs, of methods; instances made. -/
namespace TL
open PySem L2
section
variable {D : DI} {k : Nat} {X : Cx} {T : List Tb} {W : XK} {σ : L2.St} {H : Hp}

/-! ### attributes -/
/-- what is known of the class named c: an attribute f of its instances is the instance's own -/
structure FldOk (K : PySem.W.Frag) (mg : Str → Option Value) (c f : Str) : Prop where
  at_ : ∃ C, mg c = some (.ref C) ∧ Cls K C ∧ NoAttr K C f
theorem FR.lookup {K : PySem.W.Frag} {φ : Num} {st : Store} {H : Hp} {f : Str} : ∀ {fs : List (Str × Val)} {us : List (Str × V)} {v : Val}, FR K φ st H fs us → getF fs f = some v → ∃ u, us.lookup f = some u ∧ VR K φ st H v u
  | [], _, _, _, e => nomatch (show (none : Option Val) = some _ from e)
  | (g, w) :: r, _, v, ⟨u, s, e, h1, h2⟩, ev => by
    rw [e, List.lookup_cons]
    unfold getF at ev
    by_cases hb : f = g
    · rw [if_pos hb] at ev
      cases ev
      rw [beq_iff_eq.mpr hb]
      exact ⟨u, rfl, h1⟩
    · rw [if_neg hb] at ev
      rw [beq_eq_false_iff_ne.mpr hb]
      exact FR.lookup h2 ev
theorem FR.miss {K : PySem.W.Frag} {φ : Num} {st : Store} {H : Hp} {f : Str} : ∀ {fs : List (Str × Val)} {us : List (Str × V)}, FR K φ st H fs us → getF fs f = none → us.lookup f = none
  | [], _, h, _ => by rw [show _ = _ from h]; rfl
  | (g, w) :: r, _, ⟨u, s, e, h1, h2⟩, ev => by
    rw [e, List.lookup_cons]
    unfold getF at ev
    by_cases hb : f = g
    · rw [if_pos hb] at ev; cases ev
    · rw [if_neg hb] at ev
      rw [beq_eq_false_iff_ne.mpr hb]
      exact FR.miss h2 ev
theorem FR.length {K : PySem.W.Frag} {φ : Num} {st : Store} {H : Hp} : ∀ {fs : List (Str × Val)} {us : List (Str × V)}, FR K φ st H fs us → us.length = fs.length
  | [], _, h => by rw [show _ = _ from h]; rfl
  | (g, w) :: r, _, ⟨u, s, e, h1, h2⟩ => by rw [e, List.length_cons, List.length_cons, FR.length h2]
theorem FR.put {K : PySem.W.Frag} {φ : Num} {st : Store} {H : Hp} {f : Str} {v : Val} {u : V} (hv : VR K φ st H v u) : ∀ {fs : List (Str × Val)} {us : List (Str × V)}, FR K φ st H fs us → FR K φ st H (setF f v fs) (putF f u us)
  | [], _, h => by rw [show _ = _ from h]; exact ⟨u, [], rfl, hv, rfl⟩
  | (g, w) :: r, _, ⟨x, s, e, h1, h2⟩ => by
    rw [e]
    unfold setF putF
    by_cases hb : g = f
    · rw [if_pos hb, if_pos hb]
      exact ⟨u, s, rfl, hv, h2⟩
    · rw [if_neg hb, if_neg hb]
      exact ⟨x, _, rfl, h1, FR.put hv h2⟩
/-- the object behind a value -/
theorem obj_at {K : PySem.W.Frag} {mg : Str → Option Value} {φ : Num} {st : Store} {H : Hp} (s : StR K mg T φ st H) {n : Nat} {c : Str} {fs : List (Str × Val)} {u : V} (r : VR K φ st H (.box n) u) (e : st[n]? = some (.obj c fs)) :
    ∃ a C dx us, u = .ref a ∧ φ.ids[n]? = some a ∧ mg c = some (.ref C) ∧ H a = some (.ins C dx us) ∧ FR K φ st H fs us := by
  obtain ⟨a, ea, rfl⟩ := r
  obtain ⟨C, dx, us, h1, h2, h3⟩ := s.cell n _ a e ea
  exact ⟨a, C, dx, us, rfl, ea, h1, h2, h3⟩
theorem fldOf_some {c : Str} {v w : Val} {f : Str} {st : Store} (h : fldOf c v f st = some w) : ∃ n fs, v = .box n ∧ st[n]? = some (.obj c fs) ∧ getF fs f = some w := by
  unfold fldOf at h
  cases v with
  | d x => cases h
  | box n =>
    cases e : st[n]? with
    | none => simp only [e] at h; cases h
    | some cl =>
      simp only [e] at h
      cases cl with
      | obj c' fs =>
        by_cases hc : c' = c
        · subst hc
          simp only [if_pos rfl] at h
          exact ⟨n, fs, rfl, e, h⟩
        · simp only [if_neg hc] at h
          cases h
      | lst _ => cases h
      | dic _ => cases h
      | ldic _ => cases h
      | dead => cases h
theorem E_fld {e : Expr} {c f : Str} {pos : Pos} {m : EM} (hf : FldOk X.K X.mg c f) (h : E X T W e m) (hb : attributeBase e f X.env (eval e X.env) = eval e X.env := by rfl) : E X T W (.Attribute e f pos) (mFld c m f) := by
  obtain ⟨C0, hC, hcl, hna⟩ := hf
  refine ⟨PE.imp (pe_fld h.run hb) ?_⟩
  rintro σ H Q ⟨φ, sl, st, h0, h⟩
  refine (tE_bind h0 h).mono fun u H1 ⟨φ1, st1, v, a1, v1, s1, p1⟩ => ?_
  obtain ⟨w, ew, pz⟩ := opt_ok (P := EPost X.K X.mg T W φ1 st1 H1 Q) (fun z => z) p1
  obtain ⟨n, fs, rfl, e1, e2⟩ := fldOf_some ew
  obtain ⟨a, C, dx, us, rfl, ea, k1, k2, k3⟩ := obj_at a1.s v1 e1
  rw [hC] at k1
  cases k1
  obtain ⟨x, ex, rx⟩ := FR.lookup k3 e2
  exact ⟨a, _, dx, us, x, rfl, k2, hcl, hna, ex, pz φ1 H1 x .refl a1.s rx⟩

/-! ### built-ins by name -/
theorem derefs_rel {K : PySem.W.Frag} {φ : Num} {st : Store} {H : Hp} : ∀ {vs : List Val} {us : List V} {xs : List PyData}, Paired (VR K φ st H) vs us → derefs vs st = some xs → Paired (VD K φ st H) xs us
  | [], _, _, .nil, e => by cases e; exact .nil
  | v :: vs, _, xs, .cons h r, e => by
    unfold derefs at e
    cases e1 : deref v st with
    | none => simp only [e1] at e; cases e
    | some x =>
      cases e2 : derefs vs st with
      | none => simp only [e1, e2] at e; cases e
      | some ys =>
        simp only [e1, e2] at e
        cases e
        exact .cons ⟨v, h, e1⟩ (derefs_rel r e2)
theorem argsn {f : List PyData → Option PyData} {m : AM} {Q : VK} (h : tE X T W (mPn f m) σ H Q) : tA X T W m σ H fun vs H1 => rn X T f vs H1 Q := by
  obtain ⟨φ, sl, st, h0, h⟩ := h
  refine (tA_bind h0 h).mono fun us H1 ⟨φ1, st1, vs, a1, v1, s1, p1⟩ => ?_
  obtain ⟨z, ez, pz⟩ := opt_ok (P := EPost X.K X.mg T W φ1 st1 H1 Q) (fun z => z) p1
  obtain ⟨d, ed, rfl⟩ := Option.map_eq_some_iff.mp ez
  obtain ⟨xs, ex, ed⟩ := Option.bind_eq_some_iff.mp ed
  exact ⟨φ1, st1, xs, d, a1.s, derefs_rel v1 ex, ed, okD_post a1.s pz⟩
theorem E_blt {x : Str} {id : String} {p pos : Pos} {e : Expr} {es : List Expr} {f : List PyData → Option PyData} {m : AM} (c : Cin D k X) (hc : CallR X (.builtin id) (rn X T f)) (hg : D.g x = true) (hm : X.mg x = none) (hv : bootBuiltins x = some (.builtin id))
    (ha : Ea X T W (e :: es) m) (he : starEach (e :: es) X.env = (false, eval e X.env) :: starEach es X.env := by rfl) (hpl : (backTo pos (starEach es X.env)).any (·.1) = false := by rfl) : E X T W (.Call (.Name x p) (e :: es) [] pos) (mPn f m) := by
  obtain ⟨h1, h2, h3⟩ := c.gl hg
  exact ⟨PE.imp (pe_callB hc h1 hm hv ha.run h3 h2 he hpl) fun _ _ _ q => argsn q⟩
theorem E_bty {x : Str} {id : String} {p pos : Pos} {e : Expr} {es : List Expr} {f : List PyData → Option PyData} {m : AM} (c : Cin D k X) (hc : CallR X (.type id) (rn X T f)) (hg : D.g x = true) (hm : X.mg x = none) (hv : bootBuiltins x = some (.type id))
    (ha : Ea X T W (e :: es) m) (he : starEach (e :: es) X.env = (false, eval e X.env) :: starEach es X.env := by rfl) (hpl : (backTo pos (starEach es X.env)).any (·.1) = false := by rfl) : E X T W (.Call (.Name x p) (e :: es) [] pos) (mPn f m) := by
  obtain ⟨h1, h2, h3⟩ := c.gl hg
  exact ⟨PE.imp (pe_callTy hc h1 hm hv ha.run h3 h2 he hpl) fun _ _ _ q => argsn q⟩

/-! ### defs -/
/-- a def that computes F: its promise -/
def spF (K : PySem.W.Frag) (mg : Str → Option Value) (T : List Tb) (n : Nat) (F : FM) : Sp := fun us H Q Ex => ∃ φ st vs, StR K mg T φ st H ∧ Paired (VR K φ st H) vs us ∧ vs.length = n ∧ EPost K mg T Ex φ st H Q (F vs st)
theorem paired_len {α β : Type} {G : α → β → Prop} : ∀ {l : List α} {r : List β}, Paired G l r → l.length = r.length
  | _, _, .nil => rfl
  | _, _, .cons _ t => by rw [List.length_cons, List.length_cons, paired_len t]
structure CallOk (P : Program) (w : World) (K : PySem.W.Frag) (mg : Str → Option Value) (base : Heap) (T : List Tb) (x : Str) (n : Nat) (F : FM) (k : Nat) : Prop where
  at_ : ∃ f fd ps, mg x = some (.ref f) ∧ PySem.W.keepIn K (.ref f) = true ∧ Binds K fd ps [] ∧ FnOk P w K mg base (L2.CX P w) k f fd ps (spF K mg T n F)
theorem pass_of (tk : Takes X fun c d _ H => W c d H) : Passes (L2.CX X.prog X.w) X W := passes_call tk fun _ _ _ _ h => h
theorem call_read {n : Nat} {F : FM} {m : AM} {Q : VK} (hn : ∀ sl st vs st', m sl st = .ok vs st' → vs.length = n) (h : tE X T W (mCall F m) σ H Q) : tCall (spF X.K X.mg T n F) [] W (tA X T W m) σ H Q := by
  obtain ⟨φ, sl, st, h0, h⟩ := h
  refine ⟨φ, sl, st, h0, ?_⟩
  have h' : EPost X.K X.mg T W φ st H Q ((m sl st).bind F) := h
  cases e : m sl st with
  | ok vs st1 =>
    rw [e] at h'
    intro φ1 H1 us s1 r1 v1
    rw [List.append_nil]
    exact ⟨φ1, st1, vs, r1, v1, hn _ _ _ _ e, EPost.shift s1 h'⟩
  | exn c st1 => rw [e] at h'; exact h'
  | stuck => rw [e] at h'; exact h'
/-- the number of arguments -/
def AM.len (m : AM) (n : Nat) : Prop := ∀ sl st vs st', m sl st = .ok vs st' → vs.length = n
theorem len_nil : AM.len aNil 0 := fun _ _ vs _ e => by
  cases e
  rfl
theorem len_cons {m : EM} {a : AM} {n : Nat} (h : AM.len a n) : AM.len (aCons m a) (n + 1) := fun sl st vs st' e => by
  unfold aCons at e
  cases e1 : m sl st with
  | ok v st1 =>
    rw [e1] at e
    cases e2 : a sl st1 with
    | ok ws st2 =>
      have e' : (R.bind (a sl st1) fun vs st2 => .ok (v :: vs) st2) = R.ok vs st' := e
      rw [e2] at e'
      cases e'
      rw [List.length_cons, h _ _ _ _ e2]
    | exn c st2 =>
      have e' : (R.bind (a sl st1) fun vs st2 => .ok (v :: vs) st2) = R.ok vs st' := e
      rw [e2] at e'
      cases e'
    | stuck =>
      have e' : (R.bind (a sl st1) fun vs st2 => .ok (v :: vs) st2) = R.ok vs st' := e
      rw [e2] at e'
      cases e'
  | exn c st1 => rw [e1] at e; cases e
  | stuck => rw [e1] at e; cases e
theorem E_call {j n : Nat} {x : Str} {F : FM} {p pos : Pos} {e : Expr} {es : List Expr} {m : AM} (c : Cin D k X) (tk : Takes X fun c d _ H => W c d H) (hF : CallOk X.prog X.w X.K X.mg X.base T x n F j) (hj : j ≤ k) (hg : D.g x = true) (hn : AM.len m n)
    (ha : Ea X T W (e :: es) m) (he : starEach (e :: es) X.env = (false, eval e X.env) :: starEach es X.env := by rfl) (hpl : (backTo pos (starEach es X.env)).any (·.1) = false := by rfl) : E X T W (.Call (.Name x p) (e :: es) [] pos) (mCall F m) := by
  obtain ⟨f, fd, ps, hm, hk, hb, G⟩ := hF
  obtain ⟨h1, h2, h3⟩ := c.gl hg
  exact ⟨PE.imp (pe_call G (c.room.mono hj) h1 hm hk hb .nil (pass_of tk) ha.run h2 he hpl) fun _ _ _ q => call_read hn q⟩
theorem E_call0 {j : Nat} {x : Str} {F : FM} {p pos : Pos} (c : Cin D k X) (tk : Takes X fun c d _ H => W c d H) (hF : CallOk X.prog X.w X.K X.mg X.base T x 0 F j) (hj : j ≤ k) (hg : D.g x = true) : E X T W (.Call (.Name x p) [] [] pos) (mCall F aNil) := by
  obtain ⟨f, fd, ps, hm, hk, hb, G⟩ := hF
  obtain ⟨h1, h2, h3⟩ := c.gl hg
  refine ⟨PE.imp (pe_call0 G (c.room.mono hj) h1 hm hk hb .nil (pass_of tk) h2) ?_⟩
  rintro σ H Q ⟨φ, sl, st, h0, h⟩
  exact ⟨φ, st, [], h0.s, .nil, rfl, h⟩
structure MethOk (P : Program) (w : World) (K : PySem.W.Frag) (mg : Str → Option Value) (base : Heap) (T : List Tb) (c g : Str) (n : Nat) (F : FM) (k : Nat) : Prop where
  at_ : ∃ C f fd ps, mg c = some (.ref C) ∧ Cls K C ∧ Meth K C g f ∧ Binds K fd ps [] ∧ FnOk P w K mg base (L2.CX P w) k f fd ps (spF K mg T (n + 1) F)
theorem isObj_true {c g : Str} {v : Val} {st : Store} (h : isObj c g v st = true) : ∃ n fs, v = .box n ∧ st[n]? = some (.obj c fs) ∧ getF fs g = none := by
  unfold isObj at h
  cases v with
  | d x => cases h
  | box n =>
    cases e : st[n]? with
    | none => simp only [e] at h; cases h
    | some cl =>
      simp only [e] at h
      cases cl with
      | obj c' fs =>
        simp only [Bool.and_eq_true, decide_eq_true_eq, Option.isNone_iff_eq_none] at h
        obtain ⟨h1, h2⟩ := h
        subst h1
        exact ⟨n, fs, rfl, e, h2⟩
      | lst _ => cases h
      | dic _ => cases h
      | ldic _ => cases h
      | dead => cases h
theorem meth_read {n : Nat} {c g : Str} {F : FM} {mo : EM} {m : AM} {Q : VK} {C : Addr} (hC : X.mg c = some (.ref C)) (hn : AM.len m n) (h : tE X T W (mMeth c g F mo m) σ H Q) : tMeth C g (spF X.K X.mg T (n + 1) F) [] W (tE X T W mo) (tA X T W m) σ H Q := by
  obtain ⟨φ, sl, st, h0, h⟩ := h
  refine (tE_bind h0 h).mono fun u H1 ⟨φ1, st1, v, a1, v1, s1, p1⟩ => ?_
  cases eb : isObj c g v st1 with
  | false => rw [eb] at p1; exact p1.elim
  | true =>
    rw [eb] at p1
    obtain ⟨i, fs, rfl, e1, e2⟩ := isObj_true eb
    obtain ⟨a, C', dx, us, rfl, ea, k1, k2, k3⟩ := obj_at a1.s v1 e1
    rw [hC] at k1
    cases k1
    refine ⟨a, dx, us, rfl, k2, FR.miss k3 e2, φ1, sl, st1, a1, ?_⟩
    have p2 : EPost X.K X.mg T W φ1 st1 H1 Q ((m sl st1).bind fun vs st2 => F (.box i :: vs) st2) := p1
    cases e : m sl st1 with
    | ok vs st2 =>
      rw [e] at p2
      intro φ2 H2 ws s2 r2 v2
      rw [List.append_nil]
      exact ⟨φ2, st2, .box i :: vs, r2, .cons (v1.mon s2) v2, by rw [List.length_cons, hn _ _ _ _ e], EPost.shift s2 p2⟩
    | exn c st2 => rw [e] at p2; exact p2
    | stuck => rw [e] at p2; exact p2
theorem E_meth {j n : Nat} {c g : Str} {F : FM} {apos pos : Pos} {o e : Expr} {es : List Expr} {mo : EM} {m : AM} {pl : Sem Bool} (ci : Cin D k X) (tk : Takes X fun c d _ H => W c d H) (hF : MethOk X.prog X.w X.K X.mg X.base T c g n F j) (hj : j ≤ k) (hn : AM.len m n)
    (ho : E X T W o mo) (ha : Ea X T W (e :: es) m) (hst : starEach (e :: es) X.env = (false, eval e X.env) :: starEach es X.env := by rfl) (hpl : (backTo pos (starEach es X.env)).any (·.1) = false := by rfl)
    (ht : eval (.Call (.Attribute o g apos) (e :: es) [] pos) X.env = (do
      let ov ← eval o X.env
      standAt apos.atName
      let (f, first) ← holding [ov] (getMethod ov g pl)
      callWith pos f first (backTo pos (starEach (e :: es) X.env)) (backToKw pos (keywordEach [] X.env))) := by rfl) : E X T W (.Call (.Attribute o g apos) (e :: es) [] pos) (mMeth c g F mo m) := by
  obtain ⟨C, f, fd, ps, hm, hk, hme, hb, G⟩ := hF
  exact ⟨PE.imp (pe_meth (pl := pl) ho.run hk hme G (ci.room.mono hj) hb .nil (pass_of tk) ha.run hst hpl ht) fun _ _ _ q => meth_read hm hn q⟩
theorem E_meth0 {j : Nat} {c g : Str} {F : FM} {apos pos : Pos} {o : Expr} {mo : EM} {pl : Sem Bool} (ci : Cin D k X) (tk : Takes X fun c d _ H => W c d H) (hF : MethOk X.prog X.w X.K X.mg X.base T c g 0 F j) (hj : j ≤ k) (ho : E X T W o mo)
    (ht : eval (.Call (.Attribute o g apos) [] [] pos) X.env = (do
      let ov ← eval o X.env
      standAt apos.atName
      let (f, first) ← holding [ov] (getMethod ov g pl)
      callWith pos f first (backTo pos (starEach [] X.env)) (backToKw pos (keywordEach [] X.env))) := by rfl) : E X T W (.Call (.Attribute o g apos) [] [] pos) (mMeth c g F mo aNil) := by
  obtain ⟨C, f, fd, ps, hm, hk, hme, hb, G⟩ := hF
  refine ⟨PE.imp (pe_meth0 (pl := pl) ho.run hk hme G (ci.room.mono hj) hb .nil (pass_of tk) ht) ?_⟩
  intro σ H Q q
  obtain ⟨φ, sl, st, h0, h⟩ := q
  refine (tE_bind h0 h).mono fun u H1 ⟨φ1, st1, v, a1, v1, s1, p1⟩ => ?_
  cases eb : isObj c g v st1 with
  | false => rw [eb] at p1; exact p1.elim
  | true =>
    rw [eb] at p1
    obtain ⟨i, fs, rfl, e1, e2⟩ := isObj_true eb
    obtain ⟨a, C', dx, us, rfl, ea, k1, k2, k3⟩ := obj_at a1.s v1 e1
    rw [hm] at k1
    cases k1
    exact ⟨a, dx, us, rfl, k2, FR.miss k3 e2, φ1, st1, [.box i], a1.s, .cons v1 .nil, rfl, p1⟩
/-! ### a new instance -/
structure MakeOk (P : Program) (w : World) (K : PySem.W.Frag) (mg : Str → Option Value) (base : Heap) (T : List Tb) (c : Str) (n : Nat) (F : FM) (k : Nat) : Prop where
  at_ : ∃ C f fd ps, mg c = some (.ref C) ∧ Mk K C f ∧ Binds K fd ps [] ∧ FnOk P w K mg base (L2.CX P w) k f fd ps (spF K mg T (n + 1) F)
/-- a new address numbered -/
theorem StR.push {K : PySem.W.Frag} {mg : Str → Option Value} {φ : Num} {st : Store} {H H' : Hp} {p : Addr} {c : Cell} (s : StR K mg T φ st H) (hp : H p = none) (g : Gr H H') (hc : isLive c = true) (h : CR K (φ.push p) (st ++ [c]) H' mg p c) :
    StR K mg T (φ.push p) (st ++ [c]) H' ∧ Stp φ st H (φ.push p) (st ++ [c]) H' := by
  have lv : ∀ a, Live (φ.push p) (st ++ [c]) a → Live φ st a ∨ a = p := fun a ⟨i, d, e1, e2, e3⟩ => by
    have e3 : (φ.ids ++ [p])[i]? = some a := e3
    by_cases hi : i < st.length
    · rw [List.getElem?_append_left hi] at e1
      rw [List.getElem?_append_left (by rw [s.len]; exact hi)] at e3
      exact .inl ⟨i, d, e1, e2, e3⟩
    · have hi' : i = φ.ids.length := by
        have h1 := (List.getElem?_eq_some_iff.mp e3).1
        rw [List.length_append, List.length_singleton] at h1
        have := s.len
        omega
      rw [hi', List.getElem?_append_right (Nat.le_refl _), Nat.sub_self] at e3
      exact .inr (Option.some.inj e3).symm
  have stp : Stp φ st H (φ.push p) (st ++ [c]) H' :=
    ⟨List.prefix_append _ _, ⟨fun _ h => h, fun _ h => .inl h⟩, fun a u h _ _ => .inl (g a u h), fun a l => (lv a l).imp id fun z => by rw [z]; exact hp, fun a h => (g.step (φ := φ) (st := st)).sm a h, fun a ob u h => g a _ h⟩
  refine ⟨⟨?_, ?_, fun a ha => ⟨let ⟨xs, e⟩ := (s.av a ha).1; ⟨xs, g _ _ e⟩, fun hm => ?_⟩, fun n d a e1 e2 => ?_, fun t ht => (s.tabs t ht).gr g⟩, stp⟩
  · show (φ.ids ++ [p]).length = _
    rw [List.length_append, List.length_append, s.len]; rfl
  · show (φ.ids ++ [p]).Nodup
    rw [List.nodup_append]
    exact ⟨s.nd, by simp, fun a ha b hb e => by
      rw [List.mem_singleton.mp hb] at e
      rw [e] at ha
      exact s.fresh hp ha⟩
  · rcases List.mem_append.mp (show a ∈ φ.ids ++ [p] from hm) with z | z
    · exact (s.av a ha).2 z
    · rw [List.mem_singleton.mp z] at ha
      exact s.avne ha hp
  · have e2 : (φ.ids ++ [p])[n]? = some a := e2
    by_cases hn : n < st.length
    · rw [List.getElem?_append_left hn] at e1
      rw [List.getElem?_append_left (by rw [s.len]; exact hn)] at e2
      have := s.cell n d a e1 e2
      cases d with
      | lst xs => obtain ⟨vs, h1, h2⟩ := this; exact ⟨vs, g _ _ h1, DRs.mon stp.mon _ _ h2⟩
      | dic kvs => obtain ⟨o, vs, h1, h2, h3⟩ := this; exact ⟨o, vs, g _ _ h1, h2, DRs.mon stp.mon _ _ h3⟩
      | ldic kvs => obtain ⟨ob, o, vs, h1, h2, h3⟩ := this; exact ⟨ob, o, vs, g _ _ h1, h2, DRs.mon stp.mon _ _ h3⟩
      | obj c fs => obtain ⟨C, dx, us, h0, h1, h2⟩ := this; exact ⟨C, dx, us, h0, g _ _ h1, FR.mon stp h2⟩
      | dead => exact stp.sm a this
    · have hn' : n = st.length := by
        have h1 := (List.getElem?_eq_some_iff.mp e1).1
        rw [List.length_append, List.length_singleton] at h1
        omega
      rw [hn', List.getElem?_append_right (Nat.le_refl _), Nat.sub_self] at e1
      rw [hn', ← s.len, List.getElem?_append_right (Nat.le_refl _), Nat.sub_self] at e2
      cases e1
      cases e2
      exact h
theorem box_new {φ : Num} {st : Store} {K : PySem.W.Frag} {H : Hp} {p : Addr} {st' : Store} (h : φ.ids.length = st.length) : VR K (φ.push p) st' H (.box st.length) (.ref p) :=
  ⟨p, by show (φ.ids ++ [p])[st.length]? = some p; rw [← h]; simp, rfl⟩
theorem make_read {n : Nat} {c : Str} {F : FM} {m : AM} {Q : VK} {C : Addr} (hC : X.mg c = some (.ref C)) (hn : AM.len m n) (h : tE X T W (mMake c F m) σ H Q) : tMake C (spF X.K X.mg T (n + 1) F) [] W (tA X T W m) σ H Q := by
  obtain ⟨φ, sl, st, h0, h⟩ := h
  refine ⟨φ, sl, st, h0, ?_⟩
  have h' : EPost X.K X.mg T W φ st H Q ((m sl st).bind fun vs st1 =>
    (F (.box st1.length :: vs) (st1 ++ [.obj c []])).bind fun v st2 =>
      match v with
      | .d .none => .ok (.box st1.length) st2
      | _ => .stuck) := h
  cases e : m sl st with
  | exn c st2 => rw [e] at h'; exact h'
  | stuck => rw [e] at h'; exact h'
  | ok vs st1 =>
    rw [e] at h'
    intro φ1 H1 us s1 r1 v1 x dx hx hdx hne
    rw [List.append_nil]
    have g0 : Gr H1 (upd H1 dx (.own x)) := Gr.upd hdx
    have hx2 : upd H1 dx (.own x) x = none := by rw [upd_ne (Ne.symm hne)]; exact hx
    have g : Gr H1 (upd (upd H1 dx (.own x)) x (.ins C dx [])) := g0.trans (Gr.upd hx2)
    obtain ⟨r2, s2⟩ := r1.push (c := .obj c []) hx g rfl ⟨C, dx, [], hC, upd_same, rfl⟩
    refine ⟨φ1.push x, st1 ++ [.obj c []], .box st1.length :: vs, r2, .cons (box_new r1.len) ?_, by rw [List.length_cons, hn _ _ _ _ e], ?_⟩
    · exact Paired.mapP v1 fun _ _ q => q.mon s2
    · have h2 := EPost.shift (s1.trans s2) h'
      revert h2
      show EPost X.K X.mg T W _ _ _ Q ((F (.box st1.length :: vs) (st1 ++ [.obj c []])).bind _) → _
      cases F (.box st1.length :: vs) (st1 ++ [.obj c []]) with
      | ok v st2 =>
        intro h2 φ2 H2 u s3 r3 v3
        cases v with
        | box n => exact h2.elim
        | d y =>
          cases y with
          | none => exact ⟨v3, h2 φ2 H2 _ s3 r3 (VR.mon s3 (v := .box st1.length) (u := .ref x) (box_new r1.len))⟩
          | bool _ => exact h2.elim
          | int _ => exact h2.elim
          | str _ => exact h2.elim
          | list _ => exact h2.elim
          | tuple _ => exact h2.elim
          | dict _ => exact h2.elim
      | exn c st2 => intro h2; exact h2
      | stuck => intro h2; exact h2
theorem E_make {j n : Nat} {c : Str} {F : FM} {p pos : Pos} {e : Expr} {es : List Expr} {m : AM} (ci : Cin D k X) (tk : Takes X fun c d _ H => W c d H) (hF : MakeOk X.prog X.w X.K X.mg X.base T c n F j) (hj : j + 1 ≤ k) (hg : D.g c = true) (hn : AM.len m n)
    (ha : Ea X T W (e :: es) m) (he : starEach (e :: es) X.env = (false, eval e X.env) :: starEach es X.env := by rfl) (hpl : (backTo pos (starEach es X.env)).any (·.1) = false := by rfl) : E X T W (.Call (.Name c p) (e :: es) [] pos) (mMake c F m) := by
  obtain ⟨C, f, fd, ps, hm, hk, hb, G⟩ := hF
  obtain ⟨h1, h2, h3⟩ := ci.gl hg
  exact ⟨PE.imp (pe_make hk G (ci.room.mono hj) h1 hm hb .nil (pass_of tk) ha.run h2 he hpl) fun _ _ _ q => make_read hm hn q⟩
end
end TL
end

section
set_option Elab.async false
set_option linter.all false
set_option maxRecDepth 100000
set_option autoImplicit false
/-! TL5: statements. -/
namespace TL
open PySem L2
section
variable {D : DI} {k : Nat} {X : Cx} {T : List Tb} {W : XK}

theorem Ss_nil : Ss X T W [] sNil := ⟨PSs.imp pss_nil fun D σ H ⟨φ, sl, st, h0, h⟩ => h φ H σ .refl h0.s h0.l⟩
theorem SPost.then {φ : Num} {st : Store} {H : Hp} {D : Ends} {r : SR} {m : SM} (h : SPost X.K X.mg T W φ st H D (r.then m)) : SPost X.K X.mg T W φ st H { D with nx := tS X T W m D } r := by
  cases r with
  | nx sl1 st1 => exact fun φ1 H1 σ1 s1 r1 l1 => ⟨φ1, sl1, st1, ⟨r1, l1⟩, SPost.shift s1 h⟩
  | rt v st1 => exact h
  | bk sl1 st1 => exact h
  | ct sl1 st1 => exact h
  | exn c sl1 st1 => exact h
  | stuck => exact h
theorem Ss_cons {s : Stmt} {r : List Stmt} {m n : SM} (h : S X T W s m) (h2 : Ss X T W r n) : Ss X T W (s :: r) (sSeq m n) :=
  ⟨PSs.imp (pss_cons h.run h2.run) fun D σ H ⟨φ, sl, st, h0, h⟩ => ⟨φ, sl, st, h0, SPost.then h⟩⟩
theorem Ss_one {s : Stmt} {m : SM} (h : S X T W s m) : Ss X T W [s] m := ⟨pss_one h.run⟩
theorem S_expr {e : Expr} {pos : Pos} {m : EM} (h : E X T W e m) (hs : swapsWith e none pos.line X.env = pure false := by rfl) : S X T W (.Expr e pos) (sExpr m) :=
  ⟨PS.imp (ps_expr h.run hs) fun D σ H ⟨φ, sl, st, h0, h⟩ => (tE_bindS h0 h).mono fun u H1 ⟨φ1, st1, v, a1, v1, s1, p1⟩ => p1 φ1 H1 σ .refl a1.s a1.l⟩
theorem S_ret {e : Expr} {pos : Pos} {m : EM} (h : E X T W e m) : S X T W (.Return (some e) pos) (sRet m) :=
  ⟨PS.imp (ps_ret h.run) fun D σ H ⟨φ, sl, st, h0, h⟩ => (tE_bindS h0 h).mono fun u H1 ⟨φ1, st1, v, a1, v1, s1, p1⟩ => p1 φ1 H1 u .refl a1.s v1⟩
theorem S_retN {pos : Pos} : S X T W (.Return none pos) sRetN := ⟨PS.imp ps_retN fun D σ H ⟨φ, sl, st, h0, h⟩ => h φ H .non .refl h0.s rfl⟩
theorem S_pass {pos : Pos} : S X T W (.Pass pos) sNil := ⟨PS.imp ps_pass fun D σ H ⟨φ, sl, st, h0, h⟩ => h φ H σ .refl h0.s h0.l⟩
theorem S_break {pos : Pos} : S X T W (.Break pos) sBreak := ⟨PS.imp ps_break fun D σ H ⟨φ, sl, st, h0, h⟩ => h φ H σ .refl h0.s h0.l⟩
theorem S_if {c : Expr} {a b : List Stmt} {pos : Pos} {t : TM} {m n : SM} (hc : Et X T W c t) (ha : Ss X T W a m) (hb : Ss X T W b n) : S X T W (.If c a b pos) (sIf t m n) := by
  refine ⟨PS.imp (ps_if hc.run ha.run hb.run) ?_⟩
  rintro D σ H ⟨φ, sl, st, h0, h⟩
  refine (tT_bindS h0 h).mono fun d H1 ⟨φ1, st1, a1, s1, p1⟩ => ?_
  cases d with
  | true => exact ⟨φ1, sl, st1, a1, p1⟩
  | false => exact ⟨φ1, sl, st1, a1, p1⟩
theorem S_set {i : Nat} {x : Str} {e : Expr} {p pos : Pos} {m : EM} (c : Cin D k X) (hx : D.s i x = true) (h : E X T W e m) (hs : swapsWith e (some (.Name x p)) pos.line X.env = pure false := by rfl) : S X T W (.Assign [.Name x p] e pos) (sSet i m) := by
  obtain ⟨h1, h2, h3⟩ := c.put hx
  exact ⟨PS.imp (ps_set c.nd h1 h2 h.run hs h3) fun D σ H ⟨φ, sl, st, h0, h⟩ => (tE_bindS h0 h).mono fun u H1 ⟨φ1, st1, v, a1, v1, s1, p1⟩ => p1 φ1 H1 _ .refl a1.s (a1.l.set v1)⟩
/-! errors -/
structure ExnOk (K : PySem.W.Frag) (mg : Str → Option Value) (c : Str) : Prop where
  at_ : ∃ C, mg c = some (.ref C) ∧ PySem.W.excIn K C [.type "ValueError", .type "Exception", .type "BaseException", .type "object"] "ValueError.__new__" = true ∧ PySem.W.keepIn K (.ref C) = true ∧
    PySem.W.subIn K (.ref C) (.type "BaseException") = some true ∧ PySem.W.typeIn K (.ref C) = some (.type "type")
theorem S_raise {c m : Str} {j : Nat} {p p2 pos pos2 : Pos} (ci : Cin D k X) (tk : Takes X fun c d _ H => W c d H) (hc : ExnOk X.K X.mg c) (hg : D.g c = true) : S X T W (.Raise (some (.Call (.Name c p) [.Constant (.str m) j p2] [] pos2)) none pos) (sRaise c) := by
  obtain ⟨C, h1, h2, h3, h4, h5⟩ := hc
  obtain ⟨g1, g2, g3⟩ := ci.gl hg
  refine ⟨PS.imp (ps_raise ci.calm tk (pmk_own PySem.F.excBase_ValueError h2 h1 h3 (raises_own h4 h5) g1 g2)) ?_⟩
  rintro D σ H ⟨φ, sl, st, h0, h⟩
  exact h φ H σ C .refl h0.s h0.l h1

/-! ### targets -/
mutual
/-- the slots that a target stores -/
def Tg.ix : Tg → List Nat
  | .name i => [i]
  | .tup ts => Tg.ixs ts
def Tg.ixs : List Tg → List Nat
  | [] => []
  | t :: ts => Tg.ix t ++ Tg.ixs ts
end
/-- alike but for the slots is -/
def Apart (is : List Nat) (σ σ' : L2.St) : Prop := σ'.length = σ.length ∧ ∀ j, j ∉ is → σ'[j]? = σ[j]?
theorem Apart.trans {is js : List Nat} {σ σ1 σ2 : L2.St} (a : Apart is σ σ1) (b : Apart js σ1 σ2) : Apart (is ++ js) σ σ2 :=
  ⟨b.1.trans a.1, fun j hj => (b.2 j fun z => hj (List.mem_append_right _ z)).trans (a.2 j fun z => hj (List.mem_append_left _ z))⟩
def tG (X : Cx) (T : List Tb) (W : XK) (t : Tg) : TG := fun u σ H Q => ∃ φ sl st x sl', At X.K X.mg T φ sl st σ H ∧ DR X.K (Av φ st) H x u ∧ t.put x sl = some sl' ∧ ∀ σ', SlR X.K φ st H sl' σ' → Apart t.ix σ σ' → Q σ' H
def tGs (X : Cx) (T : List Tb) (W : XK) (ts : List Tg) : TGs := fun us σ H Q => ∃ φ sl st xs sl', At X.K X.mg T φ sl st σ H ∧ DRs X.K (Av φ st) H xs us ∧ Tg.puts ts xs sl = some sl' ∧ ∀ σ', SlR X.K φ st H sl' σ' → Apart (Tg.ixs ts) σ σ' → Q σ' H
structure G (X : Cx) (T : List Tb) (W : XK) (e : Expr) (t : Tg) : Prop where
  run : PG X e (tG X T W t)
structure Gs (X : Cx) (T : List Tb) (W : XK) (es : List Expr) (ts : List Tg) : Prop where
  run : PGs X es (tGs X T W ts)
theorem PG.imp {X : Cx} {e : Expr} {t t' : TG} (h : PG X e t) (i : ∀ u σ H Q, t' u σ H Q → t u σ H Q) : PG X e t' := ⟨fun p s σ H v u Q I r q => h.run p s σ H v u Q I r (i _ _ _ _ q)⟩
theorem PGs.imp {X : Cx} {e : List Expr} {t t' : TGs} (h : PGs X e t) (i : ∀ u σ H Q, t' u σ H Q → t u σ H Q) : PGs X e t' := ⟨fun p s σ H v u Q I r q => h.run p s σ H v u Q I r (i _ _ _ _ q)⟩
theorem G_name {i : Nat} {x : Str} {pos : Pos} (c : Cin D k X) (hx : D.s i x = true) : G X T W (.Name x pos) (.name i) := by
  obtain ⟨h1, h2, h3⟩ := c.put hx
  refine ⟨PG.imp (pg_name c.nd h1 h2 h3) ?_⟩
  rintro u σ H Q ⟨φ, sl, st, y, sl', a, d, e, h⟩
  cases e
  exact h _ (a.l.set (v := .d y) d) ⟨by rw [List.length_set], fun j hj => by rw [List.getElem?_set_ne (fun z => hj (by rw [← z]; exact List.mem_singleton.mpr rfl))]⟩
theorem Gs_nil : Gs X T W [] [] := by
  refine ⟨PGs.imp pgs_nil ?_⟩
  rintro us σ H Q ⟨φ, sl, st, xs, sl', a, d, e, h⟩
  cases xs with
  | nil => cases e; exact ⟨d, h _ a.l ⟨rfl, fun _ _ => rfl⟩⟩
  | cons _ _ => cases e
theorem Gs_cons {e : Expr} {es : List Expr} {t : Tg} {ts : List Tg} (h1 : G X T W e t) (h2 : Gs X T W es ts) (hs : (assignEach (e :: es) X.env).map (·.2) = assign e X.env :: (assignEach es X.env).map (·.2) := by rfl) : Gs X T W (e :: es) (t :: ts) := by
  refine ⟨PGs.imp (pgs_cons h1.run h2.run hs) ?_⟩
  rintro us σ H Q ⟨φ, sl, st, xs, sl', a, d, e, h⟩
  cases xs with
  | nil => cases e
  | cons y ys =>
    obtain ⟨v, r, rfl, d1, d2⟩ := d
    obtain ⟨sl1, e1, e2⟩ := Option.bind_eq_some_iff.mp (show (Tg.put t y sl).bind (fun sl1 => Tg.puts ts ys sl1) = some sl' from e)
    exact ⟨v, r, rfl, φ, sl, st, y, sl1, a, d1, e1, fun σ' l' q1 => ⟨φ, sl1, st, ys, sl', ⟨a.s, l'⟩, d2, e2, fun σ2 l2 q2 => h σ2 l2 (q1.trans q2)⟩⟩
theorem puts_len : ∀ {ts : List Tg} {xs : List PyData} {sl sl' : Slots}, Tg.puts ts xs sl = some sl' → xs.length = ts.length
  | [], [], _, _, _ => rfl
  | [], _ :: _, _, _, e => nomatch (show (none : Option Slots) = _ from e)
  | _ :: _, [], _, _, e => nomatch (show (none : Option Slots) = _ from e)
  | t :: ts, x :: xs, sl, sl', e => by
    obtain ⟨sl1, e1, e2⟩ := Option.bind_eq_some_iff.mp (show (Tg.put t x sl).bind (fun sl1 => Tg.puts ts xs sl1) = some sl' from e)
    rw [List.length_cons, List.length_cons, puts_len e2]
theorem gs_len {es : List Expr} {ts : List Tg} (n : Nat) (h : ts.length = n) (h2 : (assignEach es X.env).length = n) : (assignEach es X.env).length = ts.length := h2.trans h.symm
theorem G_tup {es : List Expr} {j : Nat} {pos : Pos} {ts : List Tg} (c : Cin D k X) (h : Gs X T W es ts) (hn : (assignEach es X.env).length = ts.length := by rfl) (hst : (assignEach es X.env).findIdx? (·.1) = none := by rfl) : G X T W (.Tuple es j pos) (.tup ts) := by
  refine ⟨PG.imp (pg_tup c.calm h.run hn hst) ?_⟩
  rintro u σ H Q ⟨φ, sl, st, x, sl', a, d, e, h⟩
  cases x with
  | tuple xs =>
    obtain ⟨p, vs, rfl, d1, d2⟩ := d
    have e' : Tg.puts ts xs sl = some sl' := e
    exact ⟨p, vs, rfl, d1.sq, by rw [d2.length, puts_len e'], φ, sl, st, xs, sl', a, d2, e', h⟩
  | none => cases e
  | bool _ => cases e
  | int _ => cases e
  | str _ => cases e
  | list _ => cases e
  | dict _ => cases e
/-- a, b = e: the value's items -/
theorem deref_tuple {v : Val} {st : Store} {xs : List PyData} (h : deref v st = some (.tuple xs)) : v = .d (.tuple xs) := by
  unfold deref at h
  cases v with
  | d x => cases h; rfl
  | box n =>
    cases e : st[n]? with
    | none => simp only [e] at h; cases h
    | some c => simp only [e] at h; cases c <;> cases h
theorem put_tuple {ts : List Tg} {x : PyData} {sl sl' : Slots} (h : (Tg.tup ts).put x sl = some sl') : ∃ xs, x = .tuple xs := by
  cases x with
  | tuple xs => exact ⟨xs, rfl⟩
  | none => cases h
  | bool _ => cases h
  | int _ => cases h
  | str _ => cases h
  | list _ => cases h
  | dict _ => cases h
theorem S_unp {tg e : Expr} {ts : List Tg} {pos : Pos} {m : EM} (hg : G X T W tg (.tup ts)) (h : E X T W e m) (hs : swapsWithSole [tg] e pos.line X.env = pure false := by rfl) (hw : swappedStores [tg] e X.env = pure none := by rfl)
    (h1 : (assignEach [tg] X.env).map (·.2) = [assign tg X.env] := by rfl) : S X T W (.Assign [tg] e pos) (sUnp (.tup ts) m) := by
  refine ⟨PS.imp (ps_asg h.run hg.run hs hw h1) ?_⟩
  rintro D σ H ⟨φ, sl, st, h0, h⟩
  refine (tE_bindS h0 h).mono fun u H1 ⟨φ1, st1, v, a1, v1, s1, p1⟩ => ?_
  cases eo : ((deref v st1).bind fun x => (Tg.tup ts).put x sl) with
  | none => rw [eo] at p1; exact p1.elim
  | some sl' =>
    rw [eo] at p1
    obtain ⟨x, e1, e2⟩ := Option.bind_eq_some_iff.mp eo
    obtain ⟨xs, rfl⟩ := put_tuple e2
    rw [deref_tuple e1] at v1
    exact ⟨φ1, sl, st1, _, sl', a1, v1, e2, fun σ' l' _ => p1 φ1 H1 σ' .refl a1.s l'⟩
/-! several names at once -/
theorem putAll_two {i j : Nat} {v w : Val} {sl : Slots} : putAll [i, j] [v, w] sl = (sl.set i (some v)).set j (some w) := rfl
theorem S_par2 {i j : Nat} {x y : Str} {a b : Expr} {px py pt pos pt2 : Pos} {kt k2 : Nat} {m : AM} (c : Cin D k X) (hx : D.s i x = true) (hy : D.s j y = true) (hij : i ≠ j) (hlx : D.sc.names.lookup x = some .local) (hly : D.sc.names.lookup y = some .local)
    (h : Ea X T W [a, b] m) (hw : swappedStores [.Tuple [.Name x px, .Name y py] kt pt] (.Tuple [a, b] k2 pt2) X.env = pure (some [x, y]))
    (hs : swapsWithSole [.Tuple [.Name x px, .Name y py] kt pt] (.Tuple [a, b] k2 pt2) pos.line X.env = pure false := by rfl) : S X T W (.Assign [.Tuple [.Name x px, .Name y py] kt pt] (.Tuple [a, b] k2 pt2) pos) (sPar [i, j] m) := by
  obtain ⟨h1, _, _⟩ := c.put hx
  obtain ⟨h2, _, _⟩ := c.put hy
  refine ⟨PS.imp (ps_par c.calm c.nd h1 h2 hij (by rw [c.sc]; exact hlx) (by rw [c.sc]; exact hly) h.run hw hs) ?_⟩
  rintro D σ H ⟨φ, sl, st, h0, h⟩
  refine (tA_bindS h0 h).mono fun us H1 ⟨φ1, st1, vs, a1, v1, s1, p1⟩ => ?_
  by_cases hl : vs.length = [i, j].length
  · rw [if_pos hl] at p1
    cases v1 with
    | nil => cases hl
    | cons r1 t1 =>
      cases t1 with
      | nil => cases hl
      | cons r2 t2 =>
        cases t2 with
        | nil => exact ⟨_, _, rfl, p1 φ1 H1 _ .refl a1.s ((a1.l.set r1).set r2)⟩
        | cons _ _ => cases hl
  · rw [if_neg hl] at p1; exact p1.elim
theorem S_par3 {i j l : Nat} {x y z : Str} {a b d : Expr} {px py pz pt pos pt2 : Pos} {kt k2 : Nat} {m : AM} (c : Cin D k X) (hx : D.s i x = true) (hy : D.s j y = true) (hz : D.s l z = true) (hij : i ≠ j) (hil : i ≠ l) (hjl : j ≠ l)
    (hlx : D.sc.names.lookup x = some .local) (hly : D.sc.names.lookup y = some .local) (hlz : D.sc.names.lookup z = some .local) (h : Ea X T W [a, b, d] m)
    (hw : swappedStores [.Tuple [.Name x px, .Name y py, .Name z pz] kt pt] (.Tuple [a, b, d] k2 pt2) X.env = pure (some [x, y, z]))
    (hs : swapsWithSole [.Tuple [.Name x px, .Name y py, .Name z pz] kt pt] (.Tuple [a, b, d] k2 pt2) pos.line X.env = pure false := by rfl) : S X T W (.Assign [.Tuple [.Name x px, .Name y py, .Name z pz] kt pt] (.Tuple [a, b, d] k2 pt2) pos) (sPar [i, j, l] m) := by
  obtain ⟨h1, _, _⟩ := c.put hx
  obtain ⟨h2, _, _⟩ := c.put hy
  obtain ⟨h3, _, _⟩ := c.put hz
  refine ⟨PS.imp (ps_par3 c.calm c.nd h1 h2 h3 hij hil hjl (by rw [c.sc]; exact hlx) (by rw [c.sc]; exact hly) (by rw [c.sc]; exact hlz) h.run hw hs) ?_⟩
  rintro D σ H ⟨φ, sl, st, h0, h⟩
  refine (tA_bindS h0 h).mono fun us H1 ⟨φ1, st1, vs, a1, v1, s1, p1⟩ => ?_
  by_cases hl : vs.length = [i, j, l].length
  · rw [if_pos hl] at p1
    cases v1 with
    | nil => cases hl
    | cons r1 t1 =>
      cases t1 with
      | nil => cases hl
      | cons r2 t2 =>
        cases t2 with
        | nil => cases hl
        | cons r3 t3 =>
          cases t3 with
          | nil => exact ⟨_, _, _, rfl, p1 φ1 H1 _ .refl a1.s (((a1.l.set r1).set r2).set r3)⟩
          | cons _ _ => cases hl
  · rw [if_neg hl] at p1; exact p1.elim
/-- names alone as targets -/
def gNs (is : List Nat) : TGs := fun us σ H Q => us.length = is.length ∧ Q ((is.zip us).foldl (fun σ p => σ.set p.1 (some p.2)) σ) H
structure Gn (X : Cx) (es : List Expr) (is : List Nat) : Prop where
  run : PGs X es (gNs is)
theorem Gn_nil : Gn X [] [] := ⟨PGs.imp pgs_nil fun us σ H Q ⟨e, h⟩ => ⟨List.length_eq_zero_iff.mp e, by
    rw [List.length_eq_zero_iff.mp e] at h; exact h⟩⟩
theorem Gn_cons {i : Nat} {x : Str} {p : Pos} {es : List Expr} {is : List Nat} (c : Cin D k X) (hx : D.s i x = true) (h : Gn X es is) (hs : (assignEach (.Name x p :: es) X.env).map (·.2) = assign (.Name x p) X.env :: (assignEach es X.env).map (·.2) := by rfl) : Gn X (.Name x p :: es) (i :: is) := by
  obtain ⟨h1, h2, h3⟩ := c.put hx
  refine ⟨PGs.imp (pgs_cons (pg_name c.nd h1 h2 h3) h.run hs) ?_⟩
  rintro us σ H Q ⟨e, h⟩
  cases us with
  | nil => cases e
  | cons u us => exact ⟨u, us, rfl, by simpa using e, h⟩
theorem put_all {K : PySem.W.Frag} {φ : Num} {st : Store} {H : Hp} : ∀ {is : List Nat} {vs : List Val} {us : List V} {sl : Slots} {σ : L2.St}, Paired (VR K φ st H) vs us → SlR K φ st H sl σ → SlR K φ st H (putAll is vs sl) ((is.zip us).foldl (fun σ p => σ.set p.1 (some p.2)) σ)
  | [], _, _, _, _, _, l => by simpa [putAll] using l
  | i :: is, _, _, _, _, .nil, l => by simpa [putAll] using l
  | i :: is, _, _, _, _, .cons r t, l => by
    rw [putAll, List.zip_cons_cons, List.foldl_cons]
    exact put_all t (l.set r)
theorem S_parT {es ts : List Expr} {is : List Nat} {pt pos pt2 : Pos} {kt k2 : Nat} {m : AM} (c : Cin D k X) (hg : Gn X ts is) (h : Ea X T W es m) (hn : (assignEach ts X.env).length = is.length := by rfl) (hst : (assignEach ts X.env).findIdx? (·.1) = none := by rfl)
    (hl0 : is.length ≤ 1000 := by decide)
    (hs : swapsWithSole [.Tuple ts kt pt] (.Tuple es k2 pt2) pos.line X.env = pure false := by rfl) (hw : swappedStores [.Tuple ts kt pt] (.Tuple es k2 pt2) X.env = pure none)
    (h1 : (assignEach [.Tuple ts kt pt] X.env).map (·.2) = [assign (.Tuple ts kt pt) X.env] := by rfl) : S X T W (.Assign [.Tuple ts kt pt] (.Tuple es k2 pt2) pos) (sPar is m) := by
  refine ⟨PS.imp (ps_asg (pe_tup h.run) (pg_tup c.calm hg.run hn hst) hs hw h1) ?_⟩
  rintro D σ H ⟨φ, sl, st, h0, h⟩
  refine (tA_bindS h0 h).mono fun us H1 ⟨φ1, st1, vs, a1, v1, s1, p1⟩ => ?_
  by_cases hl : vs.length = is.length
  · rw [if_pos hl] at p1
    have hu : us.length = is.length := by rw [← paired_len v1, hl]
    refine ⟨by rw [hu]; exact Nat.le_of_lt (small1000 hl0), fun p hp => ⟨p, us, rfl, SqT.of upd_same, hu, hu, ?_⟩⟩
    have g := Gr.upd (o := .tup us) hp
    exact p1 φ1 _ _ g.step (a1.s.gr g) (put_all (Paired.mapP v1 fun _ _ q => q.mon g.step) (a1.l.mon g.step))
  · rw [if_neg hl] at p1; exact p1.elim

/-! ### attributes stored -/
theorem putFld_some {c f : Str} {u v : Val} {st st' : Store} (h : putFld c u f v st = some st') : ∃ n fs, u = .box n ∧ st[n]? = some (.obj c fs) ∧ fs.length < 999 ∧ st' = st.set n (.obj c (setF f v fs)) := by
  unfold putFld at h
  cases u with
  | d x => cases h
  | box n =>
    cases e : st[n]? with
    | none => simp only [e] at h; cases h
    | some cl =>
      simp only [e] at h
      cases cl with
      | obj c' fs =>
        by_cases hc : c' = c ∧ fs.length < 999
        · obtain ⟨rfl, hl⟩ := hc
          have h : (if c' = c' ∧ fs.length < 999 then some (st.set n (.obj c' (setF f v fs))) else none) = some st' := h
          rw [if_pos (And.intro (Eq.refl c') hl)] at h
          cases h
          exact ⟨n, fs, rfl, e, hl, rfl⟩
        · simp only [if_neg hc] at h
          cases h
      | lst _ => cases h
      | dic _ => cases h
      | ldic _ => cases h
      | dead => cases h
/-- a box written: its address alone is changed -/
theorem StR.write {K : PySem.W.Frag} {mg : Str → Option Value} {φ : Num} {st : Store} {H : Hp} {n : Nat} {a : Addr} {c c' : Cell} {o o' : HO} (s : StR K mg T φ st H) (ec : st[n]? = some c) (ea : φ.ids[n]? = some a) (ho : H a = some o) (hf : isFrz o = false) (ht : isTbl o = false) (he : ∀ φ, o ≠ .ext φ) (lc : isLive c = true) (lc' : isLive c' = true)
    (h : CR K φ (st.set n c') (upd H a o') mg a c') : StR K mg T φ (st.set n c') (upd H a o') ∧ Stp φ st H φ (st.set n c') (upd H a o') := by
  have hn : n < st.length := (List.getElem?_eq_some_iff.mp ec).1
  have lv : ∀ x, Live φ (st.set n c') x → Live φ st x := fun x ⟨i, d, e1, e2, e3⟩ => by
    by_cases hi : n = i
    · subst hi
      exact ⟨n, c, ec, lc, e3⟩
    · rw [List.getElem?_set_ne hi] at e1
      exact ⟨i, d, e1, e2, e3⟩
  have hl : Live φ st a := ⟨n, c, ec, lc, ea⟩
  have nea : ∀ x u, H x = some u → ¬ Live φ st x → x ≠ a := fun x u _ nl z => nl (z ▸ hl)
  have stp : Stp φ st H φ (st.set n c') (upd H a o') := by
    refine ⟨List.prefix_rfl, ⟨fun _ h => h, fun _ h => .inl h⟩, fun x u e nl _ => .inl (by rw [upd_ne (nea x u e nl)]; exact e), fun x l => .inl (lv x l), fun x e => ?_, fun x ob u e => ?_⟩
    · by_cases hx : x = a
      · rw [hx, upd_same]; exact fun z => nomatch z
      · rw [upd_ne hx]; exact e
    · have hx : x ≠ a := fun z => by
        rw [z, ho] at e
        cases e
        cases hf
      rw [upd_ne hx]
      exact e
  refine ⟨⟨by rw [List.length_set]; exact s.len, s.nd, fun x hx => ⟨let ⟨xs, e⟩ := (s.av x hx).1; ⟨xs, by rw [upd_ne (fun z => (s.av x hx).2 (by rw [z]; exact List.mem_of_getElem? ea))]; exact e⟩, (s.av x hx).2⟩, fun i d x e1 e2 => ?_, fun t htm => ?_⟩, stp⟩
  · by_cases hi : n = i
    · subst hi
      rw [List.getElem?_set_self hn] at e1
      cases e1
      rw [ea] at e2
      cases e2
      exact h
    · rw [List.getElem?_set_ne hi] at e1
      have hx : x ≠ a := fun z => by
        have h1 := (List.getElem?_eq_some_iff.mp e2)
        have h2 := (List.getElem?_eq_some_iff.mp ea)
        obtain ⟨l1, q1⟩ := h1
        obtain ⟨l2, q2⟩ := h2
        exact hi ((List.getElem_inj s.nd).mp (by rw [q2, q1, z]))
      have := s.cell i d x e1 e2
      cases d with
      | lst xs => obtain ⟨vs, h1, h2⟩ := this; exact ⟨vs, by rw [upd_ne hx]; exact h1, DRs.mon stp.mon _ _ h2⟩
      | dic kvs => obtain ⟨o, vs, h1, h2, h3⟩ := this; exact ⟨o, vs, by rw [upd_ne hx]; exact h1, h2, DRs.mon stp.mon _ _ h3⟩
      | ldic kvs => obtain ⟨ob, o, vs, h1, h2, h3⟩ := this; exact ⟨ob, o, vs, by rw [upd_ne hx]; exact h1, h2, DRs.mon stp.mon _ _ h3⟩
      | obj c fs => obtain ⟨C, dx, us, h0, h1, h2⟩ := this; exact ⟨C, dx, us, h0, by rw [upd_ne hx]; exact h1, FR.mon stp h2⟩
      | dead => exact stp.sm x this
  · obtain ⟨ps, q1, q2, q3⟩ := s.tabs t htm
    have hp : t.P ≠ a := fun z => by rw [z, ho] at q1; cases q1; cases ht
    refine ⟨ps, by rw [upd_ne hp]; exact q1, q2, fun pos cv q e1 e2 => ?_⟩
    obtain ⟨cc, r1, r2⟩ := q3 pos cv q e1 e2
    have hcc : cc ≠ a := fun z => by
      rw [z, ho] at r2
      exact he _ (Option.some.inj r2)
    exact ⟨cc, r1, by rw [upd_ne hcc]; exact r2⟩
theorem put_read {c f : Str} {n : Nat} {φ : Num} {st : Store} {H : Hp} {fs : List (Str × Val)} {v : Val} {u : V} {a C dx : Addr} {us : List (Str × V)} {mg : Str → Option Value} {K : PySem.W.Frag} (s : StR K mg T φ st H) (ec : st[n]? = some (.obj c fs)) (ea : φ.ids[n]? = some a) (hC : mg c = some (.ref C))
    (hH : H a = some (.ins C dx us)) (hr : FR K φ st H fs us) (hv : VR K φ st H v u) : StR K mg T φ (st.set n (.obj c (setF f v fs))) (upd H a (.ins C dx (putF f u us))) ∧ Stp φ st H φ (st.set n (.obj c (setF f v fs))) (upd H a (.ins C dx (putF f u us))) := by
  have stp : Stp φ st H φ (st.set n (.obj c (setF f v fs))) (upd H a (.ins C dx (putF f u us))) := by
    have hl : Live φ st a := ⟨n, _, ec, rfl, ea⟩
    refine ⟨List.prefix_rfl, ⟨fun _ h => h, fun _ h => .inl h⟩, fun x w e nl _ => .inl (by rw [upd_ne (fun z => nl (by rw [z]; exact hl))]; exact e), fun x ⟨i, d, e1, e2, e3⟩ => ?_, fun x e => ?_, fun x ob w e => ?_⟩
    · by_cases hi : n = i
      · subst hi
        exact .inl ⟨n, _, ec, rfl, e3⟩
      · rw [List.getElem?_set_ne hi] at e1
        exact .inl ⟨i, d, e1, e2, e3⟩
    · by_cases hx : x = a
      · rw [hx, upd_same]; exact fun z => nomatch z
      · rw [upd_ne hx]; exact e
    · have hx : x ≠ a := fun z => by
        rw [z, hH] at e
        cases e
      rw [upd_ne hx]
      exact e
  exact s.write ec ea hH rfl rfl (fun _ z => nomatch z) rfl rfl ⟨C, dx, _, hC, upd_same, FR.mon stp (FR.put hv hr)⟩
theorem S_fld {o e : Expr} {c f : Str} {pos pos' : Pos} {mo m : EM} (hf : FldOk X.K X.mg c f) (ho : E X T W o mo) (h : E X T W e m) (hs : swapsWith e (some (.Attribute o f pos')) pos.line X.env = pure false := by rfl) : S X T W (.Assign [.Attribute o f pos'] e pos) (sFld c mo f m) := by
  obtain ⟨C0, hC, hcl, hna⟩ := hf
  refine ⟨PS.imp (ps_fld ho.run h.run hs) ?_⟩
  rintro D σ H ⟨φ, sl, st, h0, h⟩
  refine (tE_bindS h0 h).mono fun u H1 ⟨φ1, st1, v, a1, v1, s1, p1⟩ => (tE_bindS a1 p1).mono fun w H2 ⟨φ2, st2, v', a2, v2, s2, p2⟩ => ?_
  cases eo : putFld c v' f v st2 with
  | none => rw [eo] at p2; exact p2.elim
  | some st3 =>
    rw [eo] at p2
    obtain ⟨n, fs, rfl, e1, hl, rfl⟩ := putFld_some eo
    obtain ⟨a, C, dx, us, rfl, ea, k1, k2, k3⟩ := obj_at a2.s v2 e1
    rw [hC] at k1
    cases k1
    obtain ⟨r3, s3⟩ := put_read (f := f) a2.s e1 ea hC k2 k3 (v1.mon s2)
    exact ⟨a, _, dx, us, rfl, k2, hcl, hna, by rw [FR.length k3]; omega, p2 φ2 _ σ s3 r3 (a2.l.mon s3)⟩
theorem S_augfld {o e : Expr} {c f : Str} {op : Operator} {tpos pos : Pos} {g : PyData → PyData → Option PyData} {mo m : EM} (hf : FldOk X.K X.mg c f) (hop : OpR X (inplaceOp op) (r2 X T g)) (ho : E X T W o mo) (h : E X T W e m) : S X T W (.AugAssign (.Attribute o f tpos) op e pos) (sAugFld c mo f g m) := by
  obtain ⟨C0, hC, hcl, hna⟩ := hf
  refine ⟨PS.imp (ps_fldaug (rd := r2 X T g) ho.run h.run hop) ?_⟩
  rintro D σ H ⟨φ, sl, st, h0, h⟩
  refine (tE_bindS h0 h).mono fun u H1 ⟨φ1, st1, v, a1, v1, s1, p1⟩ => ?_
  cases eo : fldOf c v f st1 with
  | none => rw [eo] at p1; exact p1.elim
  | some x =>
    rw [eo] at p1
    obtain ⟨n, fs, rfl, e1, e2⟩ := fldOf_some eo
    obtain ⟨a, C, dx, us, rfl, ea, k1, k2, k3⟩ := obj_at a1.s v1 e1
    rw [hC] at k1
    cases k1
    obtain ⟨w, ew, rw'⟩ := FR.lookup k3 e2
    refine ⟨a, _, dx, us, w, rfl, k2, hcl, hna, ew, ?_⟩
    refine (tE_bindS a1 p1).mono fun y H2 ⟨φ2, st2, v', a2, v2, s2, p2⟩ => ?_
    cases ez : ((deref x st2).bind fun x' => (deref v' st2).bind fun y' => g x' y') with
    | none => rw [ez] at p2; exact p2.elim
    | some z =>
      rw [ez] at p2
      obtain ⟨d1, ed1, ez⟩ := Option.bind_eq_some_iff.mp ez
      obtain ⟨d2, ed2, ez⟩ := Option.bind_eq_some_iff.mp ez
      refine ⟨φ2, st2, d1, d2, z, a2.s, ⟨x, rw'.mon s2, ed1⟩, ⟨v', v2, ed2⟩, ez, fun H3 zz g3 dz => ?_⟩
      have p3 : SPost X.K X.mg T W φ2 st2 H2 D (SR.opt (putFld c (.box n) f (.d z) st2) fun st3 => .nx sl st3) := p2
      cases eq : putFld c (.box n) f (.d z) st2 with
      | none => rw [eq] at p3; exact p3.elim
      | some st3 =>
        rw [eq] at p3
        obtain ⟨n', fs', en, e1', hl', rfl⟩ := putFld_some eq
        cases en
        have r3 := a2.s.gr g3
        obtain ⟨a', C', dx', us', ea', eφ', k1', k2', k3'⟩ := obj_at r3 ((v1.mon s2).mon g3.step) e1'
        cases ea'
        rw [hC] at k1'
        cases k1'
        obtain ⟨r4, s4⟩ := put_read (f := f) r3 e1' eφ' hC k2' k3' (v := .d z) dz
        exact ⟨dx', us', k2', by rw [FR.length k3']; omega, p3 φ2 _ σ (g3.step.trans s4) r4 ((a2.l.mon g3.step).mon s4)⟩
theorem S_aug {i : Nat} {x : Str} {e : Expr} {op : Operator} {p pos : Pos} {g : PyData → PyData → Option PyData} {m : EM} (c : Cin D k X) (hx : D.s i x = true) (hop : OpR X (inplaceOp op) (r2 X T g)) (h : E X T W e m) : S X T W (.AugAssign (.Name x p) op e pos) (sAug i g m) := by
  obtain ⟨h1, h2, h3⟩ := c.put hx
  refine ⟨PS.imp (ps_aug (ti := r2 X T g) c.nd h1 h2 h.run hop h3) ?_⟩
  rintro D σ H ⟨φ, sl, st, h0, h⟩
  have h' : SPost X.K X.mg T W φ st H D (aS (mP2 g (mVar i) m sl st) sl fun v st1 => .nx (sl.set i (some v)) st1) := h
  unfold mP2 mVar at h'
  cases e1 : sl[i]? with
  | none => simp only [e1] at h'; exact h'.elim
  | some o =>
    cases o with
    | none => simp only [e1] at h'; exact h'.elim
    | some v =>
      simp only [e1, R.bind_ok] at h'
      obtain ⟨u, eu, ru⟩ := h0.l.2 i v e1
      refine ⟨u, eu, φ, sl, st, h0, ?_⟩
      cases em : m sl st with
      | ok w st1 =>
        rw [em] at h'
        intro φ1 H1 y s1 r1 v1
        cases ez : (((deref v st1).bind fun x => (deref w st1).bind fun y => g x y)) with
        | none =>
          simp only [R.bind_ok, ez, Option.map_none, R.opt_none, aS_stuck] at h'
          exact h'.elim
        | some z =>
          simp only [R.bind_ok, ez, Option.map_some, R.opt_some, aS_ok] at h'
          obtain ⟨d1, ed1, ez⟩ := Option.bind_eq_some_iff.mp ez
          obtain ⟨d2, ed2, ez⟩ := Option.bind_eq_some_iff.mp ez
          refine ⟨φ1, st1, d1, d2, z, r1, ⟨v, ru.mon s1, ed1⟩, ⟨w, v1, ed2⟩, ez, fun H3 zz g3 dz => ?_⟩
          exact h' φ1 H3 _ (s1.trans g3.step) (r1.gr g3) (((h0.l.mon s1).mon g3.step).set (v := .d z) dz)
      | exn c st1 =>
        rw [em] at h'
        exact fun φ' H' C s1 r1 hc => h' φ' H' σ C s1 r1 (h0.l.mon s1) hc
      | stuck => rw [em] at h'; exact h'.elim
end
end TL
end

section
set_option Elab.async false
set_option linter.all false
set_option maxRecDepth 100000
set_option autoImplicit false
/-! TL6: loops, what they walk, comprehensions. -/
namespace TL
open PySem L2
section
variable {D : DI} {k : Nat} {X : Cx} {T : List Tb} {W : XK}

theorem SPost.imp {φ : Num} {st : Store} {H : Hp} {D D' : Ends} {r : SR} (h : SPost X.K X.mg T W φ st H D r) (h1 : ∀ σ H, D.nx σ H → D'.nx σ H) (h2 : ∀ u H, D.rt u H → D'.rt u H) (h3 : ∀ σ H, D.bk σ H → D'.bk σ H) (h4 : ∀ σ H, D.ct σ H → D'.ct σ H) :
    SPost X.K X.mg T W φ st H D' r := by
  cases r with
  | nx sl1 st1 => exact fun φ1 H1 σ1 s1 r1 l1 => h1 _ _ (h φ1 H1 σ1 s1 r1 l1)
  | rt v st1 => exact fun φ1 H1 σ1 s1 r1 l1 => h2 _ _ (h φ1 H1 σ1 s1 r1 l1)
  | bk sl1 st1 => exact fun φ1 H1 σ1 s1 r1 l1 => h3 _ _ (h φ1 H1 σ1 s1 r1 l1)
  | ct sl1 st1 => exact fun φ1 H1 σ1 s1 r1 l1 => h4 _ _ (h φ1 H1 σ1 s1 r1 l1)
  | exn c sl1 st1 => exact h
  | stuck => exact h
/-- a loop's turn: what follows the body, told of the body's result -/
def turnS (r : SR) (f : SM) : SR :=
  match r with
  | .nx sl st => f sl st
  | .ct sl st => f sl st
  | .bk sl st => .nx sl st
  | r => r
theorem turn_post {φ : Num} {st : Store} {H : Hp} {D : Ends} {r : SR} {m : SM} {N : L2.St → Hp → Prop} (hN : ∀ φ1 sl1 st1 σ1 H1, At X.K X.mg T φ1 sl1 st1 σ1 H1 → SPost X.K X.mg T W φ1 st1 H1 D (m sl1 st1) → N σ1 H1) (h : SPost X.K X.mg T W φ st H D (turnS r m)) :
    SPost X.K X.mg T W φ st H { D with nx := N, ct := N, bk := D.nx } r := by
  cases r with
  | nx sl1 st1 => exact fun φ1 H1 σ1 s1 r1 l1 => hN φ1 sl1 st1 σ1 H1 ⟨r1, l1⟩ (SPost.shift s1 h)
  | rt v st1 => exact h
  | bk sl1 st1 => exact h
  | ct sl1 st1 => exact fun φ1 H1 σ1 s1 r1 l1 => hN φ1 sl1 st1 σ1 H1 ⟨r1, l1⟩ (SPost.shift s1 h)
  | exn c sl1 st1 => exact h
  | stuck => exact h
theorem whileN_succ (c : TM) (b : SM) (n : Nat) (sl : Slots) (st : Store) : whileN c b (n + 1) sl st = aS (c sl st) sl fun t st1 => bif t then turnS (b sl st1) (whileN c b n) else .nx sl st1 := by
  show aS (c sl st) sl _ = _
  congr
theorem S_while {c : Expr} {body : List Stmt} {pos : Pos} {t : TM} {m : SM} (ci : Cin D k X) (hc : Et X T W c t) (hb : Ss X T W body m) : S X T W (.While c body [] pos) (sWhile t m) := by
  refine ⟨PS.imp (ps_while ci.po hc.run hb.run) ?_⟩
  rintro D σ H ⟨φ, sl, st, h0, h⟩
  refine ⟨fun n σ H => ∃ φ sl st, At X.K X.mg T φ sl st σ H ∧ SPost X.K X.mg T W φ st H D (whileN t m n sl st), ⟨1000000, φ, sl, st, h0, h⟩, ?_⟩
  rintro n σ H ⟨φ, sl, st, h0, h⟩
  cases n with
  | zero => exact h.elim
  | succ n =>
    rw [whileN_succ] at h
    refine (tT_bindS h0 h).mono fun d H1 ⟨φ1, st1, a1, s1, p1⟩ => ?_
    cases d with
    | false => exact p1 φ1 H1 σ .refl a1.s a1.l
    | true =>
      refine ⟨fun σ' H' => ∃ φ sl st, At X.K X.mg T φ sl st σ' H' ∧ SPost X.K X.mg T W φ st H' D (whileN t m n sl st), fun σ' H' q => ⟨n, Nat.lt_succ_self n, q⟩, φ1, sl, st1, a1, ?_⟩
      exact turn_post (fun φ1 sl1 st1 σ1 H1 a p => ⟨φ1, sl1, st1, a, p⟩) p1

/-! ### what is walked -/
/-- J hands out xs, wherever one has come from φ1 st1 H1 -/
def ItR (X : Cx) (T : List Tb) (φ1 : Num) (st1 : Store) (H1 : Hp) (xs : List PyData) (J : It) : Prop :=
  ∀ (i : Nat) (φ : Num) (st : Store) (H : Hp), Stp φ1 st1 H1 φ st H → StR X.K X.mg T φ st H →
    (i < xs.length → J.go i H ∧ ∀ u H', J.yld i H u H' → Gr H H' ∧ ∃ d, xs[i]? = some d ∧ DR X.K (Av φ st) H' d u) ∧ (xs.length ≤ i → J.stop i H)
def IPost (X : Cx) (T : List Tb) (W : XK) (φ : Num) (st : Store) (H : Hp) (Q : It → Hp → Prop) : R (List PyData) → Prop
  | .ok xs st1 => ∀ φ1 H1 J, Stp φ st H φ1 st1 H1 → StR X.K X.mg T φ1 st1 H1 → ItR X T φ1 st1 H1 xs J → Q J H1
  | .exn c st' => ∀ φ' H' C, Stp φ st H φ' st' H' → StR X.K X.mg T φ' st' H' → X.mg c = some (.ref C) → W (.ref C) none H'
  | .stuck => False
def tI (X : Cx) (T : List Tb) (W : XK) (it : IM) : TI := fun σ H R => ∃ φ sl st, At X.K X.mg T φ sl st σ H ∧ IPost X T W φ st H R (it sl st)
structure I (X : Cx) (T : List Tb) (W : XK) (tg e : Expr) (it : IM) : Prop where
  run : PI X tg e (tI X T W it)
theorem PI.imp {X : Cx} {tg e : Expr} {t t' : TI} (h : PI X tg e t) (i : ∀ σ H R, t' σ H R → t σ H R) : PI X tg e t' := ⟨fun p s σ H R I q => h.run p s σ H R I (i σ H R q)⟩
theorem PI.or {X : Cx} {tg e : Expr} {t t' : TI} (h : PI X tg e t) (h' : PI X tg e t') : PI X tg e (fun σ H R => t σ H R ∨ t' σ H R) := ⟨fun p s σ H R I q => q.elim (h.run p s σ H R I) (h'.run p s σ H R I)⟩
theorem tE_bindI {m : EM} {f : Val → Store → R (List PyData)} {Q : It → Hp → Prop} {φ : Num} {sl : Slots} {st : Store} {σ : L2.St} {H : Hp} (a : At X.K X.mg T φ sl st σ H) (h : IPost X T W φ st H Q ((m sl st).bind f)) :
    tE X T W m σ H fun u H1 => ∃ φ1 st1 v, At X.K X.mg T φ1 sl st1 σ H1 ∧ VR X.K φ1 st1 H1 v u ∧ Stp φ st H φ1 st1 H1 ∧ IPost X T W φ1 st1 H1 Q (f v st1) := by
  refine ⟨φ, sl, st, a, ?_⟩
  cases e : m sl st with
  | ok v st1 =>
    rw [e] at h
    refine fun φ1 H1 u s1 r1 v1 => ⟨φ1, st1, v, ⟨r1, a.l.mon s1⟩, v1, s1, ?_⟩
    have h' : IPost X T W φ st H Q (f v st1) := h
    cases e2 : f v st1 with
    | ok xs st2 => rw [e2] at h'; exact fun φ2 H2 J s2 => h' φ2 H2 J (s1.trans s2)
    | exn c st2 => rw [e2] at h'; exact fun φ2 H2 C s2 => h' φ2 H2 C (s1.trans s2)
    | stuck => rw [e2] at h'; exact h'
  | exn c st1 => rw [e] at h; exact h
  | stuck => rw [e] at h; exact h
theorem tA_bindI {m : AM} {f : List Val → Store → R (List PyData)} {Q : It → Hp → Prop} {φ : Num} {sl : Slots} {st : Store} {σ : L2.St} {H : Hp} (a : At X.K X.mg T φ sl st σ H) (h : IPost X T W φ st H Q ((m sl st).bind f)) :
    tA X T W m σ H fun us H1 => ∃ φ1 st1 vs, At X.K X.mg T φ1 sl st1 σ H1 ∧ Paired (VR X.K φ1 st1 H1) vs us ∧ Stp φ st H φ1 st1 H1 ∧ IPost X T W φ1 st1 H1 Q (f vs st1) := by
  refine ⟨φ, sl, st, a, ?_⟩
  cases e : m sl st with
  | ok v st1 =>
    rw [e] at h
    refine fun φ1 H1 u s1 r1 v1 => ⟨φ1, st1, v, ⟨r1, a.l.mon s1⟩, v1, s1, ?_⟩
    have h' : IPost X T W φ st H Q (f v st1) := h
    cases e2 : f v st1 with
    | ok xs st2 => rw [e2] at h'; exact fun φ2 H2 J s2 => h' φ2 H2 J (s1.trans s2)
    | exn c st2 => rw [e2] at h'; exact fun φ2 H2 C s2 => h' φ2 H2 C (s1.trans s2)
    | stuck => rw [e2] at h'; exact h'
  | exn c st1 => rw [e] at h; exact h
  | stuck => rw [e] at h; exact h
theorem drs_len {K : PySem.W.Frag} {O : Addr → Prop} {H : Hp} {xs : List PyData} {vs : List V} (h : DRs K O H xs vs) : xs.length = vs.length := h.length.symm
/-- a list as it stands, a box's or not; a body may not change it: xs is told anew at each turn by r -/
theorem itr_list {φ1 : Num} {st1 : Store} {H1 : Hp} {xs : List PyData} {a : Addr} {vs : List V} (h : ListAt X.K (Av φ1 st1) H1 a vs) (hd : DRs X.K (Av φ1 st1) H1 xs vs) : ItR X T φ1 st1 H1 xs (Itl X.K a) := by
  intro i φ st H s r
  have hL := s.mon.list h
  have hD := DRs.mon s.mon _ _ hd
  refine ⟨fun hi => ⟨?_, fun u H' q => ?_⟩, fun hi => ⟨vs, hL.sq, by rw [hD.length]; exact hi⟩⟩
  · have hv : i < vs.length := by rw [hD.length]; exact hi
    exact ⟨vs, vs[i], hL.sq, List.getElem?_eq_getElem hv⟩
  · obtain ⟨rfl, q⟩ := q
    refine ⟨Gr.refl _, xs[i], List.getElem?_eq_getElem hi, ?_⟩
    obtain ⟨v, e1, e2⟩ := DRs.at hD (List.getElem?_eq_getElem hi)
    have := q vs hL.sq
    rw [e1] at this
    cases this
    exact e2
theorem itr_tup {φ1 : Num} {st1 : Store} {H1 : Hp} {xs : List PyData} {a : Addr} {vs : List V} (h : TupAt X.K (Av φ1 st1) H1 a vs) (hd : DRs X.K (Av φ1 st1) H1 xs vs) : ItR X T φ1 st1 H1 xs (Itt X.K a) := by
  intro i φ st H s r
  have hL := s.mon.tup h
  have hD := DRs.mon s.mon _ _ hd
  refine ⟨fun hi => ⟨?_, fun u H' q => ?_⟩, fun hi => ⟨vs, hL.sq, by rw [hD.length]; exact hi⟩⟩
  · have hv : i < vs.length := by rw [hD.length]; exact hi
    exact ⟨vs, vs[i], hL.sq, List.getElem?_eq_getElem hv⟩
  · obtain ⟨rfl, q⟩ := q
    refine ⟨Gr.refl _, xs[i], List.getElem?_eq_getElem hi, ?_⟩
    obtain ⟨v, e1, e2⟩ := DRs.at hD (List.getElem?_eq_getElem hi)
    have := q vs hL.sq
    rw [e1] at this
    cases this
    exact e2

theorem itr_str {φ1 : Num} {st1 : Store} {H1 : Hp} {x : Str} : ItR X T φ1 st1 H1 (x.cps.toList.map fun c => .str ⟨#[c]⟩) (Its x) := by
  intro i φ st H s r
  have hl : (x.cps.toList.map fun c => PyData.str ⟨#[c]⟩).length = x.cps.size := by simp
  refine ⟨fun hi => ⟨by rw [hl] at hi; exact hi, fun u H' q => ?_⟩, fun hi => by rw [hl] at hi; exact hi⟩
  obtain ⟨rfl, c, hc, rfl⟩ := q
  refine ⟨Gr.refl _, .str ⟨#[c]⟩, ?_, rfl⟩
  rw [List.getElem?_map, Array.getElem?_toList, hc]
  rfl
theorem seqD_some {x : PyData} {xs : List PyData} (h : seqD x = some xs) : x = .list xs ∨ x = .tuple xs ∨ ∃ s : Str, x = .str s ∧ xs = s.cps.toList.map fun c => .str ⟨#[c]⟩ := by
  cases x with
  | list ys => cases h; exact .inl rfl
  | tuple ys => cases h; exact .inr (.inl rfl)
  | str s => cases h; exact .inr (.inr ⟨s, rfl, rfl⟩)
  | none => cases h
  | bool _ => cases h
  | int _ => cases h
  | dict _ => cases h
theorem dataOf_some {v : Val} {x : PyData} (h : dataOf v = some x) : v = .d x := by
  cases v with
  | d y => cases h; rfl
  | box n => cases h
theorem I_seq {tg e : Expr} {m : EM} (h : E X T W e m) : I X T W tg e (iSeq m) := by
  refine ⟨PI.imp (PI.or (pi_list h.run) (PI.or (pi_tup h.run) (pi_str h.run))) ?_⟩
  rintro σ H Rr ⟨φ, sl, st, h0, h⟩
  have h' : IPost X T W φ st H Rr ((m sl st).bind fun v st1 => R.opt ((dataOf v).bind seqD) st1) := h
  cases em : m sl st with
  | exn c st1 =>
    rw [em] at h'
    exact .inl ⟨φ, sl, st, h0, by rw [em]; exact h'⟩
  | stuck => rw [em] at h'; exact h'.elim
  | ok v st1 =>
    have h2 := h'
    rw [em] at h2
    cases ex : (dataOf v).bind seqD with
    | none => simp only [R.bind_ok, ex, R.opt_none] at h2; exact h2.elim
    | some xs =>
      obtain ⟨x, e1, e2⟩ := Option.bind_eq_some_iff.mp ex
      rw [dataOf_some e1] at em
      have go : ∀ φ1 H1 J, Stp φ st H φ1 st1 H1 → StR X.K X.mg T φ1 st1 H1 → ItR X T φ1 st1 H1 xs J → Rr J H1 := by
        simp only [R.bind_ok, ex, R.opt_some] at h2
        exact h2
      rcases seqD_some e2 with rfl | rfl | ⟨s, rfl, rfl⟩
      · refine .inl ⟨φ, sl, st, h0, ?_⟩
        rw [em]
        intro φ1 H1 u s1 r1 v1
        obtain ⟨a, vs, rfl, d1, d2⟩ := v1
        exact ⟨a, rfl, ⟨vs, d1.sq⟩, go φ1 H1 _ s1 r1 (itr_list d1 d2)⟩
      · refine .inr (.inl ⟨φ, sl, st, h0, ?_⟩)
        rw [em]
        intro φ1 H1 u s1 r1 v1
        obtain ⟨a, vs, rfl, d1, d2⟩ := v1
        exact ⟨a, rfl, ⟨vs, d1.sq⟩, go φ1 H1 _ s1 r1 (itr_tup d1 d2)⟩
      · refine .inr (.inr ⟨φ, sl, st, h0, ?_⟩)
        rw [em]
        intro φ1 H1 u s1 r1 v1
        rw [show u = _ from v1]
        exact ⟨s, rfl, go φ1 H1 _ s1 r1 itr_str⟩
/-! ### for -/
theorem forL_cons (tg : Tg) (b : SM) (x : PyData) (xs : List PyData) (sl : Slots) (st : Store) : forL tg b (x :: xs) sl st = SR.opt (tg.put x sl) fun sl1 => turnS (b sl1 st) (forL tg b xs) := by
  rw [forL]
  cases tg.put x sl with
  | none => rfl
  | some sl1 => rfl
/-- the loop's reading, from an iterator that hands out xs -/
theorem for_read {φ : Num} {sl : Slots} {st : Store} {σ : L2.St} {H : Hp} {D : Ends} {tg : Tg} {m : SM} {xs : List PyData} {J : It} (h0 : At X.K X.mg T φ sl st σ H) (hJ : ItR X T φ st H xs J) (h : SPost X.K X.mg T W φ st H D (forL tg m xs sl st)) :
    ∃ W' : Nat → Nat → L2.St → Hp → Prop, (∃ n, W' 0 n σ H) ∧ ∀ i n σ H, W' i n σ H →
      (J.stop i H ∧ D.nx σ H) ∨ (J.go i H ∧ ∃ N : L2.St → Hp → Prop, (∀ σ' H', N σ' H' → ∃ n', n' < n ∧ W' (i + 1) n' σ' H') ∧ ∀ x H', J.yld i H x H' → tG X T W tg x σ H' fun σ2 H2 => tS X T W m { D with nx := N, ct := N, bk := D.nx } σ2 H2) := by
  refine ⟨fun i n σ' H' => n = xs.length - i ∧ i ≤ xs.length ∧ ∃ φ' sl' st', At X.K X.mg T φ' sl' st' σ' H' ∧ Stp φ st H φ' st' H' ∧ SPost X.K X.mg T W φ' st' H' D (forL tg m (xs.drop i) sl' st'), ⟨xs.length, rfl, Nat.zero_le _, φ, sl, st, h0, .refl, h⟩, ?_⟩
  rintro i n σ1 H1 ⟨rfl, hi, φ1, sl1, st1, a1, s1, p1⟩
  obtain ⟨go, stop⟩ := hJ i φ1 st1 H1 s1 a1.s
  by_cases hl : i < xs.length
  · obtain ⟨g1, g2⟩ := go hl
    rw [List.drop_eq_getElem_cons hl, forL_cons] at p1
    refine .inr ⟨g1, fun σ' H' => ∃ φ' sl' st', At X.K X.mg T φ' sl' st' σ' H' ∧ Stp φ st H φ' st' H' ∧ SPost X.K X.mg T W φ' st' H' D (forL tg m (xs.drop (i + 1)) sl' st'), fun σ' H' q => ⟨xs.length - (i + 1), by omega, rfl, hl, q⟩, fun u H' hy => ?_⟩
    obtain ⟨gr, d, e1, e2⟩ := g2 u H' hy
    rw [List.getElem?_eq_getElem hl] at e1
    cases e1
    cases ep : tg.put xs[i] sl1 with
    | none => rw [ep] at p1; exact p1.elim
    | some sl2 =>
      rw [ep] at p1
      refine ⟨φ1, sl1, st1, xs[i], sl2, ⟨a1.s.gr gr, a1.l.mon gr.step⟩, e2, ep, fun σ2 l2 _ => ⟨φ1, sl2, st1, ⟨a1.s.gr gr, l2⟩, ?_⟩⟩
      have p2 : SPost X.K X.mg T W φ1 st1 H1 D (turnS (m sl2 st1) (forL tg m (xs.drop (i + 1)))) := p1
      have s2 := s1.trans (gr.step (φ := φ1) (st := st1))
      have p3 := SPost.shift (gr.step (φ := φ1) (st := st1)) p2
      revert p3
      cases m sl2 st1 with
      | nx sl3 st3 => exact fun p3 φ3 H3 σ3 s3 r3 l3 => ⟨φ3, sl3, st3, ⟨r3, l3⟩, s2.trans s3, SPost.shift s3 p3⟩
      | rt v st3 => exact fun p3 => p3
      | bk sl3 st3 => exact fun p3 => p3
      | ct sl3 st3 => exact fun p3 φ3 H3 σ3 s3 r3 l3 => ⟨φ3, sl3, st3, ⟨r3, l3⟩, s2.trans s3, SPost.shift s3 p3⟩
      | exn c sl3 st3 => exact fun p3 => p3
      | stuck => exact fun p3 => p3
  · have he : xs.drop i = [] := List.drop_eq_nil_of_le (by omega)
    rw [he] at p1
    exact .inl ⟨stop (by omega), p1 φ1 H1 σ1 .refl a1.s a1.l⟩
theorem S_for {tg iter : Expr} {body : List Stmt} {pos : Pos} {t : Tg} {it : IM} {m : SM} (ci : Cin D k X) (hi : I X T W tg iter it) (hg : G X T W tg t) (hb : Ss X T W body m) (hs : ∀ x, foldedSetIterable iter X.env x = pure x := by intro _; rfl) : S X T W (.For tg iter body [] pos) (sFor t it m) := by
  refine ⟨PS.imp (ps_for ci.po ci.calm hi.run hg.run hb.run hs) ?_⟩
  rintro D σ H ⟨φ, sl, st, h0, h⟩
  refine ⟨φ, sl, st, h0, ?_⟩
  have h' : SPost X.K X.mg T W φ st H D (aS (it sl st) sl fun xs st1 => forL t m xs sl st1) := h
  cases em : it sl st with
  | exn c st1 => rw [em] at h'; exact fun φ' H' C s1 r1 hc => h' φ' H' σ C s1 r1 (h0.l.mon s1) hc
  | stuck => rw [em] at h'; exact h'
  | ok xs st1 =>
    rw [em] at h'
    intro φ1 H1 J s1 r1 hJ
    exact for_read ⟨r1, h0.l.mon s1⟩ hJ (SPost.shift s1 h')

/-! ### comprehensions -/
structure Ets (X : Cx) (T : List Tb) (W : XK) (ifs : List Expr) (m : TM) : Prop where
  run : PTs X ifs (tT X T W m)
theorem PTs.imp {X : Cx} {e : List Expr} {t t' : TT} (h : PTs X e t) (i : ∀ σ H Q, t' σ H Q → t σ H Q) : PTs X e t' := ⟨fun p s σ H Q I q => h.run p s σ H Q I (i σ H Q q)⟩
theorem Ets_nil : Ets X T W [] TL.tYes := ⟨PTs.imp pts_nil fun σ H Q ⟨φ, sl, st, h0, h⟩ => h φ H .refl h0.s⟩
theorem Ets_one {c : Expr} {m : TM} (h : Et X T W c m) : Ets X T W [c] m := ⟨pts_one h.run⟩
theorem wipe_at (σ : L2.St) : ∀ (vs : List Nat) (j : Nat), (wipe σ vs)[j]? = if j ∈ vs then (if j < σ.length then some none else none) else σ[j]?
  | [], j => by simp [wipe]
  | v :: vs, j => by
    rw [wipe, List.getElem?_set]
    by_cases h : v = j
    · subst h
      rw [if_pos rfl, wipe_length]
      simp
    · rw [if_neg h, wipe_at σ vs j]
      simp [Ne.symm h]
theorem wipe_apart {σ σ' : L2.St} {is vs : List Nat} (h : Apart is (wipe σ vs) σ') (hs : ∀ i ∈ is, i ∈ vs) : wipe σ' vs = wipe σ vs := by
  apply List.ext_getElem?
  intro j
  rw [wipe_at, wipe_at]
  have hl := h.1
  rw [wipe_length] at hl
  by_cases hj : j ∈ vs
  · rw [if_pos hj, if_pos hj, hl]
  · rw [if_neg hj, if_neg hj, h.2 j (fun z => hj (hs j z)), wipe_at, if_neg hj]
theorem SlR.wipe {K : PySem.W.Frag} {φ : Num} {st : Store} {H : Hp} {sl : Slots} {σ : L2.St} (h : SlR K φ st H sl σ) : ∀ vs : List Nat, SlR K φ st H (wipeS sl vs) (L2.wipe σ vs)
  | [] => h
  | v :: vs => by
    have ih := SlR.wipe h vs
    refine ⟨by rw [wipeS, L2.wipe, List.length_set, List.length_set, ih.1], fun j w e => ?_⟩
    rw [wipeS, List.getElem?_set] at e
    rw [L2.wipe, List.getElem?_set]
    by_cases hv : v = j
    · rw [if_pos hv] at e
      split at e <;> cases e
    · rw [if_neg hv] at e ⊢
      exact ih.2 j w e
theorem compL_ok {tg : Tg} {c : TM} {e : EM} {sl : Slots} {x : PyData} {xs ys : List PyData} {st st2 : Store} (h : compL tg c e sl (x :: xs) st = .ok ys st2) :
    ∃ sl1 b st3, tg.put x sl = some sl1 ∧ c sl1 st = .ok b st3 ∧ ((b = true ∧ ∃ y st4 zs, e sl1 st3 = .ok (.d y) st4 ∧ compL tg c e sl xs st4 = .ok zs st2 ∧ ys = y :: zs) ∨ (b = false ∧ compL tg c e sl xs st3 = .ok ys st2)) := by
  rw [compL] at h
  cases e1 : tg.put x sl with
  | none => rw [e1] at h; cases h
  | some sl1 =>
    rw [e1] at h
    cases e2 : c sl1 st with
    | exn _ _ => simp only [e2, R.bind_exn] at h; cases h
    | stuck => simp only [e2, R.bind_stuck] at h; cases h
    | ok b st3 =>
      simp only [e2, R.bind_ok] at h
      refine ⟨sl1, b, st3, rfl, e2, ?_⟩
      cases b with
      | false => exact .inr ⟨rfl, h⟩
      | true =>
        refine .inl ⟨rfl, ?_⟩
        simp only [cond_true] at h
        cases e3 : e sl1 st3 with
        | exn _ _ => rw [e3] at h; cases h
        | stuck => rw [e3] at h; cases h
        | ok v st4 =>
          rw [e3] at h
          cases v with
          | box _ => cases h
          | d y =>
            simp only [R.bind_ok] at h
            cases e4 : compL tg c e sl xs st4 with
            | exn _ _ => rw [e4] at h; cases h
            | stuck => rw [e4] at h; cases h
            | ok zs st5 => rw [e4] at h; cases h; exact ⟨y, st4, zs, rfl, e4, rfl⟩
theorem compR_ok {own : List Nat} {tg : Tg} {c : TM} {e : EM} {sl : Slots} {xs : List PyData} {st : Store} {P : R Val → Prop} (hs : ¬ P .stuck) (h : P (compR own tg c e sl xs st)) : ∃ ys st2, compL tg c e (wipeS sl own) xs st = .ok ys st2 ∧ ys.length ≤ lineN ∧ P (.ok (.d (.list ys)) st2) := by
  unfold compR at h
  cases e1 : compL tg c e (wipeS sl own) xs st with
  | exn _ _ => rw [e1] at h; exact absurd h hs
  | stuck => rw [e1] at h; exact absurd h hs
  | ok ys st2 =>
    rw [e1] at h
    have h' : P (R.opt ((pLst ys).map .d) st2) := h
    unfold pLst at h'
    split at h'
    · rename_i hl
      exact ⟨ys, st2, rfl, hl, h'⟩
    · exact absurd h' hs
abbrev W0 : XK := fun _ _ _ => False
/-- the reading of a comprehension, from an iterator that hands out xs -/
theorem comp_read {own : List Nat} {t : Tg} {c : TM} {e : EM} {φ : Num} {sl : Slots} {st : Store} {σ : L2.St} {H : Hp} {Q : VK} {xs : List PyData} {J : It} (hix : ∀ i ∈ t.ix, i ∈ own) (h0 : At X.K X.mg T φ sl st σ H) (hJ : ItR X T φ st H xs J)
    (h : EPost X.K X.mg T W φ st H Q (compR own t c e sl xs st)) :
    ∀ D, H D = none → ∃ W' : Nat → Nat → Hp → Prop, (∃ n, W' 0 n (upd H D (.lst []))) ∧ ∀ i n H, W' i n H →
      (J.stop i H ∧ Q (.ref D) H) ∨ (J.go i H ∧ ∃ Nx : Hp → Prop, (∀ H', Nx H' → ∃ n', n' < n ∧ W' (i + 1) n' H') ∧ ∀ x H', J.yld i H x H' → tG X T W0 t x (wipe σ own) H' fun σ2 H2 => wipe σ2 own = wipe σ own ∧ tT X T W0 c σ2 H2 fun b H3 =>
        if b = true then tE X T W0 e σ2 H3 fun y H4 => ∃ acc, H4 D = some (.lst acc) ∧ acc.length < sizeLine ∧ Nx (upd H4 D (.lst (acc ++ [y]))) else Nx H3) := by
  intro D hD
  obtain ⟨ys0, st0, hr, hl, hp⟩ := compR_ok (P := EPost X.K X.mg T W φ st H Q) (fun z => z) h
  have g0 : Gr H (upd H D (.lst [])) := Gr.upd hD
  have dn : ¬ Live φ st D := not_live h0.s hD
  have npD : ¬ φ.av D := fun l => h0.s.avne l hD
  refine ⟨fun i n H' => n = xs.length - i ∧ i ≤ xs.length ∧ ∃ (φ' : Num) (st' : Store) (acc : List PyData) (vacc : List V) (ys : List PyData), φ'.av D ∧ StR X.K X.mg T φ' st' H' ∧ Stp φ st H φ' st' H' ∧ H' D = some (.lst vacc) ∧ DRs X.K (Av φ' st') H' acc vacc ∧
    compL t c e (wipeS sl own) (xs.drop i) st' = .ok ys st0 ∧ acc ++ ys = ys0, ⟨xs.length, rfl, Nat.zero_le _, φ.hide D, st, [], [], ys0, .inr rfl, h0.s.hide hD, .hide hD, upd_same, rfl, hr, rfl⟩, ?_⟩
  rintro i n H1 ⟨rfl, hi, φ1, st1, acc, vacc, ys, avD, r1, s1, e1, d1, c1, rfl⟩
  have nl : ¬ Live φ1 st1 D := fun l => (r1.av D avD).2 l.mem
  obtain ⟨go, stop⟩ := hJ i φ1 st1 H1 s1 r1
  by_cases hlt : i < xs.length
  · obtain ⟨g1, g2⟩ := go hlt
    rw [List.drop_eq_getElem_cons hlt] at c1
    obtain ⟨sl1, b, st3, k1, k2, k3⟩ := compL_ok c1
    refine .inr ⟨g1, fun H' => ∃ (φ' : Num) (st' : Store) (acc' : List PyData) (vacc' : List V) (ys' : List PyData), φ'.av D ∧ StR X.K X.mg T φ' st' H' ∧ Stp φ st H φ' st' H' ∧ H' D = some (.lst vacc') ∧ DRs X.K (Av φ' st') H' acc' vacc' ∧
      compL t c e (wipeS sl own) (xs.drop (i + 1)) st' = .ok ys' st0 ∧ acc' ++ ys' = acc ++ ys, fun H' q => ⟨xs.length - (i + 1), by omega, rfl, hlt, q⟩, fun u H' hy => ?_⟩
    obtain ⟨gr, d, q1, q2⟩ := g2 u H' hy
    rw [List.getElem?_eq_getElem hlt] at q1
    cases q1
    have r2 := r1.gr gr
    have s2 : Stp φ st H φ1 st1 H' := s1.trans gr.step
    have l2 : SlR X.K φ1 st1 H' (wipeS sl own) (L2.wipe σ own) := (h0.l.mon s2).wipe own
    refine ⟨φ1, wipeS sl own, st1, xs[i], sl1, ⟨r2, l2⟩, q2, k1, fun σ2 l3 ap => ⟨wipe_apart ap hix, φ1, sl1, st1, ⟨r2, l3⟩, ?_⟩⟩
    rw [k2]
    intro φ3 H3 s3 r3
    have stay : ∀ {φa φb : Num} {sa sb : Store} {Ha Hb : Hp} {v : List V}, Stp φa sa Ha φb sb Hb → Ha D = some (.lst v) → ¬ Live φa sa D → Hb D = some (.lst v) := fun s q n => by
      rcases s.keep D _ q n rfl with z | ⟨z, _⟩
      · exact z
      · cases z
    have e3 : H3 D = some (.lst vacc) := stay s3 (gr _ _ e1) nl
    have av3 : φ3.av D := s3.av.1 D avD
    have nl3 : ¬ Live φ3 st3 D := fun l => (r3.av D av3).2 l.mem
    have d3 : DRs X.K (Av φ3 st3) H3 acc vacc := DRs.mon ((gr.step (φ := φ1) (st := st1)).trans s3).mon _ _ d1
    rcases k3 with ⟨rfl, y, st4, zs, k4, k5, rfl⟩ | ⟨rfl, k5⟩
    · rw [if_pos rfl]
      refine ⟨φ3, sl1, st3, ⟨r3, l3.mon s3⟩, ?_⟩
      rw [k4]
      intro φ4 H4 w s4 r4 v4
      have e4 : H4 D = some (.lst vacc) := stay s4 e3 nl3
      have av4 : φ4.av D := s4.av.1 D av3
      have d4 : DRs X.K (Av φ4 st4) H4 acc vacc := DRs.mon s4.mon _ _ d3
      have hla : vacc.length < sizeLine := by
        rw [d3.length]
        rw [List.length_append, List.length_cons, lineN_eq] at hl
        omega
      refine ⟨vacc, e4, hla, φ4, st4, acc ++ [y], vacc ++ [w], zs, av4, r4.poke av4 e4, (s2.trans (s3.trans s4)).poke hD, upd_same, ?_, k5, by rw [List.append_assoc]; rfl⟩
      exact DRs.append (DRs.mon (mon_poke av4) _ _ d4) (.one (DR.mon (mon_poke av4) _ _ v4))
    · rw [if_neg (by decide)]
      exact ⟨φ3, st3, acc, vacc, ys, av3, r3, s2.trans s3, e3, d3, k5, rfl⟩
  · have he : xs.drop i = [] := List.drop_eq_nil_of_le (by omega)
    rw [he] at c1
    cases c1
    rw [List.append_nil] at hp
    have le : ∀ a, φ1.av a ∧ a ≠ D → φ1.av a := fun a q => q.1
    refine .inl ⟨stop (by omega), hp (φ1.bare D) H1 (.ref D) (s1.bare hD npD) (r1.less le) ⟨D, vacc, rfl, .inl ⟨.inl e1, ?_⟩, DRs.mon (mon_less le) _ _ d1⟩⟩
    exact fun l => l.elim (fun l => nl l) fun l => l.2 rfl
end
end TL
end

section
set_option Elab.async false
set_option linter.all false
set_option maxRecDepth 100000
set_option autoImplicit false
/-! TL7: comprehensions as rules; ranges, enumerate, zip; dicts walked. -/
namespace TL
open PySem L2
def DI.blk (D : DI) (scope : Scope) : DI := ⟨D.N, relS scope D.sc, scope.names.filterMap fun p => if scope.names.lookup p.1 = some .cell then some p.1 else none⟩
section
variable {D : DI} {k : Nat} {X : Cx} {T : List Tb} {W : XK}
theorem Cin.blk (c : Cin D k X) (s : Shared) (H : Hp) (scope : Scope) (cl : List (Str × Addr)) (C : Addr) (fp : List Addr) : Cin (D.blk scope) k (X.blk s H scope (compEnvC scope cl C X.env) fp) where
  N := c.N
  sc := by
    show relS scope X.env.scope = relS scope D.sc
    rw [c.sc]
  nd := c.nd
  room := c.room
  calm := c.calm
  fn := fun x hx => by
    obtain ⟨p, _, e⟩ := List.mem_filterMap.mp hx
    split at e
    · rename_i h
      cases e
      show (scope.names.lookup p.1 == some .cell) = true
      rw [h]
      exact beq_self_eq_true _
    · cases e
  po := PassesOwn.never
theorem takesW0 {X : Cx} : Takes X (fun c d _ H => W0 c d H) := fun _ _ x => by
  obtain ⟨_, _, _, _, _, _, _, _, _, _, _, _, _, _, _, _, z⟩ := x
  exact z.elim
theorem comp_tI {own : List Nat} {t : Tg} {it : IM} {c : TM} {e : EM} {σ : L2.St} {H : Hp} {Q : VK} (hix : ∀ i ∈ t.ix, i ∈ own) (h : tE X T W (mComp own t it c e) σ H Q) :
    tLc (tI X T W it) (tG X T W0 t) (tT X T W0 c) (tE X T W0 e) own σ H Q := by
  obtain ⟨φ, sl, st, h0, h⟩ := h
  refine ⟨φ, sl, st, h0, ?_⟩
  have h' : EPost X.K X.mg T W φ st H Q ((it sl st).bind fun xs st1 => compR own t c e sl xs st1) := h
  cases em : it sl st with
  | exn c st1 => rw [em] at h'; exact h'
  | stuck => rw [em] at h'; exact h'
  | ok xs st1 =>
    rw [em] at h'
    intro φ1 H1 J s1 r1 hJ
    exact comp_read hix ⟨r1, h0.l.mon s1⟩ hJ (EPost.shift s1 h')
theorem E_comp {own : List (Str × Nat)} {tg iter elt : Expr} {ifs : List Expr} {scope : Scope} {pos : Pos} {t : Tg} {it : IM} {c : TM} {m : EM} (ci : Cin D k X) (hok : blkC D.N D.sc scope own = true) (hix : ∀ i ∈ t.ix, i ∈ own.map (·.2)) (hi : I X T W tg iter it)
    (hg : ∀ (s : Shared) (H : Hp) (C : Addr) (cl : List (Str × Addr)) (fp : List Addr), Cin (D.blk scope) k (X.blk s H scope (compEnvC scope cl C X.env) fp) → G (X.blk s H scope (compEnvC scope cl C X.env) fp) T W0 tg t)
    (ht : ∀ (s : Shared) (H : Hp) (C : Addr) (cl : List (Str × Addr)) (fp : List Addr), Cin (D.blk scope) k (X.blk s H scope (compEnvC scope cl C X.env) fp) → Ets (X.blk s H scope (compEnvC scope cl C X.env) fp) T W0 ifs c)
    (he : ∀ (s : Shared) (H : Hp) (C : Addr) (cl : List (Str × Addr)) (fp : List Addr), Cin (D.blk scope) k (X.blk s H scope (compEnvC scope cl C X.env) fp) → E (X.blk s H scope (compEnvC scope cl C X.env) fp) T W0 elt m)
    (hs : ∀ x, foldedSetIterable iter X.env x = pure x := by intro _; rfl) : E X T W (.ListComp elt [⟨tg, iter, ifs, 0⟩] scope pos) (mComp (own.map (·.2)) t it c m) := by
  have ok : BlkOk X.N X.env.scope scope own := by rw [ci.N, ci.sc]; exact blkOk_by hok
  exact ⟨PE.imp (pe_lc (g := tG X T W0 t) (tt := tT X T W0 c) (te := tE X T W0 m) ci.calm ci.nd hi.run ok (fun s H C cl fp => (hg s H C cl fp (ci.blk s H scope cl C fp)).run) (fun s H C cl fp => (ht s H C cl fp (ci.blk s H scope cl C fp)).run) (fun s H C cl fp => (he s H C cl fp (ci.blk s H scope cl C fp)).run) hs) fun _ _ _ q => comp_tI hix q⟩
theorem S_comp {own : List (Str × Nat)} {i : Nat} {y : Str} {py : Pos} {tg iter elt : Expr} {ifs : List Expr} {scope : Scope} {pos spos : Pos} {t : Tg} {it : IM} {c : TM} {m : EM} (ci : Cin D k X) (hy : D.s i y = true) (hyl : D.sc.names.lookup y = some .local)
    (hsw : swapsWith (.ListComp elt [⟨tg, iter, ifs, 0⟩] scope pos) (some (.Name y py)) spos.line X.env = pure true) (hok : blkC D.N D.sc scope own = true) (hix : ∀ i ∈ t.ix, i ∈ own.map (·.2)) (hi : I X T W tg iter it)
    (hg : ∀ (s : Shared) (H : Hp) (C : Addr) (cl : List (Str × Addr)) (fp : List Addr), Cin (D.blk scope) k (X.blk s H scope (compEnvC scope cl C X.env) fp) → G (X.blk s H scope (compEnvC scope cl C X.env) fp) T W0 tg t)
    (ht : ∀ (s : Shared) (H : Hp) (C : Addr) (cl : List (Str × Addr)) (fp : List Addr), Cin (D.blk scope) k (X.blk s H scope (compEnvC scope cl C X.env) fp) → Ets (X.blk s H scope (compEnvC scope cl C X.env) fp) T W0 ifs c)
    (he : ∀ (s : Shared) (H : Hp) (C : Addr) (cl : List (Str × Addr)) (fp : List Addr), Cin (D.blk scope) k (X.blk s H scope (compEnvC scope cl C X.env) fp) → E (X.blk s H scope (compEnvC scope cl C X.env) fp) T W0 elt m)
    (hs : ∀ x, foldedSetIterable iter X.env x = pure x := by intro _; rfl) : S X T W (.Assign [.Name y py] (.ListComp elt [⟨tg, iter, ifs, 0⟩] scope pos) spos) (sSet i (mComp (own.map (·.2)) t it c m)) := by
  have ok : BlkOk X.N X.env.scope scope own := by rw [ci.N, ci.sc]; exact blkOk_by hok
  obtain ⟨h1, h2, h3⟩ := ci.put hy
  refine ⟨PS.imp (ps_setLc (g := tG X T W0 t) (tt := tT X T W0 c) (te := tE X T W0 m) ci.calm ci.nd h1 (by rw [ci.sc]; exact hyl) hsw hi.run ok (fun s H C cl fp => (hg s H C cl fp (ci.blk s H scope cl C fp)).run) (fun s H C cl fp => (ht s H C cl fp (ci.blk s H scope cl C fp)).run) (fun s H C cl fp => (he s H C cl fp (ci.blk s H scope cl C fp)).run) hs) ?_⟩
  rintro D' σ H ⟨φ, sl, st, h0, h⟩
  have q : tE X T W (mComp (own.map (·.2)) t it c m) σ H fun u H1 => ∃ φ1 st1 v, At X.K X.mg T φ1 sl st1 σ H1 ∧ VR X.K φ1 st1 H1 v u ∧ Stp φ st H φ1 st1 H1 ∧ SPost X.K X.mg T W φ1 st1 H1 D' (.nx (sl.set i (some v)) st1) := tE_bindS h0 h
  refine comp_tI hix (q.mono fun u H1 ⟨φ1, st1, v, a1, v1, s1, p1⟩ => p1 φ1 H1 _ .refl a1.s (a1.l.set v1))

/-! ### ranges, enumerate, zip -/
theorem itr_range {φ1 : Num} {st1 : Store} {H1 : Hp} {lo c : Int} {n : Nat} : ItR X T φ1 st1 H1 (rangeN lo c n) (Itc lo c n) := by
  intro i φ st H s r
  have hl : (rangeN lo c n).length = n := by simp [rangeN]
  refine ⟨fun hi => ⟨by rw [hl] at hi; exact hi, fun u H' q => ?_⟩, fun hi => by rw [hl] at hi; exact hi⟩
  obtain ⟨rfl, rfl⟩ := q
  rw [hl] at hi
  refine ⟨Gr.refl _, .int (lo + (i : Nat) * c), ?_, rfl⟩
  unfold rangeN
  rw [List.getElem?_map, List.getElem?_range hi]
  rfl
theorem itr_range1 {φ1 : Num} {st1 : Store} {H1 : Hp} {lo : Int} {n : Nat} : ItR X T φ1 st1 H1 (rangeN lo 1 n) (Itr lo n) := by
  intro i φ st H s r
  have hl : (rangeN lo 1 n).length = n := by simp [rangeN]
  refine ⟨fun hi => ⟨by rw [hl] at hi; exact hi, fun u H' q => ?_⟩, fun hi => by rw [hl] at hi; exact hi⟩
  obtain ⟨rfl, rfl⟩ := q
  rw [hl] at hi
  refine ⟨Gr.refl _, .int (lo + i), ?_, rfl⟩
  unfold rangeN
  rw [List.getElem?_map, List.getElem?_range hi]
  show some (PyData.int (lo + (i : Int) * 1)) = _
  rw [Int.mul_one]
theorem datas_some {vs : List Val} {xs : List PyData} (h : datas vs = some xs) : vs = xs.map .d := by
  induction vs generalizing xs with
  | nil => cases h; rfl
  | cons v vs ih =>
    cases v with
    | box _ => cases h
    | d x =>
      obtain ⟨ys, e, rfl⟩ := Option.map_eq_some_iff.mp (show (datas vs).map (x :: ·) = some xs from h)
      rw [ih e]
      rfl
/-- the arguments' data at hand -/
theorem args_I {f : List PyData → Option (List PyData)} {m : AM} {σ : L2.St} {H : Hp} {Q : It → Hp → Prop} (h : tI X T W (iPn f m) σ H Q) :
    tA X T W m σ H fun us H1 => ∃ φ1 st1 as xs, StR X.K X.mg T φ1 st1 H1 ∧ DRs X.K (Av φ1 st1) H1 as us ∧ f as = some xs ∧ ∀ φ2 H2 J, Stp φ1 st1 H1 φ2 st1 H2 → StR X.K X.mg T φ2 st1 H2 → ItR X T φ2 st1 H2 xs J → Q J H2 := by
  obtain ⟨φ, sl, st, h0, h⟩ := h
  refine (tA_bindI h0 h).mono fun us H1 ⟨φ1, st1, vs, a1, v1, s1, p1⟩ => ?_
  cases ex : (datas vs).bind f with
  | none => simp only [ex, R.opt_none] at p1; exact p1.elim
  | some xs =>
    obtain ⟨as, e1, e2⟩ := Option.bind_eq_some_iff.mp ex
    simp only [ex, R.opt_some] at p1
    exact ⟨φ1, st1, as, xs, a1.s, datas_rel v1 e1, e2, p1⟩
theorem small_iff {i : Int} (h : smallI i = true) : -(2 ^ 62) ≤ i ∧ i < 2 ^ 62 := by
  unfold smallI at h
  simpa using h
theorem pRange1_some {as xs : List PyData} (h : pRange1 as = some xs) : ∃ j, as = [.int j] ∧ smallI j = true ∧ xs = rangeN 0 1 j.toNat := by
  unfold pRange1 at h
  split at h
  · rename_i j
    by_cases hs : smallI j = true
    · rw [if_pos hs] at h
      exact ⟨j, rfl, hs, (Option.some.inj h).symm⟩
    · rw [if_neg hs] at h
      cases h
  · cases h
theorem pRange2_some {as xs : List PyData} (h : pRange2 as = some xs) : ∃ i j, as = [.int i, .int j] ∧ smallI i = true ∧ smallI j = true ∧ xs = rangeN i 1 (j - i).toNat := by
  unfold pRange2 at h
  split at h
  · rename_i i j
    by_cases hs : (smallI i && smallI j) = true
    · rw [if_pos hs] at h
      rw [Bool.and_eq_true] at hs
      exact ⟨i, j, rfl, hs.1, hs.2, (Option.some.inj h).symm⟩
    · rw [if_neg hs] at h
      cases h
  · cases h
theorem pRange3_some {as xs : List PyData} (h : pRange3 as = some xs) : ∃ i j k, as = [.int i, .int j, .int k] ∧ (k ≠ 0 ∧ k.natAbs < 1073741824 ∧ Builtin.Range.small i j k = true) ∧ xs = rangeN i k (Builtin.Range.rangeSize i j k).toNat := by
  unfold pRange3 at h
  split at h
  · rename_i i j k
    by_cases hs : k ≠ 0 ∧ k.natAbs < 1073741824 ∧ Builtin.Range.small i j k = true
    · rw [if_pos hs] at h
      exact ⟨i, j, k, rfl, hs, (Option.some.inj h).symm⟩
    · rw [if_neg hs] at h
      cases h
  · cases h
theorem pEnum_some {as xs : List PyData} (h : pEnum as = some xs) : ∃ ys, as = [.list ys] ∧ xs = enumL 0 ys := by
  unfold pEnum at h
  split at h
  · exact ⟨_, rfl, (Option.some.inj h).symm⟩
  · cases h
theorem pZip_some {as xs : List PyData} (h : pZip as = some xs) : ∃ ys zs, as = [.list ys, .list zs] ∧ xs = zipL ys zs := by
  unfold pZip at h
  split at h
  · exact ⟨_, _, rfl, (Option.some.inj h).symm⟩
  · cases h
theorem drs_ints1 {K : PySem.W.Frag} {O : Addr → Prop} {H : Hp} {i : Int} {us : List V} (d : DRs K O H [.int i] us) : us = [.int i] := by
  obtain ⟨u, r, e, d, dr⟩ := d
  have h1 : u = V.int i := d
  have h2 : r = [] := dr
  rw [e, h1, h2]
theorem drs_ints2 {K : PySem.W.Frag} {O : Addr → Prop} {H : Hp} {i j : Int} {us : List V} (d : DRs K O H [.int i, .int j] us) : us = [.int i, .int j] := by
  obtain ⟨u, r, e, d, dr⟩ := d
  have h1 : u = V.int i := d
  rw [e, h1, drs_ints1 dr]
theorem drs_ints3 {K : PySem.W.Frag} {O : Addr → Prop} {H : Hp} {i j k : Int} {us : List V} (d : DRs K O H [.int i, .int j, .int k] us) : us = [.int i, .int j, .int k] := by
  obtain ⟨u, r, e, d, dr⟩ := d
  have h1 : u = V.int i := d
  rw [e, h1, drs_ints2 dr]
theorem I_range1 {tg a : Expr} {p pos : Pos} {m : AM} (c : Cin D k X) (hg : D.g "range" = true) (hm : X.mg "range" = none) (h : Ea X T W [a] m) (hs : starEach [a] X.env = [(false, eval a X.env)] := by rfl) : I X T W tg (.Call (.Name "range" p) [a] [] pos) (iPn pRange1 m) := by
  refine ⟨PI.imp (pi_range1 (c.gl hg).1 hm h.run hs) fun σ H Q q => ?_⟩
  refine (args_I q).mono fun us H1 ⟨φ1, st1, as, xs, r1, d1, e1, go⟩ => ?_
  obtain ⟨j, rfl, hs, rfl⟩ := pRange1_some e1
  obtain ⟨b1, b2⟩ := small_iff hs
  exact ⟨j, drs_ints1 d1, b1, b2, go φ1 H1 _ .refl r1 itr_range1⟩
theorem I_range2 {tg a b : Expr} {p pos : Pos} {m : AM} (c : Cin D k X) (hg : D.g "range" = true) (hm : X.mg "range" = none) (h : Ea X T W [a, b] m) (hs : starEach [a, b] X.env = [(false, eval a X.env), (false, eval b X.env)] := by rfl) (hs2 : starEach [b] X.env = [(false, eval b X.env)] := by rfl) :
    I X T W tg (.Call (.Name "range" p) [a, b] [] pos) (iPn pRange2 m) := by
  refine ⟨PI.imp (pi_range2 (c.gl hg).1 hm h.run hs hs2) fun σ H Q q => ?_⟩
  refine (args_I q).mono fun us H1 ⟨φ1, st1, as, xs, r1, d1, e1, go⟩ => ?_
  obtain ⟨i, j, rfl, hs, hs', rfl⟩ := pRange2_some e1
  obtain ⟨b1, b2⟩ := small_iff hs
  obtain ⟨b3, b4⟩ := small_iff hs'
  exact ⟨i, j, drs_ints2 d1, ⟨b1, b2, b3, b4⟩, go φ1 H1 _ .refl r1 itr_range1⟩
theorem rsize_nonneg (i j k : Int) : 0 ≤ Builtin.Range.rangeSize i j k := by
  unfold Builtin.Range.rangeSize
  split
  · split
    · have : 0 ≤ (j - i - 1) / k := Int.ediv_nonneg (by omega) (by omega)
      omega
    · exact Int.le_refl 0
  · split
    · have : 0 ≤ (i - j - 1) / (-k) := Int.ediv_nonneg (by omega) (by omega)
      omega
    · exact Int.le_refl 0
theorem I_range3 {tg a b d : Expr} {p pos : Pos} {m : AM} (c : Cin D k X) (hg : D.g "range" = true) (hm : X.mg "range" = none) (h : Ea X T W [a, b, d] m)
    (hs : starEach [a, b, d] X.env = (false, eval a X.env) :: starEach [b, d] X.env := by rfl) (hpl : (backTo pos (starEach [b, d] X.env)).any (·.1) = false := by rfl) :
    I X T W tg (.Call (.Name "range" p) [a, b, d] [] pos) (iPn pRange3 m) := by
  refine ⟨PI.imp (pi_range3 (c.gl hg).1 hm h.run hs hpl) fun σ H Q q => ?_⟩
  refine (args_I q).mono fun us H1 ⟨φ1, st1, as, xs, r1, d1, e1, go⟩ => ?_
  obtain ⟨i, j, k, rfl, hs, rfl⟩ := pRange3_some e1
  exact ⟨i, j, k, _, drs_ints3 d1, ⟨hs.1, hs.2.1, hs.2.2, (Int.toNat_of_nonneg (rsize_nonneg i j k)).symm⟩, go φ1 H1 _ .refl r1 itr_range⟩
theorem enumL_at : ∀ (xs : List PyData) (k i : Nat), (enumL k xs)[i]? = (xs[i]?).map fun x => .tuple [.int ((k + i : Nat) : Int), x]
  | [], k, i => by simp [enumL]
  | x :: xs, k, 0 => by simp [enumL]
  | x :: xs, k, i + 1 => by
    rw [enumL, List.getElem?_cons_succ, enumL_at xs (k + 1) i, List.getElem?_cons_succ, show k + 1 + i = k + (i + 1) from by omega]
theorem enumL_len : ∀ (xs : List PyData) (k : Nat), (enumL k xs).length = xs.length
  | [], _ => rfl
  | x :: xs, k => by rw [enumL, List.length_cons, List.length_cons, enumL_len xs]
/-- a new pair handed out -/
theorem dr_pair {φ : Num} {st : Store} {H : Hp} {p : Addr} {u v : V} {x y : PyData} (r : StR X.K X.mg T φ st H) (hp : H p = none) (d1 : DR X.K (Av φ st) H x u) (d2 : DR X.K (Av φ st) H y v) : Gr H (upd H p (.tup [u, v])) ∧ DR X.K (Av φ st) (upd H p (.tup [u, v])) (.tuple [x, y]) (.ref p) := by
  have g := Gr.upd (o := .tup [u, v]) hp
  exact ⟨g, p, [u, v], rfl, .inl ⟨.inl upd_same, not_av r hp⟩, u, [v], rfl, DR.mon (g.step (φ := φ) (st := st)).mon _ _ d1, v, [], rfl, DR.mon (g.step (φ := φ) (st := st)).mon _ _ d2, rfl⟩
theorem itr_enum {φ1 : Num} {st1 : Store} {H1 : Hp} {xs : List PyData} {a : Addr} {vs : List V} (h : ListAt X.K (Av φ1 st1) H1 a vs) (hd : DRs X.K (Av φ1 st1) H1 xs vs) : ItR X T φ1 st1 H1 (enumL 0 xs) (Ite X.K a) := by
  intro i φ st H s r
  have hL := s.mon.list h
  have hD := DRs.mon s.mon _ _ hd
  refine ⟨fun hi => ?_, fun hi => ⟨vs, hL.sq, by rw [hD.length]; rw [enumL_len] at hi; exact hi⟩⟩
  rw [enumL_len] at hi
  have hv : i < vs.length := by rw [hD.length]; exact hi
  refine ⟨⟨vs, vs[i], hL.sq, List.getElem?_eq_getElem hv⟩, fun u H' q => ?_⟩
  obtain ⟨p, x, rfl, hp, rfl, q⟩ := q
  obtain ⟨v, e1, e2⟩ := DRs.at hD (List.getElem?_eq_getElem hi)
  have e3 := q vs hL.sq
  rw [e1] at e3
  cases e3
  obtain ⟨g, dd⟩ := dr_pair r hp (x := .int ((0 + i : Nat) : Int)) (u := .int (i : Nat)) (show V.int _ = V.int _ by rw [Nat.zero_add]) e2
  exact ⟨g, _, by rw [enumL_at, List.getElem?_eq_getElem hi]; rfl, dd⟩
theorem I_enum {e : Expr} {es : List Expr} {kk : Nat} {p pos tpos : Pos} {m : AM} (c : Cin D k X) (hg : D.g "enumerate" = true) (hm : X.mg "enumerate" = none) (h : Ea X T W [e] m) (hs : starEach [e] X.env = [(false, eval e X.env)] := by rfl) :
    I X T W (.Tuple es kk tpos) (.Call (.Name "enumerate" p) [e] [] pos) (iPn pEnum m) := by
  refine ⟨PI.imp (pi_enum (c.gl hg).1 hm h.run hs) fun σ H Q q => ?_⟩
  refine (args_I q).mono fun us H1 ⟨φ1, st1, as, xs, r1, d1, e1, go⟩ => ?_
  obtain ⟨ys, rfl, rfl⟩ := pEnum_some e1
  obtain ⟨u, r, rfl, ⟨a, vs, rfl, d2, d3⟩, dr⟩ := d1
  have dr : r = [] := dr
  subst dr
  exact ⟨a, vs, rfl, d2.sq, go φ1 H1 _ .refl r1 (itr_enum d2 d3)⟩
theorem zipL_at : ∀ (xs ys : List PyData) (i : Nat) (x y : PyData), xs[i]? = some x → ys[i]? = some y → (zipL xs ys)[i]? = some (.tuple [x, y])
  | [], _, _, _, _, h, _ => by simp at h
  | _ :: _, [], _, _, _, _, h => by simp at h
  | x :: xs, y :: ys, 0, a, b, h1, h2 => by simp at h1 h2; subst h1 h2; rfl
  | x :: xs, y :: ys, i + 1, a, b, h1, h2 => by
    rw [zipL, List.getElem?_cons_succ]
    exact zipL_at xs ys i a b (by simpa using h1) (by simpa using h2)
theorem zipL_len : ∀ (xs ys : List PyData), (zipL xs ys).length = min xs.length ys.length
  | [], _ => by simp [zipL]
  | _ :: _, [] => by simp [zipL]
  | x :: xs, y :: ys => by rw [zipL, List.length_cons, List.length_cons, List.length_cons, zipL_len xs ys]; omega
theorem itr_zip {φ1 : Num} {st1 : Store} {H1 : Hp} {xs ys : List PyData} {a b : Addr} {vs us : List V} (h : ListAt X.K (Av φ1 st1) H1 a vs) (hd : DRs X.K (Av φ1 st1) H1 xs vs) (h' : ListAt X.K (Av φ1 st1) H1 b us) (hd' : DRs X.K (Av φ1 st1) H1 ys us) : ItR X T φ1 st1 H1 (zipL xs ys) (Itz X.K a b) := by
  intro i φ st H s r
  have hL := s.mon.list h
  have hD := DRs.mon s.mon _ _ hd
  have hL' := s.mon.list h'
  have hD' := DRs.mon s.mon _ _ hd'
  refine ⟨fun hi => ?_, fun hi => ⟨vs, us, hL.sq, hL'.sq, by rw [hD.length, hD'.length]; rw [zipL_len] at hi; omega⟩⟩
  rw [zipL_len] at hi
  have i1 : i < xs.length := by omega
  have i2 : i < ys.length := by omega
  have hv : i < vs.length := by rw [hD.length]; exact i1
  have hv' : i < us.length := by rw [hD'.length]; exact i2
  refine ⟨⟨vs, us, vs[i], us[i], hL.sq, hL'.sq, List.getElem?_eq_getElem hv, List.getElem?_eq_getElem hv'⟩, fun u H' q => ?_⟩
  obtain ⟨p, x, y, rfl, hp, rfl, q, q'⟩ := q
  obtain ⟨v, e1, e2⟩ := DRs.at hD (List.getElem?_eq_getElem i1)
  obtain ⟨v', e1', e2'⟩ := DRs.at hD' (List.getElem?_eq_getElem i2)
  have e3 := q vs hL.sq
  have e3' := q' us hL'.sq
  rw [e1] at e3
  rw [e1'] at e3'
  cases e3
  cases e3'
  obtain ⟨g, dd⟩ := dr_pair r hp e2 e2'
  exact ⟨g, _, zipL_at xs ys i _ _ (List.getElem?_eq_getElem i1) (List.getElem?_eq_getElem i2), dd⟩
theorem I_zip {e e2 : Expr} {es : List Expr} {kk : Nat} {p pos tpos : Pos} {m : AM} (c : Cin D k X) (hg : D.g "zip" = true) (hm : X.mg "zip" = none) (h : Ea X T W [e, e2] m)
    (hs : starEach [e, e2] X.env = (false, eval e X.env) :: starEach [e2] X.env := by rfl) (hpl : (backTo pos (starEach [e2] X.env)).any (·.1) = false := by rfl) :
    I X T W (.Tuple es kk tpos) (.Call (.Name "zip" p) [e, e2] [] pos) (iPn pZip m) := by
  refine ⟨PI.imp (pi_zip (c.gl hg).1 hm h.run hs hpl) fun σ H Q q => ?_⟩
  refine (args_I q).mono fun us H1 ⟨φ1, st1, as, xs, r1, d1, e1, go⟩ => ?_
  obtain ⟨ys, zs, rfl, rfl⟩ := pZip_some e1
  obtain ⟨u, r, rfl, ⟨a, vs, rfl, d2, d3⟩, u', r', rfl, ⟨a', vs', rfl, d2', d3'⟩, dr⟩ := d1
  have dr : r' = [] := dr
  subst dr
  exact ⟨a, a', vs, vs', rfl, d2.sq, d2'.sq, go φ1 H1 _ .refl r1 (itr_zip d2 d3 d2' d3')⟩
end
end TL
end

section
set_option Elab.async false
set_option linter.all false
set_option maxRecDepth 100000
set_option autoImplicit false
/-! TL8: a def by its body. -/
namespace TL
open PySem L2
section
variable {K : PySem.W.Frag} {mg : Str → Option Value} {T : List Tb} {φ φ1 : Num} {st st1 : Store} {H H1 : Hp} {Q : VK} {W : XK}
def Num.cut (φ : Num) (k : Nat) : Num := { φ with ids := φ.ids.take k }
theorem av_cut {k : Nat} {a : Addr} (h : Av (φ.cut k) (st.take k) a) : Av φ st a := by
  rcases h with ⟨n, c, e1, e2, e3⟩ | h
  · have hn : n < k := by
      have := (List.getElem?_eq_some_iff.mp e1).1
      rw [List.length_take] at this
      omega
    rw [List.getElem?_take_of_lt hn] at e1
    have e3 : (φ.ids.take k)[n]? = some a := e3
    rw [List.getElem?_take_of_lt hn] at e3
    exact .inl ⟨n, c, e1, e2, e3⟩
  · exact .inr h
theorem mon_cut {k : Nat} : Mon (Av φ st) H (Av (φ.cut k) (st.take k)) H := ⟨fun a u e _ _ => .inl e, fun a _ n l => n (av_cut l)⟩
theorem VR.cut {k : Nat} {v : Val} {u : V} (hb : boxBelow k v = true) (h : VR K φ st H v u) : VR K (φ.cut k) (st.take k) H v u := by
  cases v with
  | d x => exact DR.mon mon_cut x u h
  | box n =>
    obtain ⟨a, e, r⟩ := h
    have hn : n < k := of_decide_eq_true hb
    exact ⟨a, by show (φ.ids.take k)[n]? = some a; rw [List.getElem?_take_of_lt hn]; exact e, r⟩
theorem FR.cut {k : Nat} : ∀ {fs : List (Str × Val)} {us : List (Str × V)}, (fs.all fun p => boxBelow k p.2) = true → FR K φ st H fs us → FR K (φ.cut k) (st.take k) H fs us
  | [], _, _, h => h
  | (f, v) :: r, _, hb, ⟨u, t, e, h1, h2⟩ => by
    rw [List.all_cons, Bool.and_eq_true] at hb
    exact ⟨u, t, e, VR.cut hb.1 h1, FR.cut hb.2 h2⟩
theorem StR.cut {k : Nat} (s : StR K mg T φ st H) (hb : (st.take k).all (cellBelow k) = true) : StR K mg T (φ.cut k) (st.take k) H := by
  refine ⟨?_, s.nd.sublist (List.take_sublist _ _), fun a h => ⟨(s.av a h).1, fun z => (s.av a h).2 (List.mem_of_mem_take z)⟩, fun n c a e1 e2 => ?_, s.tabs⟩
  · show (φ.ids.take k).length = (st.take k).length
    rw [List.length_take, List.length_take, s.len]
  · have hn : n < k := by
      have := (List.getElem?_eq_some_iff.mp e1).1
      rw [List.length_take] at this
      omega
    have hm := List.all_eq_true.mp hb c (List.mem_of_getElem? e1)
    rw [List.getElem?_take_of_lt hn] at e1
    have e2 : (φ.ids.take k)[n]? = some a := e2
    rw [List.getElem?_take_of_lt hn] at e2
    have := s.cell n c a e1 e2
    cases c with
    | lst xs => obtain ⟨vs, h1, h2⟩ := this; exact ⟨vs, h1, DRs.mon mon_cut _ _ h2⟩
    | dic kvs => obtain ⟨o, vs, h1, h2, h3⟩ := this; exact ⟨o, vs, h1, h2, DRs.mon mon_cut _ _ h3⟩
    | ldic kvs => obtain ⟨ob, o, vs, h1, h2, h3⟩ := this; exact ⟨ob, o, vs, h1, h2, DRs.mon mon_cut _ _ h3⟩
    | obj c fs => obtain ⟨C, dx, us, h0, h1, h2⟩ := this; exact ⟨C, dx, us, h0, h1, FR.cut hm h2⟩
    | dead => exact this
theorem Stp.cut {k : Nat} (s : Stp φ st H φ1 st1 H1) (hk : φ.ids.length ≤ k) : Stp φ st H (φ1.cut k) (st1.take k) H1 := by
  refine ⟨?_, s.av, s.keep, fun a l => ?_, s.sm, s.frz⟩
  · obtain ⟨t, e⟩ := s.pre
    show φ.ids <+: φ1.ids.take k
    rw [← e, List.take_append, List.take_of_length_le hk]
    exact List.prefix_append _ _
  · obtain ⟨n, c, e1, e2, e3⟩ := l
    have hn : n < k := by
      have := (List.getElem?_eq_some_iff.mp e1).1
      rw [List.length_take] at this
      omega
    rw [List.getElem?_take_of_lt hn] at e1
    have e3 : (φ1.ids.take k)[n]? = some a := e3
    rw [List.getElem?_take_of_lt hn] at e3
    exact s.live a ⟨n, c, e1, e2, e3⟩
/-- a box let go is a plain list, a plain dict -/
theorem VR.frozen {k : Nat} {v : Val} {u : V} (s : StR K mg T φ st H) (hb : boxBelow k (frozen k v st) = true) (h : VR K φ st H v u) : VR K (φ.cut k) (st.take k) H (frozen k v st) u := by
  cases v with
  | d x => exact VR.cut rfl h
  | box n =>
    unfold TL.frozen at hb ⊢
    by_cases hn : n < k
    · simp only [if_pos hn] at hb ⊢
      exact VR.cut hb h
    · simp only [if_neg hn] at hb ⊢
      obtain ⟨a, e, rfl⟩ := h
      have na : ¬ Av (φ.cut k) (st.take k) a := by
        rintro (⟨m, c, e1, e2, e3⟩ | l)
        · have hm : m < k := by
            have := (List.getElem?_eq_some_iff.mp e1).1
            rw [List.length_take] at this
            omega
          have e3 : (φ.ids.take k)[m]? = some a := e3
          rw [List.getElem?_take_of_lt hm] at e3
          obtain ⟨l1, q1⟩ := List.getElem?_eq_some_iff.mp e3
          obtain ⟨l2, q2⟩ := List.getElem?_eq_some_iff.mp e
          have : m = n := (List.getElem_inj s.nd).mp (q1.trans q2.symm)
          omega
        · exact (s.av a l).2 (List.mem_of_getElem? e)
      cases ec : st[n]? with
      | none => simp only [ec] at hb ⊢; exact absurd (of_decide_eq_true hb) hn
      | some c =>
        simp only [ec] at hb ⊢
        have hc := s.cell n c a ec e
        cases c with
        | lst xs => obtain ⟨vs, h1, h2⟩ := hc; exact ⟨a, vs, rfl, .inl ⟨.inl h1, na⟩, DRs.mon mon_cut _ _ h2⟩
        | dic kvs => obtain ⟨o, vs, h1, h2, h3⟩ := hc; exact ⟨a, o, vs, rfl, ⟨.inl h1, na⟩, h2, DRv.drs.mpr (DRs.mon mon_cut _ _ h3)⟩
        | ldic kvs => exact absurd (of_decide_eq_true hb) hn
        | obj c fs => exact absurd (of_decide_eq_true hb) hn
        | dead => exact absurd (of_decide_eq_true hb) hn
theorem leave_post {v : Val} (hk : φ.ids.length = st.length) (h : EPost K mg T W φ st H Q (leave st.length v st1)) : EPost K mg T W φ st H Q (.ok v st1) := by
  unfold leave at h
  split at h
  · exact h
  · split at h
    · rename_i hb
      rw [Bool.and_eq_true] at hb
      exact fun φ' H' u s r rv => h (φ'.cut st.length) H' u (s.cut (by rw [hk]; exact Nat.le_refl _)) (r.cut hb.2) (rv.frozen r hb.1)
    · exact h
theorem leaveX_post {c : Str} (hk : φ.ids.length = st.length) (h : EPost K mg T W φ st H Q (leaveX st.length c st1)) : EPost K mg T W φ st H Q (.exn c st1) := by
  unfold leaveX at h
  split at h
  · exact h
  · split at h
    · rename_i hb
      exact fun φ' H' C s r hc => h (φ'.cut st.length) H' C (s.cut (by rw [hk]; exact Nat.le_refl _)) (r.cut hb) hc
    · exact h
theorem left_post {r : R Val} (hk : φ.ids.length = st.length) (h : EPost K mg T W φ st H Q (left st.length r)) : EPost K mg T W φ st H Q r := by
  cases r with
  | ok v st1 => exact leave_post hk h
  | exn c st1 => exact leaveX_post hk h
  | stuck => exact h
end
/-- the names' values at the entry -/
theorem start_rel {K : PySem.W.Frag} {φ : Num} {st : Store} {H : Hp} {vs : List Val} {us : List V} {N : List Str} (h : Paired (VR K φ st H) vs us) : SlR K φ st H (vs.map some ++ List.replicate (N.length - vs.length) none) (L2.start N us) := by
  have hl := paired_len h
  refine ⟨by simp [L2.start, hl], fun i v e => ?_⟩
  by_cases hi : i < vs.length
  · rw [List.getElem?_append_left (by simpa using hi), List.getElem?_map] at e
    have hu : i < us.length := by rw [← hl]; exact hi
    have key : ∀ {vs : List Val} {us : List V} {i : Nat} {v : Val}, Paired (VR K φ st H) vs us → vs[i]? = some v → ∃ u, us[i]? = some u ∧ VR K φ st H v u := by
      intro vs us i v hp
      induction hp generalizing i with
      | nil => intro e; simp at e
      | cons r t ih =>
        cases i with
        | zero => intro e; simp at e; subst e; exact ⟨_, rfl, r⟩
        | succ i => intro e; simp at e ⊢; exact ih e
    cases ev : vs[i]? with
    | none => rw [ev] at e; cases e
    | some w =>
      rw [ev] at e
      cases e
      obtain ⟨u, e1, e2⟩ := key h ev
      refine ⟨u, ?_, e2⟩
      unfold L2.start
      rw [List.getElem?_append_left (by simpa using hu), List.getElem?_map, e1]
      rfl
  · rw [List.getElem?_append_right (by simpa using Nat.le_of_not_lt hi), List.getElem?_replicate] at e
    split at e <;> cases e
/-- THE RULE for a def -/
theorem fn_ok {P : Program} {w : World} {K : PySem.W.Frag} {mg : Str → Option Value} {base : Heap} {T : List Tb} {x qual : Str} {s : Stmt} {f : Addr} {fd : FuncData} {N ps cl : List Str} {k : Nat} {m : SM} (F : Fun K x qual s f fd) (S : FnScope N ps (defScope s))
    (hb : ∀ (cdv : Value) (A : Around) (outer : List Env) (s0 : Shared) (H : Hp) (W : XK), Cin ⟨N, defScope s, cl⟩ k (cxOf (L2.CX P w) P w K mg base N qual (defScope s) f cdv A outer s0 H W) → Takes (cxOf (L2.CX P w) P w K mg base N qual (defScope s) f cdv A outer s0 H W) (fun c d _ H => W c d H) →
      Ss (cxOf (L2.CX P w) P w K mg base N qual (defScope s) f cdv A outer s0 H W) T W (defBody s) m) : FnOk P w K mg base (L2.CX P w) (k + 1) f fd ps (spF K mg T ps.length (fnOf N.length m)) := by
  obtain ⟨oc, od, kV, doc, pm, an, cdv, ct, osl, rfl, lk, hcd⟩ := F.ex
  refine fn_of lk hcd S ?_ ?_
  · rintro vs H Q Ex ⟨φ, st, as, r, pr, hl, _⟩
    rw [← paired_len pr, hl]
  · rintro A outer s0 H vs Q Ex hr ⟨φ, st, as, r, pr, hl, h⟩
    have tk : Takes (cxOf (L2.CX P w) P w K mg base N qual (defScope s) f cdv A outer s0 H Ex) (fun c d _ H => Ex c d H) := takes_of rfl rfl rfl rfl
    have ci : Cin ⟨N, defScope s, cl⟩ k (cxOf (L2.CX P w) P w K mg base N qual (defScope s) f cdv A outer s0 H Ex) := ⟨rfl, rfl, S.nd, hr, rfl, fun _ _ => rfl, passes_of rfl⟩
    refine ⟨_, (hb cdv A outer s0 H Ex ci tk).run, φ, as.map some ++ List.replicate (N.length - as.length) none, st, ⟨r, start_rel pr⟩, ?_⟩
    have h1 := left_post r.len h
    revert h1
    show EPost K mg T Ex φ st H Q (match m (as.map some ++ List.replicate (N.length - as.length) none) st with
      | .nx _ st1 => .ok (.d .none) st1
      | .rt v st1 => .ok v st1
      | .exn c _ st1 => .exn c st1
      | _ => .stuck) → SPost K mg T Ex φ st H _ (m (as.map some ++ List.replicate (N.length - as.length) none) st)
    cases m (as.map some ++ List.replicate (N.length - as.length) none) st with
    | nx sl1 st1 => exact fun h φ1 H1 σ1 s1 r1 l1 => h φ1 H1 .non s1 r1 rfl
    | rt v st1 => exact fun h => h
    | bk sl1 st1 => exact fun h => h.elim
    | ct sl1 st1 => exact fun h => h.elim
    | exn c sl1 st1 => exact fun h φ1 H1 σ1 C s1 r1 l1 hc => h φ1 H1 C s1 r1 hc
    | stuck => exact fun h => h
end TL
end

section
set_option Elab.async false
set_option linter.all false
set_option maxRecDepth 100000
set_option maxHeartbeats 1000000
set_option autoImplicit false
/-! TL9: lambdas made and called; told; try. -/
namespace TL
open PySem L2
/-- all but tables stay -/
structure Ex0 (H H' : Hp) : Prop where
  keep : ∀ a o, H a = some o → isTbl o = false → H' a = some o
  sm : ∀ a, H a ≠ none → H' a ≠ none
section
variable {K : PySem.W.Frag} {mg : Str → Option Value} {T : List Tb} {φ : Num} {st : Store} {H H' : Hp}
theorem Ex0.stp (e : Ex0 H H') : Stp φ st H φ st H' :=
  ⟨List.prefix_rfl, ⟨fun _ h => h, fun _ h => .inl h⟩, fun a u h _ t => .inl (e.keep a u h t), fun a l => .inl l, e.sm, fun a ob u h => e.keep a _ h rfl⟩
theorem Ex0.str (e : Ex0 H H') (s : StR K mg T φ st H) (ht : ∀ t ∈ T, TabN H' t) : StR K mg T φ st H' := by
  refine ⟨s.len, s.nd, fun a h => ⟨let ⟨xs, q⟩ := (s.av a h).1; ⟨xs, e.keep _ _ q rfl⟩, (s.av a h).2⟩, fun n c a e1 e2 => ?_, ht⟩
  have m := (e.stp (φ := φ) (st := st)).mon
  have := s.cell n c a e1 e2
  cases c with
  | lst xs => obtain ⟨vs, h1, h2⟩ := this; exact ⟨vs, e.keep _ _ h1 rfl, DRs.mon m _ _ h2⟩
  | dic kvs => obtain ⟨o, vs, h1, h2, h3⟩ := this; exact ⟨o, vs, e.keep _ _ h1 (dic_not h2.dic).1, h2, DRs.mon m _ _ h3⟩
  | ldic kvs => obtain ⟨ob, o, vs, h1, h2, h3⟩ := this; exact ⟨ob, o, vs, e.keep _ _ h1 rfl, h2, DRs.mon m _ _ h3⟩
  | obj c fs => obtain ⟨C, dx, us, h0, h1, h2⟩ := this; exact ⟨C, dx, us, h0, e.keep _ _ h1 rfl, FR.mon e.stp h2⟩
  | dead => exact e.sm a this
end
theorem among_app2 {pos p' : Pos} {c cv : Value} (l : List Value) (h : TriplesOk l) (hc : codeAmong p' (l ++ [rawInt pos.line, rawInt pos.col, c]) = some cv) : codeAmong p' l = some cv ∨ (cv = c ∧ p'.line = pos.line ∧ p'.col = pos.col) := by
  fun_induction TriplesOk l with
  | case1 =>
    simp only [List.nil_append, rawInt, codeAmong] at hc
    split at hc
    · rename_i q
      rw [Bool.and_eq_true] at q
      have q1 := eq_of_beq q.1
      have q2 := eq_of_beq q.2
      refine .inr ⟨(Option.some.inj hc).symm, ?_, ?_⟩
      · first | exact q1.symm | exact (Int.ofNat.inj q1).symm | omega
      · first | exact q2.symm | exact (Int.ofNat.inj q2).symm | omega
    · cases hc
  | case2 a t b u x rest ih =>
    simp only [List.cons_append, codeAmong] at hc ⊢
    split at hc
    · rename_i q
      rw [if_pos q]
      exact .inl hc
    · rename_i q
      rw [if_neg q]
      exact ih h hc
  | case3 => exact h.elim
section
variable {X : Cx} {T : List Tb} {pins : List (Addr × Obj)} {σ : L2.St} {H : Hp} {s : Shared}
/-- a lambda at pos is made; its code's name is told by the table -/
theorem mk_lam {c : Addr} {t : Tb} {params : Arguments} {body : Expr} {sc : Scope} {pos : Pos} {Er : Value → Shared → Prop} {Q : Value → Shared → Prop} (J : Inv X pins σ H s) (B : LamX.TabB X.base X.mg c t.P) (hc : X.env.code = .ref c) (htT : t ∈ T) (hone : ∀ t' ∈ T, t'.P = t.P → t' = t)
    (hnm : t.nm pos.line pos.col = some (X.env.qual ++ "<lambda>")) (hall : ∀ t' ∈ T, TabN H t') (hd : defaultsOf params X.env = ([], [])) (hf : ∀ y ∈ sc.names, y.2 = .free → ∃ a, X.env.cells.lookup y.1 = some a)
    (go : ∀ (f cc : Addr) (pm ctv : Value) (H1 : Hp) (s1 : Shared), Inv X pins σ H1 s1 → Ex0 H H1 → (∀ t' ∈ T, TabN H1 t') →
      s1.heap.get? f = some (PySem.W.kla_obj "<lambda>" (X.env.qual ++ "<lambda>") params body sc (cloFrom X.env.cells sc.names []) pm cc ctv) → H1 f = none → f ∉ frs X.stack → (∀ p ∈ X.pn ++ pins, p.1 ≠ f) → f ≠ X.env.locals → s.heap.objs.size ≤ f → H1 cc = some (LamX.CodeO cc (X.env.qual ++ "<lambda>")) → Q (.ref f) s1) :
    wpAny (model X.prog X.w) X.A (eval (.Lambda params body sc pos) X.env) Q Er s := by
  obtain ⟨ps, tab, trip, nms⟩ := hall t htT
  have tabAt : s.heap.get? t.P = some { cls := .none, data := .fields ps } := J.hok t.P _ tab
  have bAt : s.heap.BuiltinsAt X.mg t.P := B.bm.keeps J.bk
  have outside : ∀ g, s.heap.objs.size ≤ g → g ∉ frs X.stack := fun g hg z => (List.mem_cons.mp (J.stkSub _ z)).elim (fun e => by
    have := J.lt
    rw [← e] at this
    exact Nat.lt_irrefl _ (Nat.lt_of_lt_of_le this hg)) (J.nofs hg)
  have offpin : ∀ g, s.heap.objs.size ≤ g → ∀ p ∈ X.pn ++ pins, p.1 ≠ g := fun g hg p hp z => by
    have h1 := Heap.lt_size (J.pin p hp).1
    rw [z] at h1
    exact Nat.lt_irrefl _ (Nat.lt_of_lt_of_le h1 hg)
  have offloc : ∀ g, s.heap.objs.size ≤ g → g ≠ X.env.locals := fun g hg z => by
    have h1 := J.lt
    rw [← z] at h1
    exact Nat.lt_irrefl _ (Nat.lt_of_lt_of_le h1 hg)
  refine PySem.W.kla_eval hd ?_
  cases found : codeAmong pos ps.toList with
  | some cv =>
    obtain ⟨cc, rfl, named⟩ := nms pos cv _ found hnm
    refine PySem.W.kla_makeFunctionHit (mg := X.mg) (c := c) (P := t.P) (ps := ps) (closure_ok hf) J.ok.glob (J.mod.glob.keeps J.bk) hc (B.code.keeps J.bk) tabAt trip found bAt fun ctv h1 tk kept grown => ?_
    refine go h1.objs.size cc ((X.mg "__name__").getD .none) ctv H _ (J.kept (t' := tk) fun b o e => Heap.get?_push_of_some _ (kept b o e)) ⟨fun _ _ e _ => e, fun _ e => e⟩ hall (Heap.get?_push_size _ rfl) (J.hok.fresh grown) (outside _ grown) (offpin _ grown) (offloc _ grown) grown named
  | none =>
    refine PySem.W.kla_makeFunction (mg := X.mg) (c := c) (P := t.P) (ps := ps) (closure_ok hf) J.ok.glob (J.mod.glob.keeps J.bk) hc (B.code.keeps J.bk) tabAt trip found B.gP bAt fun cc ctv h1 tk kept ge lt rec tab1 => ?_
    obtain ⟨c2, oc, vs, tt, eq, gets, dat, nm⟩ := rec
    cases eq
    have big : s.heap.objs.size ≤ h1.objs.size := Nat.le_trans ge (Nat.le_of_lt lt)
    have freshC : H cc = none := J.hok.fresh ge
    have neTC : t.P ≠ cc := ne_of_none tab freshC
    have J1 := LamX.inv_table (t' := tk) (more := #[rawInt pos.line, rawInt pos.col, .ref cc]) (h' := h1.push (PySem.W.kla_obj "<lambda>" (X.env.qual ++ "<lambda>") params body sc (cloFrom X.env.cells sc.names []) ((X.mg "__name__").getD .none) cc ctv)) J tab
      (fun b o hb e => Heap.get?_push_of_some _ (kept b o hb e)) (Heap.get?_push_of_some _ tab1) ge ⟨oc, vs, tt, Heap.get?_push_of_some _ gets, dat, nm⟩
    have ex : Ex0 H (upd (upd H t.P (.tbl (ps ++ #[rawInt pos.line, rawInt pos.col, .ref cc]))) cc (LamX.CodeO cc (X.env.qual ++ "<lambda>"))) := by
      refine ⟨fun a o e nt => ?_, fun a e => ?_⟩
      · have n1 : a ≠ cc := ne_of_none e freshC
        have n2 : a ≠ t.P := fun z => by rw [z, tab] at e; cases e; cases nt
        rw [upd_ne n1, upd_ne n2]
        exact e
      · by_cases h1 : a = cc
        · rw [h1, upd_same]; exact fun z => nomatch z
        · rw [upd_ne h1]
          by_cases h2 : a = t.P
          · rw [h2, upd_same]; exact fun z => nomatch z
          · rw [upd_ne h2]; exact e
    have freshF : upd (upd H t.P (.tbl (ps ++ #[rawInt pos.line, rawInt pos.col, .ref cc]))) cc (LamX.CodeO cc (X.env.qual ++ "<lambda>")) h1.objs.size = none := by
      have n1 : h1.objs.size ≠ cc := Nat.ne_of_gt lt
      have n2 : h1.objs.size ≠ t.P := Nat.ne_of_gt (Nat.lt_of_lt_of_le (Heap.lt_size tabAt) big)
      rw [upd_ne n1, upd_ne n2]
      exact J.hok.fresh big
    refine go h1.objs.size cc ((X.mg "__name__").getD .none) ctv _ _ J1 ex (fun t' ht' => ?_) (Heap.get?_push_size _ rfl) freshF (outside _ big) (offpin _ big) (offloc _ big) big upd_same
    by_cases hp : t'.P = t.P
    · rw [hone t' ht' hp]
      have eL : (ps ++ #[rawInt pos.line, rawInt pos.col, .ref cc]).toList = ps.toList ++ [rawInt pos.line, rawInt pos.col, .ref cc] := by simp
      refine ⟨_, by rw [upd_ne neTC, upd_same], by rw [eL]; exact PySem.TriplesOk_snoc _ _ _ _ trip, fun pos' cv q e1 e2 => ?_⟩
      rw [eL] at e1
      rcases among_app2 _ trip e1 with w | ⟨w, z1, z2⟩
      · obtain ⟨c0, r1, r2⟩ := nms pos' cv q w e2
        exact ⟨c0, r1, ex.keep _ _ r2 rfl⟩
      · rw [z1, z2, hnm] at e2
        cases e2
        exact ⟨cc, w, upd_same⟩
    · obtain ⟨ps', a1, a2, a3⟩ := hall t' ht'
      refine ⟨ps', by rw [upd_ne (ne_of_none a1 freshC), upd_ne hp]; exact a1, a2, fun pos' cv q e1 e2 => ?_⟩
      obtain ⟨c0, r1, r2⟩ := a3 pos' cv q e1 e2
      exact ⟨c0, r1, ex.keep _ _ r2 rfl⟩
end
end TL
end

section
set_option Elab.async false
set_option linter.all false
set_option maxRecDepth 100000
set_option maxHeartbeats 1000000
set_option autoImplicit false
/-! TL10: told. -/
namespace TL
open PySem L2
inductive Clauses : List ExceptHandler → List (Str × Str) → Prop
  | nil : Clauses [] []
  | cons {e ret : Str} {j : Nat} {p4 p5 p6 p7 : Pos} {hs : List ExceptHandler} {tbl : List (Str × Str)} : Clauses hs tbl → Clauses (.ExceptHandler (some (.Name e p4)) none [.Return (some (.Constant (.str ret) j p5)) p6] p7 :: hs) ((e, ret) :: tbl)
theorem hds_of {X : Cx} {hs : List ExceptHandler} {tbl : List (Str × Str)} (h : Clauses hs tbl) (g : ∀ e ∈ tbl.map (·.1), Gl X e ∧ (e == ("__debug__" : Str)) = false ∧ ∃ CS, X.mg e = some (.ref CS)) :
    ∃ l, HdsOk X hs l ∧ ∀ (D : Ends) (Wout : WX) (c w : Str) (C : Addr) (σ : L2.St) (H : Hp), tbl.lookup c = some w → X.mg c = some (.ref C) →
      (∀ e ∈ tbl.map (·.1), ∀ CS, X.mg e = some (.ref CS) → PySem.W.exmOne X.K (.ref C) (.ref CS) = some (decide (c = e))) → D.rt (.str w) H → wMany X.K Wout D l (.ref C) none σ H := by
  induction h with
  | nil => exact ⟨[], .nil, fun _ _ _ _ _ _ _ e => by cases e⟩
  | @cons e ret j p4 p5 p6 p7 hs tbl hc ih =>
    obtain ⟨l, h1, h2⟩ := ih fun e' he' => g e' (by simp only [List.map_cons]; exact List.mem_cons_of_mem _ he')
    obtain ⟨g1, g2, CS, g3⟩ := g e (by simp)
    refine ⟨(.ref CS, fun _ _ _ => _) :: l, .cons ⟨g1, g2, .inl g3⟩ (fun a oe cls d pn _ _ => pss_one (ps_ret pe_str)) h1, fun D Wout c w C σ H e1 e2 e3 hq => ?_⟩
    refine ⟨decide (c = e), e3 e (by simp) CS g3, fun hb a _ => ?_, fun hb => ?_⟩
    · have hb := of_decide_eq_true hb
      subst hb
      rw [List.lookup_cons, beq_self_eq_true] at e1
      cases e1
      exact hq
    · have hb := of_decide_eq_false hb
      rw [List.lookup_cons, show (c == e) = false from by simp [hb]] at e1
      exact h2 D Wout c w C σ H e1 e2 (fun e' he' => e3 e' (by simp only [List.map_cons]; exact List.mem_cons_of_mem _ he')) hq
/-- the def that tells -/
structure ToldOk (K : PySem.W.Frag) (mg : Str → Option Value) (x : Str) (tbl : List (Str × Str)) : Prop where
  at_ : ∃ (g : Addr) (pg : Arguments) (sg : Scope) (dV kV doc pm cdv ct oc : Value) (an od : Option Addr) (osl : Array (Option Value)) (a : Str) (p1 p2 p3 p8 : Pos) (h0 : ExceptHandler) (hs : List ExceptHandler),
    mg x = some (.ref g) ∧ PySem.W.keepIn K (.ref g) = true ∧ K.lookup g = some ⟨oc, od, .func (PySem.W.fnOf x x pg [.Try [.Return (some (.Call (.Name a p1) [] [] p2)) p3] (h0 :: hs) [] [] p8] sg dV kV doc pm an cdv ct), osl⟩ ∧ PySem.W.codeIn K cdv x = true ∧
    L2.Binds K (PySem.W.fnOf x x pg [.Try [.Return (some (.Call (.Name a p1) [] [] p2)) p3] (h0 :: hs) [] [] p8] sg dV kV doc pm an cdv ct) [a] [] ∧ FnScope [a] [a] sg ∧ Vis sg a ∧ (a == ("__debug__" : Str)) = false ∧ (a == ("__classdict__" : Str)) = false ∧
    Clauses (h0 :: hs) tbl ∧ ∀ e ∈ tbl.map (·.1), sg.names.lookup e = some .globalImplicit ∧ (e == ("__debug__" : Str)) = false ∧ ∃ CS, mg e = some (.ref CS)
  exm : ∀ c w C, tbl.lookup c = some w → mg c = some (.ref C) → ∀ e ∈ tbl.map (·.1), ∀ CS, mg e = some (.ref CS) → PySem.W.exmOne K (.ref C) (.ref CS) = some (decide (c = e))
/-- this context's table of code objects is t -/
structure Home (X : Cx) (T : List Tb) (t : Tb) : Prop where
  at_ : ∃ c, LamX.TabB X.base X.mg c t.P ∧ X.env.code = .ref c
  mem : t ∈ T
  one : ∀ t' ∈ T, t'.P = t.P → t' = t
section
variable {D : DI} {k : Nat} {X : Cx} {T : List Tb} {W : XK}
theorem E_told {t : Tb} {x : Str} {tbl : List (Str × Str)} {params : Arguments} {body : Expr} {scope : Scope} {m : EM} {p lpos pos : Pos} (ci : Cin D (k + 2) X) (ho : Home X T t) (hx : ToldOk X.K X.mg x tbl) (hg : D.g x = true)
    (hnm : t.nm lpos.line lpos.col = some (X.env.qual ++ "<lambda>")) (L : LamX.lamSB D.sc scope = true) (hdef : defaultsOf params X.env = ([], []))
    (hbind : ∀ (q : Str) (cl : List (Str × Addr)) (pm cv ctv : Value), bindArgs (PySem.W.kla_fn "<lambda>" q params body scope cl pm cv ctv) ⟨[], []⟩ = pure [])
    (hb : ∀ (A : Around) (outer : List Env) (s : Shared) (H : Hp) (W' : XK) (f c' : Addr), Cin ⟨D.N, scope, []⟩ k (LamX.lamCx X A outer s H W' scope f c') → Takes (LamX.lamCx X A outer s H W' scope f c') (fun c d _ H => W' c d H) →
      E (LamX.lamCx X A outer s H W' scope f c') T W' body m) : E X T W (.Call (.Name x p) [.Lambda params body scope lpos] [] pos) (mTold tbl m) := by
  obtain ⟨⟨g, pg, sg, dV, kV, doc, pm, cdv, ct, oc, an, od, osl, a, p1, p2, p3, p8, h0, hs, hm, hk, lk, hcg, hbs, Sg, hva, hd, hcd, hcl, hcs⟩, hex⟩ := hx
  obtain ⟨g1, g2, g3⟩ := ci.gl hg
  obtain ⟨⟨c, TB, hcode⟩, hmT, hone⟩ := ho
  have L : LamX.LamS X.env.scope scope := by rw [ci.sc]; exact LamX.lamS_by L
  refine ⟨⟨fun pins s σ H Q I h => ?_⟩⟩
  obtain ⟨φ, sl, st, at_, h⟩ := h
  refine wpAny_Call_Name_kw (ld_glob I g1 hm ?_ g2)
  refine PySem.W.callWith_K (h₀ := X.base) I.ok.mod.kin hk ?_ (by rfl) (by rfl)
  show wpAny _ _ (spliced ((false, eval (.Lambda params body scope lpos) X.env) :: backTo pos (starEach [] X.env))) _ _ s
  refine Calls.spliced_cons (mk_lam (t := t) I TB hcode hmT hone hnm at_.s.tabs hdef (L.has I.ok) fun f c' pm' ctv H1 s' I1 ex T1 hf hfn hfr _ _ _ hco => ?_)
  refine Calls.spliced_nil ⟨I1.kIn, ?_⟩
  have rc : codeAny (model X.prog X.w) X.A (.call (.ref g) ⟨[.ref f], []⟩) (L2.CR C8.CX0 X.stack X.prog X.w H1 s' Q C8.E0) s' := by
    refine LamX.run_ofS (N := [a]) (ps := [a]) (us := [.ref f]) (vs := [.ref f]) lk hcg Sg ci.room I1.env0 (hbs s' [.ref f] I1.kIn rfl) (.cons rfl .nil) rfl fun hr' => ?_
    obtain ⟨l, q1, q2⟩ := hds_of (X := (cxOf C8.CX0 X.prog X.w X.K X.mg X.base [a] x sg g cdv X.A X.stack s' H1 C8.E0).nox) hcl fun e he => hcs e he
    refine ⟨_, (pss_one (ps_try_many (X := (cxOf C8.CX0 X.prog X.w X.K X.mg X.base [a] x sg g cdv X.A X.stack s' H1 C8.E0).nox)
      (tb := fun W D σ' H => ∃ Ech : XK, (∀ cls d σ' H', Ech cls d H' → W cls d σ' H') ∧ σ'[0]? = some (some (V.ref f)) ∧ H c' = some (LamX.CodeO c' (X.env.qual ++ "<lambda>")) ∧ tE X T Ech m σ H D.rt)
      rfl rfl LamX.takes0 (fun W pn xe tk _ => ?_) q1)).nox, ?_⟩
    · refine ⟨fun pins s2 σ2 H2 D2 I2 h2 => ?_⟩
      obtain ⟨Ech, hW, r1, r2, r3⟩ := h2
      have hp := LamX.pe_act (CXg := C8.CX0) (Eg := C8.E0) (Ng := [a]) (qg := x) (sg := sg) (g := g) (cdg := cdv) (i := 0) (a := a) (E := Ech) (W := W) (p1 := p1) (p2 := p2) (tb := tE X T Ech m) (k := k) (pn := pn) (xe := xe) (X := X) I1 L hf hfn hfr (hbind _ _ _ _ _) tk hW hr'
        (fun A outer s H hr2 => (hb A outer s H Ech f c' ⟨ci.N, rfl, ci.nd, hr2, rfl, fun _ h => (by cases h), passes_of rfl⟩ (takes_of rfl rfl rfl rfl)).run) rfl hva hd hcd
      exact (pss_one (ps_ret (pos := p3) hp)).run pins s2 σ2 H2 D2 I2 ⟨r1, r2, r3⟩
    · refine ⟨fun cls d H' => ∀ σ', wMany X.K (fun _ _ _ _ => False) { nx := fun _ H' => Q .non H', rt := Q } l cls d σ' H', fun cls d σ' H' hh => hh σ', rfl, hco, φ, sl, st, ⟨ex.str at_.s T1, at_.l.mon ex.stp⟩, ?_⟩
      · have h1 := (left_post at_.s.len h).shift ex.stp (φ' := φ) (st' := st)
        revert h1
        cases m sl st with
        | ok v st1 => exact fun h => h
        | stuck => exact fun h => h
        | exn cn st1 =>
          intro h1 φ2 H2 C s2 r2 hC
          cases hl : tbl.lookup cn with
          | none => simp only [hl] at h1; exact h1.elim
          | some w =>
            simp only [hl] at h1
            exact fun σ' => q2 _ _ cn w C σ' H2 hl hC (hex cn w C hl hC) (h1 φ2 H2 (.str w) s2 r2 rfl)
  refine wpAny_call (codeAny_mono rc fun r s2 hq => ?_)
  cases r with
  | error e => exact (show False from hq).elim
  | ok fl =>
    cases fl with
    | ret u => exact I1.after hq
    | next => exact False.elim hq
    | brk => exact False.elim hq
    | cont => exact False.elim hq
end
end TL
end

section
set_option Elab.async false
set_option linter.all false
set_option maxRecDepth 100000
set_option maxHeartbeats 1000000
set_option autoImplicit false
/-! TL11: operations on data. -/
namespace TL
open PySem L2
/-! ### readings -/
mutual
def nod : PyData → Bool
  | .list xs => nods xs
  | .tuple xs => nods xs
  | .dict _ => false
  | _ => true
def nods : List PyData → Bool
  | [] => true
  | x :: xs => nod x && nods xs
end
mutual
theorem nod_lay : ∀ d : PyData, d.canLay0 = true → nod d = true
  | .none, _ => by unfold nod; rfl
  | .bool _, _ => by unfold nod; rfl
  | .int _, _ => by unfold nod; rfl
  | .str _, _ => by unfold nod; rfl
  | .list xs, h => by unfold nod; unfold PyData.canLay0 at h; exact nods_lay xs h
  | .tuple xs, h => by unfold nod; unfold PyData.canLay0 at h; exact nods_lay xs h
  | .dict _, h => by unfold PyData.canLay0 at h; cases h
theorem nods_lay : ∀ ds : List PyData, PyData.canLayAll0 ds = true → nods ds = true
  | [], _ => by unfold nods; rfl
  | d :: ds, h => by
    unfold nods
    unfold PyData.canLayAll0 at h
    rw [Bool.and_eq_true] at h
    rw [nod_lay d h.1, nods_lay ds h.2]; rfl
end
theorem nod_shaped {d : PyData} (h : SeqAt.shaped d = true) : nod d = true := nod_lay d (SeqAt.canLay_of_shaped h)
section
variable {X : Cx} {T : List Tb} {φ : Num} {st : Store} {H : Hp} {σ : L2.St} {pins : List (Addr × Obj)} {s : Shared}
mutual
theorem DR.reads {O : Addr → Prop} (I : Inv X pins σ H s) : ∀ (d : PyData) (v : V) (u : Value), nod d = true → DR X.K O H d v → RelV v u → ∃ as, Reads s.heap u d as
  | .none, v, u, _, h, r => by
    unfold DR at h; subst h
    cases r
    exact ⟨_, Reads.none⟩
  | .bool b, v, u, _, h, r => by
    unfold DR at h; subst h
    cases r
    exact ⟨_, Reads.bool b⟩
  | .int i, v, u, _, h, r => by
    unfold DR at h; subst h
    obtain ⟨t, rfl⟩ := r
    exact ⟨_, Reads.int i t⟩
  | .str x, v, u, _, h, r => by
    unfold DR at h; subst h
    obtain ⟨t, rfl⟩ := r
    exact ⟨_, Reads.str x t⟩
  | .list ds, v, u, n, h, r => by
    unfold DR at h
    obtain ⟨a, vs, rfl, hl, hd⟩ := h
    cases r
    obtain ⟨its, rv, ⟨o, n', ho, hc, _, hdd⟩, _⟩ := I.list hl.sq
    unfold nod at n
    obtain ⟨as, hr⟩ := DRs.reads I ds _ its n hd rv
    exact ⟨_, Reads.list ho hc hdd hr⟩
  | .tuple ds, v, u, n, h, r => by
    unfold DR at h
    obtain ⟨a, vs, rfl, hl, hd⟩ := h
    cases r
    obtain ⟨its, rv, ⟨o, ho, hc, n', hdd⟩, _⟩ := I.tuple hl.sq
    unfold nod at n
    obtain ⟨as, hr⟩ := DRs.reads I ds _ its n hd rv
    exact ⟨_, Reads.tuple ho hc hdd hr⟩
  | .dict _, _, _, n, _, _ => by unfold nod at n; cases n
theorem DRs.reads {O : Addr → Prop} (I : Inv X pins σ H s) : ∀ (ds : List PyData) (vs : List V) (us : List Value), nods ds = true → DRs X.K O H ds vs → Vals vs us → ∃ as, ReadsAll s.heap us ds as
  | [], vs, us, _, h, r => by
    unfold DRs at h; subst h
    cases r
    exact ⟨_, ReadsAll.nil⟩
  | d :: ds, vs, us, n, h, r => by
    unfold DRs at h
    obtain ⟨v, rr, rfl, h1, h2⟩ := h
    unfold nods at n
    rw [Bool.and_eq_true] at n
    cases r with
    | cons r1 r2 =>
      obtain ⟨as, q1⟩ := DR.reads I d _ _ n.1 h1 r1
      obtain ⟨bs, q2⟩ := DRs.reads I ds _ _ n.2 h2 r2
      exact ⟨_, ReadsAll.cons q1 q2⟩
end
theorem DR.d_none {K : PySem.W.Frag} {O : Addr → Prop} {v : V} (h : DR K O H .none v) : v = .non := by unfold DR at h; exact h
theorem DR.d_int {K : PySem.W.Frag} {O : Addr → Prop} {v : V} {i : Int} (h : DR K O H (.int i) v) : v = .int i := by unfold DR at h; exact h
theorem DR.d_bool {K : PySem.W.Frag} {O : Addr → Prop} {v : V} {i : Bool} (h : DR K O H (.bool i) v) : v = .bl i := by unfold DR at h; exact h
theorem DR.d_str {K : PySem.W.Frag} {O : Addr → Prop} {v : V} {i : Str} (h : DR K O H (.str i) v) : v = .str i := by unfold DR at h; exact h
theorem DR.d_list {K : PySem.W.Frag} {O : Addr → Prop} {v : V} {xs : List PyData} (h : DR K O H (.list xs) v) : ∃ a vs, v = .ref a ∧ ListAt K O H a vs ∧ DRs K O H xs vs := by unfold DR at h; exact h
theorem DR.d_tuple {K : PySem.W.Frag} {O : Addr → Prop} {v : V} {xs : List PyData} (h : DR K O H (.tuple xs) v) : ∃ a vs, v = .ref a ∧ TupAt K O H a vs ∧ DRs K O H xs vs := by unfold DR at h; exact h
theorem DR.d_dict {K : PySem.W.Frag} {O : Addr → Prop} {v : V} {kvs : List (PyData × PyData)} (h : DR K O H (.dict kvs) v) : ∃ a o vs, v = .ref a ∧ (Rd H a o ∧ ¬ O a) ∧ DkO (kvs.map (·.1)) vs o ∧ DRv K O H kvs vs := by unfold DR at h; exact h
/-- a value that stands for d is data, or a box -/
theorem VD.cases {K : PySem.W.Frag} {d : PyData} {x : V} (h : VD K φ st H d x) : DR K (Av φ st) H d x ∨ ∃ n, VR K φ st H (.box n) x ∧ deref (.box n) st = some d := by
  obtain ⟨v, r, e⟩ := h
  cases v with
  | d y => cases e; exact .inl r
  | box n => exact .inr ⟨n, r, e⟩
theorem deref_box {n : Nat} {d : PyData} (h : deref (.box n) st = some d) : (∃ xs, st[n]? = some (.lst xs) ∧ d = .list xs) ∨ (∃ kvs, (st[n]? = some (.dic kvs) ∨ st[n]? = some (.ldic kvs)) ∧ d = .dict kvs) := by
  unfold deref at h
  cases e : st[n]? with
  | none => simp only [e] at h; cases h
  | some c =>
    simp only [e] at h
    cases c with
    | lst xs => cases h; exact .inl ⟨xs, rfl, rfl⟩
    | dic kvs => cases h; exact .inr ⟨kvs, .inl rfl, rfl⟩
    | ldic kvs => cases h; exact .inr ⟨kvs, .inr rfl, rfl⟩
    | obj c fs => cases h
    | dead => cases h
theorem VD.list {K : PySem.W.Frag} {mg : Str → Option Value} {xs : List PyData} {x : V} (s : StR K mg T φ st H) (h : VD K φ st H (.list xs) x) : ∃ a vs, x = .ref a ∧ LsAt K H a vs ∧ DRs K (Av φ st) H xs vs := by
  rcases h.cases with h1 | ⟨n, ⟨a, ea, rfl⟩, h1⟩
  · obtain ⟨a, vs, rfl, hl, hd⟩ := h1.d_list
    exact ⟨a, vs, rfl, hl.ls, hd⟩
  · rcases deref_box h1 with ⟨ys, e, q⟩ | ⟨_, _, q⟩
    · cases q
      obtain ⟨vs, h1, h2⟩ := s.cell n _ a e ea
      exact ⟨a, vs, rfl, .inl (.inl h1), h2⟩
    · cases q
theorem VD.tuple {K : PySem.W.Frag} {xs : List PyData} {x : V} (h : VD K φ st H (.tuple xs) x) : ∃ a vs, x = .ref a ∧ TupAt K (Av φ st) H a vs ∧ DRs K (Av φ st) H xs vs := by
  rcases h.cases with h | ⟨n, _, h⟩
  · exact h.d_tuple
  · rcases deref_box h with ⟨ys, e, q⟩ | ⟨_, _, q⟩ <;> cases q
theorem VD.atom {K : PySem.W.Frag} {d : PyData} {x : V} (hd : match d with | .list _ => False | .dict _ => False | _ => True) (h : VD K φ st H d x) : DR K (Av φ st) H d x := by
  rcases h.cases with h | ⟨n, _, h⟩
  · exact h
  · rcases deref_box h with ⟨ys, e, q⟩ | ⟨_, _, q⟩ <;> subst q <;> exact hd.elim
theorem VD.int {K : PySem.W.Frag} {i : Int} {x : V} (h : VD K φ st H (.int i) x) : x = .int i := (h.atom trivial).d_int
theorem VD.str {K : PySem.W.Frag} {i : Str} {x : V} (h : VD K φ st H (.str i) x) : x = .str i := (h.atom trivial).d_str
theorem VD.bool {K : PySem.W.Frag} {i : Bool} {x : V} (h : VD K φ st H (.bool i) x) : x = .bl i := (h.atom trivial).d_bool
theorem VD.none {K : PySem.W.Frag} {x : V} (h : VD K φ st H .none x) : x = .non := (h.atom trivial).d_none
theorem VD.reads {d : PyData} {x : V} {u : Value} (I : Inv X pins σ H s) (r : StR X.K X.mg T φ st H) (n : nod d = true) (h : VD X.K φ st H d x) (rv : RelV x u) : ∃ as, Reads s.heap u d as := by
  rcases h.cases with h1 | ⟨k, ⟨a, ea, rfl⟩, h1⟩
  · exact DR.reads I d x u n h1 rv
  · rcases deref_box h1 with ⟨ys, e, q⟩ | ⟨_, _, q⟩
    · subst q
      cases rv
      obtain ⟨vs, h1, h2⟩ := r.cell k _ a e ea
      obtain ⟨its, rv, ⟨o, n', ho, hc, _, hdd⟩, _⟩ := I.list (SqL.of h1)
      unfold nod at n
      obtain ⟨as, hr⟩ := DRs.reads I ys _ its n h2 rv
      exact ⟨_, Reads.list ho hc hdd hr⟩
    · subst q; unfold nod at n; cases n
/-! ### what is made -/
theorem StR.fr {p : Addr} (r : StR X.K X.mg T φ st H) (hp : H p = none) : ¬ Av φ st p := fun z => by
  rcases z with l | l
  · exact r.fresh hp l.mem
  · exact r.avne l hp
theorem DR.lst {xs : List PyData} {vs : List V} {p : Addr} (r : StR X.K X.mg T φ st H) (hp : H p = none) (h : DRs X.K (Av φ st) H xs vs) : Gr H (upd H p (.lst vs)) ∧ DR X.K (Av φ st) (upd H p (.lst vs)) (.list xs) (.ref p) := by
  have g := Gr.upd (o := .lst vs) hp
  refine ⟨g, ?_⟩
  unfold DR
  exact ⟨p, vs, rfl, .inl ⟨.inl upd_same, r.fr hp⟩, DRs.mon (g.step (φ := φ) (st := st)).mon _ _ h⟩
theorem DR.tup {xs : List PyData} {vs : List V} {p : Addr} (r : StR X.K X.mg T φ st H) (hp : H p = none) (h : DRs X.K (Av φ st) H xs vs) : Gr H (upd H p (.tup vs)) ∧ DR X.K (Av φ st) (upd H p (.tup vs)) (.tuple xs) (.ref p) := by
  have g := Gr.upd (o := .tup vs) hp
  refine ⟨g, ?_⟩
  unfold DR
  exact ⟨p, vs, rfl, .inl ⟨.inl upd_same, r.fr hp⟩, DRs.mon (g.step (φ := φ) (st := st)).mon _ _ h⟩
theorem OkD.int {i : Int} {Q : VK} (h : OkD X T φ st H (.int i) Q) : Q (.int i) H := h H (.int i) (Gr.refl H) (by unfold DR; rfl)
theorem OkD.bool {i : Bool} {Q : VK} (h : OkD X T φ st H (.bool i) Q) : Q (.bl i) H := h H (.bl i) (Gr.refl H) (by unfold DR; rfl)
theorem OkD.str {i : Str} {Q : VK} (h : OkD X T φ st H (.str i) Q) : Q (.str i) H := h H (.str i) (Gr.refl H) (by unfold DR; rfl)
theorem OkD.none {Q : VK} (h : OkD X T φ st H .none Q) : Q .non H := h H .non (Gr.refl H) (by unfold DR; rfl)
theorem OkD.lst {xs : List PyData} {vs : List V} {p : Addr} {Q : VK} (h : OkD X T φ st H (.list xs) Q) (r : StR X.K X.mg T φ st H) (hp : H p = Option.none) (hv : DRs X.K (Av φ st) H xs vs) : Q (.ref p) (upd H p (.lst vs)) :=
  h _ _ (DR.lst r hp hv).1 (DR.lst r hp hv).2
theorem OkD.tup {xs : List PyData} {vs : List V} {p : Addr} {Q : VK} (h : OkD X T φ st H (.tuple xs) Q) (r : StR X.K X.mg T φ st H) (hp : H p = Option.none) (hv : DRs X.K (Av φ st) H xs vs) : Q (.ref p) (upd H p (.tup vs)) :=
  h _ _ (DR.tup r hp hv).1 (DR.tup r hp hv).2
theorem OkD.old {d : PyData} {x : V} {Q : VK} (h : OkD X T φ st H d Q) (hd : DR X.K (Av φ st) H d x) : Q x H := h H x (Gr.refl H) hd
/-- intsOf among the data -/
def intsOf : List PyData → Option (List Int)
  | [] => some []
  | .int i :: r => (intsOf r).map (i :: ·)
  | _ :: _ => none
theorem ints_some : ∀ {xs : List PyData} {ns : List Int}, intsOf xs = some ns → xs = ns.map .int
  | [], ns, h => by cases h; rfl
  | .int i :: r, ns, h => by
    unfold intsOf at h
    obtain ⟨m, e, rfl⟩ := Option.map_eq_some_iff.mp h
    rw [ints_some e]; rfl
  | .none :: _, _, h => by cases h
  | .bool _ :: _, _, h => by cases h
  | .str _ :: _, _, h => by cases h
  | .list _ :: _, _, h => by cases h
  | .tuple _ :: _, _, h => by cases h
  | .dict _ :: _, _, h => by cases h
@[simp] theorem ints_map (ns : List Int) : intsOf (ns.map .int) = some ns := by
  induction ns with
  | nil => rfl
  | cons n ns ih => show (intsOf (ns.map .int)).map _ = _; rw [ih]; rfl
theorem DRs.ofInts {K : PySem.W.Frag} {O : Addr → Prop} : ∀ {ns : List Int} {vs : List V}, DRs K O H (ns.map .int) vs → vs = ns.map V.int
  | [], vs, h => by unfold DRs at h; exact h
  | n :: ns, vs, h => by
    unfold DRs at h
    obtain ⟨v, r, rfl, h1, h2⟩ := h
    rw [h1.d_int, DRs.ofInts h2]; rfl
theorem DRs.of_ints {K : PySem.W.Frag} {O : Addr → Prop} : ∀ {ns : List Int}, DRs K O H (ns.map .int) (ns.map V.int)
  | [] => by unfold DRs; rfl
  | n :: ns => by unfold DRs; exact ⟨_, _, rfl, by unfold DR; rfl, DRs.of_ints⟩
end
end TL
end

section
set_option Elab.async false
set_option linter.all false
set_option maxRecDepth 100000
set_option maxHeartbeats 1000000
set_option autoImplicit false
/-! TL12: arithmetic, comparisons, places. -/
namespace TL
open PySem L2
section
variable {X : Cx} {T : List Tb}
def oSub : PyData → PyData → Option PyData
  | .int i, .int j => some (.int (i - j))
  | _, _ => none
def oAdd : PyData → PyData → Option PyData
  | .int i, .int j => some (.int (i + j))
  | .str a, .str b => if a.length + b.length ≤ lineN then some (.str (a ++ b)) else none
  | .list xs, .list ys => if xs.length + ys.length ≤ lineN then some (.list (xs ++ ys)) else none
  | .tuple xs, .tuple ys => if xs.length + ys.length ≤ lineN ∧ xs ≠ [] then some (.tuple (xs ++ ys)) else none
  | _, _ => none
def oAdd1 : PyData → PyData → Option PyData
  | .int i, .int j => some (.int (i + j))
  | _, _ => none
def wideI (i : Int) : Bool := decide (-(2 ^ 64) < i) && decide (i < 2 ^ 64)
def oMul : PyData → PyData → Option PyData
  | .int i, .int j => if (wideI i || wideI j) = true then some (.int (i * j)) else none
  | _, _ => none
def oDiv : PyData → PyData → Option PyData
  | .int i, .int j => if 0 < j ∧ j < 1073741824 then some (.int (i / j)) else if j ≠ 0 ∧ j.natAbs < 1073741824 then some (.int (i.fdiv j)) else none
  | _, _ => none
def oMod : PyData → PyData → Option PyData
  | .int i, .int j => if 0 < j then some (.int (i % j)) else if j ≠ 0 then some (.int (i.fmod j)) else none
  | _, _ => none
def oPow : PyData → PyData → Option PyData
  | .int i, .int j => if 0 ≤ j ∧ j ≤ 1000000 ∧ i.natAbs < 2 ^ 64 then some (.int (i ^ j.toNat)) else none
  | _, _ => none
def oNeg : PyData → Option PyData
  | .int i => some (.int (-i))
  | _ => none
theorem op_sub' : OpR X (binaryOp .Sub) (r2 X T oSub) := by
  rintro pins s σ H x y v u Q I rx ry ⟨φ, st, a, b, d, r, va, vb, e, ok⟩
  unfold oSub at e
  split at e
  · cases e; exact op_sub pins s σ H x y v u Q I rx ry ⟨_, _, va.int, vb.int, ok.int⟩
  · cases e
theorem iop_sub' : OpR X (inplaceOp .Sub) (r2 X T oSub) := by
  rintro pins s σ H x y v u Q I rx ry ⟨φ, st, a, b, d, r, va, vb, e, ok⟩
  unfold oSub at e
  split at e
  · cases e; exact iop_sub pins s σ H x y v u Q I rx ry ⟨_, _, va.int, vb.int, ok.int⟩
  · cases e
theorem iop_add' : OpR X (inplaceOp .Add) (r2 X T oAdd1) := by
  rintro pins s σ H x y v u Q I rx ry ⟨φ, st, a, b, d, r, va, vb, e, ok⟩
  unfold oAdd1 at e
  split at e
  · cases e; exact iop_add pins s σ H x y v u Q I rx ry ⟨_, _, va.int, vb.int, ok.int⟩
  · cases e
theorem op_mul' : OpR X (binaryOp .Mult) (r2 X T oMul) := by
  rintro pins s σ H x y v u Q I rx ry ⟨φ, st, a, b, d, r, va, vb, e, ok⟩
  unfold oMul at e
  split at e
  · split at e
    · rename_i h
      cases e
      refine op_mul pins s σ H x y v u Q I rx ry ⟨_, _, va.int, vb.int, ?_, ok.int⟩
      unfold wideI at h
      simp only [Bool.or_eq_true, Bool.and_eq_true, decide_eq_true_eq] at h
      exact h
    · cases e
  · cases e
theorem op_div' : OpR X (binaryOp .FloorDiv) (r2 X T oDiv) := by
  rintro pins s σ H x y v u Q I rx ry ⟨φ, st, a, b, d, r, va, vb, e, ok⟩
  unfold oDiv at e
  split at e
  · split at e
    · rename_i h
      cases e
      exact op_fdiv pins s σ H x y v u Q I rx ry ⟨_, _, va.int, vb.int, h, ok.int⟩
    · split at e
      · rename_i h
        cases e
        exact op_fdivN pins s σ H x y v u Q I rx ry ⟨_, _, va.int, vb.int, h, ok.int⟩
      · cases e
  · cases e
theorem op_mod' : OpR X (binaryOp .Mod) (r2 X T oMod) := by
  rintro pins s σ H x y v u Q I rx ry ⟨φ, st, a, b, d, r, va, vb, e, ok⟩
  unfold oMod at e
  split at e
  · split at e
    · rename_i h
      cases e
      exact op_mod pins s σ H x y v u Q I rx ry ⟨_, _, va.int, vb.int, h, ok.int⟩
    · split at e
      · rename_i h
        cases e
        exact op_modN pins s σ H x y v u Q I rx ry ⟨_, _, va.int, vb.int, h, ok.int⟩
      · cases e
  · cases e
theorem op_pow' : OpR X (binaryOp .Pow) (r2 X T oPow) := by
  rintro pins s σ H x y v u Q I rx ry ⟨φ, st, a, b, d, r, va, vb, e, ok⟩
  unfold oPow at e
  split at e
  · split at e
    · rename_i h
      cases e
      exact op_pow pins s σ H x y v u Q I rx ry ⟨_, _, va.int, vb.int, h, ok.int⟩
    · cases e
  · cases e
theorem un_neg' : UnR X (unaryOp .USub) (r1 X T oNeg) := by
  rintro pins s σ H x v Q I rx ⟨φ, st, a, d, r, va, e, ok⟩
  unfold oNeg at e
  split at e
  · cases e; exact un_neg pins s σ H x v Q I rx ⟨_, va.int, ok.int⟩
  · cases e
theorem line_eq : lineN = sizeLine := by decide
theorem op_add' : OpR X (binaryOp .Add) (r2 X T oAdd) := by
  rintro pins s σ H x y v u Q I rx ry ⟨φ, st, a, b, d, r, va, vb, e, ok⟩
  unfold oAdd at e
  split at e
  · cases e; exact op_add pins s σ H x y v u Q I rx ry ⟨_, _, va.int, vb.int, ok.int⟩
  · split at e
    · rename_i h
      cases e
      exact op_add_str pins s σ H x y v u Q I rx ry ⟨_, _, va.str, vb.str, h, ok.str⟩
    · cases e
  · split at e
    · rename_i h
      cases e
      obtain ⟨l, vs, rfl, hl, hd⟩ := va.list r
      obtain ⟨l2, us, rfl, hl2, hd2⟩ := vb.list r
      cases rx
      cases ry
      obtain ⟨z1, its, n, r1, l1, p1⟩ := hl.at I
      obtain ⟨z2, its2, n2, r2, l2, p2⟩ := hl2.at I
      have e1 := hd.length
      have e2 := hd2.length
      have hz : vs.length + us.length ≤ sizeLine := by rw [e1, e2, ← line_eq]; exact h
      refine PySem.P.add_list p1 p2 ?_ (by rw [List.size_toArray, List.size_toArray, ← l1, ← l2]; exact hz)
      have ea : its.toArray ++ its2.toArray = (its ++ its2).toArray := by simp
      rw [ea]
      exact ⟨.ref _, _, I.lnew (t' := s.toks) (r1.append r2) (by rw [List.length_append]; exact hz), rfl, ok.lst r I.fresh (hd.append hd2)⟩
    · cases e
  · split at e
    · rename_i h
      cases e
      obtain ⟨l, vs, rfl, hl, hd⟩ := va.tuple
      obtain ⟨l2, us, rfl, hl2, hd2⟩ := vb.tuple
      have e1 := hd.length
      have e2 := hd2.length
      refine op_catT pins s σ H _ _ v u Q I rx ry ⟨l, l2, vs, us, rfl, rfl, hl.sq, hl2.sq, ?_, ?_, fun z => ?_, fun z p hp => ok.tup r hp (hd.append hd2)⟩
      · intro z; rw [z] at e1; exact h.2 (List.eq_nil_of_length_eq_zero e1.symm)
      · rw [e1, e2]; exact h.1
      · subst z
        refine ok.old ?_
        rw [List.eq_nil_of_length_eq_zero (l := _) e2.symm, List.append_nil]
        unfold DR
        exact ⟨l, vs, rfl, hl, hd⟩
    · cases e
  · cases e
end
end TL
end

section
set_option Elab.async false
set_option linter.all false
set_option maxRecDepth 100000
set_option maxHeartbeats 1000000
set_option autoImplicit false
/-! TL13: comparisons, places, parts. -/
namespace TL
open PySem L2
open PySem.W (alike dataLt AllAlike Sortable dataLe)
section
variable {X : Cx} {T : List Tb} {D : DI} {k : Nat} {W : XK}
def cmpOk (a b : PyData) : Bool := alike a b && nod a && nod b && !(match a with | .none => true | _ => false) && decide (a.depth ≤ 64)
def oEq : PyData → PyData → Option PyData
  | .int i, .int j => some (.bool (decide (i = j)))
  | .str a, .str b => some (.bool (decide (a = b)))
  | a, b => if (SeqAt.shaped a && SeqAt.shaped b) = true then some (.bool (PyData.eqv a b)) else none
def oNe : PyData → PyData → Option PyData
  | .int i, .int j => some (.bool (!decide (i = j)))
  | .str a, .str b => some (.bool (!decide (a = b)))
  | a, b => if (SeqAt.shaped a && SeqAt.shaped b) = true then some (.bool (!PyData.eqv a b)) else none
def oLt : PyData → PyData → Option PyData
  | .int i, .int j => some (.bool (decide (i < j)))
  | a, b => if cmpOk a b = true then some (.bool (dataLt a b)) else none
def oLe : PyData → PyData → Option PyData
  | .int i, .int j => some (.bool (decide (i ≤ j)))
  | a, b => if cmpOk a b = true then some (.bool (!dataLt b a)) else none
def oGt : PyData → PyData → Option PyData
  | .int i, .int j => some (.bool (decide (j < i)))
  | a, b => if cmpOk a b = true then some (.bool (dataLt b a)) else none
def oGe : PyData → PyData → Option PyData
  | .int i, .int j => some (.bool (decide (j ≤ i)))
  | a, b => if cmpOk a b = true then some (.bool (!dataLt a b)) else none
theorem Cin.units (c : Cin D k X) : X.A.units + 200 < cLine := by have := c.room.un; omega
theorem op_eq' (ci : Cin D k X) : OpR X (compareOp .Eq) (r2 X T oEq) := by
  rintro pins s σ H x y v u Q I rx ry ⟨φ, st, a, b, d, r, va, vb, e, ok⟩
  unfold oEq at e
  split at e
  · cases e
    have hx := va.int
    have hy := vb.int
    subst hx hy
    refine op_eq pins s σ H _ _ v u Q I rx ry ⟨rfl, ?_⟩
    have := ok.bool
    simpa using this
  · cases e
    have hx := va.str
    have hy := vb.str
    subst hx hy
    refine op_eq pins s σ H _ _ v u Q I rx ry ⟨rfl, ?_⟩
    have := ok.bool
    simpa using this
  · split at e
    · rename_i h
      cases e
      rw [Bool.and_eq_true] at h
      obtain ⟨as, q1⟩ := va.reads I r (nod_shaped h.1) rx
      obtain ⟨bs, q2⟩ := vb.reads I r (nod_shaped h.2) ry
      exact SeqAt.compareEq_shaped q1 q2 h.1 h.2 (by have := ci.units; omega) ⟨.bl _, H, I, rfl, ok.bool⟩
    · cases e
theorem op_ne' (ci : Cin D k X) : OpR X (compareOp .NotEq) (r2 X T oNe) := by
  rintro pins s σ H x y v u Q I rx ry ⟨φ, st, a, b, d, r, va, vb, e, ok⟩
  unfold oNe at e
  split at e
  · cases e
    have hx := va.int
    have hy := vb.int
    subst hx hy
    refine op_ne pins s σ H _ _ v u Q I rx ry ⟨rfl, ?_⟩
    have := ok.bool
    simpa using this
  · cases e
    have hx := va.str
    have hy := vb.str
    subst hx hy
    refine op_ne pins s σ H _ _ v u Q I rx ry ⟨rfl, ?_⟩
    have := ok.bool
    simpa using this
  · split at e
    · rename_i h
      cases e
      rw [Bool.and_eq_true] at h
      obtain ⟨as, q1⟩ := va.reads I r (nod_shaped h.1) rx
      obtain ⟨bs, q2⟩ := vb.reads I r (nod_shaped h.2) ry
      exact SeqAt.compareNe_shaped q1 q2 h.1 h.2 (by have := ci.units; omega) ⟨.bl _, H, I, rfl, ok.bool⟩
    · cases e
theorem cmpOk_of {a b : PyData} (h : cmpOk a b = true) : alike a b = true ∧ nod a = true ∧ nod b = true ∧ a ≠ .none ∧ a.depth ≤ 64 := by
  unfold cmpOk at h
  simp only [Bool.and_eq_true, decide_eq_true_eq] at h
  obtain ⟨⟨⟨⟨h1, h2⟩, h3⟩, h4⟩, h5⟩ := h
  exact ⟨h1, h2, h3, fun z => by subst z; simp at h4, h5⟩
theorem op_lt' (ci : Cin D k X) : OpR X (compareOp .Lt) (r2 X T oLt) := by
  rintro pins s σ H x y v u Q I rx ry ⟨φ, st, a, b, d, r, va, vb, e, ok⟩
  unfold oLt at e
  split at e
  · cases e; exact op_lt pins s σ H x y v u Q I rx ry ⟨_, _, va.int, vb.int, ok.bool⟩
  · split at e
    · rename_i h
      cases e
      obtain ⟨h1, h2, h3, h4, h5⟩ := cmpOk_of h
      obtain ⟨as, q1⟩ := va.reads I r h2 rx
      obtain ⟨bs, q2⟩ := vb.reads I r h3 ry
      exact PySem.W.lt_data q1 q2 h1 h4 (by have := ci.units; omega) ⟨.bl _, H, I, rfl, ok.bool⟩
    · cases e
theorem op_le' (ci : Cin D k X) : OpR X (compareOp .LtE) (r2 X T oLe) := by
  rintro pins s σ H x y v u Q I rx ry ⟨φ, st, a, b, d, r, va, vb, e, ok⟩
  unfold oLe at e
  split at e
  · cases e; exact op_le pins s σ H x y v u Q I rx ry ⟨_, _, va.int, vb.int, ok.bool⟩
  · split at e
    · rename_i h
      cases e
      obtain ⟨h1, h2, h3, h4, h5⟩ := cmpOk_of h
      obtain ⟨as, q1⟩ := va.reads I r h2 rx
      obtain ⟨bs, q2⟩ := vb.reads I r h3 ry
      exact PySem.W.le_data q1 q2 h1 h4 (by have := ci.units; omega) ⟨.bl _, H, I, rfl, ok.bool⟩
    · cases e
theorem op_gt' (ci : Cin D k X) : OpR X (compareOp .Gt) (r2 X T oGt) := by
  rintro pins s σ H x y v u Q I rx ry ⟨φ, st, a, b, d, r, va, vb, e, ok⟩
  unfold oGt at e
  split at e
  · cases e; exact op_gt pins s σ H x y v u Q I rx ry ⟨_, _, va.int, vb.int, ok.bool⟩
  · split at e
    · rename_i h
      cases e
      obtain ⟨h1, h2, h3, h4, h5⟩ := cmpOk_of h
      obtain ⟨as, q1⟩ := va.reads I r h2 rx
      obtain ⟨bs, q2⟩ := vb.reads I r h3 ry
      exact PySem.W.gt_data q1 q2 h1 h4 (by have := ci.units; omega) ⟨.bl _, H, I, rfl, ok.bool⟩
    · cases e
theorem op_ge' (ci : Cin D k X) : OpR X (compareOp .GtE) (r2 X T oGe) := by
  rintro pins s σ H x y v u Q I rx ry ⟨φ, st, a, b, d, r, va, vb, e, ok⟩
  unfold oGe at e
  split at e
  · cases e; exact op_ge pins s σ H x y v u Q I rx ry ⟨_, _, va.int, vb.int, ok.bool⟩
  · split at e
    · rename_i h
      cases e
      obtain ⟨h1, h2, h3, h4, h5⟩ := cmpOk_of h
      obtain ⟨as, q1⟩ := va.reads I r h2 rx
      obtain ⟨bs, q2⟩ := vb.reads I r h3 ry
      exact PySem.W.ge_data q1 q2 h1 h4 (by have := ci.units; omega) ⟨.bl _, H, I, rfl, ok.bool⟩
    · cases e
/-! ### places -/
def oIx : PyData → PyData → Option PyData
  | .list xs, .int i => atI xs i
  | .tuple xs, .int i => atI xs i
  | .str z, .int i => if z.length ≤ lineN then (atI z.cps.toList i).map fun c => .str ⟨#[c]⟩ else none
  | _, _ => none
theorem DRs.atI {K : PySem.W.Frag} {O : Addr → Prop} {H : Hp} {xs : List PyData} {vs : List V} {i : Int} {x : PyData} (h : DRs K O H xs vs) (e : L2.atI xs i = some x) : ∃ v, L2.atI vs i = some v ∧ DR K O H x v := by
  unfold L2.atI at e ⊢
  rw [h.length]
  cases q : L2.ixN xs.length i with
  | none => rw [q] at e; cases e
  | some j =>
    rw [q] at e
    obtain ⟨v, e1, r⟩ := DRs.at h (show xs[j]? = some x from e)
    exact ⟨v, e1, r⟩
theorem ix' : IxR X (r2 X T oIx) := by
  rintro value slice pins s σ H x y v u Q I rx ry ⟨φ, st, a, b, d, r, va, vb, e, ok⟩ hs
  unfold oIx at e
  split at e
  · obtain ⟨p, vs, rfl, hl, hd⟩ := va.list r
    obtain ⟨w, e1, r1⟩ := hd.atI e
    exact ix_list value slice pins s σ H _ _ v u Q I rx ry ⟨p, vs, _, w, rfl, vb.int, hl.sq, e1, ok.old r1⟩ hs
  · obtain ⟨p, vs, rfl, hl, hd⟩ := va.tuple
    obtain ⟨w, e1, r1⟩ := hd.atI e
    exact ix_tup value slice pins s σ H _ _ v u Q I rx ry ⟨p, vs, _, w, rfl, vb.int, hl.sq, e1, ok.old r1⟩ hs
  · split at e
    · rename_i z i h
      obtain ⟨c, e1, rfl⟩ := Option.map_eq_some_iff.mp e
      exact ix_str value slice pins s σ H _ _ v u Q I rx ry ⟨z, i, c, va.str, vb.int, h, e1, ok.str⟩ hs
    · cases e
  · cases e
theorem E_ix {a b : Expr} {f : PyData → PyData → Option PyData} {ma mb : EM} {pos : Pos} (hi : IxR X (r2 X T f)) (ha : E X T W a ma) (hb : E X T W b mb) (hs : PlainIx b := by intro _ _; rfl) : E X T W (.Subscript a b pos) (mP2 f ma mb) :=
  ⟨PE.imp (pe_ix hi ha.run hb.run hs) fun _ _ _ h => two h⟩
/-! ### parts -/
def partO (d : PyData) : Option (Option Int) :=
  match d with
  | .none => some none
  | .int i => some (some i)
  | _ => none
def cutL {α : Type} (xs : List α) (lo hi : Option Int) : List α := (xs.drop (HT.sIx xs.length 0 lo)).take (HT.sIx xs.length xs.length hi - HT.sIx xs.length 0 lo)
def oSl (d : PyData) (lo hi : Option Int) : Option PyData :=
  match d with
  | .list xs => some (.list (cutL xs lo hi))
  | .tuple xs => some (.tuple (cutL xs lo hi))
  | .str z => if z.length ≤ lineN then some (.str (Txt.slice z lo hi)) else none
  | _ => none
/-- a slice's part -/
def mPart : Option EM → Slots → Store → R (Option Int)
  | none => fun _ st => .ok none st
  | some m => fun sl st => (m sl st).bind fun v st1 =>
    match v with
    | .d (.int i) => .ok (some i) st1
    | _ => .stuck
def mSl (m : EM) (lo hi : Option EM) : EM := fun sl st =>
  (m sl st).bind fun v st1 => (mPart lo sl st1).bind fun l st2 => (mPart hi sl st2).bind fun h st3 => R.opt (((deref v st3).bind fun d => oSl d l h).map .d) st3
def rs (X : Cx) (T : List Tb) : V → Option Int → Option Int → Hp → VK → Prop := fun x lo hi H Q => ∃ φ st a d, StR X.K X.mg T φ st H ∧ VD X.K φ st H a x ∧ oSl a lo hi = some d ∧ OkD X T φ st H d Q
theorem DRs.cut {K : PySem.W.Frag} {O : Addr → Prop} {H : Hp} {xs : List PyData} {vs : List V} {lo hi : Option Int} (h : DRs K O H xs vs) : DRs K O H (cutL xs lo hi) (cutV vs lo hi) := by
  unfold cutL cutV
  rw [h.length]
  exact DRs.take _ (DRs.drop _ h)
theorem cut_all {α : Type} {xs : List α} {lo hi : Option Int} (h : HT.sIx xs.length 0 lo = 0 ∧ HT.sIx xs.length xs.length hi = xs.length) : cutL xs lo hi = xs := by
  unfold cutL
  rw [h.1, h.2]
  simp
theorem sl' : L2.SlR X (rs X T) := by
  rintro pins s σ H x v vl vu lo hi sl Q I rx hs pl pu ⟨φ, st, a, d, r, va, e, ok⟩
  unfold oSl at e
  split at e
  · cases e
    obtain ⟨p, vs, rfl, hl, hd⟩ := va.list r
    exact sl_list pins s σ H _ v vl vu lo hi sl Q I rx hs pl pu ⟨p, vs, rfl, hl.sq, fun q hq => ok.lst r hq hd.cut⟩
  · cases e
    obtain ⟨p, vs, rfl, hl, hd⟩ := va.tuple
    refine sl_tupA pins s σ H _ v vl vu lo hi sl Q I rx hs pl pu ⟨p, vs, rfl, hl.sq, fun z => ?_, fun _ q hq => ok.tup r hq hd.cut⟩
    have e1 := hd.length
    rw [e1] at z
    refine ok.old ?_
    rw [cut_all z]
    unfold DR
    exact ⟨p, vs, rfl, hl, hd⟩
  · split at e
    · rename_i z h
      cases e
      exact C8.sl_txt pins s σ H _ v vl vu lo hi sl Q I rx hs pl pu ⟨z, va.str, h, ok.str⟩
    · cases e
  · cases e
inductive Pt (X : Cx) (T : List Tb) (W : XK) : Option Expr → Option EM → Prop
  | none : Pt X T W none none
  | some {e : Expr} {m : EM} : E X T W e m → Pt X T W (some e) (some m)
def tPt (X : Cx) (T : List Tb) (W : XK) : Option EM → TO
  | none => tNoPart
  | some m => tPart (tE X T W m)
theorem Pt.po {e : Option Expr} {m : Option EM} (h : Pt X T W e m) : PO X e (tPt X T W m) := by
  cases h with
  | none => exact po_none
  | some h => exact po_some h.run
theorem part_bind {φ : Num} {sl : Slots} {st : Store} {H : Hp} {σ : L2.St} {m : Option EM} {f : Option Int → Store → R Val} {Q : VK} (a : At X.K X.mg T φ sl st σ H) (h : EPost X.K X.mg T W φ st H Q ((mPart m sl st).bind f)) :
    tPt X T W m σ H fun o H1 => ∃ φ1 st1, At X.K X.mg T φ1 sl st1 σ H1 ∧ Stp φ st H φ1 st1 H1 ∧ EPost X.K X.mg T W φ1 st1 H1 Q (f o st1) := by
  cases m with
  | none => exact ⟨φ, st, a, .refl, h⟩
  | some m =>
    have h' : EPost X.K X.mg T W φ st H Q ((m sl st).bind fun v st1 => (match v with | .d (.int i) => R.ok (some i) st1 | _ => R.stuck).bind f) := by
      revert h
      show EPost X.K X.mg T W φ st H Q (((m sl st).bind _).bind f) → _
      cases m sl st <;> exact fun h => h
    refine (tE_bind a h').mono fun u H1 ⟨φ1, st1, v, a1, v1, s1, p1⟩ => ?_
    cases v with
    | box n => exact p1.elim
    | d x =>
      cases x with
      | int i => exact ⟨i, DR.d_int (K := X.K) (O := Av φ1 st1) (H := H1) v1, φ1, st1, a1, s1, p1⟩
      | none => exact p1.elim
      | bool _ => exact p1.elim
      | str _ => exact p1.elim
      | list _ => exact p1.elim
      | tuple _ => exact p1.elim
      | dict _ => exact p1.elim
theorem tPt.mono {m : Option EM} {σ : L2.St} {H : Hp} {Q Q' : Option Int → Hp → Prop} (h : tPt X T W m σ H Q) (i : ∀ u H', Q u H' → Q' u H') : tPt X T W m σ H Q' := by
  cases m with
  | none => exact i _ _ h
  | some m => exact tE.mono h fun u H' ⟨j, e, q⟩ => ⟨j, e, i _ _ q⟩
theorem E_sl {e : Expr} {m : EM} {lo hi : Option Expr} {ml mh : Option EM} {pos p2 : Pos} (he : E X T W e m) (hl : Pt X T W lo ml) (hh : Pt X T W hi mh) : E X T W (.Subscript e (.Slice lo hi none p2) pos) (mSl m ml mh) := by
  refine ⟨PE.imp (pe_slice (sl' (T := T)) he.run hl.po hh.po) ?_⟩
  rintro σ H Q ⟨φ, sl, st, h0, h⟩
  refine (tE_bind h0 h).mono fun u H1 ⟨φ1, st1, v, a1, v1, s1, p1⟩ => (part_bind a1 p1).mono fun l H2 ⟨φ2, st2, a2, s2, p2⟩ => (part_bind a2 p2).mono fun l' H3 ⟨φ3, st3, a3, s3, p3⟩ => ?_
  obtain ⟨z, ez, pz⟩ := opt_ok (P := EPost X.K X.mg T W φ3 st3 H3 Q) (fun z => z) p3
  obtain ⟨d, ed, rfl⟩ := Option.map_eq_some_iff.mp ez
  obtain ⟨x, ex, ed⟩ := Option.bind_eq_some_iff.mp ed
  exact ⟨φ3, st3, x, d, a3.s, ⟨v, (v1.mon s2).mon s3, ex⟩, ed, okD_post a3.s pz⟩
end
end TL
end

section
set_option Elab.async false
set_option linter.all false
set_option maxRecDepth 100000
set_option maxHeartbeats 1000000
set_option autoImplicit false
/-! TL14: builtin calls. -/
namespace TL
open PySem L2
open PySem.W (alike dataLt AllAlike Sortable dataLe)
section
variable {X : Cx} {T : List Tb} {D : DI} {k : Nat} {W : XK}
theorem paired1 {α β : Type} {G : α → β → Prop} {a : α} {l : List β} (h : Paired G [a] l) : ∃ b, l = [b] ∧ G a b := by
  cases h with
  | cons r t => cases t; exact ⟨_, rfl, r⟩
theorem paired2 {α β : Type} {G : α → β → Prop} {a b : α} {l : List β} (h : Paired G [a, b] l) : ∃ x y, l = [x, y] ∧ G a x ∧ G b y := by
  cases h with
  | cons r t => obtain ⟨y, rfl, q⟩ := paired1 t; exact ⟨_, _, rfl, r, q⟩
theorem paired3 {α β : Type} {G : α → β → Prop} {a b c : α} {l : List β} (h : Paired G [a, b, c] l) : ∃ x y z, l = [x, y, z] ∧ G a x ∧ G b y ∧ G c z := by
  cases h with
  | cons r t => obtain ⟨y, z, rfl, q⟩ := paired2 t; exact ⟨_, _, _, rfl, r, q⟩
theorem vals3 {a b c : V} {us : List Value} (h : Vals [a, b, c] us) : ∃ x y z, us = [x, y, z] ∧ RelV a x ∧ RelV b y ∧ RelV c z := by
  cases h with
  | cons r t => obtain ⟨y, z, rfl, q⟩ := vals2 t; exact ⟨_, _, _, rfl, r, q⟩
/-! ### len, abs, int, list, tuple, sum -/
def oLen : List PyData → Option PyData
  | [.list xs] => some (.int xs.length)
  | [.tuple xs] => some (.int xs.length)
  | [.str z] => if z.length ≤ lineN then some (.int z.length) else none
  | _ => none
theorem call_len' : CallR X (.builtin "len") (rn X T oLen) := by
  rintro pins s σ H xs us Q I rv ⟨φ, st, as, d, r, pr, e, ok⟩
  unfold oLen at e
  split at e
  · cases e
    obtain ⟨x, rfl, vx⟩ := paired1 pr
    obtain ⟨p, vs, rfl, hl, hd⟩ := vx.list r
    exact call_len_seq pins s σ H _ us Q I rv ⟨p, vs, rfl, .inl hl.sq, by rw [hd.length]; exact ok.int⟩
  · cases e
    obtain ⟨x, rfl, vx⟩ := paired1 pr
    obtain ⟨p, vs, rfl, hl, hd⟩ := vx.tuple
    exact call_len_seq pins s σ H _ us Q I rv ⟨p, vs, rfl, .inr hl.sq, by rw [hd.length]; exact ok.int⟩
  · split at e
    · rename_i z h
      cases e
      obtain ⟨x, rfl, vx⟩ := paired1 pr
      exact call_len_str pins s σ H _ us Q I rv ⟨z, by rw [vx.str], h, ok.int⟩
    · cases e
  · cases e
def oAbs : List PyData → Option PyData
  | [.int i] => some (.int (if i < 0 then -i else i))
  | _ => none
theorem call_abs' : CallR X (.builtin "abs") (rn X T oAbs) := by
  rintro pins s σ H xs us Q I rv ⟨φ, st, as, d, r, pr, e, ok⟩
  unfold oAbs at e
  split at e
  · rename_i i
    cases e
    obtain ⟨x, rfl, vx⟩ := paired1 pr
    exact call_abs pins s σ H _ us Q I rv ⟨i, by rw [vx.int], ok.int⟩
  · cases e
def oInt : List PyData → Option PyData
  | [.int i] => some (.int i)
  | [.bool b] => some (.int (if b then 1 else 0))
  | _ => none
theorem call_int' : CallR X (.type "int") (rn X T oInt) := by
  rintro pins s σ H xs us Q I rv ⟨φ, st, as, d, r, pr, e, ok⟩
  unfold oInt at e
  split at e
  · rename_i i
    cases e
    obtain ⟨x, rfl, vx⟩ := paired1 pr
    exact call_int1 pins s σ H _ us Q I rv (.inl ⟨i, by rw [vx.int], ok.int⟩)
  · rename_i b
    cases e
    obtain ⟨x, rfl, vx⟩ := paired1 pr
    exact call_int1 pins s σ H _ us Q I rv (.inr ⟨b, by rw [vx.bool], ok.int⟩)
  · cases e
def oList : List PyData → Option PyData
  | [.list xs] => some (.list xs)
  | [.tuple xs] => some (.list xs)
  | _ => none
theorem call_list' : CallR X (.type "list") (rn X T oList) := by
  rintro pins s σ H xs us Q I rv ⟨φ, st, as, d, r, pr, e, ok⟩
  unfold oList at e
  split at e
  · cases e
    obtain ⟨x, rfl, vx⟩ := paired1 pr
    obtain ⟨p, vs, rfl, hl, hd⟩ := vx.list r
    exact call_list_of pins s σ H _ us Q I rv ⟨p, vs, rfl, .inl hl.sq, fun l h => ok.lst r h hd⟩
  · cases e
    obtain ⟨x, rfl, vx⟩ := paired1 pr
    obtain ⟨p, vs, rfl, hl, hd⟩ := vx.tuple
    exact call_list_of pins s σ H _ us Q I rv ⟨p, vs, rfl, .inr hl.sq, fun l h => ok.lst r h hd⟩
  · cases e
def oTuple : List PyData → Option PyData
  | [.list xs] => some (.tuple xs)
  | [.tuple xs] => some (.tuple xs)
  | _ => none
theorem call_tuple' : CallR X (.type "tuple") (rn X T oTuple) := by
  rintro pins s σ H xs us Q I rv ⟨φ, st, as, d, r, pr, e, ok⟩
  unfold oTuple at e
  split at e
  · cases e
    obtain ⟨x, rfl, vx⟩ := paired1 pr
    obtain ⟨p, vs, rfl, hl, hd⟩ := vx.list r
    exact call_tuple_of pins s σ H _ us Q I rv ⟨p, vs, rfl, .inl ⟨hl.sq, fun l h => ok.tup r h hd⟩⟩
  · cases e
    obtain ⟨x, rfl, vx⟩ := paired1 pr
    obtain ⟨p, vs, rfl, hl, hd⟩ := vx.tuple
    exact call_tuple_of pins s σ H _ us Q I rv ⟨p, vs, rfl, .inr ⟨hl.sq, ok.old (by unfold DR; exact ⟨p, vs, rfl, hl, hd⟩)⟩⟩
  · cases e
def oSum : List PyData → Option PyData
  | [.list xs] => (intsOf xs).map fun ns => .int ns.sum
  | _ => none
theorem call_sum' (ci : Cin D k X) : CallR X (.builtin "sum") (rn X T oSum) := by
  rintro pins s σ H xs us Q I rv ⟨φ, st, as, d, r, pr, e, ok⟩
  unfold oSum at e
  split at e
  · obtain ⟨ns, e1, rfl⟩ := Option.map_eq_some_iff.mp e
    have e1 := ints_some e1
    subst e1
    obtain ⟨x, rfl, vx⟩ := paired1 pr
    obtain ⟨p, vs, rfl, hl, hd⟩ := vx.list r
    have e2 := hd.ofInts
    subst e2
    exact cr_sum ci.calm pins s σ H _ us Q I rv ⟨p, ns, rfl, hl.sq, ok.int⟩
  · cases e
/-! ### min, max -/
def minI (n : Int) (ns : List Int) : Int := ns.foldl (fun a y => if y < a then y else a) n
def maxI (n : Int) (ns : List Int) : Int := ns.foldl (fun a y => if a < y then y else a) n
theorem minI_ok : ∀ (ns : List Int) (n : Int), minI n ns ∈ n :: ns ∧ ∀ y ∈ n :: ns, minI n ns ≤ y
  | [], n => ⟨by simp [minI], by simp [minI]⟩
  | m :: ns, n => by
    obtain ⟨h1, h2⟩ := minI_ok ns (if m < n then m else n)
    have e : minI n (m :: ns) = minI (if m < n then m else n) ns := rfl
    rw [e]
    generalize minI (if m < n then m else n) ns = z at h1 h2
    have hm := h2 (if m < n then m else n) (by simp)
    constructor
    · rcases List.mem_cons.mp h1 with h | h
      · rw [h]; split <;> simp
      · simp [h]
    · intro y hy
      rcases List.mem_cons.mp hy with h | h
      · subst h; split at hm <;> omega
      · rcases List.mem_cons.mp h with h | h
        · subst h; split at hm <;> omega
        · exact h2 y (by simp [h])
theorem maxI_ok : ∀ (ns : List Int) (n : Int), maxI n ns ∈ n :: ns ∧ ∀ y ∈ n :: ns, y ≤ maxI n ns
  | [], n => ⟨by simp [maxI], by simp [maxI]⟩
  | m :: ns, n => by
    obtain ⟨h1, h2⟩ := maxI_ok ns (if n < m then m else n)
    have e : maxI n (m :: ns) = maxI (if n < m then m else n) ns := rfl
    rw [e]
    generalize maxI (if n < m then m else n) ns = z at h1 h2
    have hm := h2 (if n < m then m else n) (by simp)
    constructor
    · rcases List.mem_cons.mp h1 with h | h
      · rw [h]; split <;> simp
      · simp [h]
    · intro y hy
      rcases List.mem_cons.mp hy with h | h
      · subst h; split at hm <;> omega
      · rcases List.mem_cons.mp h with h | h
        · subst h; split at hm <;> omega
        · exact h2 y (by simp [h])
def oMin : List PyData → Option PyData
  | [.int i, .int j] => some (.int (minI i [j]))
  | [.int i, .int j, .int k] => some (.int (minI i [j, k]))
  | [.list xs] =>
    match intsOf xs with
    | some (n :: ns) => some (.int (minI n ns))
    | _ => none
  | _ => none
def oMax : List PyData → Option PyData
  | [.int i, .int j] => some (.int (maxI i [j]))
  | [.int i, .int j, .int k] => some (.int (maxI i [j, k]))
  | [.list xs] =>
    match intsOf xs with
    | some (n :: ns) => some (.int (maxI n ns))
    | _ => none
  | _ => none
theorem call_min' (ci : Cin D k X) : CallR X (.builtin "min") (rn X T oMin) := by
  rintro pins s σ H xs us Q I rv ⟨φ, st, as, d, r, pr, e, ok⟩
  unfold oMin at e
  split at e
  · rename_i i j
    cases e
    obtain ⟨x, y, rfl, vx, vy⟩ := paired2 pr
    have hx := vx.int
    have hy := vy.int
    subst hx hy
    exact call_min2 ci.calm pins s σ H _ us Q I rv ⟨i, j, rfl, ok.int⟩
  · rename_i i j l
    cases e
    obtain ⟨x, y, z, rfl, vx, vy, vz⟩ := paired3 pr
    have hx := vx.int
    have hy := vy.int
    have hz := vz.int
    subst hx hy hz
    obtain ⟨u1, u2, u3, rfl, ⟨t1, rfl⟩, ⟨t2, rfl⟩, ⟨t3, rfl⟩⟩ := vals3 rv
    refine min_three_ints (I.ok.hd ci.calm) fun h' tk kk => ⟨_, H, I.kept kk, ?_, ok.int⟩
    show RelV (V.int (if l < (if j < i then j else i) then l else (if j < i then j else i))) _
    by_cases h1 : j < i
    · simp only [if_pos h1]
      by_cases h2 : l < j
      · simp only [if_pos h2]; exact ⟨_, rfl⟩
      · simp only [if_neg h2]; exact ⟨_, rfl⟩
    · simp only [if_neg h1]
      by_cases h2 : l < i
      · simp only [if_pos h2]; exact ⟨_, rfl⟩
      · simp only [if_neg h2]; exact ⟨_, rfl⟩
  · split at e
    · rename_i n ns hi
      cases e
      have e1 := ints_some hi
      subst e1
      obtain ⟨x, rfl, vx⟩ := paired1 pr
      obtain ⟨p, vs, rfl, hl, hd⟩ := vx.list r
      have e2 := hd.ofInts
      subst e2
      refine cr_min ci.calm pins s σ H _ us Q I rv ⟨p, n :: ns, rfl, hl.sq, by simp, fun m hm hle => ?_⟩
      obtain ⟨h1, h2⟩ := minI_ok ns n
      have : m = minI n ns := by have a := hle _ h1; have b := h2 _ hm; omega
      rw [this]
      exact ok.int
    · cases e
  · cases e
theorem call_max' (ci : Cin D k X) : CallR X (.builtin "max") (rn X T oMax) := by
  rintro pins s σ H xs us Q I rv ⟨φ, st, as, d, r, pr, e, ok⟩
  unfold oMax at e
  split at e
  · rename_i i j
    cases e
    obtain ⟨x, y, rfl, vx, vy⟩ := paired2 pr
    have hx := vx.int
    have hy := vy.int
    subst hx hy
    exact call_max2 ci.calm pins s σ H _ us Q I rv ⟨i, j, rfl, ok.int⟩
  · rename_i i j l
    cases e
    obtain ⟨x, y, z, rfl, vx, vy, vz⟩ := paired3 pr
    have hx := vx.int
    have hy := vy.int
    have hz := vz.int
    subst hx hy hz
    obtain ⟨u1, u2, u3, rfl, ⟨t1, rfl⟩, ⟨t2, rfl⟩, ⟨t3, rfl⟩⟩ := vals3 rv
    refine max_three_ints (I.ok.hd ci.calm) fun h' tk kk => ⟨_, H, I.kept kk, ?_, ok.int⟩
    show RelV (V.int (if (if i < j then j else i) < l then l else (if i < j then j else i))) _
    by_cases h1 : i < j
    · simp only [if_pos h1, gt_iff_lt]
      by_cases h2 : j < l
      · simp only [if_pos h2]; exact ⟨_, rfl⟩
      · simp only [if_neg h2]; exact ⟨_, rfl⟩
    · simp only [if_neg h1, gt_iff_lt]
      by_cases h2 : i < l
      · simp only [if_pos h2]; exact ⟨_, rfl⟩
      · simp only [if_neg h2]; exact ⟨_, rfl⟩
  · split at e
    · rename_i n ns hi
      cases e
      have e1 := ints_some hi
      subst e1
      obtain ⟨x, rfl, vx⟩ := paired1 pr
      obtain ⟨p, vs, rfl, hl, hd⟩ := vx.list r
      have e2 := hd.ofInts
      subst e2
      refine cr_max ci.calm pins s σ H _ us Q I rv ⟨p, n :: ns, rfl, hl.sq, by simp, fun m hm hle => ?_⟩
      obtain ⟨h1, h2⟩ := maxI_ok ns n
      have : m = maxI n ns := by have a := hle _ h1; have b := h2 _ hm; omega
      rw [this]
      exact ok.int
    · cases e
  · cases e
end
end TL
end

section
set_option Elab.async false
set_option linter.all false
set_option maxRecDepth 100000
set_option maxHeartbeats 1000000
set_option autoImplicit false
/-! TL15: sorted, keywords, lists of ranges. -/
namespace TL
open PySem L2
open PySem.W (alike dataLt AllAlike Sortable dataLe EachIs)
section
variable {X : Cx} {T : List Tb} {D : DI} {k : Nat} {W : XK}
def isTupN : PyData → Bool
  | .tuple (_ :: _) => true
  | _ => false
def isFlat : PyData → Bool
  | .none => false
  | .tuple _ => false
  | _ => true
def sortOk (xs : List PyData) : Bool :=
  (xs.all fun d => xs.all fun d' => alike d d') && (xs.all isTupN || xs.all isFlat) && nods xs && (xs.all fun d => decide (d.depth ≤ 64)) && decide (xs.length ≤ lineN)
theorem nods_mem {xs : List PyData} (h : nods xs = true) : ∀ d ∈ xs, nod d = true := by
  induction xs with
  | nil => intro d hd; cases hd
  | cons x xs ih =>
    unfold nods at h
    rw [Bool.and_eq_true] at h
    intro d hd
    rcases List.mem_cons.mp hd with e | e
    · rw [e]; exact h.1
    · exact ih h.2 d e
theorem sortOk_of {xs : List PyData} (h : sortOk xs = true) : AllAlike xs ∧ Sortable xs ∧ nods xs = true ∧ (∀ d ∈ xs, d.depth ≤ 64) ∧ xs.length ≤ sizeLine := by
  unfold sortOk at h
  simp only [Bool.and_eq_true, Bool.or_eq_true, List.all_eq_true, decide_eq_true_eq] at h
  obtain ⟨⟨⟨⟨h1, h2⟩, h3⟩, h4⟩, h5⟩ := h
  refine ⟨fun d hd d' hd' => h1 d hd d' hd', ?_, h3, h4, by rw [← line_eq]; exact h5⟩
  rcases h2 with h2 | h2
  · refine .inl fun d hd => ?_
    have := h2 d hd
    unfold isTupN at this
    split at this
    · exact ⟨_, _, rfl⟩
    · cases this
  · refine .inr fun d hd => ?_
    have := h2 d hd
    unfold isFlat at this
    constructor
    · intro z; subst z; simp at this
    · intro ys z; subst z; simp at this
/-- a value and its data -/
def RD (K : PySem.W.Frag) (O : Addr → Prop) (H : Hp) (u : Value) (d : PyData) : Prop := ∃ x, RelV x u ∧ DR K O H d x
theorem each_of {K : PySem.W.Frag} {O : Addr → Prop} {H : Hp} : ∀ {ds : List PyData} {vs : List V} {us : List Value}, DRs K O H ds vs → Vals vs us → EachIs (RD K O H) us ds
  | [], vs, us, h, r => by
    unfold DRs at h; subst h
    cases r
    exact .nil
  | d :: ds, vs, us, h, r => by
    unfold DRs at h
    obtain ⟨v, rr, rfl, h1, h2⟩ := h
    cases r with
    | cons r1 r2 => exact .cons ⟨v, r1, h1⟩ (each_of h2 r2)
theorem of_each {K : PySem.W.Frag} {O : Addr → Prop} {H : Hp} : ∀ {ds : List PyData} {us : List Value}, EachIs (RD K O H) us ds → ∃ vs, Vals vs us ∧ DRs K O H ds vs
  | [], us, h => by
    cases h
    exact ⟨[], .nil, by unfold DRs; rfl⟩
  | d :: ds, us, h => by
    cases h with
    | cons h1 h2 =>
      obtain ⟨v, r, q⟩ := h1
      obtain ⟨vs, r2, q2⟩ := of_each h2
      exact ⟨v :: vs, .cons r r2, by unfold DRs; exact ⟨v, vs, rfl, q, q2⟩⟩
theorem each_reads {O : Addr → Prop} {H : Hp} {σ : L2.St} {pins : List (Addr × Obj)} {s : Shared} (I : Inv X pins σ H s) : ∀ {ds : List PyData} {us : List Value}, nods ds = true → EachIs (RD X.K O H) us ds → EachIs (fun v b => ∃ as, Reads s.heap v (id b) as) us ds
  | [], us, _, h => by
    cases h
    exact .nil
  | d :: ds, us, n, h => by
    unfold nods at n
    rw [Bool.and_eq_true] at n
    cases h with
    | cons h1 h2 =>
      obtain ⟨v, r, q⟩ := h1
      exact .cons (DR.reads I d v _ n.1 q r) (each_reads I n.2 h2)
def oSort : List PyData → Option PyData
  | [.list xs] => if sortOk xs = true then some (.list (xs.mergeSort (dataLe false id))) else none
  | _ => none
theorem sorted_end {φ : Num} {st : Store} {H : Hp} {σ : L2.St} {pins : List (Addr × Obj)} {s : Shared} {Q : VK} {its out : List Value} {ds : List PyData} (I : Inv X pins σ H s) (r : StR X.K X.mg T φ st H) (hl : ds.length ≤ sizeLine)
    (h : EachIs (RD X.K (Av φ st) H) out ds) (ok : OkD X T φ st H (.list ds) Q) : EP X pins σ Q (.ref (s.heap.objs.size + 1)) { s with heap := PyProof.Rows.sortedAll s.heap its out.toArray } := by
  obtain ⟨vs, rv, hd⟩ := of_each h
  obtain ⟨ep, he⟩ := PyProof.Rows.sortedAll_at s.heap its out.toArray
  have hlen : vs.length ≤ sizeLine := by rw [hd.length]; exact hl
  exact ⟨.ref _, upd H (s.heap.objs.size + 1) (.lst vs), I.laid (t' := s.toks) (fun _ _ => PyProof.Rows.sortedAll_old) (Nat.le_succ _) ⟨hlen, out, ep, rv, he⟩, rfl, ok.lst r (I.hok.fresh (Nat.le_succ _)) hd⟩
theorem call_sorted' (ci : Cin D k X) : CallR X (.builtin "sorted") (rn X T oSort) := by
  rintro pins s σ H xs us Q I rv ⟨φ, st, as, d, r, pr, e, ok⟩
  unfold oSort at e
  split at e
  · split at e
    · rename_i ds h
      cases e
      obtain ⟨h1, h2, h3, h4, h5⟩ := sortOk_of h
      obtain ⟨x, rfl, vx⟩ := paired1 pr
      obtain ⟨p, vs, rfl, hl, hd⟩ := vx.list r
      rw [Vals.ref1 rv]
      obtain ⟨its, rv', pl, hz⟩ := I.list hl.sq
      have ee := each_of hd rv'
      refine PySem.W.sorted_data (enc := id) (R := RD X.K (Av φ st) H) pl.isList ee (each_reads I h3 ee) (by simpa using h1) (by simpa using h2) h5 (fun b hb => ?_) fun out hl' ho => sorted_end I r (by rw [List.length_mergeSort]; exact h5) ho ok
      have a := h4 b hb
      have c := ci.units
      show X.A.units + 2 + b.depth < cLine
      omega
    · cases e
  · cases e
/-! ### one keyword -/
def rkn (X : Cx) (T : List Tb) (f : List PyData → Option PyData) : List V → List V → Hp → VK → Prop := fun xs zs H Q => ∃ z, zs = [z] ∧ rn X T f (xs ++ [z]) H Q
def mKw (f : List PyData → Option PyData) (a : AM) (m : EM) : EM := fun sl st =>
  (a sl st).bind fun vs st1 => (m sl st1).bind fun w st2 => R.opt (((derefs (vs ++ [w]) st2).bind f).map .d) st2
def oSortR : List PyData → Option PyData
  | [.list xs, .bool b] => if sortOk xs = true then some (.list (xs.mergeSort (dataLe b id))) else none
  | _ => none
theorem vals_app {xs zs : List V} {us ws : List Value} (h : Vals xs us) (h2 : Vals zs ws) : Vals (xs ++ zs) (us ++ ws) := h.append h2
theorem snoc1 {α : Type} {xs : List α} {z a b : α} (h : xs ++ [z] = [a, b]) : xs = [a] ∧ z = b := by
  match xs, h with
  | [], h => simp at h
  | [c], h => simpa using h
  | c :: d :: r, h => simp at h
theorem callk_sorted' (ci : Cin D k X) : CallRK X (.builtin "sorted") ["reverse"] (rkn X T oSortR) := by
  rintro pins s σ H xs zs us ws Q I rv rw' ⟨z, rfl, φ, st, as, d, r, pr, e, ok⟩
  unfold oSortR at e
  split at e
  · split at e
    · rename_i ds b h
      cases e
      obtain ⟨h1, h2, h3, h4, h5⟩ := sortOk_of h
      obtain ⟨x, z', exz, vx, vz⟩ := paired2 pr
      obtain ⟨rfl, rfl⟩ := snoc1 exz
      have hz := vz.bool
      subst hz
      obtain ⟨w, rfl, rz⟩ := vals1 rw'
      cases rz
      obtain ⟨p, vs, rfl, hl, hd⟩ := vx.list r
      rw [Vals.ref1 rv]
      obtain ⟨its, rv', pl, hz⟩ := I.list hl.sq
      have ee := each_of hd rv'
      refine PySem.W.sorted_rev_data (enc := id) (R := RD X.K (Av φ st) H) pl.isList ee (each_reads I h3 ee) (by simpa using h1) (by simpa using h2) h5 (fun b hb => ?_) fun out hl' ho => sorted_end I r (by rw [List.length_mergeSort]; exact h5) ho ok
      have a := h4 b hb
      have c := ci.units
      show X.A.units + 2 + b.depth < cLine
      omega
    · cases e
  · cases e
def oMinD : List PyData → Option PyData
  | [.list xs, .int j] =>
    match xs, intsOf xs with
    | [], _ => some (.int j)
    | _, some (n :: ns) => if (n :: ns).length ≤ lineN then some (.int (minI n ns)) else none
    | _, _ => none
  | _ => none
def oMaxD : List PyData → Option PyData
  | [.list xs, .int j] =>
    match xs, intsOf xs with
    | [], _ => some (.int j)
    | _, some (n :: ns) => if (n :: ns).length ≤ lineN then some (.int (maxI n ns)) else none
    | _, _ => none
  | _ => none
theorem alike_intsL (ns : List Int) : PySem.W.AlikeAll (ns.map PyData.int) := by
  refine ⟨fun x hx y hy => ?_, fun x hx z => ?_⟩
  · obtain ⟨i, _, rfl⟩ := List.mem_map.mp hx
    obtain ⟨j, _, rfl⟩ := List.mem_map.mp hy
    unfold PySem.W.alike
    rfl
  · obtain ⟨i, _, rfl⟩ := List.mem_map.mp hx
    cases z
theorem minD_ints : ∀ (ns : List Int) (n : Int), PySem.W.minD (.int n) (ns.map .int) = .int (minI n ns)
  | [], n => rfl
  | m :: ns, n => by
    show PySem.W.minD (if dataLt (.int m) (.int n) then .int m else .int n) (ns.map .int) = .int (minI (if m < n then m else n) ns)
    rw [PySem.W.dataLt_int]
    by_cases h : m < n
    · simp only [h, decide_true, if_true]; exact minD_ints ns m
    · simp only [h, decide_false, if_false, Bool.false_eq_true]; exact minD_ints ns n
theorem maxD_ints : ∀ (ns : List Int) (n : Int), PySem.W.maxD (.int n) (ns.map .int) = .int (maxI n ns)
  | [], n => rfl
  | m :: ns, n => by
    show PySem.W.maxD (if dataLt (.int n) (.int m) then .int m else .int n) (ns.map .int) = .int (maxI (if n < m then m else n) ns)
    rw [PySem.W.dataLt_int]
    by_cases h : n < m
    · simp only [h, decide_true, if_true]; exact maxD_ints ns m
    · simp only [h, decide_false, if_false, Bool.false_eq_true]; exact maxD_ints ns n
theorem nod_ints : ∀ ns : List Int, nods (ns.map .int) = true
  | [] => by unfold nods; rfl
  | n :: ns => by
    show nods (.int n :: ns.map .int) = true
    unfold nods nod
    rw [nod_ints ns]; rfl
theorem callk_min' (ci : Cin D k X) : CallRK X (.builtin "min") ["default"] (rkn X T oMinD) := by
  rintro pins s σ H xs zs us ws Q I rv rw' ⟨z, rfl, φ, st, as, d, r, pr, e, ok⟩
  unfold oMinD at e
  split at e
  · rename_i ds j
    obtain ⟨x, z', exz, vx, vz⟩ := paired2 pr
    obtain ⟨rfl, rfl⟩ := snoc1 exz
    obtain ⟨w, rfl, rz⟩ := vals1 rw'
    obtain ⟨p, vs, rfl, hl, hd⟩ := vx.list r
    rw [Vals.ref1 rv]
    obtain ⟨its, rv', pl, hz⟩ := I.list hl.sq
    split at e
    · cases e
      have e0 : vs = [] := by have := hd.length; exact List.eq_nil_of_length_eq_zero this
      subst e0
      cases rv'
      refine PySem.W.min_list_default (vs := #[]) (xs := []) (as := []) (I.ok.hd ci.calm) pl.isList .nil (alike_intsL []) (by have := ci.units; show X.A.units + 1 + 0 < cLine; omega) (fun _ h' tk kk => ?_) (fun y ys i v h' tk bs e => by cases e)
      have hz := vz.int
      subst hz
      exact ⟨.int j, H, I.kept kk, rz, ok.int⟩
    · rename_i n ns hne hi
      split at e
      · cases e
        have e1 := ints_some hi
        subst e1
        have e2 := hd.ofInts
        subst e2
        obtain ⟨as, hr⟩ := DRs.reads (O := Av φ st) I ((n :: ns).map .int) _ its (nod_ints _) hd rv'
        refine PySem.W.min_list_default (vs := its.toArray) (xs := (n :: ns).map .int) (as := as) (I.ok.hd ci.calm) pl.isList (by simpa using hr) (alike_intsL _) (by rw [PySem.W.depth_ints]; have := ci.units; omega) (fun h => by cases h) (fun y ys i v h' tk bs e hv hrd kk => ?_)
        cases e
        rw [minD_ints] at hrd
        cases hrd with
        | int i t => exact ⟨.int (minI n ns), H, I.kept kk, ⟨t, rfl⟩, ok.int⟩
      · cases e
    · cases e
  · cases e
theorem callk_max' (ci : Cin D k X) : CallRK X (.builtin "max") ["default"] (rkn X T oMaxD) := by
  rintro pins s σ H xs zs us ws Q I rv rw' ⟨z, rfl, φ, st, as, d, r, pr, e, ok⟩
  unfold oMaxD at e
  split at e
  · rename_i ds j
    obtain ⟨x, z', exz, vx, vz⟩ := paired2 pr
    obtain ⟨rfl, rfl⟩ := snoc1 exz
    obtain ⟨w, rfl, rz⟩ := vals1 rw'
    obtain ⟨p, vs, rfl, hl, hd⟩ := vx.list r
    rw [Vals.ref1 rv]
    obtain ⟨its, rv', pl, hz⟩ := I.list hl.sq
    split at e
    · cases e
      have e0 : vs = [] := by have := hd.length; exact List.eq_nil_of_length_eq_zero this
      subst e0
      cases rv'
      refine PySem.W.max_list_default (vs := #[]) (xs := []) (as := []) (I.ok.hd ci.calm) pl.isList .nil (alike_intsL []) (by have := ci.units; show X.A.units + 1 + 0 < cLine; omega) (fun _ h' tk kk => ?_) (fun y ys i v h' tk bs e => by cases e)
      have hz := vz.int
      subst hz
      exact ⟨.int j, H, I.kept kk, rz, ok.int⟩
    · rename_i n ns hne hi
      split at e
      · cases e
        have e1 := ints_some hi
        subst e1
        have e2 := hd.ofInts
        subst e2
        obtain ⟨as, hr⟩ := DRs.reads (O := Av φ st) I ((n :: ns).map .int) _ its (nod_ints _) hd rv'
        refine PySem.W.max_list_default (vs := its.toArray) (xs := (n :: ns).map .int) (as := as) (I.ok.hd ci.calm) pl.isList (by simpa using hr) (alike_intsL _) (by rw [PySem.W.depth_ints]; have := ci.units; omega) (fun h => by cases h) (fun y ys i v h' tk bs e hv hrd kk => ?_)
        cases e
        rw [maxD_ints] at hrd
        cases hrd with
        | int i t => exact ⟨.int (maxI n ns), H, I.kept kk, ⟨t, rfl⟩, ok.int⟩
      · cases e
    · cases e
  · cases e
theorem paired_snoc {α β : Type} {G : α → β → Prop} {a : α} {b : β} : ∀ {l : List α} {r : List β}, Paired G l r → G a b → Paired G (l ++ [a]) (r ++ [b])
  | _, _, .nil, h => .cons h .nil
  | _, _, .cons q t, h => .cons q (paired_snoc t h)
/-- a call of a builtin with one keyword -/
theorem E_bltK {x : Str} {id : String} {kw : Str} {p pos kp : Pos} {e e2 : Expr} {es : List Expr} {f : List PyData → Option PyData} {m : AM} {m2 : EM} (c : Cin D k X) (hc : CallRK X (.builtin id) [kw] (rkn X T f)) (hg : D.g x = true) (hm : X.mg x = none) (hv : bootBuiltins x = some (.builtin id))
    (ha : Ea X T W (e :: es) m) (hk : E X T W e2 m2)
    (he : backTo pos (starEach (e :: es) X.env) = (false, eval e X.env) :: backTo pos (starEach es X.env) := by rfl) (hpl : (backTo pos (starEach (e :: es) X.env)).any (·.1) = false := by rfl)
    (hall : (backToKw pos (keywordEach [⟨some kw, e2, kp⟩] X.env)).all (·.1.isSome) = true := by rfl) (hnone : (backToKw pos (keywordEach [⟨some kw, e2, kp⟩] X.env)).any (·.1.isNone) = false := by rfl) (hks : (backToKw pos (keywordEach [⟨some kw, e2, kp⟩] X.env)).filterMap (·.1) = [kw] := by rfl) :
    E X T W (.Call (.Name x p) (e :: es) [⟨some kw, e2, kp⟩] pos) (mKw f m m2) := by
  obtain ⟨h1, h2, h3⟩ := c.gl hg
  refine ⟨PE.imp (pe_callBK hc h1 hm hv ha.run (pk_cons hk.run pk_nil) h3 h2 he hpl hall hnone hks) ?_⟩
  rintro σ H Q ⟨φ, sl, st, h0, h⟩
  refine (tA_bind h0 h).mono fun us H1 ⟨φ1, st1, vs, a1, v1, s1, p1⟩ => ?_
  refine (tE_bind a1 p1).mono fun u H2 ⟨φ2, st2, v', a2, v2, s2, p2⟩ => ?_
  obtain ⟨z, ez, pz⟩ := opt_ok (P := EPost X.K X.mg T W φ2 st2 H2 Q) (fun z => z) p2
  obtain ⟨d, ed, rfl⟩ := Option.map_eq_some_iff.mp ez
  obtain ⟨xs, ex, ed⟩ := Option.bind_eq_some_iff.mp ed
  exact ⟨u, rfl, φ2, st2, xs, d, a2.s, derefs_rel (paired_snoc (L2.Paired.mapP v1 fun _ _ h => VR.mon s2 h) v2) ex, ed, okD_post a2.s pz⟩
end
end TL
end

section
set_option Elab.async false
set_option linter.all false
set_option maxRecDepth 100000
set_option maxHeartbeats 1000000
set_option autoImplicit false
/-! TL16: lists in boxes. -/
namespace TL
open PySem L2
section
variable {X : Cx} {T : List Tb} {D : DI} {k : Nat} {W : XK}
/-- a box of a list -/
def boxL (v : Val) (st : Store) : Option (Nat × List PyData) :=
  match v with
  | .box n =>
    match st[n]? with
    | some (.lst xs) => some (n, xs)
    | _ => none
  | .d _ => none
theorem boxL_some {v : Val} {st : Store} {n : Nat} {xs : List PyData} (h : boxL v st = some (n, xs)) : v = .box n ∧ st[n]? = some (.lst xs) := by
  unfold boxL at h
  split at h
  · split at h
    · rename_i e; cases h; exact ⟨rfl, e⟩
    · cases h
  · cases h
/-- a box's list is written -/
theorem lst_write {φ : Num} {st : Store} {H : Hp} {n : Nat} {u : V} {xs ys : List PyData} {K : PySem.W.Frag} {mg : Str → Option Value} (s : StR K mg T φ st H) (e : st[n]? = some (.lst xs)) (v : VR K φ st H (.box n) u) :
    ∃ a vs, u = .ref a ∧ H a = some (.lst vs) ∧ DRs K (Av φ st) H xs vs ∧ ∀ us, DRs K (Av φ st) H ys us → StR K mg T φ (st.set n (.lst ys)) (upd H a (.lst us)) ∧ Stp φ st H φ (st.set n (.lst ys)) (upd H a (.lst us)) := by
  obtain ⟨a, ea, rfl⟩ := v
  obtain ⟨vs, h1, h2⟩ := s.cell n _ a e ea
  refine ⟨a, vs, rfl, h1, h2, fun us hu => ?_⟩
  have hn : n < st.length := (List.getElem?_eq_some_iff.mp e).1
  have lv : ∀ x, Live φ (st.set n (.lst ys)) x → Live φ st x := fun x ⟨i, d, e1, e2, e3⟩ => by
    by_cases hi : n = i
    · subst hi
      exact ⟨n, _, e, rfl, e3⟩
    · rw [List.getElem?_set_ne hi] at e1
      exact ⟨i, d, e1, e2, e3⟩
  have hl : Live φ st a := ⟨n, _, e, rfl, ea⟩
  have m : Mon (Av φ st) H (Av φ (st.set n (.lst ys))) (upd H a (.lst us)) :=
    ⟨fun x u hx nx _ => .inl (by rw [upd_ne (show x ≠ a from fun z => nx (.inl (by rw [z]; exact hl)))]; exact hx), fun x _ nx l => nx (l.imp (lv x) id)⟩
  exact s.write (c' := .lst ys) (o' := .lst us) e ea h1 rfl rfl (fun _ z => by cases z) rfl rfl ⟨us, upd_same, DRs.mon m _ _ hu⟩
/-! ### append, pop, xs[i] = -/
def mApp (o m : EM) : EM := fun sl st =>
  (o sl st).bind fun v st1 => bif (boxL v st1).isSome then
    (m sl st1).bind fun u st2 =>
      match boxL v st2, dataOf u with
      | some (n, xs), some x => if xs.length < lineN then .ok (.d .none) (st2.set n (.lst (xs ++ [x]))) else .stuck
      | _, _ => .stuck
    else .stuck
theorem E_append {o e : Expr} {apos cpos : Pos} {mo m : EM} (ho : E X T W o mo) (h : E X T W e m)
    (hbase : attributeBase o "append" X.env (eval o X.env) = eval o X.env := by rfl)
    (hfew : ((backTo cpos (starEach [e] X.env)).all (fun x => !x.1) && (backToKw cpos (keywordEach [] X.env)).all (fun x => x.1.isSome)
      && decide ([e].length + ([] : List Keyword).length + (if ([] : List Keyword).isEmpty then 0 else 1) < 30)) = true := by rfl)
    (hline : (apos.endLine == cpos.line) = true := by rfl) (hs : starEach [e] X.env = (false, eval e X.env) :: starEach [] X.env := by rfl) (hplain : (backTo cpos (starEach [] X.env)).any (·.1) = false := by rfl) :
    E X T W (.Call (.Attribute o "append" apos) [e] [] cpos) (mApp mo m) := by
  refine ⟨PE.imp (pe_bm PySem.F.plainAttrs_list PySem.F.slot_list_append PySem.F.type_list_append mt_append ho.run (pa_cons h.run pa_nil hs) hbase hfew hline hs hplain) ?_⟩
  rintro σ H Q ⟨φ, sl, st, h0, h⟩
  refine (tE_bind h0 h).mono fun u H1 ⟨φ1, st1, v, a1, v1, s1, p1⟩ => ?_
  cases e1 : boxL v st1 with
  | none => simp only [e1] at p1; exact p1.elim
  | some nx =>
    obtain ⟨n, xs⟩ := nx
    simp only [e1, Option.isSome_some, cond_true] at p1
    obtain ⟨rfl, ec⟩ := boxL_some e1
    refine ⟨?_, ?_⟩
    · obtain ⟨a, vs, rfl, h1, _⟩ := lst_write (ys := []) a1.s ec v1
      exact .inl ⟨rfl, vs, .inl (.inl h1)⟩
    · refine (tE_bind a1 p1).mono fun w H2 ⟨φ2, st2, v', a2, v2, s2, p2⟩ => ?_
      cases e2 : boxL (.box n) st2 with
      | none => simp only [e2] at p2; exact p2.elim
      | some nx =>
        obtain ⟨n', ys⟩ := nx
        obtain ⟨en, ec2⟩ := boxL_some e2
        cases en
        cases v' with
        | box _ => simp only [e2, dataOf] at p2; exact p2.elim
        | d x =>
          simp only [e2, dataOf] at p2
          split at p2
          · rename_i hlt
            obtain ⟨a, vs, rfl, h1, h2, hw⟩ := lst_write (ys := ys ++ [x]) a2.s ec2 (v1.mon s2)
            obtain ⟨r3, s3⟩ := hw _ (h2.append (DRs.one v2))
            exact ⟨a, vs, w, rfl, rfl, h1, by rw [h2.length, ← line_eq]; exact hlt, p2 φ2 _ .non s3 r3 rfl⟩
          · exact p2.elim
/-- xs[i] = e -/
def sSetIx (m o i : EM) : SM := fun sl st =>
  aS (m sl st) sl fun u st1 => aS (o sl st1) sl fun v st2 => aS (i sl st2) sl fun w st3 =>
    match boxL v st3, w, dataOf u with
    | some (n, xs), .d (.int j), some x =>
      match L2.ixN xs.length j with
      | some q => .nx sl (st3.set n (.lst (xs.set q x)))
      | none => .stuck
    | _, _, _ => .stuck
theorem S_setix {o i e : Expr} {tpos pos : Pos} {mo mi m : EM} (h : E X T W e m) (ho : E X T W o mo) (hi : E X T W i mi)
    (ha : ∀ v, assign (.Subscript o i tpos) X.env v = (do
      let ov ← holding [v] (eval o X.env)
      let iv ← holding [v, ov] (eval i X.env)
      standAt tpos
      holding [v, ov, iv] (setItem ov iv v)
      release [v, ov, iv] []) := by intro _; rfl)
    (hs : swapsWithSole [.Subscript o i tpos] e pos.line X.env = pure false := by rfl) (hw : swappedStores [.Subscript o i tpos] e X.env = pure none := by rfl)
    (h1 : (assignEach [.Subscript o i tpos] X.env).map (·.2) = [assign (.Subscript o i tpos) X.env] := by rfl) : S X T W (.Assign [.Subscript o i tpos] e pos) (sSetIx m mo mi) := by
  refine ⟨PS.imp (ps_asg h.run (pg_sub ho.run hi.run set_list ha) hs hw h1) ?_⟩
  rintro D σ H ⟨φ, sl, st, h0, h⟩
  refine (tE_bindS h0 h).mono fun u H1 ⟨φ1, st1, v, a1, v1, s1, p1⟩ => (tE_bindS a1 p1).mono fun w H2 ⟨φ2, st2, v', a2, v2, s2, p2⟩ => (tE_bindS a2 p2).mono fun z H3 ⟨φ3, st3, v'', a3, v3, s3, p3⟩ => ?_
  cases e1 : boxL v' st3 with
  | none => simp only [e1] at p3; exact p3.elim
  | some nx =>
    obtain ⟨n, xs⟩ := nx
    obtain ⟨rfl, ec⟩ := boxL_some e1
    cases v'' with
    | box _ => simp only [e1] at p3; exact p3.elim
    | d y =>
      cases y with
      | int j =>
        cases v with
        | box _ => simp only [e1, dataOf] at p3; exact p3.elim
        | d x =>
          simp only [e1, dataOf] at p3
          split at p3
          · rename_i q hq
            obtain ⟨a, vs, rfl, h1, h2, hw⟩ := lst_write (ys := xs.set q x) a3.s ec (v2.mon s3)
            obtain ⟨r4, s4⟩ := hw _ (h2.set q ((VR.mon (s2.trans s3) v1)))
            exact ⟨a, vs, j, q, rfl, DR.d_int (K := X.K) (O := Av φ3 st3) (H := H3) v3, h1, by rw [h2.length]; exact hq, p3 φ3 _ σ s4 r4 (a3.l.mon s4)⟩
          · exact p3.elim
      | none => simp only [e1] at p3; exact p3.elim
      | bool _ => simp only [e1] at p3; exact p3.elim
      | str _ => simp only [e1] at p3; exact p3.elim
      | list _ => simp only [e1] at p3; exact p3.elim
      | tuple _ => simp only [e1] at p3; exact p3.elim
      | dict _ => simp only [e1] at p3; exact p3.elim
end
end TL
end

section
set_option Elab.async false
set_option linter.all false
set_option maxRecDepth 100000
set_option maxHeartbeats 1000000
set_option autoImplicit false
/-! TL17: generator expressions. -/
namespace TL
open PySem L2
/-- the next item of a generator expression, and what is left -/
def genNx (tg : Tg) (c : TM) (e : EM) (sl : Slots) : List PyData → Store → R (Option (Val × List PyData))
  | [], st => .ok none st
  | x :: xs, st =>
    match tg.put x sl with
    | none => .stuck
    | some sl1 => (c sl1 st).bind fun b st1 => bif b then (e sl1 st1).bind fun v st2 => .ok (some (v, xs)) st2 else genNx tg c e sl xs st1
def isOk {α : Type} : R α → Prop
  | .ok _ _ => True
  | _ => False
theorem genNx_cons {tg : Tg} {c : TM} {e : EM} {sl : Slots} {x : PyData} {xs : List PyData} {st : Store} (h : isOk (genNx tg c e sl (x :: xs) st)) :
    ∃ sl1 b st1, tg.put x sl = some sl1 ∧ c sl1 st = .ok b st1 ∧ ((b = true ∧ ∃ v st2, e sl1 st1 = .ok v st2 ∧ genNx tg c e sl (x :: xs) st = .ok (some (v, xs)) st2) ∨ (b = false ∧ genNx tg c e sl (x :: xs) st = genNx tg c e sl xs st1)) := by
  have E0 : genNx tg c e sl (x :: xs) st = (match tg.put x sl with
    | none => .stuck
    | some sl1 => (c sl1 st).bind fun b st1 => bif b then (e sl1 st1).bind fun v st2 => .ok (some (v, xs)) st2 else genNx tg c e sl xs st1) := by rw [genNx]
  rw [E0] at h ⊢
  clear E0
  cases e1 : tg.put x sl with
  | none => simp only [e1] at h; exact h.elim
  | some sl1 =>
    simp only [e1] at h ⊢
    cases e2 : c sl1 st with
    | exn _ _ => simp only [e2, R.bind_exn] at h; exact h.elim
    | stuck => simp only [e2, R.bind_stuck] at h; exact h.elim
    | ok b st1 =>
      simp only [e2, R.bind_ok] at h
      refine ⟨sl1, b, st1, rfl, e2, ?_⟩
      cases b with
      | false => exact .inr ⟨rfl, rfl⟩
      | true =>
        simp only [cond_true] at h
        cases e3 : e sl1 st1 with
        | exn _ _ => simp only [e3, R.bind_exn] at h; exact h.elim
        | stuck => simp only [e3, R.bind_stuck] at h; exact h.elim
        | ok v st2 => exact .inl ⟨rfl, v, st2, rfl, by show (e sl1 st1).bind _ = _; rw [e3]; rfl⟩
/-- the j-th state of the walk -/
def genAt (tg : Tg) (c : TM) (e : EM) (sl : Slots) (xs : List PyData) (st : Store) : Nat → Option (List PyData × Store)
  | 0 => some (xs, st)
  | j + 1 =>
    match genAt tg c e sl xs st j with
    | some (ys, st1) =>
      match genNx tg c e sl ys st1 with
      | .ok (some (_, zs)) st2 => some (zs, st2)
      | _ => none
    | none => none
/-- the context of a generator expression's body -/
def genCx (X : Cx) (A : Around) (s : Shared) (H : Hp) (genv : Env) (fp : List Addr) : Cx :=
  { X with A := A.deeper genv, s_0 := s, H_0 := H, env := genv, outer := X.stack, stack := genv :: X.stack, ex := fp, fn := fun _ => false, calm := true, pn := [], xe := fun _ _ => False }
/-- the generator expression's own names are wiped -/
structure GnS (N : List Str) (sc scope : Scope) (own : List Nat) : Prop where
  kind : scope.kind = .function
  co : scope.isCoroutine = false
  cell : ∀ y ∈ scope.names, y.2 ≠ .cell
  dot : scope.names.lookup (".0" : Str) = some NameKind.local
  loc : ∀ i y, N[i]? = some y → scope.names.lookup y = some .local → i ∈ own
  free : ∀ y ∈ scope.names, y.2 = .free → sc.names.lookup y.1 = some .cell ∨ sc.names.lookup y.1 = some .free
def gnB (N : List Str) (sc scope : Scope) (own : List Nat) : Bool :=
  decide (scope.kind = .function) && !scope.isCoroutine && (scope.names.all fun y => !decide (y.2 = .cell)) && decide (scope.names.lookup (".0" : Str) = some NameKind.local) &&
    ((List.range N.length).all fun i => !decide (scope.names.lookup (N.getD i "") = some .local) || decide (i ∈ own)) &&
    (scope.names.all fun y => !decide (y.2 = .free) || decide (sc.names.lookup y.1 = some .cell) || decide (sc.names.lookup y.1 = some .free))
theorem gn_by {N : List Str} {sc scope : Scope} {own : List Nat} (h : gnB N sc scope own = true) : GnS N sc scope own := by
  unfold gnB at h
  simp only [Bool.and_eq_true, Bool.or_eq_true, Bool.not_eq_true', decide_eq_true_eq, decide_eq_false_iff_not, List.all_eq_true] at h
  obtain ⟨⟨⟨⟨⟨h1, h2⟩, h3⟩, h4⟩, h5⟩, h6⟩ := h
  refine ⟨h1, h2, h3, h4, fun i y e1 e2 => ?_, fun y hy e => ?_⟩
  · have hi := (List.getElem?_eq_some_iff.mp e1).1
    rcases h5 i (List.mem_range.mpr hi) with z | z
    · exact absurd (by rw [List.getD_eq_getElem?_getD, e1]; exact e2) z
    · exact z
  · rcases h6 y hy with (z | z) | z
    · exact absurd e z
    · exact .inl z
    · exact .inr z
section
variable {X : Cx} {pins : List (Addr × Obj)} {σ : L2.St} {H : Hp} {s : Shared}
theorem gen_start {A : Around} {scope : Scope} {own : List Nat} {code : Value} {bi : Addr} {fp : List Addr} {m : Str → Option Value} {s1 : Shared} (I : Inv X pins σ H s) (S : GnS X.N X.env.scope scope own) (hA : A.frames = X.A.frames) (hd : A.handled = none) (hbi : bi = builtinsNs)
    (hfp : ∀ b ∈ fp, FpOk X pins H b ∧ b < s.heap.objs.size)
    (hns : s1.heap.Ns s.heap.objs.size m) (kp : ∀ b o, s.heap.get? b = some o → s1.heap.get? b = some o) (hos : s1.os = s.os) (hg : PyProof.Rows.AllBare s1.gens) :
    Inv (genCx X A s H (genEnv scope (cloFrom X.env.cells scope.names []) s.heap.objs.size code bi X.env) fp) [] (wipe σ own) H s1 := by
  have hfree : ∀ y ∈ scope.names, y.2 = .free → ∃ c, X.env.cells.lookup y.1 = some c := fun y hy e => by
    rcases S.free y hy e with k | k
    · exact I.ok.has _ (.inl k)
    · exact I.ok.has _ (.inr k)
  have cm : ∀ {y c}, (cloFrom X.env.cells scope.names []).lookup y = some c → X.env.cells.lookup y = some c := fun {y c} e => by
    rcases cloFrom_mem (PySem.mem_of_lookup e) with hm | ⟨h1, h2⟩
    · cases hm
    · obtain ⟨c1, hc⟩ := hfree _ h1 rfl
      have hc : X.env.cells.lookup y = some c1 := hc
      have e2 : c = c1 := by
        rw [h2, hc] <;> rfl
      rw [e2]
      exact hc
  have look : ∀ {y}, scope.names.lookup y = some .free → ∃ c, (cloFrom X.env.cells scope.names []).lookup y = some c := fun {y} hl => by
    have hy : (y, NameKind.free) ∈ scope.names := PySem.mem_of_lookup hl
    exact mem_lookup (cloFrom_has (cells := X.env.cells) (acc := []) hy)
  have e0 := I.env0
  refine ⟨⟨e0.mod, S.kind, I.ok.glob, hbi, Nat.le_refl _, fun y z c e1 e2 => I.ok.inj y z c (cm e1) (cm e2), fun y hy => ?_, fun y c z _ => ?_, fun _ => hd, Around.frames_deeper (hA.trans e0.frames), .inr ⟨rfl, rfl⟩, fun b hb => ⟨?_, fun y c e z => ?_⟩, e0.bs, e0.bsz, fun b o e hb => ?_,
      fun b hb z => ?_, e0.funs, e0.frf⟩,
    hos, hg, Un.kept kp, ⟨_, hns, fun i y v e1 e2 e3 => ?_⟩, fun y c e => ?_, e0.hok.fresh (Nat.le_refl _), fun y c e => ?_, fun q hq => absurd (show q ∈ ([] : List (Addr × Obj)) ++ [] from hq) (by simp), e0.hok.kept kp, by rw [wipe_length]; exact I.len⟩
  · have hy : scope.names.lookup y = some .cell ∨ scope.names.lookup y = some .free := hy
    rcases hy with hy | hy
    · exact absurd rfl (S.cell _ (PySem.mem_of_lookup hy))
    · exact look hy
  · have z : false = true := z
    cases z
  · exact Nat.ne_of_lt (hfp b hb).2
  · exact (hfp b hb).1.2.2.2.2.1 y c (cm e) z
  · rcases (hfp b hb).1.2.2.2.1 with z | z
    · exact I.ok.noex b o e z
    · exact absurd (Nat.lt_of_lt_of_le (Heap.lt_size e) (Nat.le_trans I.ok.bsz z)) (Nat.lt_irrefl _)
  · rcases List.mem_cons.mp (I.stkSub b z) with z | z
    · exact (hfp b hb).1.2.1 z
    · exact (hfp b hb).1.2.2.1 z
  · have e3 : Vis scope y := e3
    obtain ⟨e2, no⟩ := wipe_some e2
    rcases e3 with k | k | k
    · exact absurd (S.loc i y e1 k) no
    · exact absurd rfl (S.cell _ (PySem.mem_of_lookup k))
    · obtain ⟨mm, hn, hl⟩ := I.loc
      have hvis : Vis X.env.scope y := (S.free _ (PySem.mem_of_lookup k) rfl).elim (fun k => .inr (.inl k)) (fun k => .inr (.inr k))
      obtain ⟨w', r, q⟩ := hl i y v e1 e2 hvis
      obtain ⟨c2, h2⟩ := look k
      refine ⟨w', r, .inr ⟨.inr k, c2, h2, ?_⟩⟩
      have c1 := cm h2
      rcases q with ⟨k', _⟩ | ⟨_, c3, e', z⟩
      · have k' : X.env.scope.names.lookup y = some .local := k'
        rcases S.free _ (PySem.mem_of_lookup k) rfl with k2 | k2 <;> rw [show X.env.scope.names.lookup y = _ from k2] at k' <;> cases k'
      · rw [c1] at e'
        cases e'
        obtain ⟨o, ho, hd⟩ := z
        exact ⟨o, kp _ _ ho, hd⟩
  · obtain ⟨w', o, ho, hd⟩ := I.cell y c (cm e)
    exact ⟨w', o, kp _ _ ho, hd⟩
  · exact I.freeC y c (cm e)
end
mutual
theorem put_keeps : ∀ (t : Tg) (x : PyData) (sl sl1 : Slots), t.put x sl = some sl1 → sl1.length = sl.length ∧ ∀ i, i ∉ t.ix → sl1[i]? = sl[i]?
  | .name j, x, sl, sl1, h => by
    unfold Tg.put at h
    cases h
    refine ⟨by simp, fun i hi => ?_⟩
    rw [List.getElem?_set_ne (fun z => hi (by unfold Tg.ix; rw [z]; exact List.mem_singleton.mpr rfl))]
  | .tup ts, x, sl, sl1, h => by
    unfold Tg.put at h
    cases x with
    | tuple xs =>
      have := puts_keeps ts xs sl sl1 h
      exact ⟨this.1, fun i hi => this.2 i (by unfold Tg.ix at hi; exact hi)⟩
    | _ => cases h
theorem puts_keeps : ∀ (ts : List Tg) (xs : List PyData) (sl sl1 : Slots), Tg.puts ts xs sl = some sl1 → sl1.length = sl.length ∧ ∀ i, i ∉ Tg.ixs ts → sl1[i]? = sl[i]?
  | [], [], sl, sl1, h => by
    unfold Tg.puts at h
    cases h
    exact ⟨rfl, fun _ _ => rfl⟩
  | t :: ts, x :: xs, sl, sl1, h => by
    unfold Tg.puts at h
    obtain ⟨sl2, e1, e2⟩ := Option.bind_eq_some_iff.mp h
    have a := put_keeps t x sl sl2 e1
    have b := puts_keeps ts xs sl2 sl1 e2
    refine ⟨b.1.trans a.1, fun i hi => ?_⟩
    unfold Tg.ixs at hi
    rw [b.2 i fun z => hi (List.mem_append_right _ z), a.2 i fun z => hi (List.mem_append_left _ z)]
  | [], _ :: _, _, _, h => by unfold Tg.puts at h; cases h
  | _ :: _, [], _, _, h => by unfold Tg.puts at h; cases h
end
theorem slr_less {K : PySem.W.Frag} {φ : Num} {st : Store} {H : Hp} {sl sl1 : Slots} {σ : L2.St} {t : Tg} {x : PyData} (hown : ∀ i ∈ t.ix, sl[i]? = some none) (hp : t.put x sl = some sl1) (h : SlR K φ st H sl1 σ) : SlR K φ st H sl σ := by
  obtain ⟨a, b⟩ := put_keeps t x sl sl1 hp
  refine ⟨by rw [← a]; exact h.1, fun i v e => ?_⟩
  refine h.2 i v ?_
  rw [b i fun z => by rw [hown i z] at e; cases e]
  exact e
/-! ### the walk -/
section
variable {Y : Cx} {T : List Tb} {A : Around}
/-- what is known between two turns: prot, the objects that the consumer and the generator hold -/
structure Gst (Y : Cx) (T : List Tb) (fp prot : List Addr) (tn : Nat → Heap → Prop) (φ0 : Num) (st0 : Store) (H0 : Hp) (sl : Slots) (i : Nat) (φ : Num) (st : Store) (σ : L2.St) (H : Hp) (s : Shared) : Prop where
  inv : Inv Y [] σ H s
  tn : tn i s.heap
  fr : ∀ b ∈ fp, FpOk Y [] H b
  pr : ∀ b ∈ prot, FpOk Y [] H b ∧ ∃ o, s.heap.get? b = some o ∧ ∀ v, o.data ≠ .cell v
  at_ : At Y.K Y.mg T φ sl st σ H
  stp : Stp φ0 st0 H0 φ st H
theorem FpOk.pins {X : Cx} {pins : List (Addr × Obj)} {H H' : Hp} {b : Addr} (h : FpOk X [] H b) (hn : H' b = none) (hp : ∀ p ∈ pins, p.1 ≠ b) : FpOk X pins H' b :=
  ⟨hn, h.2.1, h.2.2.1, h.2.2.2.1, h.2.2.2.2.1, fun p hm => (List.mem_append.mp hm).elim (fun z => h.2.2.2.2.2 p (List.mem_append_left _ z)) (hp p)⟩
/-- the state j of the walk lies at turn i -/
def Wst (tg : Tg) (c : TM) (e : EM) (sl : Slots) (xs : List PyData) (st0 : Store) (j i : Nat) (st : Store) : Prop := genAt tg c e sl xs st0 j = some (xs.drop i, st)
/-- at a yield -/
def gY (Y : Cx) (T : List Tb) (fp prot : List Addr) (tn : Nat → Heap → Prop) (φ0 : Num) (st0 : Store) (H0 : Hp) (sl : Slots) (tg : Tg) (c : TM) (e : EM) (xs : List PyData) (N : Nat) : Protocol := fun m s₀ v s kap =>
  ∃ i i' st st' y x φ' σ' H', Wst tg c e sl xs st0 (N - 1 - m) i st ∧ genNx tg c e sl (xs.drop i) st = .ok (some (y, xs.drop i')) st' ∧ i < i' ∧ i' ≤ xs.length ∧ Gst Y T fp prot tn φ0 st0 H0 sl i' φ' st' σ' H' s ∧ RelV x v ∧ VR Y.K φ' st' H' y x ∧
    (∀ b ∈ prot, ∀ o, s₀.heap.get? b = some o → s.heap.get? b = some o) ∧
    ∀ s'' : Shared, Gst Y T fp prot tn φ0 st0 H0 sl i' φ' st' σ' H' s'' → isOk (genNx tg c e sl (xs.drop i') st') → kap (.send .none) s''
/-- at the end -/
def gR (Y : Cx) (T : List Tb) (fp prot : List Addr) (tn : Nat → Heap → Prop) (φ0 : Num) (st0 : Store) (H0 : Hp) (sl : Slots) (tg : Tg) (c : TM) (e : EM) (xs : List PyData) (N : Nat) (n : Nat) (s₀ s : Shared) : Prop :=
  ∃ i st st' φ' σ' H', Wst tg c e sl xs st0 (N - n) i st ∧ genNx tg c e sl (xs.drop i) st = .ok none st' ∧ Inv Y [] σ' H' s ∧ At Y.K Y.mg T φ' sl st' σ' H' ∧ Stp φ0 st0 H0 φ' st' H' ∧ (∀ b ∈ prot, ∀ o, s₀.heap.get? b = some o → s.heap.get? b = some o) ∧ ∀ b ∈ prot, H' b = none
theorem seg_gen {tgt elt iter : Expr} {ifs : List Expr} {scope : Scope} {pos : Pos} {it : Addr} {fp prot : List Addr} {tn : Nat → Heap → Prop} {J : It} {φ0 : Num} {st0 : Store} {H0 : Hp} {sl : Slots} {tg : Tg} {c : TM} {e : EM} {xs : List PyData}
    (hA : A.over (.compLoop (.GeneratorExp elt [⟨tgt, iter, ifs, 0⟩] scope pos) 0 (.ref it) .none Y.env) [] = Y.A) (hc : Y.calm = true) (hxe : Y.xe = fun _ _ => False) (hco : Y.env.scope.isCoroutine = false)
    (hG : PG Y tgt (tG Y T W0 tg)) (hT : PTs Y ifs (tT Y T W0 c)) (hE : PE Y elt (tE Y T W0 e)) (TT : Turn Y.prog Y.w Y.K tgt J fp it tn) (hJ : ItR Y T φ0 st0 H0 xs J)
    (hdis : ∀ b ∈ fp, b ∉ prot) (hown : ∀ i ∈ tg.ix, sl[i]? = some none) (N : Nat) :
    ∀ (k i n j : Nat) (s₀ s : Shared) (φ : Num) (st : Store) (σ : L2.St) (H : Hp) (i0 : Nat) (sti : Store), xs.length - i = k → i ≤ xs.length → n + j = N → k ≤ n → Gst Y T fp prot tn φ0 st0 H0 sl i φ st σ H s → i0 ≤ i →
      Wst tg c e sl xs st0 j i0 sti → genNx tg c e sl (xs.drop i0) sti = genNx tg c e sl (xs.drop i) st → isOk (genNx tg c e sl (xs.drop i) st) → (∀ b ∈ prot, ∀ o, s₀.heap.get? b = some o → s.heap.get? b = some o) →
      Seg (model Y.prog Y.w) A (fun n s₀ r s₁ => r = .ok .next ∧ gR Y T fp prot tn φ0 st0 H0 sl tg c e xs N n s₀ s₁) (gY Y T fp prot tn φ0 st0 H0 sl tg c e xs N) n s₀
        (.compLoop (.GeneratorExp elt [⟨tgt, iter, ifs, 0⟩] scope pos) 0 (.ref it) .none Y.env)
        ((model Y.prog Y.w).den (.compLoop (.GeneratorExp elt [⟨tgt, iter, ifs, 0⟩] scope pos) 0 (.ref it) .none Y.env)) [] s := by
  intro k
  induction k with
  | zero =>
    intro i n j s₀ s φ st σ H i0 sti hk hi hn hkn g hi0 hw hnx hok hpr
    have hin : i = xs.length := by omega
    show Seg _ A _ _ _ s₀ _ ((compTurn (.GeneratorExp elt [⟨tgt, iter, ifs, 0⟩] scope pos) 0 (.ref it) .none Y.env).onRaise (leaving Y.env)) [] s
    rw [compTurn_gen, Sem.onRaise_eq_wrap]
    refine seg_bind_wrap (wpAny_standAt ?_)
    have Ip : Inv Y (pinsAt prot s.heap) σ H s := g.inv.pinned (pins := []) (fun b hb => (g.pr b hb).1) fun b hb => (g.pr b hb).2
    have hfp : ∀ b ∈ fp, FpOk Y (pinsAt prot s.heap) H b := fun b hb => FpOk.pins (g.fr b hb) (g.fr b hb).1 fun p hp z => hdis b hb (z ▸ (of_pinsAt hp).1)
    refine seg_bind_wrap ?_
    rw [hA]
    refine wpAny_mono (TT.done Y rfl rfl rfl hc i _ s σ H (fun _ _ => False) Ip hfp g.tn ((hJ i φ st H g.stp g.at_.s).2 (by omega))) (fun r s' ⟨e1, I'⟩ => ?_) fun _ _ z => z.elim
    subst e1
    refine seg_end (.ok .next) ⟨rfl, i0, sti, st, φ, σ, H, ?_, ?_, I'.unpinned (pins := []), g.at_, g.stp, fun b hb o eb => ?_, fun b hb => (g.pr b hb).1.1⟩
    · have : N - n = j := by omega
      rw [this]; exact hw
    · rw [hnx, List.drop_of_length_le (by omega)]; rfl
    · exact (I'.pin (b, o) (List.mem_append_right _ (mem_pinsAt hb (hpr b hb o eb)))).1
  | succ k ih =>
    intro i n j s₀ s φ st σ H i0 sti hk hi hn hkn g hi0 hw hnx hok hpr
    have hlt : i < xs.length := by omega
    obtain ⟨goJ, _⟩ := hJ i φ st H g.stp g.at_.s
    obtain ⟨g1, g2⟩ := goJ hlt
    have hdrop : xs.drop i = xs[i] :: xs.drop (i + 1) := List.drop_eq_getElem_cons hlt
    rw [hdrop] at hok hnx
    obtain ⟨sl1, b, st3, k1, k2, k3⟩ := genNx_cons hok
    show Seg _ A _ _ _ s₀ _ ((compTurn (.GeneratorExp elt [⟨tgt, iter, ifs, 0⟩] scope pos) 0 (.ref it) .none Y.env).onRaise (leaving Y.env)) [] s
    rw [compTurn_gen, Sem.onRaise_eq_wrap]
    refine seg_bind_wrap (wpAny_standAt ?_)
    have Ip : Inv Y (pinsAt prot s.heap) σ H s := g.inv.pinned (pins := []) (fun b hb => (g.pr b hb).1) fun b hb => (g.pr b hb).2
    have hfp : ∀ b ∈ fp, FpOk Y (pinsAt prot s.heap) H b := fun b hb => FpOk.pins (g.fr b hb) (g.fr b hb).1 fun p hp z => hdis b hb (z ▸ (of_pinsAt hp).1)
    refine seg_bind_wrap ?_
    rw [hA]
    refine wpAny_mono (TT.item Y rfl rfl rfl hc i _ s σ H (fun _ _ => False) Ip hfp g.tn g1) (fun r s' ⟨u, e1, h4⟩ => ?_) fun _ _ z => z.elim
    subst e1
    refine seg_bind_wrap ?_
    rw [hA]
    refine wpAny_mono h4 (fun _ s5 ⟨x, H5, I5, r5, y5, st5, fr5⟩ => ?_) fun _ _ z => z.elim
    obtain ⟨gr, d, q1, q2⟩ := g2 x H5 y5
    rw [List.getElem?_eq_getElem hlt] at q1
    cases q1
    have r5' := g.at_.s.gr gr
    have s5' : Stp φ st H φ st H5 := gr.step
    have hfp5 : ∀ b ∈ fp, FpOk Y (pinsAt prot s.heap) H5 b := fun b hb => FpOk.pins (g.fr b hb) (fr5 b hb) fun p hp z => hdis b hb (z ▸ (of_pinsAt hp).1)
    have I5' := I5.pinned hfp5 (TT.obj _ _ st5)
    refine seg_bind_wrap ?_
    rw [hA]
    have hxe' : ∀ {e : Value} {s : Shared} {P : Prop}, Y.xe e s → P := fun {e s P} z => by rw [hxe] at z; exact z.elim
    refine wpAny_mono (hG.run _ s5 σ H5 x u (fun σ6 H6 => H6 = H5 ∧ SlR Y.K φ st H5 sl1 σ6) I5' r5 ⟨φ, sl, st, xs[i], sl1, ⟨r5', g.at_.l.mon s5'⟩, q2, k1, fun σ' l' _ => ⟨rfl, l'⟩⟩) (fun _ s6 ⟨σ6, H6, I6, e6, l6⟩ => ?_) fun _ _ z => hxe' z
    subst e6
    refine seg_bind_wrap ?_
    rw [hA]
    refine wpAny_mono (hT.run _ s6 σ6 H6 (fun b' H7 => b' = b ∧ ∃ φ7, StR Y.K Y.mg T φ7 st3 H7 ∧ Stp φ st H φ7 st3 H7 ∧ SlR Y.K φ7 st3 H7 sl1 σ6) I6 ⟨φ, sl1, st, ⟨r5', l6⟩, by rw [k2]; exact fun φ7 H7 s7 r7 => ⟨rfl, φ7, r7, s5'.trans s7, l6.mon s7⟩⟩) (fun ok s7 ⟨H7, I7, e7, φ7, r7, s7', l7⟩ => ?_) fun _ _ z => hxe' z
    subst e7
    have sub : ∀ {φa : Num} {sa : Store} {Ha : Hp} {σa : L2.St}, SlR Y.K φa sa Ha sl1 σa → SlR Y.K φa sa Ha sl σa := fun h => slr_less hown k1 h
    have nxt : ∀ {φ8 : Num} {st8 : Store} {H8 : Hp} {s8 : Shared}, Inv Y (pinsAt prot s.heap ++ pinsAt fp s5.heap) σ6 H8 s8 → StR Y.K Y.mg T φ8 st8 H8 → Stp φ st H φ8 st8 H8 → SlR Y.K φ8 st8 H8 sl1 σ6 → Gst Y T fp prot tn φ0 st0 H0 sl (i + 1) φ8 st8 σ6 H8 s8 := fun {φ8 st8 H8 s8} I8 r8 s8' l8 =>
      ⟨(I8.unpinned (pins := pinsAt prot s.heap)).unpinned (pins := []), TT.keep _ _ _ st5 fun b hb o eb => (I8.pin (b, o) (List.mem_append_right _ (List.mem_append_right _ (mem_pinsAt hb eb)))).1,
        fun b hb => by
          obtain ⟨o, eb, _⟩ := TT.obj _ _ st5 b hb
          exact FpOk.pins (g.fr b hb) (I8.pin (b, o) (List.mem_append_right _ (List.mem_append_right _ (mem_pinsAt hb eb)))).2.1 fun _ h => (by cases h),
        fun b hb => by
          obtain ⟨f, o, eb, dc⟩ := g.pr b hb
          have z := I8.pin (b, o) (List.mem_append_right _ (List.mem_append_left _ (mem_pinsAt hb eb)))
          exact ⟨FpOk.pins f z.2.1 (fun _ h => by cases h), o, z.1, dc⟩,
        ⟨r8, sub l8⟩, g.stp.trans s8'⟩
    have prn : ∀ {H8 : Hp} {s8 : Shared}, Inv Y (pinsAt prot s.heap ++ pinsAt fp s5.heap) σ6 H8 s8 → ∀ b ∈ prot, ∀ o, s₀.heap.get? b = some o → s8.heap.get? b = some o := fun {H8 s8} I8 b hb o eb =>
      (I8.pin (b, o) (List.mem_append_right _ (List.mem_append_left _ (mem_pinsAt hb (hpr b hb o eb))))).1
    rcases k3 with ⟨rfl, v, st4, k4, k5⟩ | ⟨rfl, k5⟩
    · obtain ⟨n', rfl⟩ : ∃ n', n = n' + 1 := ⟨n - 1, by omega⟩
      simp only [if_true]
      have hy : ∀ v, yieldOut Y.env v = yieldValue v := fun v => by simp only [yieldOut, hco, Bool.false_eq_true, if_false]
      simp only [hy]
      rw [Sem.bind_eq_wrap', Sem.bind_eq_wrap', Sem.wrap_wrap, Sem.wrap_wrap]
      refine seg_wrap ?_
      rw [hA]
      refine wpAny_mono (hE.run _ s7 σ6 H7 (fun x8 H8 => ∃ φ8, StR Y.K Y.mg T φ8 st4 H8 ∧ Stp φ7 st3 H7 φ8 st4 H8 ∧ VR Y.K φ8 st4 H8 v x8) I7 ⟨φ7, sl1, st3, ⟨r7, l7⟩, by rw [k4]; exact fun φ8 H8 u8 s8 r8 v8 => ⟨φ8, r8, s8, v8⟩⟩)
        (fun y8 s8 ⟨x8, H8, I8, rel8, φ8, r8, s8', v8⟩ => ?_) fun _ _ z => hxe' z
      have g8 := nxt I8 r8 (s7'.trans s8') (l7.mon s8')
      have w8 : Wst tg c e sl xs st0 (j + 1) (i + 1) st4 := by
        unfold Wst
        unfold genAt
        rw [show genAt tg c e sl xs st0 j = _ from hw]
        simp only [hnx, k5]
      refine seg_at (seg_yield rfl rfl rfl ⟨i0, i + 1, sti, st4, v, x8, φ8, σ6, H8, ?_, by rw [hnx, k5], by omega, hlt, g8, rel8, v8, prn I8, fun s'' g'' ok'' => ?_⟩)
      · have : N - 1 - n' = j := by omega
        rw [this]; exact hw
      · exact seg_again rfl (ih (i + 1) n' (j + 1) s'' s'' φ8 st4 σ6 H8 (i + 1) st4 (by omega) hlt (by omega) (by omega) g'' (Nat.le_refl _) w8 rfl ok'' fun _ _ _ h => h)
    · simp only [Bool.false_eq_true, if_false]
      refine seg_again rfl (ih (i + 1) n j s₀ s7 φ7 st3 σ6 H7 i0 sti (by omega) hlt hn (by omega) (nxt I7 r7 s7' l7) (by omega) hw (hnx.trans k5) (by rw [← k5]; exact hok) (prn I7))
end
end TL
end

section
set_option Elab.async false
set_option linter.all false
set_option maxRecDepth 100000
set_option maxHeartbeats 1000000
set_option autoImplicit false
/-! TL18: generator expressions consumed. -/
namespace TL
open PySem L2
open PyProof.Rows (AllBare)
section
variable {Y : Cx} {T : List Tb} {fp prot : List Addr} {tn : Nat → Heap → Prop} {φ0 : Num} {st0 : Store} {H0 : Hp} {sl : Slots} {tg : Tg} {c : TM} {e : EM} {xs : List PyData} {N : Nat}
theorem hok_but {P : Program} {w : World} {H : Hp} {h h' : Heap} {cs : List Addr} (x : HOk P w H h) (hn : ∀ b ∈ cs, H b = none) (k : ∀ b o, b ∉ cs → h.get? b = some o → h'.get? b = some o) : HOk P w H h' := fun a o e => by
  have na : a ∉ cs := fun z => by rw [hn a z] at e; cases e
  refine (x a o e).stay (fun b u hb q => k b u (fun z => ?_) q) (fun _ h => h) (fun _ _ h => h)
  rcases hb with hb | hb
  · exact na (hb ▸ z)
  · rw [hn b z] at hb; cases hb
theorem un_but {fs : List Addr} {H : Hp} {h h' : Heap} {cs : List Addr} (k : ∀ b o, b ∉ cs → h.get? b = some o → h'.get? b = some o) : Un fs cs H H h h' :=
  ⟨fun b o e _ _ hb => k b o hb e, fun b o e _ _ hb => ⟨o.slots, k b o hb e⟩, fun _ _ _ n _ => n, fun b o e hb => ⟨o, k b o hb e⟩, fun _ _ h => h, fun _ _ _ h => h, fun _ ps h => ⟨#[], by rw [h]; simp⟩⟩
theorem Gst.mv {P : Program} {w : World} {K : PySem.W.Frag} {tgt : Expr} {J : It} {it : Addr} {i : Nat} {φ : Num} {st : Store} {σ : L2.St} {H : Hp} {s s' : Shared} {cs : List Addr} (TT : Turn P w K tgt J fp it tn)
    (g : Gst Y T fp prot tn φ0 st0 H0 sl i φ st σ H s) (hcs : ∀ b ∈ cs, b ∈ prot) (hdis : ∀ b ∈ fp, b ∉ prot) (hos : s'.os = s.os) (hb : AllBare s'.gens)
    (hk : ∀ b o, b ∉ cs → s.heap.get? b = some o → s'.heap.get? b = some o) (hc : ∀ b ∈ cs, ∃ o, s'.heap.get? b = some o ∧ ∀ v, o.data ≠ .cell v) : Gst Y T fp prot tn φ0 st0 H0 sl i φ st σ H s' := by
  have I := g.inv
  refine ⟨I.call' hos (un_but hk) (hok_but I.hok (fun b hb => (g.pr b (hcs b hb)).1.1) hk) hb fun b hb => ?_, TT.keep _ _ _ g.tn fun b hb o q => hk b o (fun z => hdis b hb (hcs b z)) q, g.fr, fun b hb => ⟨(g.pr b hb).1, ?_⟩, g.at_, g.stp⟩
  · obtain ⟨f0, f1, f2, f3, f4, f5⟩ := (g.pr b (hcs b hb)).1
    exact ⟨f3, f1, f4, f5⟩
  · by_cases z : b ∈ cs
    · exact hc b z
    · obtain ⟨_, o, q, d⟩ := g.pr b hb
      exact ⟨o, hk b o z q, d⟩
theorem bare_set {s : Shared} {g : Nat} {gs : GenState} (h : AllBare s.gens) (hb : gs.bare = true) : AllBare (s.setGen g gs).gens := fun y hy => by
  unfold Shared.setGen at hy
  rcases Array.mem_or_eq_of_mem_setIfInBounds hy with z | z
  · exact h y z
  · rw [z]; exact hb
/-- a state that can be resumed -/
def Goer (Y : Cx) (T : List Tb) (A : Around) (fp prot : List Addr) (tn : Nat → Heap → Prop) (φ0 : Num) (st0 : Store) (H0 : Hp) (sl : Slots) (tg : Tg) (c : TM) (e : EM) (xs : List PyData) (N : Nat) (gs : GenState) (i n : Nat) (φ : Num) (st : Store) (σ : L2.St) (H : Hp) : Prop :=
  ∀ s'' : Shared, Gst Y T fp prot tn φ0 st0 H0 sl i φ st σ H s'' → isOk (genNx tg c e sl (xs.drop i) st) →
    gs.Goes (model Y.prog Y.w) A (fun n s₀ r s₁ => r = .ok .next ∧ gR Y T fp prot tn φ0 st0 H0 sl tg c e xs N n s₀ s₁) (gY Y T fp prot tn φ0 st0 H0 sl tg c e xs N) n (.send .none) s''
structure Wk (Y : Cx) (T : List Tb) (A : Around) (fp prot : List Addr) (tn : Nat → Heap → Prop) (φ0 : Num) (st0 : Store) (H0 : Hp) (sl : Slots) (tg : Tg) (c : TM) (e : EM) (xs : List PyData) (N : Nat) (a : Addr) (g : Nat) (i j n : Nat) (φ : Num) (st : Store) (σ : L2.St) (H : Hp) (s : Shared) : Prop where
  sum : n + j = N
  rest : xs.length - i < n
  le : i ≤ xs.length
  w : Wst tg c e sl xs st0 j i st
  sg : Gst Y T fp prot tn φ0 st0 H0 sl i φ st σ H s
  gs : ∃ gs, s.gens[g]? = some gs ∧ Goer Y T A fp prot tn φ0 st0 H0 sl tg c e xs N gs i n φ st σ H
  gen : s.heap.IsGen a g
  mem : a ∈ prot
/-- what pyNext of the generator brings -/
def NxP (Y : Cx) (T : List Tb) (A : Around) (fp prot : List Addr) (tn : Nat → Heap → Prop) (φ0 : Num) (st0 : Store) (H0 : Hp) (sl : Slots) (tg : Tg) (c : TM) (e : EM) (xs : List PyData) (N : Nat) (a : Addr) (g : Nat) (i j n : Nat) (s : Shared) (r : Option Value) (s' : Shared) : R (Option (Val × List PyData)) → Prop
  | .ok none st' => r = none ∧ ∃ φ' σ' H', Inv Y [] σ' H' s' ∧ At Y.K Y.mg T φ' sl st' σ' H' ∧ Stp φ0 st0 H0 φ' st' H' ∧ (∀ b ∈ prot, ∀ o, s.heap.get? b = some o → s'.heap.get? b = some o) ∧ ∀ b ∈ prot, H' b = none
  | .ok (some (y, ys)) st' => ∃ v x i' φ' σ' H', r = some v ∧ RelV x v ∧ VR Y.K φ' st' H' y x ∧ ys = xs.drop i' ∧ i < i' ∧ Wk Y T A fp prot tn φ0 st0 H0 sl tg c e xs N a g i' (j + 1) (n - 1) φ' st' σ' H' s' ∧ ∀ b ∈ prot, ∀ o, s.heap.get? b = some o → s'.heap.get? b = some o
  | _ => False
theorem drop_inj {α : Type} {xs : List α} {i j : Nat} (hi : i ≤ xs.length) (hj : j ≤ xs.length) (h : xs.drop i = xs.drop j) : i = j := by
  have := congrArg List.length h
  rw [List.length_drop, List.length_drop] at this
  omega
theorem gen_next {P : Program} {w : World} {K : PySem.W.Frag} {tgt : Expr} {J : It} {it a : Addr} {A : Around} {g i j n : Nat} {φ : Num} {st : Store} {σ : L2.St} {H : Hp} {s : Shared} {E : Value → Shared → Prop} (TT : Turn P w K tgt J fp it tn) (hdis : ∀ b ∈ fp, b ∉ prot)
    (hh : A.handled = none) (hroom : A.depth < recursionLimit) (W : Wk Y T A.in1 fp prot tn φ0 st0 H0 sl tg c e xs N a g i j n φ st σ H s) (ok : isOk (genNx tg c e sl (xs.drop i) st)) :
    wpAny (model Y.prog Y.w) A (pyNext (.ref a)) (fun r s' => NxP Y T A.in1 fp prot tn φ0 st0 H0 sl tg c e xs N a g i j n s r s' (genNx tg c e sl (xs.drop i) st)) E s := by
  obtain ⟨gs, hgs, hgo⟩ := W.gs
  have hsz : g + 1 ≤ s.gens.size := (Array.getElem?_eq_some_iff.mp hgs).1
  have g1 : Gst Y T fp prot tn φ0 st0 H0 sl i φ st σ H (s.setGen g .running) := W.sg.mv (cs := []) TT (fun _ h => by cases h) hdis rfl (bare_set W.sg.inv.bare rfl) (fun _ _ _ h => h) (fun _ h => by cases h)
  have hn : 0 < n := by have := W.rest; omega
  have hs := W.sum
  refine GenW.wpAny_gsz hsz ?_
  refine wpAny_pyNext_genexpQ (P := gR Y T fp prot tn φ0 st0 H0 sl tg c e xs N) hh W.sg.inv.nolimit hroom W.gen hgs (hgo _ g1 ok) (fun v s₁ gs' hb hv hsz1 => ?_) (fun s₁ hp h' hk hsz1 => ?_)
  · obtain ⟨i0, i', sti, st', y, x, φ', σ', H', w0, hnx, lt, le, g', rel, vr, pr, kap⟩ := hv
    have ej : N - 1 - (n - 1) = j := by omega
    rw [ej] at w0
    have ww := (show genAt tg c e sl xs st0 j = _ from w0).symm.trans W.w
    have e1 : xs.drop i0 = xs.drop i := congrArg Prod.fst (Option.some.inj ww)
    have e2 : sti = st := congrArg Prod.snd (Option.some.inj ww)
    subst e2
    have e3 := drop_inj (by omega) W.le e1
    subst e3
    have hlen1 : g < s₁.gens.size := by
      have : (s₁.setGen g gs').gens.size = s₁.gens.size := GenW.setGen_size _ _ _
      have h9 : g + 1 ≤ (s₁.setGen g gs').gens.size := hsz1
      omega
    rw [hnx]
    refine ⟨v, x, i', φ', σ', H', rfl, rel, vr, rfl, lt, ⟨by omega, by have := W.rest; omega, le, ?_, g'.mv (cs := []) TT (fun _ h => by cases h) hdis rfl (bare_set g'.inv.bare hb) (fun _ _ _ h => h) (fun _ h => by cases h), ⟨gs', by simp [Shared.setGen, hlen1], fun s'' g'' ok'' => ?_⟩, ?_, W.mem⟩, pr⟩
    · show genAt tg c e sl xs st0 (j + 1) = _
      unfold genAt
      rw [show genAt tg c e sl xs st0 j = _ from W.w]
      simp only [hnx]
    · have := kap s'' g'' ok''
      obtain ⟨m, rfl⟩ : ∃ m, n = m + 1 := ⟨n - 1, by omega⟩
      exact this
    · obtain ⟨o, nm, qn, ho, q⟩ := W.gen
      exact ⟨o, nm, qn, pr a W.mem o ho, q⟩
  · obtain ⟨i0, sti, st', φ', σ', H', w0, hnx, I', at', s', pr, nn⟩ := hp
    have ej : N - n = j := by omega
    rw [ej] at w0
    have ww := (show genAt tg c e sl xs st0 j = _ from w0).symm.trans W.w
    have e1 : xs.drop i0 = xs.drop i := congrArg Prod.fst (Option.some.inj ww)
    have e2 : sti = st := congrArg Prod.snd (Option.some.inj ww)
    subst e2
    rw [← e1, hnx]
    exact ⟨rfl, φ', σ', H', I'.call' rfl (un_but (cs := []) fun b o _ q => hk b o q) (hok_but (cs := []) I'.hok (fun _ h => by cases h) fun b o _ q => hk b o q) (bare_set I'.bare rfl) (fun _ h => by cases h), at', s', fun b hb o q => hk b o (pr b hb o q), nn⟩
/-! ### any, all, sum -/
def truthV : Val → Option Bool
  | .d (.bool b) => some b
  | _ => none
def anyG (tg : Tg) (c : TM) (e : EM) (sl : Slots) : List PyData → Store → R Bool
  | [], st => .ok false st
  | x :: xs, st =>
    match tg.put x sl with
    | none => .stuck
    | some sl1 => (c sl1 st).bind fun b st1 => bif b then (e sl1 st1).bind fun v st2 =>
        match truthV v with
        | some true => .ok true st2
        | some false => anyG tg c e sl xs st2
        | none => .stuck
      else anyG tg c e sl xs st1
def allG (tg : Tg) (c : TM) (e : EM) (sl : Slots) : List PyData → Store → R Bool
  | [], st => .ok true st
  | x :: xs, st =>
    match tg.put x sl with
    | none => .stuck
    | some sl1 => (c sl1 st).bind fun b st1 => bif b then (e sl1 st1).bind fun v st2 =>
        match truthV v with
        | some false => .ok false st2
        | some true => allG tg c e sl xs st2
        | none => .stuck
      else allG tg c e sl xs st1
theorem anyG_nx {tg : Tg} {c : TM} {e : EM} {sl : Slots} : ∀ (xs : List PyData) (st : Store), anyG tg c e sl xs st = (genNx tg c e sl xs st).bind fun o st1 =>
    match o with
    | none => .ok false st1
    | some (v, ys) =>
      match truthV v with
      | some true => .ok true st1
      | some false => anyG tg c e sl ys st1
      | none => .stuck
  | [], st => rfl
  | x :: xs, st => by
    rw [anyG, genNx]
    cases tg.put x sl with
    | none => rfl
    | some sl1 =>
      simp only
      cases c sl1 st with
      | exn _ _ => rfl
      | stuck => rfl
      | ok b st1 =>
        simp only [R.bind_ok]
        cases b with
        | false => exact anyG_nx xs st1
        | true =>
          simp only [cond_true]
          cases e sl1 st1 <;> rfl
theorem allG_nx {tg : Tg} {c : TM} {e : EM} {sl : Slots} : ∀ (xs : List PyData) (st : Store), allG tg c e sl xs st = (genNx tg c e sl xs st).bind fun o st1 =>
    match o with
    | none => .ok true st1
    | some (v, ys) =>
      match truthV v with
      | some false => .ok false st1
      | some true => allG tg c e sl ys st1
      | none => .stuck
  | [], st => rfl
  | x :: xs, st => by
    rw [allG, genNx]
    cases tg.put x sl with
    | none => rfl
    | some sl1 =>
      simp only
      cases c sl1 st with
      | exn _ _ => rfl
      | stuck => rfl
      | ok b st1 =>
        simp only [R.bind_ok]
        cases b with
        | false => exact allG_nx xs st1
        | true =>
          simp only [cond_true]
          cases e sl1 st1 <;> rfl
/-- the walk has ended -/
def EndP (Y : Cx) (T : List Tb) (φ0 : Num) (st0 : Store) (H0 : Hp) (sl : Slots) (st' : Store) (s' : Shared) : Prop := ∃ φ' σ' H', Inv Y [] σ' H' s' ∧ At Y.K Y.mg T φ' sl st' σ' H' ∧ Stp φ0 st0 H0 φ' st' H'
theorem any_loop {P : Program} {w : World} {K : PySem.W.Frag} {tgt : Expr} {J : It} {it a : Addr} {A : Around} {g : Nat} (TT : Turn P w K tgt J fp it tn) (hdis : ∀ b ∈ fp, b ∉ prot) (hh : A.handled = none) (hroom : A.depth < recursionLimit) {R0 : Result → Shared → Prop} {b : Bool} {stF : Store}
    (hR : ∀ s', EndP Y T φ0 st0 H0 sl stF s' → R0 (.ok (.ret (.bool b))) s') :
    ∀ (q i j n : Nat) (φ : Num) (st : Store) (σ : L2.St) (H : Hp) (s : Shared), xs.length - i = q → Wk Y T A.in1.in1 fp prot tn φ0 st0 H0 sl tg c e xs N a g i j n φ st σ H s → anyG tg c e sl (xs.drop i) st = .ok b stF →
      codeAny (model Y.prog Y.w) A (.builtin "any.loop" ⟨[.ref a], []⟩) R0 s := by
  intro q
  induction q using Nat.strongRecOn with
  | ind q ih =>
    intro i j n φ st σ H s hq W ha
    refine codeAny_builtin F.entry_any_loop ?_
    rw [Around.under_plainId F.plain_any_loop _]
    show wpAny _ A.in1 (pyNext (.ref a) >>= _) _ _ s
    rw [anyG_nx] at ha
    have ok : isOk (genNx tg c e sl (xs.drop i) st) := by
      cases hnx : genNx tg c e sl (xs.drop i) st with
      | ok _ _ => trivial
      | exn _ _ => rw [hnx] at ha; cases ha
      | stuck => rw [hnx] at ha; cases ha
    refine wpAny_bind (wpAny_mono (gen_next (E := fun _ _ => False) TT hdis hh hroom W ok) (fun r s' hp => ?_) fun _ _ z => z.elim)
    cases hnx : genNx tg c e sl (xs.drop i) st with
    | exn _ _ => rw [hnx] at ha; cases ha
    | stuck => rw [hnx] at ha; cases ha
    | ok o st1 =>
      rw [hnx] at ha hp
      cases o with
      | none =>
        obtain ⟨rfl, φ', σ', H', I', a', s1, _, _⟩ := hp
        simp only [R.bind_ok] at ha
        cases ha
        exact wpAny_bind (wpAny_rule (wpAny_pure (hR s' ⟨φ', σ', H', I', a', s1⟩)))
      | some vy =>
        obtain ⟨y, ys⟩ := vy
        obtain ⟨v, x, i', φ', σ', H', rfl, rel, vr, rfl, lt, W', _⟩ := hp
        simp only [R.bind_ok] at ha
        cases y with
        | box _ => cases ha
        | d y =>
          cases y with
          | bool k =>
            have ex : x = .bl k := DR.d_bool (K := Y.K) (O := Av φ' st1) (H := H') vr
            subst ex
            cases rel
            refine wpAny_bind (wpAny_holding (wpAny_truthy_bool ?_))
            refine wpAny_bind (wpAny_letGo ?_)
            cases k with
            | true =>
              simp only [truthV] at ha
              cases ha
              simp only [if_true]
              exact wpAny_bind (wpAny_rule (wpAny_pure (hR s' ⟨φ', σ', H', W'.sg.inv, W'.sg.at_, W'.sg.stp⟩)))
            | false =>
              simp only [truthV] at ha
              simp only [Bool.false_eq_true, if_false]
              exact wpAny_pure ⟨plainId_quiet F.plain_any_loop _, ih (xs.length - i') (by have := W'.le; omega) i' (j + 1) (n - 1) φ' st1 σ' H' s' rfl W' ha⟩
          | _ => cases ha
theorem all_loop {P : Program} {w : World} {K : PySem.W.Frag} {tgt : Expr} {J : It} {it a : Addr} {A : Around} {g : Nat} (TT : Turn P w K tgt J fp it tn) (hdis : ∀ b ∈ fp, b ∉ prot) (hh : A.handled = none) (hroom : A.depth < recursionLimit) {R0 : Result → Shared → Prop} {b : Bool} {stF : Store}
    (hR : ∀ s', EndP Y T φ0 st0 H0 sl stF s' → R0 (.ok (.ret (.bool b))) s') :
    ∀ (q i j n : Nat) (φ : Num) (st : Store) (σ : L2.St) (H : Hp) (s : Shared), xs.length - i = q → Wk Y T A.in1.in1 fp prot tn φ0 st0 H0 sl tg c e xs N a g i j n φ st σ H s → allG tg c e sl (xs.drop i) st = .ok b stF →
      codeAny (model Y.prog Y.w) A (.builtin "all.loop" ⟨[.ref a], []⟩) R0 s := by
  intro q
  induction q using Nat.strongRecOn with
  | ind q ih =>
    intro i j n φ st σ H s hq W ha
    refine codeAny_builtin F.entry_all_loop ?_
    rw [Around.under_plainId F.plain_all_loop _]
    show wpAny _ A.in1 (pyNext (.ref a) >>= _) _ _ s
    rw [allG_nx] at ha
    have ok : isOk (genNx tg c e sl (xs.drop i) st) := by
      cases hnx : genNx tg c e sl (xs.drop i) st with
      | ok _ _ => trivial
      | exn _ _ => rw [hnx] at ha; cases ha
      | stuck => rw [hnx] at ha; cases ha
    refine wpAny_bind (wpAny_mono (gen_next (E := fun _ _ => False) TT hdis hh hroom W ok) (fun r s' hp => ?_) fun _ _ z => z.elim)
    cases hnx : genNx tg c e sl (xs.drop i) st with
    | exn _ _ => rw [hnx] at ha; cases ha
    | stuck => rw [hnx] at ha; cases ha
    | ok o st1 =>
      rw [hnx] at ha hp
      cases o with
      | none =>
        obtain ⟨rfl, φ', σ', H', I', a', s1, _, _⟩ := hp
        simp only [R.bind_ok] at ha
        cases ha
        exact wpAny_bind (wpAny_rule (wpAny_pure (hR s' ⟨φ', σ', H', I', a', s1⟩)))
      | some vy =>
        obtain ⟨y, ys⟩ := vy
        obtain ⟨v, x, i', φ', σ', H', rfl, rel, vr, rfl, lt, W', _⟩ := hp
        simp only [R.bind_ok] at ha
        cases y with
        | box _ => cases ha
        | d y =>
          cases y with
          | bool k =>
            have ex : x = .bl k := DR.d_bool (K := Y.K) (O := Av φ' st1) (H := H') vr
            subst ex
            cases rel
            refine wpAny_bind (wpAny_holding (wpAny_truthy_bool ?_))
            refine wpAny_bind (wpAny_letGo ?_)
            cases k with
            | false =>
              simp only [truthV] at ha
              cases ha
              simp only [Bool.false_eq_true, if_false]
              exact wpAny_bind (wpAny_rule (wpAny_pure (hR s' ⟨φ', σ', H', W'.sg.inv, W'.sg.at_, W'.sg.stp⟩)))
            | true =>
              simp only [truthV] at ha
              simp only [if_true]
              exact wpAny_pure ⟨plainId_quiet F.plain_all_loop _, ih (xs.length - i') (by have := W'.le; omega) i' (j + 1) (n - 1) φ' st1 σ' H' s' rfl W' ha⟩
          | _ => cases ha
def longI (i : Int) : Bool := decide (-(2 ^ 63) ≤ i) && decide (i < 2 ^ 63)
def sumG (tg : Tg) (c : TM) (e : EM) (sl : Slots) : Int → List PyData → Store → R Int
  | acc, [], st => .ok acc st
  | acc, x :: xs, st =>
    match tg.put x sl with
    | none => .stuck
    | some sl1 => (c sl1 st).bind fun b st1 => bif b then (e sl1 st1).bind fun v st2 =>
        match v with
        | .d (.int k) => if (longI k && longI (acc + k)) = true then sumG tg c e sl (acc + k) xs st2 else .stuck
        | _ => .stuck
      else sumG tg c e sl acc xs st1
theorem sumG_nx {tg : Tg} {c : TM} {e : EM} {sl : Slots} : ∀ (xs : List PyData) (acc : Int) (st : Store), sumG tg c e sl acc xs st = (genNx tg c e sl xs st).bind fun o st1 =>
    match o with
    | none => .ok acc st1
    | some (v, ys) =>
      match v with
      | .d (.int k) => if (longI k && longI (acc + k)) = true then sumG tg c e sl (acc + k) ys st1 else .stuck
      | _ => .stuck
  | [], acc, st => rfl
  | x :: xs, acc, st => by
    rw [sumG, genNx]
    cases tg.put x sl with
    | none => rfl
    | some sl1 =>
      simp only
      cases c sl1 st with
      | exn _ _ => rfl
      | stuck => rfl
      | ok b st1 =>
        simp only [R.bind_ok]
        cases b with
        | false => exact sumG_nx xs acc st1
        | true =>
          simp only [cond_true]
          cases e sl1 st1 <;> rfl
theorem sum_loop {P : Program} {w : World} {K : PySem.W.Frag} {tgt : Expr} {J : It} {it a S : Addr} {A : Around} {g : Nat} (TT : Turn P w K tgt J fp it tn) (hdis : ∀ b ∈ fp, b ∉ prot) (hS : S ∈ prot) (hSa : S ≠ a) (hh : A.handled = none) (hroom : A.depth < recursionLimit) {R0 : Result → Shared → Prop} {r : Int} {stF : Store}
    (hR : ∀ s' t, EndP Y T φ0 st0 H0 sl stF s' → R0 (.ok (.ret (.int r t))) s') :
    ∀ (q i j n : Nat) (φ : Num) (st : Store) (σ : L2.St) (H : Hp) (s : Shared) (acc : Int) (tA : Tok) (ep : Nat), xs.length - i = q → Wk Y T A.in1.in1 fp prot tn φ0 st0 H0 sl tg c e xs N a g i j n φ st σ H s →
      s.heap.get? S = some { cls := .type "list", dict := none, data := .seq #[.int acc tA] ep, slots := #[] } → sumG tg c e sl acc (xs.drop i) st = .ok r stF →
      codeAny (model Y.prog Y.w) A (.builtin "sum.loop" ⟨[.ref a, .ref S, rawInt 0, rawInt 0], []⟩) R0 s := by
  intro q
  induction q using Nat.strongRecOn with
  | ind q ih =>
    intro i j n φ st σ H s acc tA ep hq W hSo ha
    refine codeAny_builtin F.entry_sum_loop ?_
    rw [Around.under_plainId F.plain_sum_loop _]
    show wpAny _ A.in1 (seqItems? (.ref S) >>= _) _ _ s
    refine wpAny_bind (wpAny_seqItems hSo rfl ?_)
    show wpAny _ A.in1 (tryCatch (pyNext (.ref a)) _ >>= _) _ _ s
    rw [sumG_nx] at ha
    have ok : isOk (genNx tg c e sl (xs.drop i) st) := by
      cases hnx : genNx tg c e sl (xs.drop i) st with
      | ok _ _ => trivial
      | exn _ _ => rw [hnx] at ha; cases ha
      | stuck => rw [hnx] at ha; cases ha
    refine wpAny_bind (wpAny_tryCatch (wpAny_mono (gen_next (E := fun _ _ => False) TT hdis hh hroom W ok) (fun v0 s' hp => ?_) fun _ _ z => z.elim))
    cases hnx : genNx tg c e sl (xs.drop i) st with
    | exn _ _ => rw [hnx] at ha; cases ha
    | stuck => rw [hnx] at ha; cases ha
    | ok o st1 =>
      rw [hnx] at ha hp
      cases o with
      | none =>
        obtain ⟨rfl, φ', σ', H', I', a', s1, _, _⟩ := hp
        simp only [R.bind_ok] at ha
        cases ha
        exact wpAny_pure (hR s' tA ⟨φ', σ', H', I', a', s1⟩)
      | some vy =>
        obtain ⟨y, ys⟩ := vy
        obtain ⟨v, x, i', φ', σ', H', rfl, rel, vr, rfl, lt, W', kp⟩ := hp
        simp only [R.bind_ok] at ha
        cases y with
        | box _ => cases ha
        | d y =>
          cases y with
          | int kk =>
            have ex : x = .int kk := DR.d_int (K := Y.K) (O := Av φ' st1) (H := H') vr
            subst ex
            obtain ⟨t, rfl⟩ := rel
            simp only at ha
            split at ha
            · rename_i hl
              have hS' := kp S hS _ hSo
              have hc : ((decide (-(2 ^ 63) ≤ kk) && decide (kk < 2 ^ 63)) && (decide (-(2 ^ 63) ≤ acc + kk) && decide (acc + kk < 2 ^ 63))) = true := hl
              show wpAny _ A.in1 (if (_ : Bool) = true then (mkInt (acc + kk) >>= _) else _) _ _ _
              split
              · refine wpAny_bind (wpAny_mkInt ?_)
                show wpAny _ A.in1 (updateSeq S (fun _ => #[.int (acc + kk) s'.toks]) >>= _) _ _ _
                refine wpAny_bind ?_
                refine wpAny_updateSeq hS' rfl (wpAny_pure ⟨plainId_quiet F.plain_sum_loop _, ih (xs.length - i') (by have := W'.le; omega) i' (j + 1) (n - 1) φ' st1 σ' H' _ (acc + kk) s'.toks _ rfl
                  ⟨W'.sum, W'.rest, W'.le, W'.w, W'.sg.mv (cs := [S]) TT (fun b hb => by rw [List.mem_singleton.mp hb]; exact hS) hdis rfl W'.sg.inv.bare (fun b o hb eb => (Heap.get?_update_other _ _ (fun h : S = b => hb (by rw [h]; exact List.mem_singleton.mpr rfl))).trans eb)
                    (fun b hb => by rw [List.mem_singleton.mp hb]; exact ⟨_, Heap.get?_update_self _ hS' rfl, fun v z => by cases z⟩), W'.gs, ?_, W'.mem⟩ (Heap.get?_update_self _ hS' rfl) ha⟩)
                obtain ⟨og, nm, qn, ho, qq⟩ := W'.gen
                exact ⟨og, nm, qn, (Heap.get?_update_other _ _ hSa).trans ho, qq⟩
              · rename_i hneg
                exact absurd hc hneg
            · cases ha
          | _ => cases ha
end
end TL
end

section
set_option Elab.async false
set_option linter.all false
set_option maxRecDepth 100000
set_option maxHeartbeats 1000000
set_option autoImplicit false
/-! TL19: generator expressions made; any, all, sum. -/
namespace TL
open PySem L2
open PyProof.Rows (AllBare)
section
variable {Y : Cx} {A : Around} {R : GenEnd} {P : Protocol}
theorem over_gen {elt iter tgt : Expr} {ifs : List Expr} {scope : Scope} {pos : Pos} {it acc : Value} {env : Env} : A.over (.compLoop (.GeneratorExp elt [⟨tgt, iter, ifs, 0⟩] scope pos) 0 it acc env) [] = A.deeper env := by
  obtain ⟨hd, d, fr, gs, u⟩ := A
  simp [Around.over, Around.deeper, marksOver, frameCount, unitsOf, envsOf, guardsOf, pushEnvs, pushGuards, Code.envs, Code.env?, Code.isFrame, Code.guards, Code.isGuard, Code.weight, Code.frames, Code.isCreation, Code.isCaller, Code.cUnits, Code.isInlined]
theorem seg_start {tgt elt iter : Expr} {ifs : List Expr} {scope : Scope} {pos : Pos} {it : Addr} {K : PySem.W.Frag} {J : It} {fp : List Addr} {tn : Nat → Heap → Prop} {n : Nat} {s₀ s : Shared} (TT : Turn Y.prog Y.w K tgt J fp it tn) (htn : tn 0 s.heap)
    (loop : Seg (model Y.prog Y.w) A R P n s₀ (.compLoop (.GeneratorExp elt [⟨tgt, iter, ifs, 0⟩] scope pos) 0 (.ref it) .none Y.env) ((model Y.prog Y.w).den (.compLoop (.GeneratorExp elt [⟨tgt, iter, ifs, 0⟩] scope pos) 0 (.ref it) .none Y.env)) [] s) :
    Seg (model Y.prog Y.w) A R P n s₀ (.compStart (.GeneratorExp elt [⟨tgt, iter, ifs, 0⟩] scope pos) 0 (.ref it) .none Y.env) ((model Y.prog Y.w).den (.compStart (.GeneratorExp elt [⟨tgt, iter, ifs, 0⟩] scope pos) 0 (.ref it) .none Y.env)) [] s := by
  show Seg _ A _ _ _ s₀ _ ((compStart (.GeneratorExp elt [⟨tgt, iter, ifs, 0⟩] scope pos) 0 (.ref it) .none Y.env).onRaise (leaving Y.env)) [] s
  unfold compStart
  rw [Sem.onRaise_eq_wrap]
  show Seg _ A _ _ _ s₀ _ ((ask >>= _).wrap _ _ _ _) [] s
  refine seg_bind_wrap (wpAny_askSetting ?_)
  split
  · exact seg_again rfl loop
  · first
      | exact seg_bind_wrap (wpAny_rule (seg_bind_wrap (wpAny_standAt (seg_bind_wrap (TT.self _ 0 s _ _ htn (seg_again rfl loop))))))
      | (refine seg_bind_wrap (wpAny_rule ?_); show Seg _ A _ _ _ s₀ _ ((standAt iter.pos >>= _).wrap _ _ _ _) [] s; exact seg_bind_wrap (wpAny_standAt (seg_bind_wrap (TT.self _ 0 s _ _ htn (seg_again rfl loop)))))
end
section
variable {X : Cx} {T : List Tb} {pins : List (Addr × Obj)} {σ : L2.St} {H : Hp} {s : Shared}
theorem clo_cell {scope : Scope} {own : List Nat} (I : Inv X pins σ H s) (S : GnS X.N X.env.scope scope own) {y : Str} {c : Addr} (e : (cloFrom X.env.cells scope.names []).lookup y = some c) : X.env.cells.lookup y = some c := by
  have hfree : ∀ y ∈ scope.names, y.2 = .free → ∃ c, X.env.cells.lookup y.1 = some c := fun y hy e => by
    rcases S.free y hy e with k | k
    · exact I.ok.has _ (.inl k)
    · exact I.ok.has _ (.inr k)
  rcases cloFrom_mem (PySem.mem_of_lookup e) with hm | ⟨h1, h2⟩
  · cases hm
  · obtain ⟨c1, hc⟩ := hfree _ h1 rfl
    have hc : X.env.cells.lookup y = some c1 := hc
    have e2 : c = c1 := by
      rw [h2, hc] <;> rfl
    rw [e2]
    exact hc
/-- a generator expression has been made: s4, before its frame; s5, behind it -/
structure Made (X : Cx) (T : List Tb) (pins : List (Addr × Obj)) (σ : L2.St) (tgt elt iter : Expr) (ifs : List Expr) (scope : Scope) (gpos : Pos) (own : List Nat) (xs : List PyData) (φ : Num) (st : Store) (H : Hp) (st4 : Store)
    (a : Addr) (s5 : Shared) (s4 : Shared) (H4 : Hp) (φ4 : Num) (fp : List Addr) (tn : Nat → Heap → Prop) (J : It) (it : Addr) (code : Value) : Prop where
  inv4 : Inv X pins σ H4 s4
  turn : Turn X.prog X.w X.K tgt J fp it tn
  fp4 : ∀ b ∈ fp, FpOk X pins H4 b ∧ b < s4.heap.objs.size
  str : StR X.K X.mg T φ4 st4 H4
  stp : Stp φ st H φ4 st4 H4
  itr : ItR X T φ4 st4 H4 xs J
  inv5 : ∀ A : Around, A.frames = X.A.frames → A.handled = none → Inv (genCx X A s4 H4 (genEnv scope (cloFrom X.env.cells scope.names []) s4.heap.objs.size code builtinsNs X.env) fp) [] (wipe σ own) H4 s5
  tn5 : tn 0 s5.heap
  a4 : a = s4.heap.objs.size + 1
  gen : s5.heap.IsGen a s4.gens.size
  cells : ∀ y c, (cloFrom X.env.cells scope.names []).lookup y = some c → c < s4.heap.objs.size
  gens : s5.gens[s4.gens.size]? = some (.fresh (.compStart (.GeneratorExp elt [⟨tgt, iter, ifs, 0⟩] scope gpos) 0 (.ref it) .none (genEnv scope (cloFrom X.env.cells scope.names []) s4.heap.objs.size code builtinsNs X.env)))
theorem gen_made {W : XK} {t : Tb} {itm : IM} {tgt elt iter : Expr} {ifs : List Expr} {scope : Scope} {gpos : Pos} {own : List Nat} {φ : Num} {sl : Slots} {st : Store} {Q : Value → Shared → Prop} (I : Inv X pins σ H s) (S : GnS X.N X.env.scope scope own) (ho : Home X T t) (hnm : t.nm gpos.line gpos.col = none) (hh : X.A.handled = none) (hroom : X.A.depth < recursionLimit)
    (hi : TL.I X T W tgt iter itm) (a0 : At X.K X.mg T φ sl st σ H)
    (hx : ∀ c st', itm sl st = .exn c st' → ∀ φ' H' C, Stp φ st H φ' st' H' → StR X.K X.mg T φ' st' H' → X.mg c = some (.ref C) → W (.ref C) none H') (hns : itm sl st ≠ .stuck)
    (hs : ∀ x, genFold iter X.env x = pure x)
    (hQ : ∀ xs st4 a s5 s4 H4 φ4 fp tn J it code, itm sl st = .ok xs st4 → Made X T pins σ tgt elt iter ifs scope gpos own xs φ st H st4 a s5 s4 H4 φ4 fp tn J it code → Q (.ref a) s5) :
    wpAny (model X.prog X.w) X.A (eval (.GeneratorExp elt [⟨tgt, iter, ifs, 0⟩] scope gpos) X.env) Q X.xe s := by
  obtain ⟨⟨c, TB, hcode⟩, htT, hone⟩ := ho
  have hfree : ∀ y ∈ scope.names, y.2 = .free → ∃ c, X.env.cells.lookup y.1 = some c := fun y hy e => by
    rcases S.free y hy e with k | k
    · exact I.ok.has _ (.inl k)
    · exact I.ok.has _ (.inr k)
  refine wpAny_GeneratorExp_make S.co (closure_ok hfree) S.cell S.dot S.kind hroom ?_ hs
  have run := hi.run.run pins s σ H (fun J H2 => ∃ xs st2 φ2, itm sl st = .ok xs st2 ∧ Stp φ st H φ2 st2 H2 ∧ StR X.K X.mg T φ2 st2 H2 ∧ ItR X T φ2 st2 H2 xs J) I ⟨φ, sl, st, a0, by
    cases e : itm sl st with
    | ok xs st2 => exact fun φ1 H1 J s1 r1 j1 => ⟨xs, st2, φ1, rfl, s1, r1, j1⟩
    | exn c st' => exact hx c st' e
    | stuck => exact (hns e).elim⟩
  refine wpAny_mono run (fun xv s1 h1 => wpAny_mono h1 (fun itv s2 hp => ?_) fun _ _ z => z) fun _ _ z => z
  obtain ⟨it, fp, tn, J, H2, rfl, I2, TT, tn2, hf2, xs, st2, φ2, e2, stp2, str2, itr2⟩ := hp
  refine ⟨I2.nolimit, ?_⟩
  obtain ⟨ps, hP, trip, nms⟩ := str2.tabs t htT
  have hPs : s2.heap.get? t.P = some { cls := .none, data := .fields ps } := I2.hok t.P _ hP
  have cd : PySem.W.CodeHd s2.heap c t.P := TB.code.keeps I2.bk
  have cont : ∀ (code : Value) (H3 : Hp) (s3 : Shared), Inv X pins σ H3 s3 → Ex0 H2 H3 → (∀ t' ∈ T, TabN H3 t') → tn 0 s3.heap → (∀ b ∈ fp, H3 b = none) → s3.gens = s2.gens →
      wpAny (model X.prog X.w) X.A (builtinsFor X.env.globals X.env.builtins) (fun bi s₄ => ∀ h', h'.Ns s₄.heap.objs.size (fun y => if y = (".0" : Str) then some (.ref it) else none) → Heap.SameBut s₄.heap.objs.size (s₄.heap.push { cls := .type "frame", data := .dict #[] }) h' →
          Q (.ref h'.objs.size) { s₄ with
            gens := s₄.gens.push (.fresh (.compStart (.GeneratorExp elt [⟨tgt, iter, ifs, 0⟩] scope gpos) 0 (.ref it) .none (genEnv scope (cloFrom X.env.cells scope.names []) s₄.heap.objs.size code bi X.env))),
            toks := s₄.toks + 1 + 1 + 1,
            heap := h'.push { cls := .type "generator", data := .fields #[.int s₄.gens.size 0, .str "<genexpr>" (s₄.toks + 1), .str (X.env.qual ++ "<genexpr>") (s₄.toks + 1 + 1)] } }) X.xe s3 := by
    intro code H3 s3 I3 ex tabs tn3 hf3 hgens
    obtain ⟨bm, ob, e1, e2', e3, e4, e5, e6, e7, e8⟩ := TB.bm
    refine wpAny_builtinsFor (m := X.mg) (by rw [I3.ok.glob]; exact I3.mod.glob.keeps I3.bk) e1 e2' (I3.bk _ _ e5) e6 e7 e8 ?_
    intro h' hn' hs'
    have hsz : h'.objs.size = s3.heap.objs.size + 1 := by rw [hs'.1, Heap.size_push]
    have keep' : ∀ b o, s3.heap.get? b = some o → h'.get? b = some o := fun b o e => hs'.extBut b o (Nat.ne_of_lt (Heap.lt_size e)) (Heap.get?_push_of_some _ e)
    have lt : ∀ b ∈ fp, b < s3.heap.objs.size := fun b hb => let ⟨o, e, _⟩ := TT.obj _ _ tn3 b hb; Heap.lt_size e
    have fp3 : ∀ b ∈ fp, FpOk X pins H3 b ∧ b < s3.heap.objs.size := fun b hb => ⟨⟨hf3 b hb, (hf2 b hb).2⟩, lt b hb⟩
    refine hQ xs st2 _ _ s3 H3 φ2 fp tn J it code e2 ⟨I3, TT, fp3, ex.str str2 tabs, stp2.trans ex.stp, fun i φ st H s => itr2 i φ st H (ex.stp.trans s), fun A hA hd => ?_, TT.keep _ _ _ tn3 fun b hb o e => Heap.get?_push_of_some _ (keep' b o e), hsz, ⟨_, _, _, Heap.get?_push_size _ rfl, rfl, rfl, rfl⟩, fun y c e => by
      obtain ⟨v, q⟩ := I3.cell y c (clo_cell I S e)
      exact q.lt, Array.getElem?_push_size ..⟩
    exact gen_start (A := A) (m := fun y => if y = (".0" : Str) then some (.ref it) else none) I3 S hA hd rfl fp3 (hn'.push _) (fun b o e => Heap.get?_push_of_some _ (keep' b o e)) rfl (I3.bare.push rfl)
  cases found : codeAmong gpos ps.toList with
  | some cv =>
    refine wpAny_genexprCode_hit hcode (cd.code hPs trip) found ?_
    exact cont cv H2 s2 I2 ⟨fun _ _ e _ => e, fun _ e => e⟩ str2.tabs tn2 (fun b hb => (hf2 b hb).1) rfl
  | none =>
    refine wpAny_genexprCodeX hcode (cd.code hPs trip) (cd.tab hPs) found fun c' h' tk hx' hge hlt hco' _ htab' _ => ?_
    have I3 := GxR.inv_tab (more := #[rawInt gpos.line, rawInt gpos.col, .ref c']) (h' := h') (g' := s2.gens) (d' := s2.drawn) (t' := tk) I2 hP (fun b o hb e => hx' b o hb e) htab'.2 I2.bare
    have eL : (ps ++ #[rawInt gpos.line, rawInt gpos.col, .ref c']).toList = ps.toList ++ [rawInt gpos.line, rawInt gpos.col, .ref c'] := by simp
    have neP : ∀ b ∈ fp, b ≠ t.P := fun b hb z => by have := (hf2 b hb).1; rw [z, hP] at this; cases this
    have ex : Ex0 H2 (upd H2 t.P (.tbl (ps ++ #[rawInt gpos.line, rawInt gpos.col, .ref c']))) := by
      refine ⟨fun a o e nt => ?_, fun a e => ?_⟩
      · rw [upd_ne (show a ≠ t.P from fun z => by rw [z, hP] at e; cases e; cases nt)]
        exact e
      · by_cases h2 : a = t.P
        · rw [h2, upd_same]; exact fun z => nomatch z
        · rw [upd_ne h2]; exact e
    refine cont (.ref c') _ _ I3 ex (fun t' ht' => ?_) (TT.keep _ _ _ tn2 fun b hb o e => hx' b o (neP b hb) e) (fun b hb => by rw [upd_ne (neP b hb)]; exact (hf2 b hb).1) rfl
    by_cases hp : t'.P = t.P
    · rw [hone t' ht' hp]
      refine ⟨_, upd_same, by rw [eL]; exact PySem.TriplesOk_snoc _ _ _ _ trip, fun pos' cv q e1 e2 => ?_⟩
      rw [eL] at e1
      rcases among_app2 _ trip e1 with w | ⟨w, z1, z2⟩
      · obtain ⟨c0, r1, r2⟩ := nms pos' cv q w e2
        exact ⟨c0, r1, ex.keep _ _ r2 rfl⟩
      · rw [z1, z2, hnm] at e2
        cases e2
    · obtain ⟨ps', a1, a2, a3⟩ := str2.tabs t' ht'
      refine ⟨ps', by rw [upd_ne hp]; exact a1, a2, fun pos' cv q e1 e2 => ?_⟩
      obtain ⟨c0, r1, r2⟩ := a3 pos' cv q e1 e2
      exact ⟨c0, r1, ex.keep _ _ r2 rfl⟩
end
section
variable {X : Cx} {T : List Tb} {pins : List (Addr × Obj)} {σ : L2.St} {H : Hp} {s : Shared} {D : DI} {k : Nat} {W : XK}
theorem Cin.gn {A : Around} {H : Hp} {scope : Scope} {genv : Env} {fp : List Addr} (ci : Cin D (k + 1) X) (hsc : genv.scope = scope) (s : Shared) : Cin ⟨D.N, scope, []⟩ k (genCx X X.A.in1.in1 s H genv fp) where
  N := ci.N
  sc := hsc
  nd := ci.nd
  room := ⟨ci.room.hd, by have := ci.room.dp; show X.A.depth + 1 + 3 * k + 5 < _; omega, by have := ci.room.un; show X.A.units + 1 + 1 + 3 + 16 * k + 200 < _; omega⟩
  calm := rfl
  fn := fun _ h => by cases h
  po := PassesOwn.never
theorem wipeS_len : ∀ (js : List Nat) (sl : Slots), (wipeS sl js).length = sl.length
  | [], _ => rfl
  | j :: js, sl => by
    show ((wipeS sl js).set j none).length = _
    rw [List.length_set, wipeS_len js sl]
theorem wipe_own : ∀ (own : List Nat) (sl : Slots) (i : Nat), i ∈ own → i < sl.length → (wipeS sl own)[i]? = some none
  | [], _, _, h, _ => by cases h
  | j :: js, sl, i, h, hl => by
    show ((wipeS sl js).set j none)[i]? = _
    by_cases hj : j = i
    · subst hj
      have : (wipeS sl js).length = sl.length := wipeS_len js sl
      rw [List.getElem?_set_self (by rw [this]; exact hl)]
    · rw [List.getElem?_set_ne hj]
      exact wipe_own js sl i ((List.mem_cons.mp h).resolve_left (fun z => hj z.symm)) hl
theorem made_go {tgt elt iter : Expr} {ifs : List Expr} {scope : Scope} {gpos : Pos} {own : List Nat} {xs : List PyData} {φ : Num} {st : Store} {st4 : Store} {a : Addr} {s5 s4 : Shared} {H4 : Hp} {φ4 : Num} {fp prot : List Addr} {tn : Nat → Heap → Prop} {J : It} {it : Addr} {code : Value} {sl : Slots} {tg : Tg} {c : TM} {e : EM}
    (ci : Cin D (k + 1) X) (M : Made X T pins σ tgt elt iter ifs scope gpos own xs φ st H st4 a s5 s4 H4 φ4 fp tn J it code) (hco : scope.isCoroutine = false) (hix : ∀ i ∈ tg.ix, i ∈ own) (hln : ∀ i ∈ tg.ix, i < sl.length)
    (hG : ∀ (s : Shared) (H : Hp) (genv : Env) (fp : List Addr), Cin ⟨D.N, scope, []⟩ k (genCx X X.A.in1.in1 s H genv fp) → G (genCx X X.A.in1.in1 s H genv fp) T W0 tgt tg)
    (hT : ∀ (s : Shared) (H : Hp) (genv : Env) (fp : List Addr), Cin ⟨D.N, scope, []⟩ k (genCx X X.A.in1.in1 s H genv fp) → Ets (genCx X X.A.in1.in1 s H genv fp) T W0 ifs c)
    (hE : ∀ (s : Shared) (H : Hp) (genv : Env) (fp : List Addr), Cin ⟨D.N, scope, []⟩ k (genCx X X.A.in1.in1 s H genv fp) → E (genCx X X.A.in1.in1 s H genv fp) T W0 elt e) (hdis : ∀ b ∈ fp, b ∉ prot) :
    Goer (genCx X X.A.in1.in1 s4 H4 (genEnv scope (cloFrom X.env.cells scope.names []) s4.heap.objs.size code builtinsNs X.env) fp) T X.A.in1.in1 fp prot tn φ4 st4 H4 (wipeS sl own) tg c e xs (xs.length + 1)
      (.fresh (.compStart (.GeneratorExp elt [⟨tgt, iter, ifs, 0⟩] scope gpos) 0 (.ref it) .none (genEnv scope (cloFrom X.env.cells scope.names []) s4.heap.objs.size code builtinsNs X.env))) 0 (xs.length + 1) φ4 st4 (wipe σ own) H4 := by
  intro s'' g'' ok
  have cg : Cin ⟨D.N, scope, []⟩ k (genCx X X.A.in1.in1 s4 H4 (genEnv scope (cloFrom X.env.cells scope.names []) s4.heap.objs.size code builtinsNs X.env) fp) := Cin.gn (A := X.A) (scope := scope) (genv := genEnv scope (cloFrom X.env.cells scope.names []) s4.heap.objs.size code builtinsNs X.env) ci rfl s4
  exact ⟨rfl, seg_start (Y := genCx X X.A.in1.in1 s4 H4 (genEnv scope (cloFrom X.env.cells scope.names []) s4.heap.objs.size code builtinsNs X.env) fp) M.turn g''.tn
    (seg_gen over_gen rfl rfl hco (hG _ _ _ _ cg).run (hT _ _ _ _ cg).run (hE _ _ _ _ cg).run M.turn (fun i φ st H s r => M.itr i φ st H s r) hdis (fun i hi => wipe_own own sl i (hix i hi) (hln i hi)) (xs.length + 1)
      (xs.length) 0 (xs.length + 1) 0 s'' s'' φ4 st4 (wipe σ own) H4 0 st4 (by omega) (by omega) (by omega) (by omega) g'' (Nat.le_refl _) rfl rfl ok fun _ _ _ h => h)⟩
theorem made_end {tgt elt iter : Expr} {ifs : List Expr} {scope : Scope} {gpos : Pos} {own : List Nat} {xs : List PyData} {φ : Num} {st : Store} {st4 stF : Store} {a : Addr} {s5 s4 s' : Shared} {H4 : Hp} {φ4 : Num} {fp : List Addr} {tn : Nat → Heap → Prop} {J : It} {it : Addr} {code : Value} {slw : Slots} {Q : VK} {x : V} {u : Value}
    (M : Made X T pins σ tgt elt iter ifs scope gpos own xs φ st H st4 a s5 s4 H4 φ4 fp tn J it code)
    (h : EndP (genCx X X.A.in1.in1 s4 H4 (genEnv scope (cloFrom X.env.cells scope.names []) s4.heap.objs.size code builtinsNs X.env) fp) T φ4 st4 H4 slw stF s') (rel : RelV x u)
    (hq : ∀ φ' H', Stp φ st H φ' stF H' → StR X.K X.mg T φ' stF H' → Q x H') : EP X pins σ Q u s' := by
  obtain ⟨φ', σ', H', I', a', stp'⟩ := h
  refine ⟨x, H', M.inv4.call' I'.os I'.base I'.hok I'.bare fun b hb => ?_, rel, hq φ' H' (M.stp.trans stp') a'.s⟩
  obtain ⟨_, f1, f2, f3, f4, f5⟩ := (M.fp4 b hb).1
  exact ⟨f3, f1, f4, f5⟩
theorem made_gst {tgt elt iter : Expr} {ifs : List Expr} {scope : Scope} {gpos : Pos} {own : List Nat} {xs : List PyData} {φ : Num} {st : Store} {st4 : Store} {a : Addr} {s5 s4 s6 : Shared} {H4 : Hp} {φ4 : Num} {fp prot : List Addr} {tn : Nat → Heap → Prop} {J : It} {it : Addr} {code : Value} {sl : Slots}
    (ci : Cin D (k + 1) X) (M : Made X T pins σ tgt elt iter ifs scope gpos own xs φ st H st4 a s5 s4 H4 φ4 fp tn J it code) (a0 : SlR X.K φ st H sl σ)
    (kp : ∀ b o, s5.heap.get? b = some o → s6.heap.get? b = some o) (hos : s6.os = s5.os) (hg : s6.gens = s5.gens) (hp : ∀ b ∈ prot, s4.heap.objs.size < b ∧ ∃ o, s6.heap.get? b = some o ∧ ∀ v, o.data ≠ .cell v) :
    Gst (genCx X X.A.in1.in1 s4 H4 (genEnv scope (cloFrom X.env.cells scope.names []) s4.heap.objs.size code builtinsNs X.env) fp) T fp prot tn φ4 st4 H4 (wipeS sl own) 0 φ4 st4 (wipe σ own) H4 s6 := by
  have I5 := M.inv5 X.A.in1.in1 rfl ci.room.hd
  have I6 : Inv (genCx X X.A.in1.in1 s4 H4 (genEnv scope (cloFrom X.env.cells scope.names []) s4.heap.objs.size code builtinsNs X.env) fp) [] (wipe σ own) H4 s6 :=
    I5.call' hos (un_but (cs := []) fun b o _ q => kp b o q) (hok_but (cs := []) I5.hok (fun _ h => by cases h) fun b o _ q => kp b o q) (by rw [hg]; exact I5.bare) (fun _ h => by cases h)
  refine ⟨I6, M.turn.keep _ _ _ M.tn5 fun b _ o q => kp b o q, fun b hb => ?_, fun b hb => ⟨?_, (hp b hb).2⟩, ⟨M.str, (a0.mon M.stp).wipe own⟩, .refl⟩
  · have hb4 := M.fp4 b hb
    refine ⟨hb4.1.1, Nat.ne_of_lt hb4.2, fun z => ?_, .inl hb, fun y c e z => ?_, fun p hp => by cases (show p ∈ ([] : List (Addr × Obj)) ++ [] from hp)⟩
    · rcases List.mem_cons.mp (M.inv4.stkSub b z) with z | z
      · exact hb4.1.2.1 z
      · exact hb4.1.2.2.1 z
    · exact (I6.ok.exf b hb).2 y c e z
  · have hlt := (hp b hb).1
    refine ⟨M.inv4.hok.fresh (Nat.le_of_lt hlt), Nat.ne_of_gt hlt, fun z => ?_, .inr (Nat.le_of_lt hlt), fun y c e z => ?_, fun p hp => by cases (show p ∈ ([] : List (Addr × Obj)) ++ [] from hp)⟩
    · rcases List.mem_cons.mp (M.inv4.stkSub b z) with z | z
      · have := M.inv4.lt; rw [← z] at this; exact Nat.lt_irrefl _ (Nat.lt_trans hlt this)
      · exact M.inv4.nofs (Nat.le_of_lt hlt) z
    · have h1 := M.cells y c e
      rw [z] at h1
      exact Nat.lt_irrefl _ (Nat.lt_trans hlt h1)
def mAnyG (own : List Nat) (tg : Tg) (itm : IM) (c : TM) (e : EM) : EM := fun sl st =>
  (itm sl st).bind fun xs st1 => (noX (anyG tg c e (wipeS sl own) xs st1)).bind fun b st2 => .ok (.d (.bool b)) st2
def mAllG (own : List Nat) (tg : Tg) (itm : IM) (c : TM) (e : EM) : EM := fun sl st =>
  (itm sl st).bind fun xs st1 => (noX (allG tg c e (wipeS sl own) xs st1)).bind fun b st2 => .ok (.d (.bool b)) st2
def mSumG (own : List Nat) (tg : Tg) (itm : IM) (c : TM) (e : EM) : EM := fun sl st =>
  (itm sl st).bind fun xs st1 => (noX (sumG tg c e (wipeS sl own) 0 xs st1)).bind fun b st2 => .ok (.d (.int b)) st2
/-- the names' places -/
def ixOk (N : List Str) (tg : Tg) (own : List Nat) : Bool := tg.ix.all fun i => decide (i ∈ own) && decide (i < N.length)
theorem ixOk_of {N : List Str} {tg : Tg} {own : List Nat} (h : ixOk N tg own = true) : (∀ i ∈ tg.ix, i ∈ own) ∧ ∀ i ∈ tg.ix, i < N.length := by
  unfold ixOk at h
  simp only [List.all_eq_true, Bool.and_eq_true, decide_eq_true_eq] at h
  exact ⟨fun i hi => (h i hi).1, fun i hi => (h i hi).2⟩
theorem E_anyG {t : Tb} {itm : IM} {tgt elt iter : Expr} {ifs : List Expr} {scope : Scope} {p pos gpos : Pos} {own : List Nat} {tg : Tg} {c : TM} {e : EM} (ci : Cin D (k + 1) X) (ho : Home X T t) (hnm : t.nm gpos.line gpos.col = none) (hg : D.g "any" = true) (hm : X.mg "any" = none) (hv : bootBuiltins "any" = some (.builtin "any"))
    (hS : gnB D.N D.sc scope own = true) (hix : ixOk D.N tg own = true) (hi : TL.I X T W tgt iter itm)
    (hG : ∀ (s : Shared) (H : Hp) (genv : Env) (fp : List Addr), Cin ⟨D.N, scope, []⟩ k (genCx X X.A.in1.in1 s H genv fp) → G (genCx X X.A.in1.in1 s H genv fp) T W0 tgt tg)
    (hT : ∀ (s : Shared) (H : Hp) (genv : Env) (fp : List Addr), Cin ⟨D.N, scope, []⟩ k (genCx X X.A.in1.in1 s H genv fp) → Ets (genCx X X.A.in1.in1 s H genv fp) T W0 ifs c)
    (hE : ∀ (s : Shared) (H : Hp) (genv : Env) (fp : List Addr), Cin ⟨D.N, scope, []⟩ k (genCx X X.A.in1.in1 s H genv fp) → E (genCx X X.A.in1.in1 s H genv fp) T W0 elt e)
    (hs : ∀ x, genFold iter X.env x = pure x := by intro _; rfl)
    (he : starEach [.GeneratorExp elt [⟨tgt, iter, ifs, 0⟩] scope gpos] X.env = (false, eval (.GeneratorExp elt [⟨tgt, iter, ifs, 0⟩] scope gpos) X.env) :: starEach [] X.env := by rfl) :
    E X T W (.Call (.Name "any" p) [.GeneratorExp elt [⟨tgt, iter, ifs, 0⟩] scope gpos] [] pos) (mAnyG own tg itm c e) := by
  obtain ⟨g1, g2, g3⟩ := ci.gl hg
  have S : GnS X.N X.env.scope scope own := by rw [ci.N, ci.sc]; exact gn_by hS
  obtain ⟨hix1, hix2⟩ := ixOk_of hix
  refine ⟨⟨fun pins s σ H Q I h => ?_⟩⟩
  obtain ⟨φ, sl, st, a0, h⟩ := h
  refine wpAny_Call_Name_kw (ld_blt I g1 hm hv ?_ g3 g2)
  refine PyProof.Rows.callWith_builtin1 ?_ he (by rfl)
  rw [he]
  show wpAny _ _ (spliced ((false, eval (.GeneratorExp elt [⟨tgt, iter, ifs, 0⟩] scope gpos) X.env) :: backTo pos (starEach [] X.env))) _ _ s
  have h : EPost X.K X.mg T W φ st H Q ((itm sl st).bind fun xs st1 => (noX (anyG tg c e (wipeS sl own) xs st1)).bind fun b st2 => .ok (.d (.bool b)) st2) := h
  refine Calls.spliced_cons (gen_made I S ho hnm ci.room.hd (by have := ci.room.dp; omega) hi a0 (fun c' st' e1 => by rw [e1] at h; exact h) (fun e1 => by rw [e1] at h; exact h) hs fun xs st4 a s5 s4 H4 φ4 fp tn J it code e1 M => ?_)
  refine Calls.spliced_nil ?_
  rw [e1] at h
  simp only [R.bind_ok] at h
  cases ea : anyG tg c e (wipeS sl own) xs st4 with
  | exn _ _ => rw [ea] at h; exact h.elim
  | stuck => rw [ea] at h; exact h.elim
  | ok b stF =>
    rw [ea] at h
    have hln : sl.length = X.N.length := by rw [a0.l.1]; exact I.len
    have hdis : ∀ b ∈ fp, b ∉ [a] := fun b hb z => by
      have := (M.fp4 b hb).2
      rw [List.mem_singleton.mp z, M.a4] at this
      exact Nat.lt_irrefl _ (Nat.lt_trans (Nat.lt_succ_self _) this)
    obtain ⟨og, nm, qn, hog, hcls, hdat, hsl⟩ := M.gen
    refine call_function_tree F.kind_any F.plain_any F.entry_any (F.args_any1 _) ?_
    unfold Builtin.«any»
    refine wpAny_bind (m := oneArg "any" _) (wpAny_pure ?_)
    refine wpAny_bind (wpAny_pyIter_gen M.gen ?_)
    refine wpAny_pure ⟨plainId_quiet F.plain_any_loop _, any_loop (prot := [a]) (Y := genCx X X.A.in1.in1 s4 H4 (genEnv scope (cloFrom X.env.cells scope.names []) s4.heap.objs.size code builtinsNs X.env) fp) (N := xs.length + 1) (g := s4.gens.size) M.turn hdis ci.room.hd (by have := ci.room.dp; show X.A.depth < _; omega)
      (fun s' hE' => made_end M hE' (x := .bl b) rfl fun φ' H' sp r => h φ' H' (.bl b) sp r rfl) xs.length 0 0 (xs.length + 1) φ4 st4 (wipe σ own) H4 s5 (by omega)
      ⟨rfl, by omega, Nat.zero_le _, rfl, made_gst ci M a0.l (fun _ _ h => h) rfl rfl (fun b hb => ?_), ⟨_, M.gens, made_go ci M S.co hix1 (fun i hi => by rw [hln, ci.N]; exact hix2 i hi) hG hT hE hdis⟩, M.gen, List.mem_singleton.mpr rfl⟩ ea⟩
    rw [List.mem_singleton.mp hb]
    exact ⟨by rw [M.a4]; exact Nat.lt_succ_self _, og, hog, fun v z => by rw [hdat] at z; cases z⟩
theorem E_allG {t : Tb} {itm : IM} {tgt elt iter : Expr} {ifs : List Expr} {scope : Scope} {p pos gpos : Pos} {own : List Nat} {tg : Tg} {c : TM} {e : EM} (ci : Cin D (k + 1) X) (ho : Home X T t) (hnm : t.nm gpos.line gpos.col = none) (hg : D.g "all" = true) (hm : X.mg "all" = none) (hv : bootBuiltins "all" = some (.builtin "all"))
    (hS : gnB D.N D.sc scope own = true) (hix : ixOk D.N tg own = true) (hi : TL.I X T W tgt iter itm)
    (hG : ∀ (s : Shared) (H : Hp) (genv : Env) (fp : List Addr), Cin ⟨D.N, scope, []⟩ k (genCx X X.A.in1.in1 s H genv fp) → G (genCx X X.A.in1.in1 s H genv fp) T W0 tgt tg)
    (hT : ∀ (s : Shared) (H : Hp) (genv : Env) (fp : List Addr), Cin ⟨D.N, scope, []⟩ k (genCx X X.A.in1.in1 s H genv fp) → Ets (genCx X X.A.in1.in1 s H genv fp) T W0 ifs c)
    (hE : ∀ (s : Shared) (H : Hp) (genv : Env) (fp : List Addr), Cin ⟨D.N, scope, []⟩ k (genCx X X.A.in1.in1 s H genv fp) → E (genCx X X.A.in1.in1 s H genv fp) T W0 elt e)
    (hs : ∀ x, genFold iter X.env x = pure x := by intro _; rfl)
    (he : starEach [.GeneratorExp elt [⟨tgt, iter, ifs, 0⟩] scope gpos] X.env = (false, eval (.GeneratorExp elt [⟨tgt, iter, ifs, 0⟩] scope gpos) X.env) :: starEach [] X.env := by rfl) :
    E X T W (.Call (.Name "all" p) [.GeneratorExp elt [⟨tgt, iter, ifs, 0⟩] scope gpos] [] pos) (mAllG own tg itm c e) := by
  obtain ⟨g1, g2, g3⟩ := ci.gl hg
  have S : GnS X.N X.env.scope scope own := by rw [ci.N, ci.sc]; exact gn_by hS
  obtain ⟨hix1, hix2⟩ := ixOk_of hix
  refine ⟨⟨fun pins s σ H Q I h => ?_⟩⟩
  obtain ⟨φ, sl, st, a0, h⟩ := h
  refine wpAny_Call_Name_kw (ld_blt I g1 hm hv ?_ g3 g2)
  refine PyProof.Rows.callWith_builtin1 ?_ he (by rfl)
  rw [he]
  show wpAny _ _ (spliced ((false, eval (.GeneratorExp elt [⟨tgt, iter, ifs, 0⟩] scope gpos) X.env) :: backTo pos (starEach [] X.env))) _ _ s
  have h : EPost X.K X.mg T W φ st H Q ((itm sl st).bind fun xs st1 => (noX (allG tg c e (wipeS sl own) xs st1)).bind fun b st2 => .ok (.d (.bool b)) st2) := h
  refine Calls.spliced_cons (gen_made I S ho hnm ci.room.hd (by have := ci.room.dp; omega) hi a0 (fun c' st' e1 => by rw [e1] at h; exact h) (fun e1 => by rw [e1] at h; exact h) hs fun xs st4 a s5 s4 H4 φ4 fp tn J it code e1 M => ?_)
  refine Calls.spliced_nil ?_
  rw [e1] at h
  simp only [R.bind_ok] at h
  cases ea : allG tg c e (wipeS sl own) xs st4 with
  | exn _ _ => rw [ea] at h; exact h.elim
  | stuck => rw [ea] at h; exact h.elim
  | ok b stF =>
    rw [ea] at h
    have hln : sl.length = X.N.length := by rw [a0.l.1]; exact I.len
    have hdis : ∀ b ∈ fp, b ∉ [a] := fun b hb z => by
      have := (M.fp4 b hb).2
      rw [List.mem_singleton.mp z, M.a4] at this
      exact Nat.lt_irrefl _ (Nat.lt_trans (Nat.lt_succ_self _) this)
    obtain ⟨og, nm, qn, hog, hcls, hdat, hsl⟩ := M.gen
    refine call_function_tree F.kind_all F.plain_all F.entry_all (F.args_all1 _) ?_
    unfold Builtin.«all»
    refine wpAny_bind (m := oneArg "all" _) (wpAny_pure ?_)
    refine wpAny_bind (wpAny_pyIter_gen M.gen ?_)
    refine wpAny_pure ⟨plainId_quiet F.plain_all_loop _, all_loop (prot := [a]) (Y := genCx X X.A.in1.in1 s4 H4 (genEnv scope (cloFrom X.env.cells scope.names []) s4.heap.objs.size code builtinsNs X.env) fp) (N := xs.length + 1) (g := s4.gens.size) M.turn hdis ci.room.hd (by have := ci.room.dp; show X.A.depth < _; omega)
      (fun s' hE' => made_end M hE' (x := .bl b) rfl fun φ' H' sp r => h φ' H' (.bl b) sp r rfl) xs.length 0 0 (xs.length + 1) φ4 st4 (wipe σ own) H4 s5 (by omega)
      ⟨rfl, by omega, Nat.zero_le _, rfl, made_gst ci M a0.l (fun _ _ h => h) rfl rfl (fun b hb => ?_), ⟨_, M.gens, made_go ci M S.co hix1 (fun i hi => by rw [hln, ci.N]; exact hix2 i hi) hG hT hE hdis⟩, M.gen, List.mem_singleton.mpr rfl⟩ ea⟩
    rw [List.mem_singleton.mp hb]
    exact ⟨by rw [M.a4]; exact Nat.lt_succ_self _, og, hog, fun v z => by rw [hdat] at z; cases z⟩
theorem E_sumG {t : Tb} {itm : IM} {tgt elt iter : Expr} {ifs : List Expr} {scope : Scope} {p pos gpos : Pos} {own : List Nat} {tg : Tg} {c : TM} {e : EM} (ci : Cin D (k + 1) X) (ho : Home X T t) (hnm : t.nm gpos.line gpos.col = none) (hg : D.g "sum" = true) (hm : X.mg "sum" = none) (hv : bootBuiltins "sum" = some (.builtin "sum"))
    (hS : gnB D.N D.sc scope own = true) (hix : ixOk D.N tg own = true) (hi : TL.I X T W tgt iter itm)
    (hG : ∀ (s : Shared) (H : Hp) (genv : Env) (fp : List Addr), Cin ⟨D.N, scope, []⟩ k (genCx X X.A.in1.in1 s H genv fp) → G (genCx X X.A.in1.in1 s H genv fp) T W0 tgt tg)
    (hT : ∀ (s : Shared) (H : Hp) (genv : Env) (fp : List Addr), Cin ⟨D.N, scope, []⟩ k (genCx X X.A.in1.in1 s H genv fp) → Ets (genCx X X.A.in1.in1 s H genv fp) T W0 ifs c)
    (hE : ∀ (s : Shared) (H : Hp) (genv : Env) (fp : List Addr), Cin ⟨D.N, scope, []⟩ k (genCx X X.A.in1.in1 s H genv fp) → E (genCx X X.A.in1.in1 s H genv fp) T W0 elt e)
    (hs : ∀ x, genFold iter X.env x = pure x := by intro _; rfl)
    (he : starEach [.GeneratorExp elt [⟨tgt, iter, ifs, 0⟩] scope gpos] X.env = (false, eval (.GeneratorExp elt [⟨tgt, iter, ifs, 0⟩] scope gpos) X.env) :: starEach [] X.env := by rfl) :
    E X T W (.Call (.Name "sum" p) [.GeneratorExp elt [⟨tgt, iter, ifs, 0⟩] scope gpos] [] pos) (mSumG own tg itm c e) := by
  obtain ⟨g1, g2, g3⟩ := ci.gl hg
  have S : GnS X.N X.env.scope scope own := by rw [ci.N, ci.sc]; exact gn_by hS
  obtain ⟨hix1, hix2⟩ := ixOk_of hix
  refine ⟨⟨fun pins s σ H Q I h => ?_⟩⟩
  obtain ⟨φ, sl, st, a0, h⟩ := h
  refine wpAny_Call_Name_kw (ld_blt I g1 hm hv ?_ g3 g2)
  refine PyProof.Rows.callWith_builtin1 ?_ he (by rfl)
  rw [he]
  show wpAny _ _ (spliced ((false, eval (.GeneratorExp elt [⟨tgt, iter, ifs, 0⟩] scope gpos) X.env) :: backTo pos (starEach [] X.env))) _ _ s
  have h : EPost X.K X.mg T W φ st H Q ((itm sl st).bind fun xs st1 => (noX (sumG tg c e (wipeS sl own) 0 xs st1)).bind fun b st2 => .ok (.d (.int b)) st2) := h
  refine Calls.spliced_cons (gen_made I S ho hnm ci.room.hd (by have := ci.room.dp; omega) hi a0 (fun c' st' e1 => by rw [e1] at h; exact h) (fun e1 => by rw [e1] at h; exact h) hs fun xs st4 a s5 s4 H4 φ4 fp tn J it code e1 M => ?_)
  refine Calls.spliced_nil ?_
  rw [e1] at h
  simp only [R.bind_ok] at h
  cases ea : sumG tg c e (wipeS sl own) 0 xs st4 with
  | exn _ _ => rw [ea] at h; exact h.elim
  | stuck => rw [ea] at h; exact h.elim
  | ok b stF =>
    rw [ea] at h
    have hln : sl.length = X.N.length := by rw [a0.l.1]; exact I.len
    obtain ⟨og, nm, qn, hog, hcls, hdat, hsl⟩ := M.gen
    have alt : a < s5.heap.objs.size := Heap.lt_size hog
    have h45 : s4.heap.objs.size < s5.heap.objs.size := Nat.lt_trans (by rw [M.a4]; exact Nat.lt_succ_self _) alt
    have hdis : ∀ b ∈ fp, b ∉ [a, s5.heap.objs.size] := fun b hb z => by
      have h1 := (M.fp4 b hb).2
      rcases List.mem_cons.mp z with z | z
      · rw [z, M.a4] at h1; exact Nat.lt_irrefl _ (Nat.lt_trans (Nat.lt_succ_self _) h1)
      · rw [List.mem_singleton.mp z] at h1; exact Nat.lt_irrefl _ (Nat.lt_trans h45 h1)
    refine call_function_tree F.kind_sum F.plain_sum F.entry_sum (F.args_sum1 _) ?_
    unfold Builtin.«sum»
    simp only [List.length_cons, List.length_nil]
    rw [if_neg (by decide)]
    refine wpAny_bind (wpAny_of_eq (show Builtin.Builtins.bindParams "sum" ["start"] 0 { } = pure [none] from rfl) ?_)
    refine wpAny_bind (wpAny_pyIter_gen M.gen ?_)
    refine wpAny_bind (wpAny_mkInt ?_)
    refine wpAny_bind (wpAny_pure ?_)
    simp only [List.forIn_cons, List.forIn_nil]
    refine wpAny_bind (wpAny_bind (wpAny_bind (wpAny_isInstance (T := "int") (b := false) (typeIs_int _ _ _) sub_int_str ?_)))
    simp only [Bool.false_eq_true, if_false]
    refine wpAny_pure (wpAny_bind (wpAny_bind (wpAny_isInstance (T := "int") (b := false) (typeIs_int _ _ _) sub_int_bytes ?_)))
    simp only [Bool.false_eq_true, if_false]
    refine wpAny_pure (wpAny_bind (wpAny_bind (wpAny_isInstance (T := "int") (b := false) (typeIs_int _ _ _) sub_int_bytearray ?_)))
    simp only [Bool.false_eq_true, if_false]
    refine wpAny_pure (wpAny_pure ?_)
    refine wpAny_bind (wpAny_newObj_type ?_)
    refine wpAny_pure ⟨plainId_quiet F.plain_sum_loop _, sum_loop (prot := [a, s5.heap.objs.size]) (S := s5.heap.objs.size) (Y := genCx X X.A.in1.in1 s4 H4 (genEnv scope (cloFrom X.env.cells scope.names []) s4.heap.objs.size code builtinsNs X.env) fp) (N := xs.length + 1) (g := s4.gens.size) M.turn hdis (by simp) (Nat.ne_of_gt alt) ci.room.hd (by have := ci.room.dp; show X.A.depth < _; omega)
      (fun s' t hE' => made_end M hE' (x := .int b) ⟨t, rfl⟩ fun φ' H' sp r => h φ' H' (.int b) sp r rfl) xs.length 0 0 (xs.length + 1) φ4 st4 (wipe σ own) H4 _ 0 s5.toks 0 (by omega)
      ⟨rfl, by omega, Nat.zero_le _, rfl, made_gst ci M a0.l (fun b o q => Heap.get?_push_of_some _ q) rfl rfl (fun b hb => ?_), ⟨_, M.gens, made_go ci M S.co hix1 (fun i hi => by rw [hln, ci.N]; exact hix2 i hi) hG hT hE hdis⟩, ⟨og, nm, qn, Heap.get?_push_of_some _ hog, hcls, hdat, hsl⟩, by simp⟩ (Heap.get?_push_size _ rfl) ea⟩
    rcases List.mem_cons.mp hb with hb | hb
    · rw [hb]
      exact ⟨by rw [M.a4]; exact Nat.lt_succ_self _, og, Heap.get?_push_of_some _ hog, fun v z => by rw [hdat] at z; cases z⟩
    · rw [List.mem_singleton.mp hb]
      exact ⟨h45, _, Heap.get?_push_size _ rfl, fun v z => by cases z⟩
end
end TL
end

section
set_option Elab.async false
set_option linter.all false
set_option maxRecDepth 100000
set_option maxHeartbeats 1000000
set_option autoImplicit false
/-! TL20: own lists; lists of ranges. -/
namespace TL
open PySem PySem.Spec PyProof.Rows L2
section
variable {X : Cx} {T : List Tb} {D : DI} {k : Nat} {W : XK}
/-- a fresh list becomes a box -/
theorem own_lst {φ : Num} {st : Store} {H : Hp} {xs : List PyData} {vs : List V} {p : Addr} {Q : VK} (r : StR X.K X.mg T φ st H) (hp : H p = none) (hd : DRs X.K (Av φ st) H xs vs)
    (h : EPost X.K X.mg T W φ st H Q (.ok (.box st.length) (st ++ [.lst xs]))) : Q (.ref p) (upd H p (.lst vs)) := by
  have g := Gr.upd (o := .lst vs) hp
  have lv : ∀ a, Live (φ.push p) (st ++ [.lst xs]) a → Live φ st a ∨ a = p := fun a ⟨i, d, e1, e2, e3⟩ => by
    have e3 : (φ.ids ++ [p])[i]? = some a := e3
    by_cases hi : i < st.length
    · rw [List.getElem?_append_left hi] at e1
      rw [List.getElem?_append_left (by rw [r.len]; exact hi)] at e3
      exact .inl ⟨i, d, e1, e2, e3⟩
    · have hi' : i = φ.ids.length := by
        have h1 := (List.getElem?_eq_some_iff.mp e3).1
        rw [List.length_append, List.length_singleton] at h1
        have := r.len
        omega
      rw [hi', List.getElem?_append_right (Nat.le_refl _), Nat.sub_self] at e3
      exact .inr (Option.some.inj e3).symm
  have m : Mon (Av φ st) H (Av (φ.push p) (st ++ [.lst xs])) (upd H p (.lst vs)) :=
    ⟨fun a u e _ _ => .inl (g a u e), fun a e n l => by
      rcases l with l | l
      · rcases lv a l with l | l
        · exact n (.inl l)
        · rw [l] at e; exact e hp
      · exact n (.inr l)⟩
  obtain ⟨r', s'⟩ := r.push (c := .lst xs) hp g rfl ⟨vs, upd_same, DRs.mon m _ _ hd⟩
  refine h _ _ (.ref p) s' r' ⟨p, ?_, rfl⟩
  show (φ.ids ++ [p])[st.length]? = some p
  rw [← r.len, List.getElem?_append_right (Nat.le_refl _), Nat.sub_self]
  rfl
theorem E_ownL {es : List Expr} {pos : Pos} {m : AM} (h : Ea X T W es m) : E X T W (.List es pos) (mOwn (mDisp pLst m)) := by
  refine ⟨PE.imp (pe_lst h.run) ?_⟩
  rintro σ H Q ⟨φ, sl, st, h0, h⟩
  have h' : EPost X.K X.mg T W φ st H Q ((m sl st).bind fun vs st1 => (R.opt (((datas vs).bind pLst).map Val.d) st1).bind fun v st1 =>
    match v with
    | .d (.list xs) => .ok (.box st1.length) (st1 ++ [.lst xs])
    | .d (.dict kvs) => .ok (.box st1.length) (st1 ++ [.dic kvs])
    | _ => .stuck) := by
    revert h
    show EPost X.K X.mg T W φ st H Q (((m sl st).bind _).bind _) → _
    cases m sl st <;> exact fun h => h
  refine (tA_bind h0 h').mono fun us H1 ⟨φ1, st1, vs, a1, v1, s1, p1⟩ => ?_
  cases ed : (datas vs).bind pLst with
  | none => simp only [ed] at p1; exact p1.elim
  | some d =>
    obtain ⟨xs, ex, ed'⟩ := Option.bind_eq_some_iff.mp ed
    have r := datas_rel v1 ex
    unfold pLst at ed'
    split at ed'
    · rename_i hl
      cases ed'
      simp only [ed] at p1
      exact ⟨by rw [r.length]; rw [lineN_eq] at hl; exact hl, fun p hp => own_lst a1.s hp r p1⟩
    · cases ed'
/-! ### list(range(..)), tuple(range(..)) -/
def pRg (as : List PyData) : Option (List PyData) :=
  match as with
  | [.int j] => if smallI j && decide (j.toNat ≤ lineN) then some (rangeN 0 1 j.toNat) else none
  | [.int i, .int j] => if smallI i && smallI j && decide ((j - i).toNat ≤ lineN) then some (rangeN i 1 (j - i).toNat) else none
  | [.int i, .int j, .int k] => if k ≠ 0 ∧ k.natAbs < 1073741824 ∧ Builtin.Range.small i j k = true ∧ (Builtin.Range.rangeSize i j k).toNat ≤ lineN then some (rangeN i k (Builtin.Range.rangeSize i j k).toNat) else none
  | _ => none
def rgI (lo c : Int) (n : Nat) : List V := (List.range n).map fun i => V.int (lo + (i : Nat) * c)
theorem rangeN_rel {K : PySem.W.Frag} {O : Addr → Prop} {H : Hp} {lo c : Int} {n : Nat} : DRs K O H (rangeN lo c n) (rgI lo c n) := by
  have e : rangeN lo c n = ((List.range n).map fun (i : Nat) => lo + (i : Int) * c).map .int := by unfold rangeN; rw [List.map_map]; rfl
  have e2 : rgI lo c n = ((List.range n).map fun (i : Nat) => lo + (i : Int) * c).map V.int := by unfold rgI; rw [List.map_map]; rfl
  rw [e, e2]
  exact DRs.of_ints
theorem vals_rgI {lo c : Int} {n : Nat} {acc : Array Value} (h : ItemsOf (fun i v => ∃ t, v = .int (lo + i * c) t) acc n) : Vals (rgI lo c n) acc.toList := by
  have e : acc.toList.length = n := by rw [Array.length_toList]; exact h.1
  unfold rgI
  rw [← e]
  refine vals_of_get acc.toList _ fun j u hj => ?_
  obtain ⟨t, rfl⟩ := h.2 j u (by rw [← hj, Array.getElem?_toList])
  exact ⟨t, rfl⟩
theorem small_oneI {a b : Int} (h1 : smallI a = true) (h2 : smallI b = true) : Builtin.Range.small a b 1 = true := small_one (small_iff h1).1 (small_iff h1).2 (small_iff h2).1 (small_iff h2).2
/-- range(..) called -/
theorem rg_call {pins : List (Addr × Obj)} {s : Shared} {σ : L2.St} {H : Hp} {φ : Num} {st : Store} {as xs : List PyData} {vs : List V} {us : List Value} {E : Value → Shared → Prop} (I : Inv X pins σ H s) (rv : Vals vs us) (pr : Paired (VD X.K φ st H) as vs) (e : pRg as = some xs) :
    wpAny (model X.prog X.w) X.A (call (.type "range") us) (fun x s' => ∃ r a b c t u v n, x = .ref r ∧ IsRange s'.heap r a b c t u v ∧ Inv X pins σ H s' ∧ Builtin.Range.small a b c = true ∧ Builtin.Range.rangeSize a b c = (n : Nat) ∧ n ≤ 2 ^ 24 ∧ xs = rangeN a c n) E s := by
  have ln : lineN = 2 ^ 24 := by decide
  unfold pRg at e
  split at e
  · rename_i j
    split at e
    · rename_i h
      cases e
      rw [Bool.and_eq_true, decide_eq_true_eq] at h
      obtain ⟨x, rfl, vx⟩ := paired1 pr
      have hx := vx.int
      subst hx
      obtain ⟨u, rfl, t, rfl⟩ := vals1 rv
      exact call_range_1 ⟨_, 0, j, 1, _, _, _, j.toNat, rfl, IsRange.new _ _ _ _ _ _ _, I.kept fun b u e => Heap.get?_push_of_some _ e, small_oneI (by decide) h.1, by rw [rangeSize_nat]; simp, by rw [← ln]; exact h.2, rfl⟩
    · cases e
  · rename_i i j
    split at e
    · rename_i h
      cases e
      simp only [Bool.and_eq_true, decide_eq_true_eq] at h
      obtain ⟨x, y, rfl, vx, vy⟩ := paired2 pr
      have hx := vx.int
      have hy := vy.int
      subst hx hy
      obtain ⟨u, u2, rfl, ⟨t, rfl⟩, ⟨t2, rfl⟩⟩ := vals2 rv
      exact call_range_2 ⟨_, i, j, 1, _, _, _, (j - i).toNat, rfl, IsRange.new _ _ _ _ _ _ _, I.kept fun b u e => Heap.get?_push_of_some _ e, small_oneI h.1.1 h.1.2, rangeSize_nat i j, by rw [← ln]; exact h.2, rfl⟩
    · cases e
  · rename_i i j k
    split at e
    · rename_i h
      cases e
      obtain ⟨x, y, z, rfl, vx, vy, vz⟩ := paired3 pr
      have hx := vx.int
      have hy := vy.int
      have hz := vz.int
      subst hx hy hz
      obtain ⟨u, u2, u3, rfl, ⟨t, rfl⟩, ⟨t2, rfl⟩, ⟨t3, rfl⟩⟩ := vals3 rv
      exact call_range_3 h.1 ⟨_, i, j, k, _, _, _, (Builtin.Range.rangeSize i j k).toNat, rfl, IsRange.new _ _ _ _ _ _ _, I.kept fun b u e => Heap.get?_push_of_some _ e, h.2.2.1, (Int.toNat_of_nonneg (rsize_nonneg i j k)).symm, by rw [← ln]; exact h.2.2.2, rfl⟩
        (.inl (PyProof.noPylong_small h.2.1))
    · cases e
  · cases e
def oLRg (as : List PyData) : Option PyData := (pRg as).map .list
def oTRg (as : List PyData) : Option PyData := (pRg as).map .tuple
theorem E_listRg {a : Expr} {es : List Expr} {p p2 pos pos2 : Pos} {m : AM} (ci : Cin D k X) (hg : D.g "list" = true) (hm : X.mg "list" = none) (hg2 : D.g "range" = true) (hm2 : X.mg "range" = none) (ha : Ea X T W (a :: es) m)
    (he : starEach (a :: es) X.env = (false, eval a X.env) :: starEach es X.env := by rfl) (hpl : (backTo pos2 (starEach es X.env)).any (·.1) = false := by rfl)
    (na : starEach [.Call (.Name "range" p2) (a :: es) [] pos2] X.env = (false, eval (.Call (.Name "range" p2) (a :: es) [] pos2) X.env) :: starEach [] X.env := by rfl) :
    E X T W (.Call (.Name "list" p) [.Call (.Name "range" p2) (a :: es) [] pos2] [] pos) (mPn oLRg m) := by
  obtain ⟨h1, h2, h3⟩ := ci.gl hg
  obtain ⟨i1, i2, i3⟩ := ci.gl hg2
  refine ⟨⟨fun pins s σ H Q I h => ?_⟩⟩
  refine Call_ (ld_blt I h1 hm boot_list (PyProof.Rows.callWith_type1 (args_cons ?_ na) na))
  refine wpAny_Call_Name_kw (ld_blt I i1 hm2 boot_range ?_ i3 i2)
  refine PyProof.Rows.callWith_type1 (thn (ha.run.run pos2 pins s σ H _ I (argsn h)) fun us s1 ⟨vs, H1, I1, r1, φ, st, as, d, r, pr, e, ok⟩ => ?_) he hpl
  obtain ⟨xs, e1, rfl⟩ := Option.map_eq_some_iff.mp e
  refine wpAny_mono (rg_call (E := X.xe) I1 r1 pr e1) (fun x s2 ⟨rr, a', b', c', t, u, v, n, ex, hr, I2, hsm, hn, hle, exs⟩ => ?_) fun _ _ z => z
  subst ex exs
  refine args_nil ?_
  refine call_list_range (n := n) (I2.ok.hd ci.calm) hr hsm hn hle fun h' tk acc c'' hk e' hi => ?_
  refine ⟨.ref s2.heap.objs.size, upd H1 s2.heap.objs.size (.lst (rgI a' c' n)), I2.laid hk (Nat.le_refl _) (show ObjOk X.prog X.w _ _ _ (.lst (rgI a' c' n)) from ⟨?_, acc.toList, c'', vals_rgI hi, ?_⟩), rfl, ok.lst r (I2.hok.fresh (Nat.le_refl _)) rangeN_rel⟩
  · unfold rgI; rw [List.length_map, List.length_range, sizeLine_eq]; omega
  · rw [Array.toArray_toList]; exact e'
theorem E_tupRg {a : Expr} {es : List Expr} {p p2 pos pos2 : Pos} {m : AM} (ci : Cin D k X) (hg : D.g "tuple" = true) (hm : X.mg "tuple" = none) (hg2 : D.g "range" = true) (hm2 : X.mg "range" = none) (ha : Ea X T W (a :: es) m)
    (he : starEach (a :: es) X.env = (false, eval a X.env) :: starEach es X.env := by rfl) (hpl : (backTo pos2 (starEach es X.env)).any (·.1) = false := by rfl)
    (na : starEach [.Call (.Name "range" p2) (a :: es) [] pos2] X.env = (false, eval (.Call (.Name "range" p2) (a :: es) [] pos2) X.env) :: starEach [] X.env := by rfl) :
    E X T W (.Call (.Name "tuple" p) [.Call (.Name "range" p2) (a :: es) [] pos2] [] pos) (mPn oTRg m) := by
  obtain ⟨h1, h2, h3⟩ := ci.gl hg
  obtain ⟨i1, i2, i3⟩ := ci.gl hg2
  refine ⟨⟨fun pins s σ H Q I h => ?_⟩⟩
  refine Call_ (ld_blt I h1 hm boot_tuple (PyProof.Rows.callWith_type1 (args_cons ?_ na) na))
  refine wpAny_Call_Name_kw (ld_blt I i1 hm2 boot_range ?_ i3 i2)
  refine PyProof.Rows.callWith_type1 (thn (ha.run.run pos2 pins s σ H _ I (argsn h)) fun us s1 ⟨vs, H1, I1, r1, φ, st, as, d, r, pr, e, ok⟩ => ?_) he hpl
  obtain ⟨xs, e1, rfl⟩ := Option.map_eq_some_iff.mp e
  refine wpAny_mono (rg_call (E := X.xe) I1 r1 pr e1) (fun x s2 ⟨rr, a', b', c', t, u, v, n, ex, hr, I2, hsm, hn, hle, exs⟩ => ?_) fun _ _ z => z
  subst ex exs
  refine args_nil ?_
  refine call_tuple_range (n := n) (I2.ok.hd ci.calm) hr hsm hn hle fun h' tk acc hk hi => ?_
  have I3 : Inv X pins σ H1 { s2 with heap := h', toks := tk } := I2.kept hk
  refine ⟨.ref h'.objs.size, upd H1 h'.objs.size (.tup (rgI a' c' n)), I3.laid (t' := tk) (fun c o e => Heap.get?_push_of_some _ e) (Nat.le_refl _) (show ObjOk X.prog X.w _ _ _ (.tup (rgI a' c' n)) from ⟨?_, acc.toList, vals_rgI hi, ?_⟩), rfl, ok.tup r (I3.hok.fresh (Nat.le_refl _)) rangeN_rel⟩
  · unfold rgI; rw [List.length_map, List.length_range, sizeLine_eq]; omega
  · rw [Array.toArray_toList]; exact IsTup.new _ _
end
end TL
end

section
set_option Elab.async false
set_option linter.all false
set_option maxRecDepth 100000
set_option maxHeartbeats 1000000
set_option autoImplicit false
/-! TL21: a def whose code object is known. -/
namespace TL
open PySem L2
/-- a def of the written part, its code object at c -/
structure FunC (K : PySem.W.Frag) (x qual : Str) (st : Stmt) (f c : Addr) (fd : FuncData) : Prop where
  ex : ∃ (oc : Value) (od : Option Addr) (dV kV doc pm : Value) (an : Option Addr) (ct : Value) (osl : Array (Option Value)),
    fd = PySem.W.fnOf x qual (defArgs st) (defBody st) (defScope st) dV kV doc pm an (.ref c) ct ∧ K.lookup f = some ⟨oc, od, .func fd, osl⟩ ∧ PySem.W.codeIn K (.ref c) qual = true
/-- its table of code objects -/
structure HomeOk (base : Heap) (mg : Str → Option Value) (T : List Tb) (c : Addr) (t : Tb) : Prop where
  tab : LamX.TabB base mg c t.P
  mem : t ∈ T
  one : ∀ t' ∈ T, t'.P = t.P → t' = t
theorem fn_okC {P : Program} {w : World} {K : PySem.W.Frag} {mg : Str → Option Value} {base : Heap} {T : List Tb} {x qual : Str} {s : Stmt} {f c : Addr} {fd : FuncData} {N ps cl : List Str} {k : Nat} {m : SM} (F : FunC K x qual s f c fd) (S : FnScope N ps (defScope s))
    (hb : ∀ (A : Around) (outer : List Env) (s0 : Shared) (H : Hp) (W : XK), Cin ⟨N, defScope s, cl⟩ k (cxOf (L2.CX P w) P w K mg base N qual (defScope s) f (.ref c) A outer s0 H W) → Takes (cxOf (L2.CX P w) P w K mg base N qual (defScope s) f (.ref c) A outer s0 H W) (fun c d _ H => W c d H) →
      Ss (cxOf (L2.CX P w) P w K mg base N qual (defScope s) f (.ref c) A outer s0 H W) T W (defBody s) m) : FnOk P w K mg base (L2.CX P w) (k + 1) f fd ps (spF K mg T ps.length (fnOf N.length m)) := by
  obtain ⟨oc, od, dV, kV, doc, pm, an, ct, osl, rfl, lk, hcd⟩ := F.ex
  refine fn_of lk hcd S ?_ ?_
  · rintro vs H Q Ex ⟨φ, st, as, r, pr, hl, _⟩
    rw [← paired_len pr, hl]
  · rintro A outer s0 H vs Q Ex hr ⟨φ, st, as, r, pr, hl, h⟩
    have tk : Takes (cxOf (L2.CX P w) P w K mg base N qual (defScope s) f (.ref c) A outer s0 H Ex) (fun c d _ H => Ex c d H) := takes_of rfl rfl rfl rfl
    have ci : Cin ⟨N, defScope s, cl⟩ k (cxOf (L2.CX P w) P w K mg base N qual (defScope s) f (.ref c) A outer s0 H Ex) := ⟨rfl, rfl, S.nd, hr, rfl, fun _ _ => rfl, passes_of rfl⟩
    refine ⟨_, (hb A outer s0 H Ex ci tk).run, φ, as.map some ++ List.replicate (N.length - as.length) none, st, ⟨r, start_rel pr⟩, ?_⟩
    have h1 := left_post r.len h
    revert h1
    show EPost K mg T Ex φ st H Q (match m (as.map some ++ List.replicate (N.length - as.length) none) st with
      | .nx _ st1 => .ok (.d .none) st1
      | .rt v st1 => .ok v st1
      | .exn c _ st1 => .exn c st1
      | _ => .stuck) → SPost K mg T Ex φ st H _ (m (as.map some ++ List.replicate (N.length - as.length) none) st)
    cases m (as.map some ++ List.replicate (N.length - as.length) none) st with
    | nx sl1 st1 => exact fun h φ1 H1 σ1 s1 r1 l1 => h φ1 H1 .non s1 r1 rfl
    | rt v st1 => exact fun h => h
    | bk sl1 st1 => exact fun h => h.elim
    | ct sl1 st1 => exact fun h => h.elim
    | exn c sl1 st1 => exact fun h φ1 H1 σ1 C s1 r1 l1 hc => h φ1 H1 C s1 r1 hc
    | stuck => exact fun h => h
theorem HomeOk.home {P : Program} {w : World} {K : PySem.W.Frag} {mg : Str → Option Value} {base : Heap} {T : List Tb} {c : Addr} {t : Tb} (h : HomeOk base mg T c t) {N : List Str} {qual : Str} {sc : Scope} {f : Addr} {A : Around} {outer : List Env} {s0 : Shared} {H : Hp} {W : XK} :
    Home (cxOf (L2.CX P w) P w K mg base N qual sc f (.ref c) A outer s0 H W) T t := ⟨⟨c, h.tab, rfl⟩, h.mem, h.one⟩
end TL
end

section
set_option Elab.async false
set_option linter.all false
set_option maxRecDepth 100000
set_option maxHeartbeats 1000000
set_option autoImplicit false
/-! TL22: a lambda of one parameter, called. -/
namespace TL
open PySem PySem.Spec PyProof.Rows L2
/-- one parameter y at place pi, captured names -/
structure L1S (N : List Str) (sc scope : Scope) (y : Str) (pi : Nat) : Prop where
  kind : scope.kind = .function
  co : scope.isCoroutine = false
  gen : scope.isGenerator = false
  cell : ∀ z ∈ scope.names, z.2 ≠ .cell
  loc : ∀ z ∈ scope.names, z.2 = .local → z.1 = y
  at_ : N[pi]? = some y
  y : scope.names.lookup y = some .local
  free : ∀ z ∈ scope.names, z.2 = .free → sc.names.lookup z.1 = some .cell ∨ sc.names.lookup z.1 = some .free
def l1B (N : List Str) (sc scope : Scope) (y : Str) (pi : Nat) : Bool :=
  decide (scope.kind = .function) && !scope.isCoroutine && !scope.isGenerator && (scope.names.all fun z => !decide (z.2 = .cell)) && (scope.names.all fun z => !decide (z.2 = .local) || decide (z.1 = y)) && decide (N[pi]? = some y) &&
    decide (scope.names.lookup y = some .local) && (scope.names.all fun z => !decide (z.2 = .free) || decide (sc.names.lookup z.1 = some .cell) || decide (sc.names.lookup z.1 = some .free))
theorem l1_by {N : List Str} {sc scope : Scope} {y : Str} {pi : Nat} (h : l1B N sc scope y pi = true) : L1S N sc scope y pi := by
  unfold l1B at h
  simp only [Bool.and_eq_true, Bool.or_eq_true, Bool.not_eq_true', decide_eq_true_eq, decide_eq_false_iff_not, List.all_eq_true] at h
  obtain ⟨⟨⟨⟨⟨⟨⟨h1, h2⟩, h3⟩, h4⟩, h5⟩, h6⟩, h7⟩, h8⟩ := h
  refine ⟨h1, h2, h3, h4, fun z hz e => ?_, h6, h7, fun z hz e => ?_⟩
  · rcases h5 z hz with q | q
    · exact absurd e q
    · exact q
  · rcases h8 z hz with (q | q) | q
    · exact absurd e q
    · exact .inl q
    · exact .inr q
section
variable {X : Cx} {pins : List (Addr × Obj)} {σ : L2.St} {H : Hp} {s : Shared} {T : List Tb}
theorem lam1_start {A : Around} {scope : Scope} {y : Str} {pi : Nat} {f c' : Addr} {h₁ : Heap} {tk : Nat} {v : Value} {x : V} {E : XK} (I : Inv X pins σ H s) (S : L1S X.N X.env.scope scope y pi) (nd : X.N.Nodup) (hA : A.frames = X.A.frames) (hd : A.handled = none) (rel : RelV x v)
    (hns : h₁.Ns s.heap.objs.size fun z => ([(y, v)] : List (Str × Value)).reverse.lookup z) (kp : ∀ b o, s.heap.get? b = some o → h₁.get? b = some o) :
    Inv (LamX.lamCx X A X.stack s H E scope f c') [] (σ.set pi (some x)) H { s with heap := h₁, toks := tk } := by
  have hfree : ∀ z ∈ scope.names, z.2 = .free → ∃ c, X.env.cells.lookup z.1 = some c := fun z hz e => by
    rcases S.free z hz e with k | k
    · exact I.ok.has _ (.inl k)
    · exact I.ok.has _ (.inr k)
  have cm : ∀ {z c}, (cloFrom X.env.cells scope.names []).lookup z = some c → X.env.cells.lookup z = some c := fun {z c} e => by
    rcases cloFrom_mem (PySem.mem_of_lookup e) with hm | ⟨h1, h2⟩
    · cases hm
    · obtain ⟨c1, hc⟩ := hfree _ h1 rfl
      have hc : X.env.cells.lookup z = some c1 := hc
      have e2 : c = c1 := by
        rw [h2, hc] <;> rfl
      rw [e2]
      exact hc
  have look : ∀ {z}, scope.names.lookup z = some .free → ∃ c, (cloFrom X.env.cells scope.names []).lookup z = some c := fun {z} hl => by
    have hz : (z, NameKind.free) ∈ scope.names := PySem.mem_of_lookup hl
    exact mem_lookup (cloFrom_has (cells := X.env.cells) (acc := []) hz)
  have e0 := I.env0
  have noA : ∀ b : Addr, b ∉ (LamX.lamCx X A X.stack s H E scope f c').ex := fun b z => absurd (show b ∈ ([] : List Addr) from z) (by simp)
  refine ⟨⟨e0.mod, S.kind, rfl, rfl, Nat.le_refl _, fun y z c e1 e2 => I.ok.inj y z c (cm e1) (cm e2), fun z hz => ?_, fun y c z _ => ?_, fun _ => hd, Around.frames_deeper (hA.trans e0.frames), .inr ⟨rfl, rfl⟩, fun b z => absurd z (noA b), e0.bs, e0.bsz, fun b _ _ => noA b,
      fun b z => absurd z (noA b), e0.funs, e0.frf⟩,
    rfl, e0.bare, Un.kept kp, ⟨_, hns, fun i z u e1 e2 e3 => ?_⟩, fun z c e => ?_, e0.hok.fresh (Nat.le_refl _), fun z c e => ?_, fun q hq => absurd (show q ∈ ([] : List (Addr × Obj)) ++ [] from hq) (by simp), e0.hok.kept kp, by rw [List.length_set]; exact I.len⟩
  · have hz : scope.names.lookup z = some .cell ∨ scope.names.lookup z = some .free := hz
    rcases hz with hz | hz
    · exact absurd rfl (S.cell _ (PySem.mem_of_lookup hz))
    · exact look hz
  · have z : false = true := z
    cases z
  · have e1 : X.N[i]? = some z := e1
    have e3 : Vis scope z := e3
    rcases e3 with k | k | k
    · have ez : z = y := S.loc _ (PySem.mem_of_lookup k) rfl
      subst ez
      have ei : i = pi := nodup_ix nd e1 S.at_
      subst ei
      have hl : i < σ.length := by rw [I.len]; exact (List.getElem?_eq_some_iff.mp e1).1
      rw [List.getElem?_set_self hl] at e2
      cases e2
      exact ⟨v, rel, .inl ⟨k, by simp⟩⟩
    · exact absurd rfl (S.cell _ (PySem.mem_of_lookup k))
    · have ni : pi ≠ i := fun e => by
        subst e
        rw [S.at_] at e1
        cases e1
        rw [S.y] at k
        cases k
      rw [List.getElem?_set_ne ni] at e2
      obtain ⟨mm, hn, hl⟩ := I.loc
      have hvis : Vis X.env.scope z := (S.free _ (PySem.mem_of_lookup k) rfl).elim (fun k => .inr (.inl k)) (fun k => .inr (.inr k))
      obtain ⟨w', r, q⟩ := hl i z u e1 e2 hvis
      obtain ⟨c2, h2⟩ := look k
      refine ⟨w', r, .inr ⟨.inr k, c2, h2, ?_⟩⟩
      have c1 := cm h2
      rcases q with ⟨k', _⟩ | ⟨_, c3, e', q⟩
      · have k' : X.env.scope.names.lookup z = some .local := k'
        rcases S.free _ (PySem.mem_of_lookup k) rfl with k2 | k2 <;> rw [show X.env.scope.names.lookup z = _ from k2] at k' <;> cases k'
      · rw [c1] at e'
        cases e'
        obtain ⟨o, ho, hd⟩ := q
        exact ⟨o, kp _ _ ho, hd⟩
  · obtain ⟨w', o, ho, hd⟩ := I.cell z c (cm e)
    exact ⟨w', o, kp _ _ ho, hd⟩
  · exact I.freeC z c (cm e)
theorem key_call {D : DI} {k : Nat} {A : Around} {scope : Scope} {y : Str} {pi : Nat} {f c' : Addr} {pm ctv : Value} {params : Arguments} {body : Expr} {v : Value} {x : V} {m : EM} {φ : Num} {sl : Slots} {st : Store} {E : Value → Shared → Prop} {d : PyData} {r : Val} {st' : Store}
    (ci : Cin D k X) (I : Inv X pins σ H s) (S : L1S X.N X.env.scope scope y pi) (hA : A.frames = X.A.frames) (hd : A.handled = none) (hdp : A.depth < recursionLimit)
    (hf : s.heap.get? f = some (PySem.W.kla_obj "<lambda>" (X.env.qual ++ "<lambda>") params body scope (cloFrom X.env.cells scope.names []) pm c' ctv)) (hcc : H c' = some (LamX.CodeO c' (X.env.qual ++ "<lambda>"))) (rel : RelV x v)
    (hbind : bindArgs (PySem.W.kla_fn "<lambda>" (X.env.qual ++ "<lambda>") params body scope (cloFrom X.env.cells scope.names []) pm (.ref c') ctv) ⟨[v], []⟩ = pure [(y, v)])
    (hb : TL.E (LamX.lamCx X A X.stack s H W0 scope f c') T W0 body m) (a0 : At X.K X.mg T φ sl st σ H) (hx : DR X.K (Av φ st) H d x) (ok : m (sl.set pi (some (.d d))) st = .ok r st') :
    wpAny (model X.prog X.w) A (call (.ref f) [v]) (fun u s' => ∃ x' φ' H', Inv X pins σ H' s' ∧ RelV x' u ∧ StR X.K X.mg T φ' st' H' ∧ Stp φ st H φ' st' H' ∧ VR X.K φ' st' H' r x') E s := by
  obtain ⟨⟨oc, vs, t, hoc, hdc, hvc⟩, _, _⟩ := I.hok c' _ hcc
  have rc : codeAny (model X.prog X.w) A (.call (.ref f) ⟨[v], []⟩) (L2.CR (L2.CX X.prog X.w) X.stack X.prog X.w H s (fun x' H' => ∃ φ', StR X.K X.mg T φ' st' H' ∧ Stp φ st H φ' st' H' ∧ VR X.K φ' st' H' r x') W0) s := by
    refine PySem.W.kla_callFunE hdp hf rfl S.co S.gen rfl ⟨c', oc, vs, t, rfl, hoc, hdc, hvc⟩ ?_
    rw [hbind]
    refine wpAny_pure (wpAny_newFunctionEnv S.cell (fun z hz => by rw [List.mem_singleton.mp hz]; exact S.y) (fun h₁ hns hsb => ⟨I.nolimit.fresh _ hsb, ?_⟩) S.kind)
    show codeAny _ _ (.expr body (LamX.lamEnv X scope s.heap.objs.size f c')) _ _
    have kp : ∀ b o, s.heap.get? b = some o → h₁.get? b = some o := fun b o e => hsb.extBut b o (Nat.ne_of_lt (Heap.lt_size e)) (Heap.get?_push_of_some _ e)
    have J := lam1_start (A := A) (f := f) (c' := c') (E := W0) (tk := s.toks + ([(y, v)] : List (Str × Value)).length) I S ci.nd hA hd rel hns kp
    refine PySem.W.kla_codeExpr (wpAny_mono (hb.run.run [] _ _ H (fun x' H' => ∃ φ', StR X.K X.mg T φ' st' H' ∧ Stp φ st H φ' st' H' ∧ VR X.K φ' st' H' r x') J
      ⟨φ, sl.set pi (some (.d d)), st, ⟨a0.s, a0.l.set (v := .d d) hx⟩, by rw [ok]; exact fun φ' H' u s' r' v' => ⟨φ', r', s', v'⟩⟩) (fun u s' hq => ?_) fun e s' hq => hq)
    obtain ⟨w', H', J', rv, q⟩ := hq
    exact ⟨w', H', J'.os, J'.bare, J'.base, J'.hok, rv, q⟩
  refine wpAny_call (codeAny_mono rc fun rr s' hq => ?_)
  cases rr with
  | error e =>
    obtain ⟨_, _, _, _, _, _, _, _, _, _, _, _, z⟩ := (show L2.CX X.prog X.w X.stack H s W0 e s' from hq)
    exact z.elim
  | ok fl =>
    cases fl with
    | ret u =>
      obtain ⟨x', H', I', rv, φ', q1, q2, q3⟩ := I.after hq
      exact ⟨x', φ', H', I', rv, q1, q2, q3⟩
    | next => exact False.elim hq
    | brk => exact False.elim hq
    | cont => exact False.elim hq
end
end TL
end

section
set_option Elab.async false
set_option linter.all false
set_option maxRecDepth 100000
set_option maxHeartbeats 1000000
set_option autoImplicit false
/-! TL23: sorted(xs, key=lambda x: ..). -/
namespace TL
open PySem PySem.Spec PyProof.Rows L2
open PySem.Calls
open PySem.W (alike dataLt AllAlike Sortable dataLe EachIs KeepsBut KeyedOut sortVals dataKind SortsAt)
/-- the keys -/
def keyG (pi : Nat) (m : EM) (sl : Slots) : List PyData → Store → R (List PyData)
  | [], st => .ok [] st
  | d :: ds, st => (m (sl.set pi (some (.d d))) st).bind fun v st1 =>
    match v with
    | .d k => (keyG pi m sl ds st1).bind fun ks st2 => .ok (k :: ks) st2
    | .box _ => .stuck
theorem keyG_cons {pi : Nat} {m : EM} {sl : Slots} {d : PyData} {ds ks : List PyData} {st stF : Store} (h : keyG pi m sl (d :: ds) st = .ok ks stF) : ∃ k st1 ks', m (sl.set pi (some (.d d))) st = .ok (.d k) st1 ∧ keyG pi m sl ds st1 = .ok ks' stF ∧ ks = k :: ks' := by
  unfold keyG at h
  cases e1 : m (sl.set pi (some (.d d))) st with
  | exn _ _ => rw [e1] at h; cases h
  | stuck => rw [e1] at h; cases h
  | ok v st1 =>
    rw [e1] at h
    cases v with
    | box _ => cases h
    | d k =>
      simp only [R.bind_ok] at h
      cases e2 : keyG pi m sl ds st1 with
      | exn _ _ => rw [e2] at h; cases h
      | stuck => rw [e2] at h; cases h
      | ok ks' st2 =>
        rw [e2] at h
        cases h
        exact ⟨k, st1, ks', rfl, e2, rfl⟩
theorem keyG_len {pi : Nat} {m : EM} {sl : Slots} : ∀ {ds ks : List PyData} {st stF : Store}, keyG pi m sl ds st = .ok ks stF → ks.length = ds.length
  | [], _, _, _, h => by cases h; rfl
  | d :: ds, ks, st, stF, h => by
    obtain ⟨k, st1, ks', _, e2, rfl⟩ := keyG_cons h
    simp [keyG_len e2]
section
variable {X : Cx} {pins : List (Addr × Obj)} {σ : L2.St} {H : Hp} {s : Shared} {T : List Tb} {D : DI} {k : Nat}
/-- an untracked object of ours is written -/
theorem inv_poke {cs : List Addr} {s' : Shared} (I : Inv X pins σ H s) (hc : ∀ b ∈ cs, FpOk X pins H b) (hos : s'.os = s.os) (hg : AllBare s'.gens) (hk : ∀ b o, b ∉ cs → s.heap.get? b = some o → s'.heap.get? b = some o) : Inv X pins σ H s' :=
  I.call' hos (un_but hk) (hok_but I.hok (fun b hb => (hc b hb).1) hk) hg fun b hb => ⟨(hc b hb).2.2.2.1, (hc b hb).2.1, (hc b hb).2.2.2.2.1, (hc b hb).2.2.2.2.2⟩
/-- an untracked object of ours is tracked from now on -/
theorem inv_track {a : Addr} {o : HO} (I : Inv X pins σ H s) (hc : FpOk X pins H a) (new : ObjOk X.prog X.w (upd H a o) s.heap a o) (hex : ∃ ob, s.heap.get? a = some ob) : Inv X pins σ (upd H a o) s := by
  have na : ∀ b u, H b = some u → b ≠ a := fun b u e z => by rw [z, hc.1] at e; cases e
  refine I.call' rfl ⟨fun b o e _ _ _ => e, fun b o e _ _ _ => ⟨o.slots, e⟩, fun b o' e n hb => ?_, fun b o e _ => ⟨o, e⟩, fun b xs e => by rw [upd_ne (na b _ e)]; exact e, fun b o u e => by rw [upd_ne (na b _ e)]; exact e, fun b ps e => ⟨#[], by rw [upd_ne (na b _ e), e]; simp⟩⟩ (ch := [a]) (fun b u e => ?_) I.bare fun b hb => ?_
  · rw [upd_ne (fun z => hb (List.mem_singleton.mpr z))]; exact n
  · by_cases hb : b = a
    · subst hb
      rw [upd_same] at e
      cases e
      exact new
    · rw [upd_ne hb] at e
      exact (I.hok b u e).stay (fun _ _ _ q => q) (fun d q => by rw [upd_ne (na d _ q)]; exact q) fun d xs q => by rw [upd_ne (na d _ q)]; exact q
  · rw [List.mem_singleton.mp hb]
    exact ⟨hc.2.2.2.1, hc.2.1, hc.2.2.2.2.1, hc.2.2.2.2.2⟩
theorem each_zip {R : Value → PyData → Prop} : ∀ {ds ks : List PyData} {its : List Value}, ks.length = ds.length → EachIs R its ds → EachIs (fun v (p : PyData × PyData) => R v p.1) its (ds.zip ks)
  | [], ks, its, _, h => by cases h; exact .nil
  | d :: ds, [], its, hl, h => by simp at hl
  | d :: ds, k :: ks, its, hl, h => by
    cases h with
    | cons h1 h2 => exact .cons h1 (each_zip (by simpa using hl) h2)
/-- after i keys -/
structure KZ (X : Cx) (pins : List (Addr × Obj)) (σ : L2.St) (T : List Tb) (pi : Nat) (m : EM) (sl : Slots) (ds ksF : List PyData) (stF : Store) (φ0 : Num) (st0 : Store) (H0 : Hp) (a kS : Addr) (e1 : Nat) (i : Nat) (s' : Shared) : Prop where
  ex : ∃ (φ' : Num) (sti : Store) (H' : Hp) (ks rest : List PyData) (kA : Array Value) (e : Nat) (xs : List V), Inv X (pins ++ [(a, seqObj "list" #[] e1)]) σ H' s' ∧ s'.heap.get? kS = some (seqObj "list" kA e) ∧ H' kS = none ∧
    StR X.K X.mg T φ' sti H' ∧ Stp φ0 st0 H0 φ' sti H' ∧ Vals xs kA.toList ∧ DRs X.K (Av φ' sti) H' ks xs ∧ ks.length = i ∧ keyG pi m sl (ds.drop i) sti = .ok rest stF ∧ ks ++ rest = ksF
theorem key_loop {A : Around} {scope : Scope} {y : Str} {pi : Nat} {f c' : Addr} {params : Arguments} {body : Expr} {m : EM} {φ : Num} {sl : Slots} {st stF : Store} {E : Value → Shared → Prop} {ds ksF : List PyData} {vs : List V} {its : List Value} {a kS : Addr} {e1 : Nat} {b : Bool} {P : PySem.Fin → Shared → Prop}
    (ci : Cin D k X) (S : L1S X.N X.env.scope scope y pi) (hA : A.frames = X.A.frames) (hd : A.handled = none) (hdp : A.depth < recursionLimit)
    (hfo : ∃ φf : Heap → Prop, H f = some (.ext φf) ∧ ∀ h, φf h → ∃ pm ctv, h.get? f = some (PySem.W.kla_obj "<lambda>" (X.env.qual ++ "<lambda>") params body scope (cloFrom X.env.cells scope.names []) pm c' ctv)) (hcc : H c' = some (LamX.CodeO c' (X.env.qual ++ "<lambda>")))
    (hbind : ∀ (q : Str) (cl : List (Str × Addr)) (pm cv ctv v : Value), bindArgs (PySem.W.kla_fn "<lambda>" q params body scope cl pm cv ctv) ⟨[v], []⟩ = pure [(y, v)])
    (hb : ∀ (s : Shared) (H : Hp), TL.E (LamX.lamCx X A X.stack s H W0 scope f c') T W0 body m) (r0 : StR X.K X.mg T φ st H) (l0 : SlR X.K φ st H sl σ) (hds : DRs X.K (Av φ st) H ds vs) (hvs : Vals vs its)
    (hkg : keyG pi m sl ds st = .ok ksF stF) (hal : AllAlike ksF) (hsk : Sortable ksF) (hnd : nods ksF = true) (hu : ∀ d, d ∈ ksF → A.units + d.depth < cLine) (hZ : its.length ≤ sizeLine) (hka : kS ≠ a)
    (I : Inv X (pins ++ [(a, seqObj "list" #[] e1)]) σ H s) (fa : FpOk X pins H a) (fk : FpOk X (pins ++ [(a, seqObj "list" #[] e1)]) H kS) (nk : s.heap.get? kS = some (seqObj "list" #[] 0))
    (h : ∀ (s' : Shared) (out : List Value) (c : Nat) (φ' : Num) (H' : Hp), Inv X pins σ H' s' → s'.heap.get? a = some (seqObj "list" out.toArray c) → H' a = none → StR X.K X.mg T φ' stF H' → Stp φ st H φ' stF H' → EachIs (RD X.K (Av φ' stF) H') out (((ds.zip ksF).mergeSort (dataLe b Prod.snd)).map Prod.fst) → P (.done (.ret .none)) s') :
    wpAny (model X.prog X.w) A (ksk_rest a (.ref f) b its.toArray e1 (.ref kS)) P E s := by
  have hlen : ds.length = its.length := by rw [← hds.length, hvs.length]
  unfold ksk_rest
  refine wpAny_bind (wpAny_rule ?_)
  first
    | rw [List.forIn_toArray]
    | (rw [← Array.forIn_toList]; simp only [List.toList_toArray])
    | rw [← Array.forIn_toList]
  refine wpAny_bind (ksk_fold (KZ X pins σ T pi m sl ds ksF stF φ st H a kS e1) its 0 s ⟨φ, st, H, [], ksF, #[], 0, [], I, nk, fk.1, r0, .refl, .nil, by unfold DRs; rfl, rfl, hkg, rfl⟩ ?step ?done)
  case step =>
    rintro j v s' hv ⟨φ', sti, H', ks, rest, kA, e, xs, I', nk', hn', r', s1', hxs, hks, hl, hkr, happ⟩
    simp only [Nat.zero_add] at hl hkr ⊢
    have hj : j < its.length := (List.getElem?_eq_some_iff.mp hv).1
    have hjd : j < ds.length := by omega
    rw [List.drop_eq_getElem_cons hjd] at hkr
    obtain ⟨kd, st1, ks', m1, m2, rfl⟩ := keyG_cons hkr
    obtain ⟨x, ex, dx⟩ := DRs.at hds (List.getElem?_eq_getElem hjd)
    have rel : RelV x v := by
      have key : ∀ {vs : List V} {us : List Value} {i : Nat} {x : V} {v : Value}, Vals vs us → vs[i]? = some x → us[i]? = some v → RelV x v := by
        intro vs us i x v hp
        induction hp generalizing i with
        | nil => intro e; simp at e
        | cons r t ih =>
          cases i with
          | zero => intro e1 e2; simp at e1 e2; subst e1; subst e2; exact r
          | succ i => intro e1 e2; simp at e1 e2; exact ih e1 e2
      exact key hvs ex hv
    have fk' : FpOk X (pins ++ [(a, seqObj "list" #[] e1)]) H' kS := ⟨hn', fk.2⟩
    have Ip : Inv X ((pins ++ [(a, seqObj "list" #[] e1)]) ++ pinsAt [kS] s'.heap) σ H' s' := I'.pinned (fun b hb => by rw [List.mem_singleton.mp hb]; exact fk') fun b hb => by rw [List.mem_singleton.mp hb]; exact ⟨_, nk', fun v z => by cases z⟩
    obtain ⟨φf, hfe, hfp⟩ := hfo
    have nlf : ¬ Live φ st f := fun l => by
      obtain ⟨n, c, q1, q2, q3⟩ := l
      have := r0.cell n c f q1 q3
      cases c with
      | lst _ => obtain ⟨_, z, _⟩ := this; rw [hfe] at z; cases z
      | dic _ => obtain ⟨o, _, z, dk, _⟩ := this; rw [hfe] at z; cases z; have := dk.dic; cases this
      | ldic _ => obtain ⟨_, o, _, z, _⟩ := this; rw [hfe] at z; cases z
      | obj _ _ => obtain ⟨_, _, _, _, z, _⟩ := this; rw [hfe] at z; cases z
      | dead => cases q2
    have nlc : ¬ Live φ st c' := fun l => by
      obtain ⟨n, c, q1, q2, q3⟩ := l
      have := r0.cell n c c' q1 q3
      unfold LamX.CodeO at hcc
      cases c with
      | lst _ => obtain ⟨_, z, _⟩ := this; rw [hcc] at z; cases z
      | dic _ => obtain ⟨o, _, z, dk, _⟩ := this; rw [hcc] at z; cases z; have := dk.dic; cases this
      | ldic _ => obtain ⟨_, o, _, z, _⟩ := this; rw [hcc] at z; cases z
      | obj _ _ => obtain ⟨_, _, _, _, z, _⟩ := this; rw [hcc] at z; cases z
      | dead => cases q2
    have hf' : H' f = some (.ext φf) := by
      rcases s1'.keep f _ hfe nlf rfl with z | ⟨z, _⟩
      · exact z
      · cases z
    have hc' : H' c' = some (LamX.CodeO c' (X.env.qual ++ "<lambda>")) := by
      rcases s1'.keep c' _ hcc nlc rfl with z | ⟨z, _⟩
      · exact z
      · cases z
    obtain ⟨pm, ctv, hob⟩ := hfp _ (I'.hok f _ hf').1
    refine wpAny_bind (wpAny_attempt (wpAny_mono (key_call (E := fun _ _ => False) (st' := st1) (r := .d kd) ci Ip S hA hd hdp hob hc' rel (hbind _ _ _ _ _ _) (hb s' H') ⟨r', l0.mon s1'⟩ (DR.mon s1'.mon _ _ dx) m1) (fun u s'' he => ?_) fun _ _ hF => hF.elim))
    obtain ⟨x', φ2, H2, I2, rel2, r2, s2, v2⟩ := he
    try dsimp only
    have pk := I2.pin (kS, seqObj "list" kA e) (List.mem_append_right _ (List.mem_append_right _ (mem_pinsAt (List.mem_singleton.mpr rfl) nk')))
    have nk2 : s''.heap.get? kS = some (seqObj "list" kA e) := pk.1
    have hkl : kA.size = j := by
      have h1 := hxs.length
      rw [hks.length, hl, Array.length_toList] at h1
      omega
    have sb := Heap.SameBut.update s''.heap kS (Obj.mapSeq (·.push u))
    obtain ⟨c2, hc2⟩ : ∃ c2, (s''.heap.update kS (Obj.mapSeq (·.push u))).get? kS = some (seqObj "list" (kA.push u) c2) := ⟨_, get?_update_seq nk2 (·.push u)⟩
    refine wpAny_bind (listUpdate_at nk2 rfl ?_ (by rw [hkl]; omega) (by rw [Array.size_push, hkl]; omega))
    refine wpAny_pure ⟨rfl, φ2, st1, H2, ks ++ [kd], ks', kA.push u, c2, xs ++ [x'], ?_, hc2, pk.2.1, r2, s1'.trans s2, by rw [Array.toList_push]; exact hxs.append (.cons rel2 .nil), (DRs.mon s2.mon _ _ hks).append (DRs.one v2), by simp [hl], m2, by rw [List.append_assoc]; exact happ⟩
    exact inv_poke (cs := [kS]) (I2.unpinned (pins := pins ++ [(a, seqObj "list" #[] e1)])) (fun b hb => by rw [List.mem_singleton.mp hb]; exact ⟨pk.2.1, fk.2⟩) rfl I2.bare fun b o hb eb => (sb.2 b (fun z => hb (List.mem_singleton.mpr z))).trans eb
  case done =>
    rintro s' ⟨φ', sti, H', ks, rest, kA, e, xs, I', nk', hn', r', s1', hxs, hks, hl, hkr, happ⟩
    rw [Nat.zero_add] at hl hkr
    rw [List.drop_of_length_le (by omega)] at hkr
    cases hkr
    rw [List.append_nil] at happ
    subst happ
    try dsimp only
    refine wpAny_bind (listItems_at nk' rfl ?_)
    obtain ⟨as, hr⟩ := DRs.reads (O := Av φ' stF) I' ks xs kA.toList hnd hks hxs
    have hk' : EachIs (fun v k => ∃ as, Reads s'.heap v k as) kA.toList ks := each_reads (O := Av φ' stF) (H := H') I' hnd (each_of hks hxs)
    obtain ⟨G, hG1, hG2⟩ := restrict s'.heap fun b => b != kS
    have pa := I'.pin (a, seqObj "list" #[] e1) (List.mem_append_right _ (List.mem_append_right _ (List.mem_singleton.mpr rfl)))
    have hsz : kA.size = its.length := by
      have h1 := hxs.length
      rw [hks.length, hl, Array.length_toList] at h1
      exact h1.symm
    refine PySem.W.keyH_end (κ := dataKind s'.heap ks) (h₁ := G) (s := s') (fun b o hb eb => ?_) (hG2 kS (by simp)) nk' pa.1 hka (SortsAt.data (s := s') hk' hal hsk hu) hsz hZ fun h3 tk3 c k3 n3 => ?_
    · by_cases hbk : b = kS
      · rw [hbk, hG2 kS (by simp)] at eb; cases eb
      · rw [hG1 b (by simpa using hbk)] at eb; exact eb
    · have hfa : FpOk X pins H' a := ⟨pa.2.1, fa.2⟩
      refine h _ (sortVals (dataKind s'.heap ks) b kA.toList its) c φ' H' (inv_poke (cs := [a, kS]) (s := s') (s' := { s' with heap := h3, toks := tk3 }) (I'.unpinned (pins := pins)) (fun b hb => ?_) rfl I'.bare fun b o hb eb => ?_) n3 pa.2.1 r' s1' ?_
      · rcases List.mem_cons.mp hb with z | z
        · rw [z]; exact hfa
        · rw [List.mem_singleton.mp z]; exact ⟨hn', fk.2.1, fk.2.2.1, fk.2.2.2.1, fk.2.2.2.2.1, fun p hp => fk.2.2.2.2.2 p ((List.mem_append.mp hp).elim (List.mem_append_left _) fun q => List.mem_append_right _ (List.mem_append_left _ q))⟩
      · have hbk : b ≠ kS := fun z => hb (List.mem_cons_of_mem _ (List.mem_singleton.mpr z))
        exact k3 b o (fun z => hb (by rw [z]; exact List.mem_cons_self)) ((hG1 b (by simpa using hbk)).trans eb)
      · have ee : EachIs (fun v (p : PyData × PyData) => RD X.K (Av φ' stF) H' v p.1) its (ds.zip ks) := each_zip (by omega) (each_of (DRs.mon s1'.mon _ _ hds) hvs)
        have ko : KeyedOut b ((ds.zip ks).map Prod.snd) its (sortVals (dataKind s'.heap ks) b kA.toList its) := by
          have e2 : (ds.zip ks).map Prod.snd = ks := by rw [List.map_snd_zip]; omega
          rw [e2]
          exact ⟨s'.heap, kA.toList, hal, rfl, hk'⟩
        exact PySem.W.each_map (R := RD X.K (Av φ' stF) H') Prod.fst (PySem.W.keyedOut_each Prod.snd ko ee)
/-- a lambda as it stands -/
def LamO (f : Addr) (q : Str) (params : Arguments) (body : Expr) (scope : Scope) (cl : List (Str × Addr)) (cc : Addr) : HO := .ext fun h => ∃ pm ctv, h.get? f = some (PySem.W.kla_obj "<lambda>" q params body scope cl pm cc ctv)
def mSortK (rev : Bool) (pi : Nat) (a : AM) (m : EM) : EM := fun sl st =>
  (a sl st).bind fun vs st1 =>
    match derefs vs st1 with
    | some [.list xs] => (noX (keyG pi m sl xs st1)).bind fun ks st2 =>
        if (sortOk ks && decide (xs.length ≤ lineN)) = true then .ok (.d (.list (((xs.zip ks).mergeSort (dataLe rev Prod.snd)).map Prod.fst))) st2 else .stuck
    | _ => .stuck
/-- the reading of a call of sorted with a key -/
def rSK (X : Cx) (T : List Tb) (W : XK) (σ : L2.St) (scope : Scope) (y : Str) (pi : Nat) (params : Arguments) (body : Expr) (m : EM) (rev : Bool) : List V → List V → Hp → VK → Prop := fun xs zs H Q =>
  ∃ (l f c' : Addr) (φ : Num) (sl : Slots) (st stF : Store) (ds ks : List PyData) (vs : List V), xs = [.ref l] ∧ zs = [.ref f] ∧ LsAt X.K H l vs ∧ DRs X.K (Av φ st) H ds vs ∧ StR X.K X.mg T φ st H ∧ SlR X.K φ st H sl σ ∧
    H f = some (LamO f (X.env.qual ++ "<lambda>") params body scope (cloFrom X.env.cells scope.names []) c') ∧ H c' = some (LamX.CodeO c' (X.env.qual ++ "<lambda>")) ∧ keyG pi m sl ds st = .ok ks stF ∧ sortOk ks = true ∧ ds.length ≤ lineN ∧
    EPost X.K X.mg T W φ st H Q (.ok (.d (.list (((ds.zip ks).mergeSort (dataLe rev Prod.snd)).map Prod.fst))) stF)
theorem sortK_run {W : XK} {scope : Scope} {y : Str} {pi : Nat} {params : Arguments} {body : Expr} {m : EM} (ci : Cin D (k + 1) X) (S : L1S X.N X.env.scope scope y pi)
    (hbind : ∀ (q : Str) (cl : List (Str × Addr)) (pm cv ctv v : Value), bindArgs (PySem.W.kla_fn "<lambda>" q params body scope cl pm cv ctv) ⟨[v], []⟩ = pure [(y, v)])
    (hb : ∀ (s : Shared) (H : Hp) (f c' : Addr), Cin ⟨D.N, scope, []⟩ k (LamX.lamCx X X.A.in1.in1 X.stack s H W0 scope f c') → TL.E (LamX.lamCx X X.A.in1.in1 X.stack s H W0 scope f c') T W0 body m)
    {us ws : List Value} {xs zs : List V} {Q : VK} (I : Inv X pins σ H s) (rv : Vals xs us) (rw' : Vals zs ws) (h : rSK X T W σ scope y pi params body m false xs zs H Q) :
    wpAny (model X.prog X.w) X.A (call (.builtin "sorted") us (([("key" : Str)] : List Str).zip ws)) (EP X pins σ Q) X.xe s := by
  obtain ⟨l, f, c', φ, sl, st, stF, ds, ks, vs, rfl, rfl, hl, hd, r, l0, hf, hc, hkg, hso, hln, hq⟩ := h
  obtain ⟨u, rfl, rz⟩ := vals1 rw'
  cases rz
  rw [Vals.ref1 rv]
  obtain ⟨z1, its, n, hvs, hli, hob⟩ := hl.at I
  have hL : its.length ≤ sizeLine := by rw [← hli]; exact z1
  have hlist : s.heap.IsList l its.toArray := ⟨_, hob, rfl, n, rfl⟩
  obtain ⟨h1, h2, h3, h4, h5⟩ := sortOk_of hso
  refine PySem.W.sorted_of_sort hlist hL (ksk_s1 _ _) (fun x => ksk_l1 _ _) fun E' => ?_
  rw [show ([("key" : Str)] : List Str).zip [Value.ref f] = [(Str.ofString "key", Value.ref f)] from rfl, ksk_t1]
  have hD := PySem.W.copyHeap_at s.heap its
  have hsz0 : (PySem.W.copyHeap s.heap its).objs.size = s.heap.objs.size + 1 + 1 := by unfold PySem.W.copyHeap; rw [size_push', Heap.size_update, size_push']
  obtain ⟨e1, ho1⟩ : ∃ e1, ((PySem.W.copyHeap s.heap its).update (s.heap.objs.size + 1) (Obj.mapSeq fun _ => (#[] : Array Value))).get? (s.heap.objs.size + 1) = some (seqObj "list" #[] e1) := ⟨_, get?_update_seq hD fun _ => #[]⟩
  unfold ksk_tree
  refine wpAny_bind (listItems_at hD rfl ?_)
  refine wpAny_bind (listUpdate_at hD rfl ?_ (by rw [List.size_toArray]; exact hL) (Nat.zero_le _))
  refine wpAny_bind (seqEpoch_at ho1 rfl ?_)
  refine wpAny_bind (wpAny_newTuple ?_ (by show its.length ≤ _; exact hL))
  refine wpAny_bind (wpAny_newList ?_ (Nat.zero_le _))
  refine wpAny_holding ?_
  have hsz1 : (((PySem.W.copyHeap s.heap its).update (s.heap.objs.size + 1) (Obj.mapSeq fun _ => #[])).push (seqObj "tuple" its.toArray 0)).objs.size = s.heap.objs.size + 1 + 1 + 1 := by rw [size_push', Heap.size_update, hsz0]
  have kp : ∀ b o, s.heap.get? b = some o → ((((PySem.W.copyHeap s.heap its).update (s.heap.objs.size + 1) (Obj.mapSeq fun _ => #[])).push (seqObj "tuple" its.toArray 0)).push (seqObj "list" #[] 0)).get? b = some o := fun b o eb =>
    Heap.get?_push_of_some _ (Heap.get?_push_of_some _ ((Heap.get?_update_other _ _ (fun z : s.heap.objs.size + 1 = b => by
      have := Heap.lt_size eb
      rw [← z] at this
      exact Nat.lt_irrefl _ (Nat.lt_trans (Nat.lt_succ_self _) this))).trans (PySem.W.copyHeap_old eb)))
  have I1 : Inv X pins σ H { s with heap := (((PySem.W.copyHeap s.heap its).update (s.heap.objs.size + 1) (Obj.mapSeq fun _ => #[])).push (seqObj "tuple" its.toArray 0)).push (seqObj "list" #[] 0) } := I.kept (t' := s.toks) kp
  have nD : H (s.heap.objs.size + 1) = none := I.hok.fresh (Nat.le_succ _)
  have nK : H (s.heap.objs.size + 1 + 1 + 1) = none := I.hok.fresh (Nat.le_succ_of_le (Nat.le_succ_of_le (Nat.le_succ _)))
  have fD : FpOk X pins H (s.heap.objs.size + 1) := I.fpOk (Nat.le_succ _) nD
  have fK0 : FpOk X pins H (s.heap.objs.size + 1 + 1 + 1) := I.fpOk (Nat.le_succ_of_le (Nat.le_succ_of_le (Nat.le_succ _))) nK
  have hDo : ((((PySem.W.copyHeap s.heap its).update (s.heap.objs.size + 1) (Obj.mapSeq fun _ => #[])).push (seqObj "tuple" its.toArray 0)).push (seqObj "list" #[] 0)).get? (s.heap.objs.size + 1) = some (seqObj "list" #[] e1) := Heap.get?_push_of_some _ (Heap.get?_push_of_some _ ho1)
  have neK : s.heap.objs.size + 1 + 1 + 1 ≠ s.heap.objs.size + 1 := by omega
  have I2 : Inv X (pins ++ [(s.heap.objs.size + 1, seqObj "list" #[] e1)]) σ H { s with heap := (((PySem.W.copyHeap s.heap its).update (s.heap.objs.size + 1) (Obj.mapSeq fun _ => #[])).push (seqObj "tuple" its.toArray 0)).push (seqObj "list" #[] 0) } :=
    I1.pins_of fun p hp => (List.mem_append.mp hp).elim (fun z => I1.pin p (List.mem_append_right _ z)) fun z => by
      rw [List.mem_singleton.mp z]
      exact ⟨hDo, nD, fD.2.1, fD.2.2.1, fun v z => by cases z⟩
  rw [hsz1]
  refine key_loop (b := false) (ksF := ks) (stF := stF) (vs := vs) ci S rfl ci.room.hd (by have := ci.room.dp; show X.A.depth < _; omega) ⟨_, hf, fun h z => z⟩ hc hbind (fun s H => hb s H f c' ⟨ci.N, rfl, ci.nd, ⟨ci.room.hd, by have := ci.room.dp; show X.A.depth + 1 + 3 * k + 5 < _; omega, by have := ci.room.un; show X.A.units + 1 + 1 + 3 + 16 * k + 200 < _; omega⟩, rfl, fun _ h => (by cases h), passes_of rfl⟩) r l0 hd hvs hkg h1 h2 h3
    (fun d hd => by have a := h4 d hd; have c := ci.units; show X.A.units + 1 + 1 + d.depth < cLine; omega) hL neK I2 fD ⟨fK0.1, fK0.2.1, fK0.2.2.1, fK0.2.2.2.1, fK0.2.2.2.2.1, fun p hp => by
      rcases List.mem_append.mp hp with q | q
      · exact fK0.2.2.2.2.2 p (List.mem_append_left _ q)
      · rcases List.mem_append.mp q with q | q
        · exact fK0.2.2.2.2.2 p (List.mem_append_right _ q)
        · rw [List.mem_singleton.mp q]; exact fun z => neK z.symm⟩ (by rw [← hsz1]; exact Heap.get?_push_size _ rfl) fun s' out c φ' H' I' ha na r' s1 ee => ⟨rfl, ?_⟩
  obtain ⟨vo, rvo, hdo⟩ := of_each ee
  have hlo : vo.length ≤ sizeLine := by
    rw [hdo.length, List.length_map, List.length_mergeSort, List.length_zip, ← line_eq]
    exact Nat.le_trans (Nat.min_le_left _ _) hln
  have I3 := inv_track (o := .lst vo) I' ⟨na, fD.2⟩ ⟨hlo, out, c, rvo, ha⟩ ⟨_, ha⟩
  refine ⟨.ref _, _, I3, rfl, ?_⟩
  have g := Gr.upd (o := .lst vo) na
  exact hq φ' _ _ (s1.trans g.step) (r'.gr g) (DR.lst r' na hdo).2
/-- a lambda made and kept in sight -/
def tLam (X : Cx) (T : List Tb) (W : XK) (scope : Scope) (params : Arguments) (body : Expr) : TE := fun σ H Q => ∃ φ sl st, At X.K X.mg T φ sl st σ H ∧
  ∀ f c' H', StR X.K X.mg T φ st H' → Stp φ st H φ st H' → H' f = some (LamO f (X.env.qual ++ "<lambda>") params body scope (cloFrom X.env.cells scope.names []) c') → H' c' = some (LamX.CodeO c' (X.env.qual ++ "<lambda>")) → Q (.ref f) H'
theorem pe_lam {W : XK} {t : Tb} {scope : Scope} {params : Arguments} {body : Expr} {lpos : Pos} {y : Str} {pi : Nat} (ho : Home X T t) (S : L1S X.N X.env.scope scope y pi) (hnm : t.nm lpos.line lpos.col = some (X.env.qual ++ "<lambda>")) (hdef : defaultsOf params X.env = ([], [])) :
    PE X (.Lambda params body scope lpos) (tLam X T W scope params body) := by
  refine ⟨fun pins s σ H Q I h => ?_⟩
  obtain ⟨φ, sl, st, a0, h⟩ := h
  obtain ⟨⟨c, TB, hcode⟩, htT, hone⟩ := ho
  have hfree : ∀ z ∈ scope.names, z.2 = .free → ∃ c, X.env.cells.lookup z.1 = some c := fun z hz e => by
    rcases S.free z hz e with k | k
    · exact I.ok.has _ (.inl k)
    · exact I.ok.has _ (.inr k)
  refine mk_lam (t := t) I TB hcode htT hone hnm a0.s.tabs hdef hfree fun f c' pm' ctv H1 s' I1 ex T1 hf hfn hfr _ _ hsz hco => ?_
  have fo : FpOk X pins H1 f := I.fpOk hsz hfn
  have I2 := inv_track (o := LamO f (X.env.qual ++ "<lambda>") params body scope (cloFrom X.env.cells scope.names []) c') I1 fo ⟨⟨pm', ctv, hf⟩, ⟨_, hf⟩, fun h1 h2 ⟨pm, ctv, e⟩ st => ⟨pm, ctv, st _ e⟩⟩ ⟨_, hf⟩
  have g := Gr.upd (o := LamO f (X.env.qual ++ "<lambda>") params body scope (cloFrom X.env.cells scope.names []) c') hfn
  exact ⟨.ref f, _, I2, rfl, h f c' _ ((ex.str a0.s T1).gr g) (ex.stp.trans g.step) upd_same (g _ _ hco)⟩
theorem E_sortK {W : XK} {t : Tb} {e : Expr} {es : List Expr} {p pos lpos kp : Pos} {scope : Scope} {y : Str} {pi : Nat} {params : Arguments} {body : Expr} {m : EM} {ma : AM} (ci : Cin D (k + 1) X) (ho : Home X T t) (hnm : t.nm lpos.line lpos.col = some (X.env.qual ++ "<lambda>"))
    (hg : D.g "sorted" = true) (hm : X.mg "sorted" = none) (hv : bootBuiltins "sorted" = some (.builtin "sorted")) (hS : l1B D.N D.sc scope y pi = true) (hdef : defaultsOf params X.env = ([], []))
    (hbind : ∀ (q : Str) (cl : List (Str × Addr)) (pm cv ctv v : Value), bindArgs (PySem.W.kla_fn "<lambda>" q params body scope cl pm cv ctv) ⟨[v], []⟩ = pure [(y, v)]) (ha : Ea X T W (e :: es) ma)
    (hb : ∀ (s : Shared) (H : Hp) (f c' : Addr), Cin ⟨D.N, scope, []⟩ k (LamX.lamCx X X.A.in1.in1 X.stack s H W0 scope f c') → TL.E (LamX.lamCx X X.A.in1.in1 X.stack s H W0 scope f c') T W0 body m)
    (he : backTo pos (starEach (e :: es) X.env) = (false, eval e X.env) :: backTo pos (starEach es X.env) := by rfl) (hpl : (backTo pos (starEach (e :: es) X.env)).any (·.1) = false := by rfl)
    (hall : (backToKw pos (keywordEach [⟨some "key", .Lambda params body scope lpos, kp⟩] X.env)).all (·.1.isSome) = true := by rfl) (hnone : (backToKw pos (keywordEach [⟨some "key", .Lambda params body scope lpos, kp⟩] X.env)).any (·.1.isNone) = false := by rfl)
    (hks : (backToKw pos (keywordEach [⟨some "key", .Lambda params body scope lpos, kp⟩] X.env)).filterMap (·.1) = [("key" : Str)] := by rfl) :
    TL.E X T W (.Call (.Name "sorted" p) (e :: es) [⟨some "key", .Lambda params body scope lpos, kp⟩] pos) (mSortK false pi ma m) := by
  obtain ⟨g1, g2, g3⟩ := ci.gl hg
  have S : L1S X.N X.env.scope scope y pi := by rw [ci.N, ci.sc]; exact l1_by hS
  refine ⟨⟨fun pins s σ H Q I h => ?_⟩⟩
  obtain ⟨φ, sl, st, a0, h⟩ := h
  refine wpAny_Call_Name_kw (ld_blt I g1 hm hv ?_ g3 g2)
  have hk : PK X [⟨some "key", .Lambda params body scope lpos, kp⟩] (tCons (tLam X T W scope params body) tNil) := pk_cons (pe_lam ho S hnm hdef) pk_nil
  have h' : EPost X.K X.mg T W φ st H Q ((ma sl st).bind fun vs st1 =>
    match derefs vs st1 with
    | some [.list xs] => (noX (keyG pi m sl xs st1)).bind fun ks st2 =>
        if (sortOk ks && decide (xs.length ≤ lineN)) = true then .ok (.d (.list (((xs.zip ks).mergeSort (dataLe false Prod.snd)).map Prod.fst))) st2 else .stuck
    | _ => .stuck) := h
  refine PyProof.Rows.callWith_kw (thn (ha.run.run pos pins s σ H _ I (tA_bind a0 h')) fun us s1 ⟨vs, H1, I1, rv, φ1, st1, as, a1, v1, s1', p1⟩ => ?_) he hpl hall hnone
  cases ed : derefs as st1 with
  | none => simp only [ed] at p1; exact p1.elim
  | some ds =>
    simp only [ed] at p1
    have pr := derefs_rel v1 ed
    split at p1
    · rename_i xs heq
      cases heq
      obtain ⟨x, rfl, vx⟩ := paired1 pr
      obtain ⟨l, vl, rfl, hl, hd⟩ := vx.list a1.s
      cases ekg : keyG pi m sl xs st1 with
      | exn _ _ => rw [ekg] at p1; exact p1.elim
      | stuck => rw [ekg] at p1; exact p1.elim
      | ok ks stF =>
        rw [ekg] at p1
        have p1 : EPost X.K X.mg T W φ1 st1 H1 Q (if (sortOk ks && decide (xs.length ≤ lineN)) = true then .ok (.d (.list (((xs.zip ks).mergeSort (dataLe false Prod.snd)).map Prod.fst))) stF else .stuck) := p1
        split at p1
        · rename_i hc
          rw [Bool.and_eq_true, decide_eq_true_eq] at hc
          refine thn (hk.run pos pins s1 σ H1 (fun zs H2 => ∃ f c', zs = [.ref f] ∧ StR X.K X.mg T φ1 st1 H2 ∧ Stp φ1 st1 H1 φ1 st1 H2 ∧ H2 f = some (LamO f (X.env.qual ++ "<lambda>") params body scope (cloFrom X.env.cells scope.names []) c') ∧ H2 c' = some (LamX.CodeO c' (X.env.qual ++ "<lambda>"))) I1
            ⟨φ1, sl, st1, a1, fun f c' H2 r2 s2 hf hc => ⟨f, c', rfl, r2, s2, hf, hc⟩⟩) fun ws s2 ⟨zs, H2, I2, rz, f, c', ez, r2, s2', hf, hcc⟩ => ?_
          subst ez
          rw [hks]
          have hx2 : VD X.K φ1 st1 H2 (.list xs) (.ref l) := by
            obtain ⟨v, q1, q2⟩ := vx
            exact ⟨v, VR.mon s2' q1, q2⟩
          obtain ⟨l', vl', el, hl', hd'⟩ := hx2.list r2
          cases el
          exact sortK_run ci S hbind hb I2 rv rz ⟨l, f, c', φ1, sl, st1, stF, xs, ks, vl', rfl, rfl, hl', hd', r2, a1.l.mon s2', hf, hcc, ekg, hc.1, hc.2, EPost.shift s2' p1⟩
        · exact p1.elim
    · exact p1.elim
end
end TL
end

section
set_option Elab.async false
set_option linter.all false
set_option maxRecDepth 100000
set_option maxHeartbeats 1000000
set_option autoImplicit false
/-! TL24: the law's top: rounds, dice. -/
namespace TL
open PySem L2
/-- a def whose own boxes stay -/
def fnOfB (N : Nat) (b : SM) : FM := fun vs st =>
  match b (vs.map some ++ List.replicate (N - vs.length) none) st with
  | .nx _ st1 => .ok (.d .none) st1
  | .rt v st1 => .ok v st1
  | .exn c _ st1 => .exn c st1
  | _ => .stuck
theorem fn_okB {P : Program} {w : World} {K : PySem.W.Frag} {mg : Str → Option Value} {base : Heap} {T : List Tb} {x qual : Str} {s : Stmt} {f c : Addr} {fd : FuncData} {N ps cl : List Str} {k : Nat} {m : SM} (F : FunC K x qual s f c fd) (S : FnScope N ps (defScope s))
    (hb : ∀ (A : Around) (outer : List Env) (s0 : Shared) (H : Hp) (W : XK), Cin ⟨N, defScope s, cl⟩ k (cxOf (L2.CX P w) P w K mg base N qual (defScope s) f (.ref c) A outer s0 H W) → Takes (cxOf (L2.CX P w) P w K mg base N qual (defScope s) f (.ref c) A outer s0 H W) (fun c d _ H => W c d H) →
      Ss (cxOf (L2.CX P w) P w K mg base N qual (defScope s) f (.ref c) A outer s0 H W) T W (defBody s) m) : FnOk P w K mg base (L2.CX P w) (k + 1) f fd ps (spF K mg T ps.length (fnOfB N.length m)) := by
  obtain ⟨oc, od, dV, kV, doc, pm, an, ct, osl, rfl, lk, hcd⟩ := F.ex
  refine fn_of lk hcd S ?_ ?_
  · rintro vs H Q Ex ⟨φ, st, as, r, pr, hl, _⟩
    rw [← paired_len pr, hl]
  · rintro A outer s0 H vs Q Ex hr ⟨φ, st, as, r, pr, hl, h⟩
    have tk : Takes (cxOf (L2.CX P w) P w K mg base N qual (defScope s) f (.ref c) A outer s0 H Ex) (fun c d _ H => Ex c d H) := takes_of rfl rfl rfl rfl
    have ci : Cin ⟨N, defScope s, cl⟩ k (cxOf (L2.CX P w) P w K mg base N qual (defScope s) f (.ref c) A outer s0 H Ex) := ⟨rfl, rfl, S.nd, hr, rfl, fun _ _ => rfl, passes_of rfl⟩
    refine ⟨_, (hb A outer s0 H Ex ci tk).run, φ, as.map some ++ List.replicate (N.length - as.length) none, st, ⟨r, start_rel pr⟩, ?_⟩
    revert h
    show EPost K mg T Ex φ st H Q (match m (as.map some ++ List.replicate (N.length - as.length) none) st with
      | .nx _ st1 => .ok (.d .none) st1
      | .rt v st1 => .ok v st1
      | .exn c _ st1 => .exn c st1
      | _ => .stuck) → SPost K mg T Ex φ st H _ (m (as.map some ++ List.replicate (N.length - as.length) none) st)
    cases m (as.map some ++ List.replicate (N.length - as.length) none) st with
    | nx sl1 st1 => exact fun h φ1 H1 σ1 s1 r1 l1 => h φ1 H1 .non s1 r1 rfl
    | rt v st1 => exact fun h => h
    | bk sl1 st1 => exact fun h => h.elim
    | ct sl1 st1 => exact fun h => h.elim
    | exn cn sl1 st1 => exact fun h φ1 H1 σ1 C s1 r1 l1 hc => h φ1 H1 C s1 r1 hc
    | stuck => exact fun h => h
/-- what dice makes of a cell -/
def DiceOk (f : FM) (good : Int → Int → Int → Int → Prop) : Prop := ∀ (z : Int) (st : Store), ∃ a b c, good z a b c ∧ f [.d (.int z)] st = .ok (.box st.length) (st ++ [.lst [.int a, .int b, .int c]])
/-- rounds(script, 1): one list of dice in a list -/
def spR (K : PySem.W.Frag) (mg : Str → Option Value) (T : List Tb) (good : Int → Int → Int → Int → Prop) : Sp := fun us H Q _ => ∃ (u : Addr) (ns : List Int) (φ : Num) (st : Store), us = [.ref u, .int 1] ∧ SqL K H u (ns.map V.int) ∧ StR K mg T φ st H ∧
  ∀ (z a b c : Int) (L d : Addr) (φ' : Num) (H' : Hp), (z = 0 ∨ z ∈ ns) → good z a b c → H' L = some (.lst [.ref d]) → φ'.ids = φ.ids ++ [d] → StR K mg T φ' (st ++ [.lst [.int a, .int b, .int c]]) H' → Stp φ st H φ' (st ++ [.lst [.int a, .int b, .int c]]) H' → L ∉ φ'.ids → Q (.ref L) H'
section
variable {P : Program} {w : World} {K : PySem.W.Frag} {mg : Str → Option Value} {base : Heap} {T : List Tb}
def N_rounds : List Str := ["script", "most", "cells", "cell"]
theorem ids_snoc {φ φ' : Num} {n : Nat} (h : φ.ids <+: φ'.ids) (h1 : φ.ids.length = n) (h2 : φ'.ids.length = n + 1) : ∃ d, φ'.ids = φ.ids ++ [d] := by
  obtain ⟨t, e⟩ := h
  have : t.length = 1 := by
    have := congrArg List.length e
    rw [List.length_append] at this
    omega
  obtain ⟨d, rfl⟩ := List.length_eq_one_iff.mp this
  exact ⟨d, e.symm⟩
theorem yes_if {A B : Prop} (h : A) : if (true : Bool) = true then A else B := by rw [if_pos rfl]; exact h
theorem cut_one (ns : List Int) : ∃ xs : List Int, cutV (ns.map V.int) none (some 1) = xs.map V.int ∧ xs.length ≤ 1 ∧ ∀ x ∈ xs, x ∈ ns := by
  cases ns with
  | nil => exact ⟨[], rfl, by simp, by simp⟩
  | cons n r =>
    refine ⟨[n], ?_, by simp, by simp⟩
    unfold cutV HT.sIx
    simp
theorem rounds_ok {s : Stmt} {f : Addr} {fd : FuncData} {k : Nat} {fD : FM} {good : Int → Int → Int → Int → Prop} {scope : Scope} {p1 p2 p3 p4 p5 p6 q1 q2 q3 q4 q5 q6 q7 q8 r1 r2 r3 r4 r5 r6 r7 : Pos} {j : Nat} {cR : Addr} (F : FunC K "_law_rounds" "_law_rounds" s f cR fd) (S : FnScope N_rounds ["script", "most"] (defScope s))
    (hbody : defBody s = [.Assign [.Name "cells" p1] (.Subscript (.Name "script" p2) (.Slice none (some (.Name "most" p3)) none p4) p5) p6,
      .If (.Compare (.Name "cells" q1) [.Eq] [.List [] q2] q3) [.Assign [.Name "cells" q4] (.List [.Constant (.int 0) j q5] q6) q7] [] q8,
      .Return (some (.ListComp (.Call (.Name "_law_dice" r1) [.Name "cell" r2] [] r3) [⟨.Name "cell" r4, .Name "cells" r5, [], 0⟩] scope r6)) r7])
    (hblk : blkC N_rounds (defScope s) scope [("cell", 3)] = true) (v0 : DI.v ⟨N_rounds, defScope s, []⟩ 0 "script" = true) (v1 : DI.v ⟨N_rounds, defScope s, []⟩ 1 "most" = true) (v2 : DI.v ⟨N_rounds, defScope s, []⟩ 2 "cells" = true) (s2 : DI.s ⟨N_rounds, defScope s, []⟩ 2 "cells" = true)
    (w3 : ((DI.mk N_rounds (defScope s) []).blk scope).v 3 "cell" = true) (t3 : ((DI.mk N_rounds (defScope s) []).blk scope).s 3 "cell" = true) (gd : ((DI.mk N_rounds (defScope s) []).blk scope).g "_law_dice" = true)
    (cD : CallOk P w K mg base T "_law_dice" 1 fD k) (hD : DiceOk fD good) : FnOk P w K mg base (L2.CX P w) (k + 1) f fd ["script", "most"] (spR K mg T good) := by
  obtain ⟨oc, od, dV, kV, doc, pm, an, ct, osl, rfl, lk, hcd⟩ := F.ex
  refine fn_of lk hcd S ?_ ?_
  · rintro vs H Q Ex ⟨u, ns, φ, st, rfl, _⟩
    rfl
  · rintro A outer s0 H vs Q Ex hr ⟨u, ns, φ, st, rfl, hsq, r, hq⟩
    have tk : Takes (cxOf (L2.CX P w) P w K mg base N_rounds "_law_rounds" (defScope s) f (.ref cR) A outer s0 H Ex) (fun c d _ H => Ex c d H) := takes_of rfl rfl rfl rfl
    have ci : Cin ⟨N_rounds, defScope s, []⟩ k (cxOf (L2.CX P w) P w K mg base N_rounds "_law_rounds" (defScope s) f (.ref cR) A outer s0 H Ex) := ⟨rfl, rfl, S.nd, hr, rfl, fun _ h => (by cases h), passes_of rfl⟩
    obtain ⟨a1, a2, a3, a4⟩ := ci.vis v0
    obtain ⟨b1, b2, b3, b4⟩ := ci.vis v1
    obtain ⟨c1, c2, c3⟩ := ci.put s2
    have st1 := ps_set (pos := p6) (pos' := p1) ci.nd c1 c2 (pe_slice (pos := p5) (p2 := p4) sl_list (pe_var (pos := p2) a1 a2 a3 a4) po_none (po_some (pe_var (pos := p3) b1 b2 b3 b4))) rfl c3
    have st2 : TL.S (cxOf (L2.CX P w) P w K mg base N_rounds "_law_rounds" (defScope s) f (.ref cR) A outer s0 H Ex) T Ex (.If (.Compare (.Name "cells" q1) [.Eq] [.List [] q2] q3) [.Assign [.Name "cells" q4] (.List [.Constant (.int 0) j q5] q6) q7] [] q8)
      (sIf (tOfE (mP2 oEq (mVar 2) (mDisp pLst aNil))) (sSet 2 (mDisp pLst (aCons (mC (.int 0)) aNil))) sNil) :=
      S_if (Et_cmp (op_eq' ci) (E_var ci v2) (E_lst Ea_nil)) (Ss_one (S_set ci s2 (E_lst (Ea_cons E_int Ea_nil)))) Ss_nil
    have hi : TL.I (cxOf (L2.CX P w) P w K mg base N_rounds "_law_rounds" (defScope s) f (.ref cR) A outer s0 H Ex) T Ex (.Name "cell" r4) (.Name "cells" r5) (iSeq (mVar 2)) := I_seq (E_var ci v2)
    have st3 := ps_ret (pos := r7) (pe_lc (X := cxOf (L2.CX P w) P w K mg base N_rounds "_law_rounds" (defScope s) f (.ref cR) A outer s0 H Ex) (elt := .Call (.Name "_law_dice" r1) [.Name "cell" r2] [] r3) (ifs := []) (scope := scope) (own := [("cell", 3)]) (pos := r6) (g := tG (cxOf (L2.CX P w) P w K mg base N_rounds "_law_rounds" (defScope s) f (.ref cR) A outer s0 H Ex) T W0 (.name 3)) (tt := L2.tYes)
      (te := tE (cxOf (L2.CX P w) P w K mg base N_rounds "_law_rounds" (defScope s) f (.ref cR) A outer s0 H Ex) T W0 (mCall fD (aCons (mVar 3) aNil))) ci.calm ci.nd hi.run (blkOk_by hblk)
      (fun s' H' C cl fp => (G_name (T := T) (W := W0) (i := 3) (ci.blk s' H' scope cl C fp) t3).run) (fun _ _ _ _ _ => pts_nil)
      (fun s' H' C cl fp => (E_call (ci.blk s' H' scope cl C fp) takesW0 cD (Nat.le_refl _) gd (len_cons len_nil) (Ea_cons (E_var (ci.blk s' H' scope cl C fp) w3) Ea_nil)).run))
    rw [hbody]
    refine ⟨_, pss_cons st1 (pss_cons st2.run (pss_one st3)), ?_⟩
    refine ⟨.ref u, rfl, .int 1, ⟨rfl, 1, rfl, u, ns.map V.int, rfl, hsq, fun p hp => ?_⟩⟩
    obtain ⟨xs, ecut, xlen, xmem⟩ := cut_one ns
    rw [ecut]
    have g1 := Gr.upd (o := .lst (xs.map V.int)) hp
    have hd1 := DR.lst (X := cxOf (L2.CX P w) P w K mg base N_rounds "_law_rounds" (defScope s) f (.ref cR) A outer s0 H Ex) (T := T) (xs := xs.map .int) r hp DRs.of_ints
    -- the cells, one or none
    have at1 : At K mg T φ [none, none, some (.d (.list (xs.map .int))), none] st (((L2.start N_rounds [V.ref u, V.int 1]).set 2 (some (V.ref p)))) (upd H p (.lst (xs.map V.int))) := by
      refine ⟨r.gr g1, rfl, fun i v e => ?_⟩
      match i, e with
      | 2, e => cases e; exact ⟨_, rfl, hd1.2⟩
      | 0, e => cases e
      | 1, e => cases e
      | 3, e => cases e
      | n + 4, e => simp at e
    -- the test's outcome
    obtain ⟨z, hz, e2⟩ : ∃ z : Int, (z = 0 ∨ z ∈ ns) ∧ sIf (tOfE (mP2 oEq (mVar 2) (mDisp pLst aNil))) (sSet 2 (mDisp pLst (aCons (mC (.int 0)) aNil))) sNil [none, none, some (.d (.list (xs.map .int))), none] st = .nx [none, none, some (.d (.list [.int z])), none] st := by
      match xs, xlen, xmem with
      | [], _, _ => exact ⟨0, .inl rfl, rfl⟩
      | [x], _, hm => exact ⟨x, .inr (hm x (by simp)), rfl⟩
      | _ :: _ :: _, h, _ => simp at h
    refine ⟨φ, _, st, at1, ?_⟩
    rw [e2]
    intro φ1 H1 σ1 s1 r1 l1
    refine ⟨φ1, _, st, ⟨r1, l1⟩, ?_⟩
    show IPost _ T Ex φ1 st H1 _ (.ok [.int z] st)
    intro φ2 H2 J s2' r2 hJ D hDn
    have r3 := r2.hide (l := []) hDn
    have sp3 : Stp φ2 st H2 (φ2.hide D) st (upd H2 D (.lst [])) := Stp.hide hDn
    refine ⟨fun i n H' => (i = 0 ∧ n = 1 ∧ H' = upd H2 D (.lst [])) ∨ (i = 1 ∧ n = 0 ∧ ∃ (φ' : Num) (a b c : Int) (d : Addr), good z a b c ∧ H' D = some (.lst [.ref d]) ∧ φ'.ids = φ.ids ++ [d] ∧ StR K mg T φ' (st ++ [.lst [.int a, .int b, .int c]]) H' ∧ Stp φ2 st H2 φ' (st ++ [.lst [.int a, .int b, .int c]]) H' ∧ D ∉ φ'.ids), ⟨1, .inl ⟨rfl, rfl, rfl⟩⟩, ?_⟩
    rintro i n H' (⟨rfl, rfl, rfl⟩ | ⟨rfl, rfl, φ', a, b, c, d, hg, eD, ei, r', sp', nD⟩)
    · obtain ⟨go, _⟩ := hJ 0 (φ2.hide D) st (upd H2 D (.lst [])) sp3 r3
      obtain ⟨gg, gy⟩ := go (by simp)
      refine .inr ⟨gg, fun H' => ∃ (φ' : Num) (a b c : Int) (d : Addr), good z a b c ∧ H' D = some (.lst [.ref d]) ∧ φ'.ids = φ.ids ++ [d] ∧ StR K mg T φ' (st ++ [.lst [.int a, .int b, .int c]]) H' ∧ Stp φ2 st H2 φ' (st ++ [.lst [.int a, .int b, .int c]]) H' ∧ D ∉ φ'.ids, fun H' q => ⟨0, by omega, .inr ⟨rfl, rfl, q⟩⟩, fun x H4 hy => ?_⟩
      obtain ⟨gr, dz, q1, q2⟩ := gy x H4 hy
      cases q1
      have r4 := r3.gr gr
      have sp4 : Stp φ2 st H2 (φ2.hide D) st H4 := sp3.trans gr.step
      have eD4 : H4 D = some (.lst []) := gr _ _ upd_same
      have l4 : SlR K (φ2.hide D) st H4 (wipeS [none, none, some (.d (.list [.int z])), none] [3]) (wipe σ1 [3]) := ((l1.mon s2').mon sp4).wipe [3]
      refine ⟨φ2.hide D, _, st, .int z, _, ⟨r4, l4⟩, q2, rfl, fun σ5 l5 ap => ⟨wipe_apart ap (by simp [Tg.ix]), ?_⟩⟩
      show tE (cxOf (L2.CX P w) P w K mg base N_rounds "_law_rounds" (defScope s) f (.ref cR) A outer s0 H Ex) T W0 (mCall fD (aCons (mVar 3) aNil)) σ5 H4 _
      obtain ⟨a, b, c, hgood, hfD⟩ := hD z st
      refine ⟨φ2.hide D, _, st, ⟨r4, l5⟩, ?_⟩
      have em : mCall fD (aCons (mVar 3) aNil) ((wipeS [none, none, some (.d (.list [.int z])), none] [3]).set 3 (some (.d (.int z)))) st = .ok (.box st.length) (st ++ [.lst [.int a, .int b, .int c]]) := hfD
      rw [em]
      intro φ5 H5 u5 s5 r5 v5
      have nlD : ¬ Live (φ2.hide D) st D := fun l => (r4.av D (.inr rfl)).2 l.mem
      have eD5 : H5 D = some (.lst []) := by
        rcases s5.keep D _ eD4 nlD rfl with q | ⟨q, _⟩
        · exact q
        · cases q
      have av5 : φ5.av D := s5.av.1 D (.inr rfl)
      obtain ⟨dd, v5a, rfl⟩ := v5
      obtain ⟨t1, e5⟩ := s5.pre
      obtain ⟨d, eids⟩ : ∃ d, φ5.ids = φ.ids ++ [d] := by
        have p1 : φ.ids <+: φ5.ids := (((g1.step (φ := φ) (st := st)).trans s1).trans (s2'.trans (sp4.trans s5))).pre
        exact ids_snoc p1 r.len (by rw [r5.len]; simp)
      have ed : dd = d := by
        rw [eids, ← r.len, List.getElem?_append_right (Nat.le_refl _), Nat.sub_self] at v5a
        exact (Option.some.inj v5a).symm
      subst ed
      refine ⟨[], eD5, by simp [PySem.sizeLine_eq], φ5, a, b, c, dd, hgood, upd_same, eids, r5.poke av5 eD5, (sp4.trans s5).poke hDn, (r5.av D av5).2⟩
    · obtain ⟨_, stop⟩ := hJ 1 φ' _ H' sp' r'
      exact .inl ⟨stop (by simp), hq z a b c D d φ' H' hz hg eD ei r' (((g1.step (φ := φ) (st := st)).trans s1).trans (s2'.trans sp')) nD⟩
end
end TL
end

section
set_option Elab.async false
set_option linter.all false
set_option maxRecDepth 100000
set_option maxHeartbeats 1000000
set_option autoImplicit false
/-! TL25: law. -/
namespace TL
open PySem L2
/-- law's body has gone well -/
def lawGood : SR → Prop
  | .nx _ _ => True
  | .ct _ _ => True
  | .bk _ _ => True
  | .rt (.d (.bool true)) _ => True
  | _ => False
def spLaw (K : PySem.W.Frag) (mg : Str → Option Value) (T : List Tb) : Sp := fun us H Q _ => ∃ (u : Addr) (ns : List Int), us = [.ref u] ∧ SqL K H u (ns.map V.int) ∧ StR K mg T ⟨[], fun _ => False⟩ [] H ∧ ∀ H', Q (.bl true) H'
section
variable {P : Program} {w : World} {K : PySem.W.Frag} {mg : Str → Option Value} {base : Heap} {T : List Tb}
theorem law_body {X : Cx} {D : DI} {k : Nat} {good : Int → Int → Int → Int → Prop} {fR : Addr} {fdR : FuncData} {W : XK} {body : List Stmt} {m : SM} {p1 p2 p3 p5 p6 p7 p8 : Pos} {j j2 : Nat} {p4 : Pos} (ci : Cin D k X) (tk : Takes X fun c d _ H => W c d H)
    (vS : D.v 0 "script" = true) (vD : D.s 1 "dice" = true) (gR : D.g "_law_rounds" = true) (hmR : X.mg "_law_rounds" = some (.ref fR)) (hkR : PySem.W.keepIn X.K (.ref fR) = true) (hbR : Binds X.K fdR ["script", "most"] []) (R : FnOk X.prog X.w X.K X.mg X.base (L2.CX X.prog X.w) k fR fdR ["script", "most"] (spR X.K X.mg T good))
    (hb : Ss X T W body m) (hN : 2 ≤ X.N.length) (plain : ∀ z a b c, good z a b c → lawGood (m (none :: some (.box 0) :: List.replicate (X.N.length - 2) none) [.lst [.int a, .int b, .int c]])) :
    ∃ t, PSs X [.For (.Name "dice" p1) (.Call (.Name "_law_rounds" p2) [.Name "script" p3, .Constant (.int 1) j p4] [] p5) body [] p6, .Return (some (.Constant (.bool true) j2 p7)) p8] t ∧
      ∀ (D' : Ends) (σ : L2.St) (H : Hp) (u : Addr) (ns : List Int), σ.length = X.N.length → σ[0]? = some (some (.ref u)) → SqL X.K H u (ns.map V.int) → StR X.K X.mg T ⟨[], fun _ => False⟩ [] H → (∀ H', D'.rt (.bl true) H') → t D' σ H := by
  obtain ⟨a1, a2, a3, a4⟩ := ci.vis vS
  obtain ⟨c1, c2, c3⟩ := ci.put vD
  obtain ⟨h1, h2, h3⟩ := ci.gl gR
  have hi : PI X (.Name "dice" p1) (.Call (.Name "_law_rounds" p2) [.Name "script" p3, .Constant (.int 1) j p4] [] p5) _ := pi_list (pe_call R ci.room h1 hmR hkR hbR .nil (pass_of tk) (pa_cons (pe_var (pos := p3) a1 a2 a3 a4) (pa_cons (pe_int (i := 1)) pa_nil)) h2)
  refine ⟨_, pss_cons (ps_for (pos := p6) ci.po ci.calm hi (pg_name (pos := p1) ci.nd c1 c2 c3) hb.run) (pss_one (ps_ret (pos := p8) pe_bl)), fun D' σ H u ns hσ h0 hsq r hq => ?_⟩
  refine ⟨.ref u, h0, u, ns, ⟨[], fun _ => False⟩, [], rfl, hsq, r, fun z a b c L d φ' H1 hz hg eL ei r1 s1 nL => ⟨L, rfl, ⟨_, .inl (.inl eL)⟩, ?_⟩⟩
  have nlv : ∀ {φ2 : Num} {st2 : Store} {H2 : Hp}, Stp φ' [.lst [.int a, .int b, .int c]] H1 φ2 st2 H2 → H2 L = some (.lst [.ref d]) := fun {φ2 st2 H2} s2 => by
    rcases s2.keep L _ eL (fun l => nL l.mem) rfl with q | ⟨q, _⟩
    · exact q
    · cases q
  refine ⟨fun i n σ' H' => H' L = some (.lst [.ref d]) ∧ ((i = 0 ∧ n = 1 ∧ σ' = σ ∧ H' = H1) ∨ (i = 1 ∧ n = 0)), ⟨1, eL, .inl ⟨rfl, rfl, rfl, rfl⟩⟩, ?_⟩
  rintro i n σ' H' ⟨eL', h | h⟩
  · obtain ⟨rfl, rfl, rfl, rfl⟩ := h
    refine .inr ⟨⟨[.ref d], .ref d, .inl (.inl eL'), rfl⟩, fun σ2 H2 => H2 L = some (.lst [.ref d]), fun σ2 H2 q => ⟨0, by omega, q, .inr ⟨rfl, rfl⟩⟩, fun x H2 hy => ?_⟩
    obtain ⟨rfl, hy⟩ := hy
    have ex := hy _ (.inl (.inl eL'))
    cases ex
    show tS X T W m _ (σ'.set 1 (some (.ref d))) _
    refine ⟨φ', none :: some (.box 0) :: List.replicate (X.N.length - 2) none, [.lst [.int a, .int b, .int c]], ⟨r1, ?_, fun i v e => ?_⟩, ?_⟩
    · rw [List.length_set, hσ]
      simp only [List.length_cons, List.length_replicate]
      omega
    · match i, e with
      | 0, e => cases e
      | 1, e =>
        cases e
        refine ⟨.ref d, ?_, d, by rw [ei]; rfl, rfl⟩
        rw [List.getElem?_set_self (by rw [hσ]; omega)]
      | i + 2, e =>
        simp only [List.getElem?_cons_succ, List.getElem?_replicate] at e
        split at e <;> cases e
    · have := plain z a b c hg
      revert this
      cases m (none :: some (.box 0) :: List.replicate (X.N.length - 2) none) [.lst [.int a, .int b, .int c]] with
      | nx sl1 st1 => exact fun _ φ2 H2 σ2 s2 _ _ => nlv s2
      | ct sl1 st1 => exact fun _ φ2 H2 σ2 s2 _ _ => nlv s2
      | bk sl1 st1 => exact fun _ φ2 H2 σ2 s2 _ _ => hq H2
      | rt v st1 =>
        intro hv φ2 H2 x s2 r2 vx
        cases v with
        | box _ => exact hv.elim
        | d y =>
          cases y with
          | bool bb =>
            cases bb with
            | false => exact hv.elim
            | true =>
              have : x = .bl true := DR.d_bool (K := X.K) (O := Av φ2 st1) (H := H2) vx
              rw [this]
              exact hq H2
          | _ => exact hv.elim
      | exn cn sl1 st1 => exact fun h => h.elim
      | stuck => exact fun h => h.elim
  · obtain ⟨rfl, rfl⟩ := h
    exact .inl ⟨⟨[.ref d], .inl (.inl eL'), by simp⟩, hq H'⟩
theorem law_ok {x : Str} {s : Stmt} {f : Addr} {fd : FuncData} {N cl : List Str} {k : Nat} {c : Addr} (F : FunC K x x s f c fd) (S : FnScope N ["script"] (defScope s)) (hN : 2 ≤ N.length)
    (hb : ∀ (A : Around) (outer : List Env) (s0 : Shared) (H : Hp) (W : XK), Cin ⟨N, defScope s, cl⟩ k (cxOf (L2.CX P w) P w K mg base N x (defScope s) f (.ref c) A outer s0 H W) → Takes (cxOf (L2.CX P w) P w K mg base N x (defScope s) f (.ref c) A outer s0 H W) (fun c d _ H => W c d H) →
      ∃ t, PSs (cxOf (L2.CX P w) P w K mg base N x (defScope s) f (.ref c) A outer s0 H W) (defBody s) t ∧
        ∀ (D' : Ends) (σ : L2.St) (H : Hp) (u : Addr) (ns : List Int), σ.length = N.length → σ[0]? = some (some (.ref u)) → SqL K H u (ns.map V.int) → StR K mg T ⟨[], fun _ => False⟩ [] H → (∀ H', D'.rt (.bl true) H') → t D' σ H) :
    FnOk P w K mg base (L2.CX P w) (k + 1) f fd ["script"] (spLaw K mg T) := by
  obtain ⟨oc, od, dV, kV, doc, pm, an, ct, osl, rfl, lk, hcd⟩ := F.ex
  refine fn_of lk hcd S ?_ ?_
  · rintro vs H Q Ex ⟨u, ns, rfl, _⟩
    rfl
  · rintro A outer s0 H vs Q Ex hr ⟨u, ns, rfl, hsq, r, hq⟩
    have tk : Takes (cxOf (L2.CX P w) P w K mg base N x (defScope s) f (.ref c) A outer s0 H Ex) (fun c d _ H => Ex c d H) := takes_of rfl rfl rfl rfl
    have ci : Cin ⟨N, defScope s, cl⟩ k (cxOf (L2.CX P w) P w K mg base N x (defScope s) f (.ref c) A outer s0 H Ex) := ⟨rfl, rfl, S.nd, hr, rfl, fun _ _ => rfl, passes_of rfl⟩
    obtain ⟨t, h1, h2⟩ := hb A outer s0 H Ex ci tk
    refine ⟨t, h1, h2 _ _ _ u ns ?_ ?_ hsq r hq⟩
    · simp [L2.start]; omega
    · rfl
end
end TL
end

section
set_option Elab.async false
set_option linter.all false
set_option maxRecDepth 100000
set_option maxHeartbeats 1000000
set_option autoImplicit false
/-! TL26: from the head's facts. -/
namespace TL
open PySem L2
section
variable {P : Program} {w : World} {K : PySem.W.Frag} {mg : Str → Option Value} {base : Heap} {T : List Tb}
theorem funC_of {p : He.Defn} {x qual : Str} {s : Stmt} {fd : FuncData} (F : FunD K x qual (defArgs s) (defBody s) (defScope s) [] [] (He.fAd K p) fd) : FunC K x qual s (He.fAd K p) (He.codeOf K p) fd := by
  obtain ⟨oc, od, dV, kV, doc, pm, an, cdv, ct, osl, rfl, lk, hcd, _, _⟩ := F.ex
  obtain ⟨c, rfl⟩ := He.codeIn_ref hcd
  have e := He.codeOf_eq lk (c := c) rfl
  rw [e]
  exact ⟨oc, od, dV, kV, doc, pm, an, ct, osl, rfl, lk, hcd⟩
theorem str0 {H : Hp} (h : ∀ t ∈ T, H t.P = some (.tbl #[])) : StR K mg T ⟨[], fun _ => False⟩ [] H :=
  ⟨rfl, List.nodup_nil, fun _ z => z.elim, fun n c a e _ => by simp at e, fun t ht => ⟨#[], h t ht, trivial, fun pos cv q e _ => by cases e⟩⟩
/-- the tables of the defs that make code objects -/
def tabsT (K : PySem.W.Frag) (tn : List (He.Defn × (Nat → Nat → Option Str))) : List Tb := tn.map fun q => ⟨(He.cT K q.1).2, q.2⟩
theorem homes {tn : List (He.Defn × (Nat → Nat → Option Str))} (nd : ((tn.map fun q => (He.cT K q.1).2)).Nodup) (TB : ∀ p ∈ tn.map (fun q => He.cT K q.1), LamX.TabB base mg p.1 p.2) : ∀ q ∈ tn, HomeOk base mg (tabsT K tn) (He.codeOf K q.1) ⟨(He.cT K q.1).2, q.2⟩ := fun q hq => by
  refine ⟨TB (He.cT K q.1) (List.mem_map.mpr ⟨q, hq, rfl⟩), List.mem_map.mpr ⟨q, hq, rfl⟩, fun t' ht' e => ?_⟩
  obtain ⟨q', hq', rfl⟩ := List.mem_map.mp ht'
  have : q' = q := by
    have key : ∀ {l : List (He.Defn × (Nat → Nat → Option Str))}, (l.map fun q => (He.cT K q.1).2).Nodup → q ∈ l → q' ∈ l → (He.cT K q'.1).2 = (He.cT K q.1).2 → q' = q := by
      intro l
      induction l with
      | nil => intro _ h; cases h
      | cons a l ih =>
        intro nd h h' e
        rw [List.map_cons, List.nodup_cons] at nd
        rcases List.mem_cons.mp h with h1 | h1
        · rcases List.mem_cons.mp h' with h2 | h2
          · exact h2.trans h1.symm
          · exact absurd (List.mem_map.mpr ⟨q', h2, by rw [e, h1]⟩) nd.1
        · rcases List.mem_cons.mp h' with h2 | h2
          · exact absurd (List.mem_map.mpr ⟨q, h1, by rw [← e, h2]⟩) nd.1
          · exact ih nd.2 h1 h2 e
    exact key nd hq hq' e
  rw [this]
theorem told_of {x a : Str} {s : Stmt} {g : Addr} {fd : FuncData} {tbl : List (Str × Str)} {p1 p2 p3 p8 : Pos} {h0 : ExceptHandler} {hs : List ExceptHandler} (F : FunD K x x (defArgs s) (defBody s) (defScope s) [] [] g fd) (hm : mg x = some (.ref g)) (b : L2.Binds K fd [a] []) (S : FnScope [a] [a] (defScope s))
    (hbody : defBody s = [.Try [.Return (some (.Call (.Name a p1) [] [] p2)) p3] (h0 :: hs) [] [] p8]) (hcl : Clauses (h0 :: hs) tbl) (hd : (a == ("__debug__" : Str)) = false) (hcd : (a == ("__classdict__" : Str)) = false) (hva : (defScope s).names.lookup a = some .local)
    (hcs : (tbl.all fun e => decide ((defScope s).names.lookup e.1 = some .globalImplicit) && !(e.1 == ("__debug__" : Str))) = true) (hC : ∀ e ∈ tbl.map (·.1), mg e = some (.ref (He.ga K e)))
    (hx : ∀ c ∈ tbl.map (·.1), ∀ e ∈ tbl.map (·.1), PySem.W.exmOne K (.ref (He.ga K c)) (.ref (He.ga K e)) = some (decide (c = e))) : ToldOk K mg x tbl := by
  obtain ⟨oc, od, dV, kV, doc, pm, an, cdv, ct, osl, rfl, lk, hcdi, _, _⟩ := F.ex
  rw [hbody] at lk b
  refine ⟨⟨g, defArgs s, defScope s, dV, kV, doc, pm, cdv, ct, oc, an, od, osl, a, p1, p2, p3, p8, h0, hs, hm, F.kp, lk, hcdi, b, S, .inl hva, hd, hcd, hcl, fun e he => ?_⟩, fun c w C hl hmc e he CS hms => ?_⟩
  · obtain ⟨q, hq, rfl⟩ := List.mem_map.mp he
    have := List.all_eq_true.mp hcs q hq
    simp only [Bool.and_eq_true, decide_eq_true_eq, Bool.not_eq_true'] at this
    exact ⟨this.1, this.2, _, hC _ he⟩
  · have hc : c ∈ tbl.map (·.1) := by
      have key : ∀ {l : List (Str × Str)}, l.lookup c = some w → c ∈ l.map (·.1) := by
        intro l
        induction l with
        | nil => intro h; cases h
        | cons q l ih =>
          obtain ⟨q1, q2⟩ := q
          intro h
          rw [List.lookup_cons] at h
          by_cases hb : c = q1
          · simp [hb]
          · rw [show (c == q1) = false from by simp [hb]] at h
            exact List.mem_cons_of_mem _ (ih h)
      exact key hl
    rw [hC c hc] at hmc
    rw [hC e he] at hms
    cases hmc
    cases hms
    exact hx c hc e he
/-- the facts of exceptions, all pairs -/
def exms (l : List Str) : List He.Fa := l.flatMap fun c => l.map fun e => .exm c e (decide (c = e))
theorem exms_mem {l : List Str} {c e : Str} (hc : c ∈ l) (he : e ∈ l) : He.Fa.exm c e (decide (c = e)) ∈ exms l := List.mem_flatMap.mpr ⟨c, hc, List.mem_map.mpr ⟨e, he, rfl⟩⟩
end
end TL
end

section
set_option linter.all false
set_option maxRecDepth 100000
set_option maxHeartbeats 2000000
namespace TL
open PySem L2
/-- what one turn of a loop must do -/
def turnOk (I : Slots → Store → Prop) (B : SR → Prop) : SR → Prop
  | .nx sl st => I sl st
  | .ct sl st => I sl st
  | .bk sl st => B (.nx sl st)
  | .rt v st => B (.rt v st)
  | .exn c sl st => B (.exn c sl st)
  | .stuck => False
theorem forL_inv {tg : Tg} {b : SM} {B : SR → Prop} (I : Nat → Slots → Store → Prop) :
    ∀ (xs : List PyData) (k : Nat) (sl : Slots) (st : Store), I k sl st →
      (∀ j x sl st, xs[j]? = some x → I (k + j) sl st → ∃ sl1, tg.put x sl = some sl1 ∧ turnOk (I (k + j + 1)) B (b sl1 st)) →
      (∀ sl st, I (k + xs.length) sl st → B (.nx sl st)) → B (forL tg b xs sl st)
  | [], k, sl, st, h, _, he => he _ _ (by simpa using h)
  | x :: xs, k, sl, st, h, hs, he => by
    obtain ⟨sl1, h1, h2⟩ := hs 0 x sl st rfl (by simpa using h)
    have rc0 := fun sl2 st2 (h3 : I (k + 1) sl2 st2) => forL_inv I xs (k + 1) sl2 st2 h3
      (fun j y sl st hy hI => by
        have := hs (j + 1) y sl st (by simpa using hy) (by rw [show k + (j + 1) = k + 1 + j from by omega]; exact hI)
        rw [show k + (j + 1) + 1 = k + 1 + j + 1 from by omega] at this; exact this)
      (fun sl st hI => he sl st (by rw [show k + (x :: xs).length = k + 1 + xs.length from by simp; omega]; exact hI))
    rw [show k + 0 + 1 = k + 1 from by omega] at h2
    simp only [forL, h1]
    generalize b sl1 st = r at h2
    cases r with
    | nx sl2 st2 => exact rc0 sl2 st2 h2
    | ct sl2 st2 => exact rc0 sl2 st2 h2
    | bk sl2 st2 => exact h2
    | rt v st2 => exact h2
    | exn c sl2 st2 => exact h2
    | stuck => exact absurd h2 id
theorem for_inv {tg : Tg} {b : SM} {B : SR → Prop} (I : Nat → Slots → Store → Prop) {xs : List PyData} {sl : Slots} {st : Store} (h0 : I 0 sl st)
    (hs : ∀ j x sl st, xs[j]? = some x → I j sl st → ∃ sl1, tg.put x sl = some sl1 ∧ turnOk (I (j + 1)) B (b sl1 st))
    (he : ∀ sl st, I xs.length sl st → B (.nx sl st)) : B (forL tg b xs sl st) :=
  forL_inv I xs 0 sl st h0 (fun j x sl st hx hI => by
    rw [Nat.zero_add] at hI ⊢; exact hs j x sl st hx hI) (fun sl st hI => he sl st (by rw [Nat.zero_add] at hI; exact hI))
theorem whileN_inv {c : TM} {b : SM} {B : SR → Prop} (I : Nat → Slots → Store → Prop) :
    ∀ (n k : Nat) (sl : Slots) (st : Store), I k sl st →
      (∀ j sl st, I j sl st → (c sl st = .ok false st ∧ B (.nx sl st)) ∨ (c sl st = .ok true st ∧ turnOk (I (j + 1)) B (b sl st))) →
      (∀ sl st, ¬ I (k + n) sl st) → B (whileN c b n sl st)
  | 0, k, sl, st, h, _, hn => absurd h (hn _ _)
  | n + 1, k, sl, st, h, hs, hn => by
    rcases hs k sl st h with ⟨h1, h2⟩ | ⟨h1, h2⟩
    · simp only [whileN, h1, aS_ok, cond_false]; exact h2
    · simp only [whileN, h1, aS_ok, cond_true]
      have rc0 := fun sl2 st2 (h3 : I (k + 1) sl2 st2) => whileN_inv I n (k + 1) sl2 st2 h3 hs
        (fun sl st hI => hn sl st (by rw [show k + (n + 1) = k + 1 + n from by omega]; exact hI))
      generalize b sl st = r at h2
      cases r with
      | nx sl2 st2 => exact rc0 sl2 st2 h2
      | ct sl2 st2 => exact rc0 sl2 st2 h2
      | bk sl2 st2 => exact h2
      | rt v st2 => exact h2
      | exn c sl2 st2 => exact h2
      | stuck => exact absurd h2 id
theorem while_inv {c : TM} {b : SM} {B : SR → Prop} (I : Nat → Slots → Store → Prop) {sl : Slots} {st : Store} (h0 : I 0 sl st)
    (hs : ∀ j sl st, I j sl st → (c sl st = .ok false st ∧ B (.nx sl st)) ∨ (c sl st = .ok true st ∧ turnOk (I (j + 1)) B (b sl st)))
    (hn : ∀ sl st, ¬ I 1000000 sl st) : B (sWhile c b sl st) :=
  whileN_inv I 1000000 0 sl st h0 hs (fun sl st hI => hn sl st (by simpa using hI))
/-- what range(n) walks -/
theorem range1_at {n j : Nat} {x : PyData} (h : (rangeN 0 1 n)[j]? = some x) : x = .int j ∧ j < n := by
  simp only [rangeN, List.getElem?_map, List.getElem?_range', List.getElem?_range] at h
  rcases Nat.lt_or_ge j n with hj | hj
  · simp [hj] at h; exact ⟨h.symm, hj⟩
  · simp [List.getElem?_eq_none, hj] at h
theorem rangeN_length (lo step : Int) (n : Nat) : (rangeN lo step n).length = n := by simp [rangeN]
/-- a comprehension whose element is plain: condition and element give what g and f say, the store stays -/
theorem compL_plain {tg : Tg} {c : TM} {e : EM} {sl : Slots} {st : Store} (g : PyData → Bool) (f : PyData → PyData) :
    ∀ xs : List PyData, (∀ x ∈ xs, ∃ sl1, tg.put x sl = some sl1 ∧ c sl1 st = .ok (g x) st ∧ (g x = true → e sl1 st = .ok (.d (f x)) st)) →
      compL tg c e sl xs st = .ok ((xs.filter g).map f) st
  | [], _ => rfl
  | x :: xs, h => by
    obtain ⟨sl1, h1, h2, h3⟩ := h x (by simp)
    have ih := compL_plain g f xs (fun y hy => h y (by simp [hy]))
    cases hg : g x
    · simp [compL, h1, h2, hg, ih, R.bind]
    · simp [compL, h1, h2, hg, h3 hg, ih, R.bind, R.opt, deref, dataOf]
/-- a comprehension with elements that change the store -/
theorem compL_inv {tg : Tg} {e : EM} {sl : Slots} (I : Nat → Store → List PyData → Prop) :
    ∀ (xs : List PyData) (k : Nat) (st : Store) (ys : List PyData), I k st ys →
      (∀ j x st ys, xs[j]? = some x → I (k + j) st ys → ∃ sl1, tg.put x sl = some sl1 ∧ ∃ y st1, e sl1 st = .ok (.d y) st1 ∧ I (k + j + 1) st1 (ys ++ [y])) →
      ∃ zs st1, compL tg tYes e sl xs st = .ok zs st1 ∧ I (k + xs.length) st1 (ys ++ zs)
  | [], k, st, ys, h, _ => ⟨[], st, rfl, by simpa using h⟩
  | x :: xs, k, st, ys, h, hs => by
    obtain ⟨sl1, h1, y, st1, h2, h3⟩ := hs 0 x st ys rfl (by simpa using h)
    obtain ⟨zs, st2, h4, h5⟩ := compL_inv I xs (k + 1) st1 (ys ++ [y]) (by simpa using h3)
      (fun j y st ys hy hI => by
        have := hs (j + 1) y st ys (by simpa using hy) (by rw [show k + (j + 1) = k + 1 + j from by omega]; exact hI)
        rw [show k + (j + 1) + 1 = k + 1 + j + 1 from by omega] at this; exact this)
    refine ⟨y :: zs, st2, ?_, ?_⟩
    · simp [compL, h1, tYes, R.bind, h2, h4]
    · rw [show k + (x :: xs).length = k + 1 + xs.length from by simp; omega]; simpa using h5
theorem comp_inv {tg : Tg} {e : EM} {sl : Slots} (I : Nat → Store → List PyData → Prop) {xs : List PyData} {st : Store} (h0 : I 0 st [])
    (hs : ∀ j x st ys, xs[j]? = some x → I j st ys → ∃ sl1, tg.put x sl = some sl1 ∧ ∃ y st1, e sl1 st = .ok (.d y) st1 ∧ I (j + 1) st1 (ys ++ [y])) :
    ∃ zs st1, compL tg tYes e sl xs st = .ok zs st1 ∧ I xs.length st1 zs := by
  have := compL_inv I xs 0 st [] h0 (fun j x st ys hx hI => by rw [Nat.zero_add] at hI ⊢; exact hs j x st ys hx hI)
  simpa using this
end TL
end

section
set_option Elab.async false
set_option linter.all false
set_option maxRecDepth 100000
set_option maxHeartbeats 1000000
set_option autoImplicit false
/-! TY1: what a def computes, as typed Lean functions: the relation to slots and store. -/
namespace TY
open PySem L2 TL
/-- a field's value: data, or a list or dict of its own -/
inductive FV where
  | d (x : PyData)
  | lst (xs : List PyData)
  | dic (kvs : List (PyData × PyData))
inductive VC where
  | lst (xs : List PyData)
  | dic (kvs : List (PyData × PyData))
  | ldic (kvs : List (PyData × PyData))
  | obj (c : Str) (fs : List (Str × FV))
inductive It where
  | junk
  | d (x : PyData)
  | c (k : VC)
  | p (a : Nat) (k : VC)
  | r (a : Nat) (k : VC)
abbrev Env := List It
def fvAt (st : Store) (v : Val) : FV → List Nat → Prop
  | .d x, b => v = .d x ∧ b = []
  | .lst xs, b => ∃ n, v = .box n ∧ st[n]? = some (.lst xs) ∧ b = [n]
  | .dic kvs, b => ∃ n, v = .box n ∧ st[n]? = some (.dic kvs) ∧ b = [n]
def fsAt (st : Store) : List (Str × Val) → List (Str × FV) → List Nat → Prop
  | [], [], b => b = []
  | (f, v) :: r, (g, u) :: s, b => f = g ∧ ∃ b1 b2, b = b1 ++ b2 ∧ fvAt st v u b1 ∧ fsAt st r s b2
  | _, _, _ => False
def vcAt (st : Store) (a : Nat) : VC → List Nat → Prop
  | .lst xs, fp => st[a]? = some (.lst xs) ∧ fp = []
  | .dic kvs, fp => st[a]? = some (.dic kvs) ∧ fp = []
  | .ldic kvs, fp => st[a]? = some (.ldic kvs) ∧ fp = []
  | .obj c fs, fp => ∃ vs, st[a]? = some (.obj c vs) ∧ fsAt st vs fs fp
structure Base where
  st0 : Store
  M : List Nat
  w : Bool
abbrev Base.n0 (B : Base) : Nat := B.st0.length
def holds (B : Base) (F : Nat → List Nat) (sl : Slots) (st : Store) (i : Nat) : It → Prop
  | .junk => F i = []
  | .d x => F i = [] ∧ sl[i]? = some (some (.d x))
  | .c k => ∃ a fp, F i = a :: fp ∧ sl[i]? = some (some (.box a)) ∧ vcAt st a k fp
  | .p a k => ∃ fp, F i = a :: fp ∧ sl[i]? = some (some (.box a)) ∧ vcAt st a k fp
  | .r a k => F i = [] ∧ sl[i]? = some (some (.box a)) ∧ ∃ fp, vcAt B.st0 a k fp ∧ ∀ x ∈ a :: fp, x ∉ B.M
/-- what a box in a slot holds -/
def cellAt (env : Env) (i : Nat) : Option VC :=
  match env[i]? with
  | some (.c k) => some k
  | some (.p _ k) => some k
  | some (.r _ k) => some k
  | _ => none
/-- .. that may be changed -/
def wrAt (env : Env) (i : Nat) : Option VC :=
  match env[i]? with
  | some (.c k) => some k
  | some (.p _ k) => some k
  | _ => none
def reC (k : VC) : It → It
  | .p a _ => .p a k
  | _ => .c k
def updC (env : Env) (i : Nat) (k : VC) : Env :=
  match env[i]? with
  | some it => env.set i (reC k it)
  | none => env
structure RelF (B : Base) (F : Nat → List Nat) (env : Env) (sl : Slots) (st : Store) : Prop where
  len : sl.length = env.length
  le : B.n0 ≤ st.length
  hold : ∀ i it, env[i]? = some it → holds B F sl st i it
  off : ∀ i, env.length ≤ i → F i = []
  dis : ∀ i j x, x ∈ F i → x ∈ F j → i = j
  nd : ∀ i, (F i).Nodup
  inM : ∀ i x, x ∈ F i → B.n0 ≤ x ∨ x ∈ B.M
  fr : ∀ a, a < B.n0 → a ∉ B.M → st[a]? = B.st0[a]?
  wf : B.w = true → ∀ a c, a < B.n0 → st[a]? = some c → cellBelow B.n0 c = true
  gw : ∀ (a : Nat) (c : Cell), st[a]? = some c → cellBelow st.length c = true
structure Rl (B : Base) (env ext : Env) (sl exs : Slots) (st : Store) : Prop where
  len : sl.length = env.length
  ex : ∃ F, RelF B F (env ++ ext) (sl ++ exs) st
/-! ### the store's cells -/
theorem fvAt.keep {st st' : Store} {v : Val} : ∀ {u : FV} {b : List Nat}, fvAt st v u b → (∀ x ∈ b, st'[x]? = st[x]?) → fvAt st' v u b
  | .d x, b, h, _ => h
  | .lst xs, b, ⟨n, h1, h2, h3⟩, hk => ⟨n, h1, by rw [hk n (by rw [h3]; simp)]; exact h2, h3⟩
  | .dic xs, b, ⟨n, h1, h2, h3⟩, hk => ⟨n, h1, by rw [hk n (by rw [h3]; simp)]; exact h2, h3⟩
theorem fsAt.keep {st st' : Store} : ∀ {vs : List (Str × Val)} {fs : List (Str × FV)} {b : List Nat}, fsAt st vs fs b → (∀ x ∈ b, st'[x]? = st[x]?) → fsAt st' vs fs b
  | [], [], b, h, _ => h
  | (f, v) :: r, (g, u) :: s, b, ⟨h1, b1, b2, h2, h3, h4⟩, hk => ⟨h1, b1, b2, h2, h3.keep fun x hx => hk x (by rw [h2]; simp [hx]), h4.keep fun x hx => hk x (by rw [h2]; simp [hx])⟩
  | [], _ :: _, _, h, _ => h.elim
  | _ :: _, [], _, h, _ => h.elim
theorem vcAt.keep {st st' : Store} {a : Nat} : ∀ {k : VC} {fp : List Nat}, vcAt st a k fp → (∀ x ∈ a :: fp, st'[x]? = st[x]?) → vcAt st' a k fp
  | .lst xs, fp, ⟨h1, h2⟩, hk => ⟨by rw [hk a (by simp)]; exact h1, h2⟩
  | .dic xs, fp, ⟨h1, h2⟩, hk => ⟨by rw [hk a (by simp)]; exact h1, h2⟩
  | .ldic xs, fp, ⟨h1, h2⟩, hk => ⟨by rw [hk a (by simp)]; exact h1, h2⟩
  | .obj c fs, fp, ⟨vs, h1, h2⟩, hk => ⟨vs, by rw [hk a (by simp)]; exact h1, h2.keep fun x hx => hk x (by simp [hx])⟩
theorem fvAt.lt {st : Store} {v : Val} : ∀ {u : FV} {b : List Nat}, fvAt st v u b → ∀ x ∈ b, x < st.length
  | .d x, b, ⟨_, h⟩, y, hy => by rw [h] at hy; cases hy
  | .lst xs, b, ⟨n, h1, h2, h3⟩, y, hy => by
    rw [h3] at hy; simp at hy; subst hy; exact (List.getElem?_eq_some_iff.mp h2).1
  | .dic xs, b, ⟨n, h1, h2, h3⟩, y, hy => by
    rw [h3] at hy; simp at hy; subst hy; exact (List.getElem?_eq_some_iff.mp h2).1
theorem fsAt.lt {st : Store} : ∀ {vs : List (Str × Val)} {fs : List (Str × FV)} {b : List Nat}, fsAt st vs fs b → ∀ x ∈ b, x < st.length
  | [], [], b, h, y, hy => by rw [show b = [] from h] at hy; cases hy
  | (f, v) :: r, (g, u) :: s, b, ⟨h1, b1, b2, h2, h3, h4⟩, y, hy => by
    rw [h2] at hy
    rcases List.mem_append.mp hy with q | q
    · exact h3.lt y q
    · exact h4.lt y q
  | [], _ :: _, _, h, _, _ => h.elim
  | _ :: _, [], _, h, _, _ => h.elim
theorem vcAt.lt {st : Store} {a : Nat} : ∀ {k : VC} {fp : List Nat}, vcAt st a k fp → ∀ x ∈ a :: fp, x < st.length
  | .lst xs, fp, ⟨h1, h2⟩, y, hy => by rw [h2] at hy; simp at hy; subst hy; exact (List.getElem?_eq_some_iff.mp h1).1
  | .dic xs, fp, ⟨h1, h2⟩, y, hy => by rw [h2] at hy; simp at hy; subst hy; exact (List.getElem?_eq_some_iff.mp h1).1
  | .ldic xs, fp, ⟨h1, h2⟩, y, hy => by rw [h2] at hy; simp at hy; subst hy; exact (List.getElem?_eq_some_iff.mp h1).1
  | .obj c fs, fp, ⟨vs, h1, h2⟩, y, hy => by
    rcases List.mem_cons.mp hy with q | q
    · subst q; exact (List.getElem?_eq_some_iff.mp h1).1
    · exact h2.lt y q
/-! ### the relation's steps -/
section
variable {B : Base} {F : Nat → List Nat} {env env' ext : Env} {sl sl' exs : Slots} {st st' : Store} {i : Nat} {it it' : It}
theorem RelF.lt (h : RelF B F env sl st) {x : Nat} (hx : x ∈ F i) : x < st.length := by
  rcases Nat.lt_or_ge i env.length with hi | hi
  · have := h.hold i _ (List.getElem?_eq_getElem hi)
    revert this
    cases env[i] with
    | junk => intro q; rw [show F i = [] from q] at hx; cases hx
    | d y => intro q; rw [q.1] at hx; cases hx
    | c k => rintro ⟨a, fp, e, _, hv⟩; rw [e] at hx; exact hv.lt x hx
    | p a k => rintro ⟨fp, e, _, hv⟩; rw [e] at hx; exact hv.lt x hx
    | r a k => rintro ⟨e, _⟩; rw [e] at hx; cases hx
  · rw [h.off i hi] at hx; cases hx
theorem holds.keep {F' : Nat → List Nat} (h : holds B F sl st i it) (hF : F' i = F i) (hs : sl'[i]? = sl[i]?) (hk : ∀ x ∈ F i, st'[x]? = st[x]?) : holds B F' sl' st' i it := by
  cases it with
  | junk => exact hF.trans h
  | d y => exact ⟨hF.trans h.1, hs.trans h.2⟩
  | c k =>
    obtain ⟨a, fp, e, h1, h2⟩ := h
    exact ⟨a, fp, hF.trans e, hs.trans h1, h2.keep fun x hx => hk x (by rw [e]; exact hx)⟩
  | p a k =>
    obtain ⟨fp, e, h1, h2⟩ := h
    exact ⟨fp, hF.trans e, hs.trans h1, h2.keep fun x hx => hk x (by rw [e]; exact hx)⟩
  | r a k =>
    obtain ⟨e, h1, h2⟩ := h
    exact ⟨hF.trans e, hs.trans h1, h2⟩
theorem cellBelow_mono {k l : Nat} {c : Cell} (h : cellBelow k c = true) (hl : k ≤ l) : cellBelow l c = true := by
  cases c with
  | obj n fs =>
    simp only [cellBelow, List.all_eq_true] at h ⊢
    intro p hp
    have := h p hp
    revert this
    cases p.2 with
    | d x => intro _; rfl
    | box m => simp only [boxBelow, decide_eq_true_eq]; omega
  | _ => rfl
/-- one item is made anew -/
theorem RelF.put (h : RelF B F env sl st) (hi : i < env.length) (G : List Nat)
    (hlen : sl'.length = sl.length) (hsl : ∀ j, j ≠ i → sl'[j]? = sl[j]?)
    (hle : st.length ≤ st'.length) (hst : ∀ x, x ∉ F i → x < st.length → st'[x]? = st[x]?)
    (hG : ∀ x ∈ G, x ∈ F i ∨ st.length ≤ x) (hn : G.Nodup) (hit : holds B (fun j => if j = i then G else F j) sl' st' i it')
    (hwf : B.w = true → ∀ a c, a < B.n0 → a ∈ F i → st'[a]? = some c → cellBelow B.n0 c = true)
    (hgw : ∀ a c, a ∈ F i ∨ st.length ≤ a → st'[a]? = some c → cellBelow st'.length c = true) :
    RelF B (fun j => if j = i then G else F j) (env.set i it') sl' st' where
  len := by rw [hlen, List.length_set]; exact h.len
  le := Nat.le_trans h.le hle
  hold := fun j it2 hj => by
    by_cases e : j = i
    · subst e
      rw [List.getElem?_set_self hi] at hj
      cases hj; exact hit
    · rw [List.getElem?_set_ne (fun q => e q.symm)] at hj
      refine (h.hold j it2 hj).keep (by simp [e]) (hsl j e) fun x hx => hst x (fun q => e (h.dis j i x hx q)) (h.lt hx)
  off := fun j hj => by
    rw [List.length_set] at hj
    have e : j ≠ i := by omega
    simp [e, h.off j hj]
  dis := fun j l x hj hl => by
    by_cases e1 : j = i
    · by_cases e2 : l = i
      · rw [e1, e2]
      · simp only [e1, if_true] at hj
        simp only [e2, if_false] at hl
        rcases hG x hj with q | q
        · rw [e1]; exact h.dis i l x q hl
        · have := h.lt hl; omega
    · by_cases e2 : l = i
      · simp only [e1, if_false] at hj
        simp only [e2, if_true] at hl
        rcases hG x hl with q | q
        · rw [e2]; exact h.dis j i x hj q
        · have := h.lt hj; omega
      · simp only [e1, if_false] at hj
        simp only [e2, if_false] at hl
        exact h.dis j l x hj hl
  nd := fun j => by
    by_cases e : j = i
    · simp only [e, if_true]; exact hn
    · simp only [e, if_false]; exact h.nd j
  inM := fun j x hx => by
    by_cases e : j = i
    · simp only [e, if_true] at hx
      rcases hG x hx with q | q
      · exact h.inM i x q
      · have := h.le; exact .inl (Nat.le_trans this q)
    · simp only [e, if_false] at hx
      exact h.inM j x hx
  fr := fun a ha hm => by
    rw [← h.fr a ha hm]
    refine hst a (fun q => ?_) (Nat.lt_of_lt_of_le ha h.le)
    rcases h.inM i a q with z | z
    · exact absurd ha (by omega)
    · exact hm z
  wf := fun hw a c ha hc => by
    by_cases q : a ∈ F i
    · exact hwf hw a c ha q hc
    · rw [hst a q (Nat.lt_of_lt_of_le ha h.le)] at hc
      exact h.wf hw a c ha hc
  gw := fun a c hc => by
    by_cases q : a ∈ F i
    · exact hgw a c (.inl q) hc
    · rcases Nat.lt_or_ge a st.length with z | z
      · rw [hst a q z] at hc
        exact cellBelow_mono (h.gw a c hc) hle
      · exact hgw a c (.inr z) hc
/-- what was known is known less -/
def wk : Env → Env → Prop
  | [], [] => True
  | a :: as, b :: bs => (b = .junk ∨ a = b) ∧ wk as bs
  | _, _ => False
theorem wk.len : ∀ {e e' : Env}, wk e e' → e.length = e'.length
  | [], [], _ => rfl
  | _ :: _, _ :: _, h => by simp [h.2.len]
  | [], _ :: _, h => h.elim
  | _ :: _, [], h => h.elim
theorem wk.at : ∀ {e e' : Env} {i : Nat} {it : It}, wk e e' → e'[i]? = some it → it = .junk ∨ e[i]? = some it
  | a :: as, b :: bs, 0, it, h, hi => by
    simp at hi; subst hi
    rcases h.1 with q | q
    · exact .inl q
    · exact .inr (by simp [q])
  | a :: as, b :: bs, i + 1, it, h, hi => by
    simp at hi ⊢
    exact wk.at h.2 hi
  | [], [], _, _, _, hi => by simp at hi
  | [], _ :: _, _, _, h, _ => h.elim
  | _ :: _, [], _, _, h, _ => h.elim
theorem wk.refl : ∀ e : Env, wk e e
  | [] => trivial
  | _ :: es => ⟨.inr rfl, wk.refl es⟩
theorem wk_n : wk [] [] := trivial
theorem wk_k {a : It} {as bs : Env} (h : wk as bs) : wk (a :: as) (a :: bs) := ⟨.inr rfl, h⟩
theorem wk_o {a : It} {as bs : Env} (h : wk as bs) : wk (a :: as) (.junk :: bs) := ⟨.inl rfl, h⟩
theorem wk.app : ∀ {a b c d : Env}, wk a b → wk c d → wk (a ++ c) (b ++ d)
  | [], [], _, _, _, h => h
  | _ :: _, _ :: _, _, _, h, h2 => ⟨h.1, wk.app h.2 h2⟩
  | [], _ :: _, _, _, h, _ => h.elim
  | _ :: _, [], _, _, h, _ => h.elim
open Classical in
theorem RelF.weak (h : RelF B F env sl st) (hw : wk env env') : ∃ F', RelF B F' env' sl st := by
  refine ⟨fun i => if env'[i]? = some .junk then [] else F i, ?_⟩
  have sub : ∀ i x, x ∈ (if env'[i]? = some .junk then [] else F i) → x ∈ F i := by
    intro i x hx
    split at hx
    · cases hx
    · exact hx
  exact {
    len := h.len.trans hw.len
    le := h.le
    hold := fun i it hi => by
      rcases hw.at hi with q | q
      · subst q; simp [holds, hi]
      · by_cases e : it = .junk
        · subst e; simp [holds, hi]
        · refine (h.hold i it q).keep ?_ rfl fun _ _ => rfl
          rw [if_neg]; rw [hi]; intro z; exact e (Option.some.inj z)
    off := fun i hi => by
      have := h.off i (by rw [hw.len]; exact hi)
      simp [this]
    dis := fun i j x h1 h2 => h.dis i j x (sub i x h1) (sub j x h2)
    nd := fun i => by
      show (if env'[i]? = some .junk then [] else F i).Nodup
      split
      · exact List.nodup_nil
      · exact h.nd i
    inM := fun i x hx => h.inM i x (sub i x hx)
    fr := h.fr
    wf := h.wf
    gw := h.gw }
/-- a value is laid behind -/
theorem RelF.push (h : RelF B F env sl st) (v : Option Val) (it : It) (G : List Nat) (hle : st.length ≤ st'.length) (hst : ∀ x, x < st.length → st'[x]? = st[x]?)
    (hG : ∀ x ∈ G, st.length ≤ x) (hn : G.Nodup) (hit : holds B (fun j => if j = env.length then G else F j) (sl ++ [v]) st' env.length it)
    (hgw : ∀ a c, st.length ≤ a → st'[a]? = some c → cellBelow st'.length c = true) :
    RelF B (fun j => if j = env.length then G else F j) (env ++ [it]) (sl ++ [v]) st' where
  len := by simp [h.len]
  le := Nat.le_trans h.le hle
  hold := fun j it2 hj => by
    by_cases e : j = env.length
    · subst e
      simp at hj
      subst hj; exact hit
    · have hj2 : j < env.length := by
        rcases Nat.lt_or_ge j env.length with q | q
        · exact q
        · have : (env ++ [it])[j]? = none := by
            apply List.getElem?_eq_none
            simp; omega
          rw [this] at hj; cases hj
      rw [List.getElem?_append_left hj2] at hj
      refine (h.hold j it2 hj).keep (by simp [e]) ?_ fun x hx => hst x (h.lt hx)
      rw [List.getElem?_append_left (by rw [h.len]; exact hj2)]
  off := fun j hj => by
    simp at hj
    have e : j ≠ env.length := by omega
    simp [e, h.off j (by omega)]
  dis := fun j l x hj hl => by
    by_cases e1 : j = env.length
    · by_cases e2 : l = env.length
      · rw [e1, e2]
      · simp only [e1, if_true] at hj
        simp only [e2, if_false] at hl
        have := hG x hj; have := h.lt hl; omega
    · by_cases e2 : l = env.length
      · simp only [e1, if_false] at hj
        simp only [e2, if_true] at hl
        have := hG x hl; have := h.lt hj; omega
      · simp only [e1, if_false] at hj
        simp only [e2, if_false] at hl
        exact h.dis j l x hj hl
  nd := fun j => by
    by_cases e : j = env.length
    · simp only [e, if_true]; exact hn
    · simp only [e, if_false]; exact h.nd j
  inM := fun j x hx => by
    by_cases e : j = env.length
    · simp only [e, if_true] at hx
      have := hG x hx; have := h.le; exact .inl (by omega)
    · simp only [e, if_false] at hx
      exact h.inM j x hx
  fr := fun a ha hm => by
    rw [← h.fr a ha hm]
    exact hst a (Nat.lt_of_lt_of_le ha h.le)
  wf := fun hw a c ha hc => by
    rw [hst a (Nat.lt_of_lt_of_le ha h.le)] at hc
    exact h.wf hw a c ha hc
  gw := fun a c hc => by
    rcases Nat.lt_or_ge a st.length with z | z
    · rw [hst a z] at hc
      exact cellBelow_mono (h.gw a c hc) hle
    · exact hgw a c z hc
/-! ### .. with what is laid behind -/
theorem Rl.slot (h : Rl B env ext sl exs st) {x : PyData} (he : env[i]? = some (.d x)) : sl[i]? = some (some (.d x)) := by
  obtain ⟨F, hF⟩ := h.ex
  have hi : i < env.length := (List.getElem?_eq_some_iff.mp he).1
  have := (hF.hold i (.d x) (by rw [List.getElem?_append_left hi]; exact he)).2
  rwa [List.getElem?_append_left (by rw [h.len]; exact hi)] at this
theorem wrAt_it {k : VC} (he : wrAt env i = some k) : ∃ it, env[i]? = some it ∧ (it = .c k ∨ ∃ a, it = .p a k) := by
  unfold wrAt at he
  split at he
  · rename_i q e; cases he; exact ⟨_, e, .inl rfl⟩
  · rename_i a q e; cases he; exact ⟨_, e, .inr ⟨a, rfl⟩⟩
  · cases he
theorem RelF.box (h : RelF B F env sl st) {k : VC} (he : wrAt env i = some k) : ∃ a fp, F i = a :: fp ∧ sl[i]? = some (some (.box a)) ∧ vcAt st a k fp ∧ ∀ a', env[i]? = some (.p a' k) → a' = a := by
  obtain ⟨it, h1, h2⟩ := wrAt_it he
  have := h.hold i it h1
  rcases h2 with rfl | ⟨a, rfl⟩
  · obtain ⟨a, fp, h3, h4, h5⟩ := this
    exact ⟨a, fp, h3, h4, h5, fun a' e => by rw [h1] at e; cases e⟩
  · obtain ⟨fp, h3, h4, h5⟩ := this
    exact ⟨a, fp, h3, h4, h5, fun a' e => by rw [h1] at e; cases e; rfl⟩
theorem wrAt_lt {k : VC} (he : wrAt env i = some k) : i < env.length := by
  obtain ⟨it, h1, _⟩ := wrAt_it he
  exact (List.getElem?_eq_some_iff.mp h1).1
theorem wrAt_app (hi : i < env.length) : wrAt (env ++ ext) i = wrAt env i := by
  unfold wrAt; rw [List.getElem?_append_left hi]
theorem wrAt_cell {k : VC} (he : wrAt env i = some k) : cellAt env i = some k := by
  obtain ⟨it, h1, h2⟩ := wrAt_it he
  rcases h2 with rfl | ⟨a, rfl⟩ <;> simp [cellAt, h1]
theorem cellAt_lt {k : VC} (he : cellAt env i = some k) : i < env.length := by
  rcases Nat.lt_or_ge i env.length with h | h
  · exact h
  · simp [cellAt, List.getElem?_eq_none h] at he
theorem cellAt_app (hi : i < env.length) : cellAt (env ++ ext) i = cellAt env i := by
  unfold cellAt; rw [List.getElem?_append_left hi]
theorem RelF.read (h : RelF B F env sl st) {k : VC} (he : cellAt env i = some k) : ∃ a fp, sl[i]? = some (some (.box a)) ∧ vcAt st a k fp := by
  unfold cellAt at he
  split at he
  · rename_i q e; cases he
    obtain ⟨a, fp, h3, h4, h5⟩ := h.hold i _ e
    exact ⟨a, fp, h4, h5⟩
  · rename_i a q e; cases he
    obtain ⟨fp, h3, h4, h5⟩ := h.hold i _ e
    exact ⟨a, fp, h4, h5⟩
  · rename_i a q e; cases he
    obtain ⟨h3, h4, fp, h5, h6⟩ := h.hold i _ e
    exact ⟨a, fp, h4, h5.keep fun x hx => h.fr x (h5.lt x hx) (h6 x hx)⟩
  · cases he
theorem Rl.box (h : Rl B env ext sl exs st) {k : VC} (he : cellAt env i = some k) : ∃ a fp, sl[i]? = some (some (.box a)) ∧ vcAt st a k fp := by
  obtain ⟨F, hF⟩ := h.ex
  have hi := cellAt_lt he
  obtain ⟨a, fp, h2, h3⟩ := hF.read (by rw [cellAt_app hi]; exact he)
  rw [List.getElem?_append_left (by rw [h.len]; exact hi)] at h2
  exact ⟨a, fp, h2, h3⟩
theorem Rl.weak (h : Rl B env ext sl exs st) (hw : wk env env') : Rl B env' ext sl exs st := by
  obtain ⟨F, hF⟩ := h.ex
  exact ⟨h.len.trans hw.len, hF.weak (hw.app (wk.refl ext))⟩
/-- a slot gets data -/
theorem Rl.setD (h : Rl B env ext sl exs st) (hi : i < env.length) (x : PyData) : Rl B (env.set i (.d x)) ext (sl.set i (some (.d x))) exs st := by
  obtain ⟨F, hF⟩ := h.ex
  have hi' : i < sl.length := by rw [h.len]; exact hi
  refine ⟨by simp [h.len], fun j => if j = i then [] else F j, ?_⟩
  rw [← List.set_append_left _ _ hi, ← List.set_append_left _ _ hi']
  refine hF.put (i := i) (by simp; omega) [] (by simp) (fun j hj => by rw [List.getElem?_set_ne (fun q => hj q.symm)]) (Nat.le_refl _) (fun _ _ _ => rfl) (fun x hx => by cases hx) List.nodup_nil ⟨by simp, ?_⟩ (fun hw a c ha _ hc => hF.wf hw a c ha hc) (fun a c _ hc => hF.gw a c hc)
  rw [List.getElem?_set_self]; simp; omega
theorem Rl.setJ (h : Rl B env ext sl exs st) (hi : i < env.length) (v : Option Val) : Rl B (env.set i .junk) ext (sl.set i v) exs st := by
  obtain ⟨F, hF⟩ := h.ex
  have hi' : i < sl.length := by rw [h.len]; exact hi
  refine ⟨by simp [h.len], fun j => if j = i then [] else F j, ?_⟩
  rw [← List.set_append_left _ _ hi, ← List.set_append_left _ _ hi']
  refine hF.put (i := i) (by simp; omega) [] (by simp) (fun j hj => by rw [List.getElem?_set_ne (fun q => hj q.symm)]) (Nat.le_refl _) (fun _ _ _ => rfl) (fun x hx => by cases hx) List.nodup_nil (by simp [holds]) (fun hw a c ha _ hc => hF.wf hw a c ha hc) (fun a c _ hc => hF.gw a c hc)
end
end TY
end

section
set_option Elab.async false
set_option linter.all false
set_option maxRecDepth 100000
set_option maxHeartbeats 1000000
set_option autoImplicit false
/-! TY2: what expressions say that change nothing. -/
namespace TY
open PySem L2 TL
section
variable (B : Base) (env : Env)
def EV (m : EM) (x : PyData) : Prop := ∀ sl ext exs st, Rl B env ext sl exs st → ∃ v, m sl st = .ok v st ∧ deref v st = some x
def EJ (m : EM) (x : PyData) : Prop := ∀ sl ext exs st, Rl B env ext sl exs st → m sl st = .ok (.d x) st
def TJ (c : TM) (b : Bool) : Prop := ∀ sl ext exs st, Rl B env ext sl exs st → c sl st = .ok b st
def AV (a : AM) (xs : List PyData) : Prop := ∀ sl ext exs st, Rl B env ext sl exs st → ∃ vs, a sl st = .ok vs st ∧ derefs vs st = some xs
def AJ (a : AM) (xs : List PyData) : Prop := ∀ sl ext exs st, Rl B env ext sl exs st → a sl st = .ok (xs.map .d) st
def IJ (it : IM) (xs : List PyData) : Prop := ∀ sl ext exs st, Rl B env ext sl exs st → it sl st = .ok xs st
end
theorem datas_map : ∀ xs : List PyData, datas (xs.map .d) = some xs
  | [] => rfl
  | x :: xs => by simp [datas, datas_map xs]
theorem derefs_map (st : Store) : ∀ xs : List PyData, derefs (xs.map .d) st = some xs
  | [] => rfl
  | x :: xs => by simp [derefs, derefs_map st xs]
theorem derefs_app {st : Store} : ∀ {vs us : List Val} {xs ys : List PyData}, derefs vs st = some xs → derefs us st = some ys → derefs (vs ++ us) st = some (xs ++ ys)
  | [], us, xs, ys, h, h2 => by cases h; exact h2
  | v :: vs, us, xs, ys, h, h2 => by
    simp only [derefs] at h
    cases h3 : deref v st with
    | none => rw [h3] at h; cases h
    | some x =>
      cases h4 : derefs vs st with
      | none => rw [h3, h4] at h; cases h
      | some zs =>
        rw [h3, h4] at h; cases h
        simp [derefs, h3, derefs_app h4 h2]
section
variable {B : Base} {env : Env}
theorem EJ.v {m : EM} {x : PyData} (h : EJ B env m x) : EV B env m x := fun sl ext exs st r => ⟨_, h sl ext exs st r, rfl⟩
theorem AJ.v {a : AM} {xs : List PyData} (h : AJ B env a xs) : AV B env a xs := fun sl ext exs st r => ⟨_, h sl ext exs st r, derefs_map st xs⟩
theorem EJ_var {i : Nat} {x : PyData} (h : env[i]? = some (.d x)) : EJ B env (mVar i) x := fun sl ext exs st r => by simp [mVar, r.slot h]
theorem EV_lst {i : Nat} {xs : List PyData} (h : cellAt env i = some (.lst xs)) : EV B env (mVar i) (.list xs) := fun sl ext exs st r => by
  obtain ⟨a, fp, h1, h2, _⟩ := r.box h
  exact ⟨.box a, by simp [mVar, h1], by simp [deref, h2]⟩
theorem EV_dic {i : Nat} {xs : List (PyData × PyData)} (h : cellAt env i = some (.dic xs)) : EV B env (mVar i) (.dict xs) := fun sl ext exs st r => by
  obtain ⟨a, fp, h1, h2, _⟩ := r.box h
  exact ⟨.box a, by simp [mVar, h1], by simp [deref, h2]⟩
theorem EV_ldic {i : Nat} {xs : List (PyData × PyData)} (h : cellAt env i = some (.ldic xs)) : EV B env (mVar i) (.dict xs) := fun sl ext exs st r => by
  obtain ⟨a, fp, h1, h2, _⟩ := r.box h
  exact ⟨.box a, by simp [mVar, h1], by simp [deref, h2]⟩
theorem EJ_C {x : PyData} : EJ B env (mC x) x := fun sl ext exs st r => rfl
theorem EJ_p1 {f : PyData → Option PyData} {m : EM} {x z : PyData} (h : EV B env m x) (hf : f x = some z) : EJ B env (mP1 f m) z := fun sl ext exs st r => by
  obtain ⟨v, h1, h2⟩ := h sl ext exs st r
  simp [mP1, h1, h2, hf, R.bind]
theorem EJ_p2 {f : PyData → PyData → Option PyData} {a b : EM} {x y z : PyData} (ha : EV B env a x) (hb : EV B env b y) (hf : f x y = some z) : EJ B env (mP2 f a b) z := fun sl ext exs st r => by
  obtain ⟨v, h1, h2⟩ := ha sl ext exs st r
  obtain ⟨u, h3, h4⟩ := hb sl ext exs st r
  simp [mP2, h1, h2, h3, h4, hf, R.bind]
theorem AV_nil : AV B env aNil [] := fun sl ext exs st r => ⟨[], rfl, rfl⟩
theorem AV_cons {m : EM} {a : AM} {x : PyData} {xs : List PyData} (h : EV B env m x) (h2 : AV B env a xs) : AV B env (aCons m a) (x :: xs) := fun sl ext exs st r => by
  obtain ⟨v, h3, h4⟩ := h sl ext exs st r
  obtain ⟨vs, h5, h6⟩ := h2 sl ext exs st r
  exact ⟨v :: vs, by simp [aCons, h3, h5, R.bind], by simp [derefs, h4, h6]⟩
theorem AJ_nil : AJ B env aNil [] := fun sl ext exs st r => rfl
theorem AJ_cons {m : EM} {a : AM} {x : PyData} {xs : List PyData} (h : EJ B env m x) (h2 : AJ B env a xs) : AJ B env (aCons m a) (x :: xs) := fun sl ext exs st r => by
  simp [aCons, h sl ext exs st r, h2 sl ext exs st r, R.bind]
theorem EJ_pn {f : List PyData → Option PyData} {a : AM} {xs : List PyData} {z : PyData} (h : AV B env a xs) (hf : f xs = some z) : EJ B env (mPn f a) z := fun sl ext exs st r => by
  obtain ⟨vs, h1, h2⟩ := h sl ext exs st r
  simp [mPn, h1, h2, hf, R.bind]
theorem EJ_disp {f : List PyData → Option PyData} {a : AM} {xs : List PyData} {z : PyData} (h : AJ B env a xs) (hf : f xs = some z) : EJ B env (mDisp f a) z := fun sl ext exs st r => by
  simp [mDisp, h sl ext exs st r, datas_map, hf, R.bind]
theorem EJ_kw {f : List PyData → Option PyData} {a : AM} {m : EM} {xs : List PyData} {w z : PyData} (h : AV B env a xs) (hm : EV B env m w) (hf : f (xs ++ [w]) = some z) : EJ B env (mKw f a m) z := fun sl ext exs st r => by
  obtain ⟨vs, h1, h2⟩ := h sl ext exs st r
  obtain ⟨u, h3, h4⟩ := hm sl ext exs st r
  have h5 : derefs [u] st = some [w] := by simp [derefs, h4]
  simp [mKw, h1, h3, derefs_app h2 h5, hf, R.bind]
theorem TJ_e {m : EM} {b : Bool} (h : EJ B env m (.bool b)) : TJ B env (tOfE m) b := fun sl ext exs st r => by
  simp [tOfE, h sl ext exs st r, R.bind]
theorem TJ_and {a c : TM} {x y : Bool} (h : TJ B env a x) (h2 : x = true → TJ B env c y) : TJ B env (TL.tAnd a c) (x && y) := fun sl ext exs st r => by
  cases x with
  | false => simp [TL.tAnd, h sl ext exs st r, R.bind]
  | true => simp [TL.tAnd, h sl ext exs st r, R.bind, h2 rfl sl ext exs st r]
theorem TJ_or {a c : TM} {x y : Bool} (h : TJ B env a x) (h2 : x = false → TJ B env c y) : TJ B env (TL.tOr a c) (x || y) := fun sl ext exs st r => by
  cases x with
  | true => simp [TL.tOr, h sl ext exs st r, R.bind]
  | false => simp [TL.tOr, h sl ext exs st r, R.bind, h2 rfl sl ext exs st r]
theorem TJ_not {a : TM} {x : Bool} (h : TJ B env a x) : TJ B env (TL.tNot a) (!x) := fun sl ext exs st r => by
  simp [TL.tNot, h sl ext exs st r, R.bind]
theorem TJ_yes : TJ B env TL.tYes true := fun sl ext exs st r => rfl
theorem EJ_and {a c : EM} {x y : Bool} (h : EJ B env a (.bool x)) (h2 : x = true → EJ B env c (.bool y)) : EJ B env (mAnd a c) (.bool (x && y)) := fun sl ext exs st r => by
  cases x with
  | false => simp [mAnd, tOfE, h sl ext exs st r, R.bind]
  | true => simp [mAnd, tOfE, h sl ext exs st r, R.bind, h2 rfl sl ext exs st r]
theorem EJ_or {a c : EM} {x y : Bool} (h : EJ B env a (.bool x)) (h2 : x = false → EJ B env c (.bool y)) : EJ B env (mOr a c) (.bool (x || y)) := fun sl ext exs st r => by
  cases x with
  | true => simp [mOr, tOfE, h sl ext exs st r, R.bind]
  | false => simp [mOr, tOfE, h sl ext exs st r, R.bind, h2 rfl sl ext exs st r]
theorem EJ_not {a : EM} {x : Bool} (h : EJ B env a (.bool x)) : EJ B env (mNot a) (.bool (!x)) := fun sl ext exs st r => by
  simp [mNot, tOfE, h sl ext exs st r, R.bind]
def isN : PyData → Bool
  | .none => true
  | _ => false
theorem EJ_isN {m : EM} {x : PyData} (h : EJ B env m x) : EJ B env (mIsN m) (.bool (isN x)) := fun sl ext exs st r => by
  simp only [mIsN, h sl ext exs st r, R.bind, TL.isNon, isN]
  cases x <;> rfl
theorem EJ_notN {m : EM} {x : PyData} (h : EJ B env m x) : EJ B env (mNotN m) (.bool (!isN x)) := fun sl ext exs st r => by
  simp only [mNotN, h sl ext exs st r, R.bind, TL.isNon, isN]
  cases x <;> rfl
theorem EJ_if {c : TM} {a d : EM} {b : Bool} {x y z : PyData} (hc : TJ B env c b) (ha : b = true → EJ B env a x) (hd : b = false → EJ B env d y) (hz : (if b = true then x else y) = z) : EJ B env (mIf c a d) z := fun sl ext exs st r => by
  subst hz
  cases b with
  | true => simp [mIf, hc sl ext exs st r, R.bind, ha rfl sl ext exs st r]
  | false => simp [mIf, hc sl ext exs st r, R.bind, hd rfl sl ext exs st r]
theorem EJ_chain {f g : PyData → PyData → Option PyData} {a b c : EM} {x y z : PyData} {p q : Bool} (ha : EV B env a x) (hb : EV B env b y) (hf : f x y = some (.bool p)) (hc : p = true → EV B env c z) (hg : p = true → g y z = some (.bool q)) : EJ B env (mChain f g a b c) (.bool (p && q)) := fun sl ext exs st r => by
  obtain ⟨v, h1, h2⟩ := ha sl ext exs st r
  obtain ⟨u, h3, h4⟩ := hb sl ext exs st r
  cases p with
  | false => simp [mChain, h1, h2, h3, h4, hf, R.bind]
  | true =>
    obtain ⟨w, h5, h6⟩ := hc rfl sl ext exs st r
    simp [mChain, h1, h2, h3, h4, hf, R.bind, h5, h6, hg rfl]
/-! ### fields -/
def getV : List (Str × FV) → Str → Option FV
  | [], _ => none
  | (g, v) :: r, f => if f = g then some v else getV r f
theorem fsAt.get {st : Store} : ∀ {vs : List (Str × Val)} {fs : List (Str × FV)} {b : List Nat} {f : Str} {u : FV}, fsAt st vs fs b → getV fs f = some u → ∃ v b', getF vs f = some v ∧ fvAt st v u b' ∧ ∀ x ∈ b', x ∈ b
  | [], [], b, f, u, h, e => by cases e
  | (g, v) :: r, (g', u') :: s, b, f, u, ⟨h1, b1, b2, h2, h3, h4⟩, e => by
    subst h1
    simp only [getV] at e
    by_cases hg : f = g
    · rw [if_pos hg] at e; cases e
      exact ⟨v, b1, by simp [getF, hg], h3, fun x hx => by rw [h2]; simp [hx]⟩
    · rw [if_neg hg] at e
      obtain ⟨v', b', k1, k2, k3⟩ := h4.get e
      exact ⟨v', b', by simp [getF, hg, k1], k2, fun x hx => by rw [h2]; simp [k3 x hx]⟩
  | [], _ :: _, _, _, _, h, _ => h.elim
  | _ :: _, [], _, _, _, h, _ => h.elim
theorem fsAt.none {st : Store} : ∀ {vs : List (Str × Val)} {fs : List (Str × FV)} {b : List Nat} {f : Str}, fsAt st vs fs b → getV fs f = none → getF vs f = none
  | [], [], b, f, h, e => rfl
  | (g, v) :: r, (g', u') :: s, b, f, ⟨h1, b1, b2, h2, h3, h4⟩, e => by
    subst h1
    simp only [getV] at e
    by_cases hg : f = g
    · rw [if_pos hg] at e; cases e
    · rw [if_neg hg] at e
      simp [getF, hg, h4.none e]
  | [], _ :: _, _, _, h, _ => h.elim
  | _ :: _, [], _, _, h, _ => h.elim
theorem EJ_fld {i : Nat} {c f : Str} {fs : List (Str × FV)} {x : PyData} (h : cellAt env i = some (.obj c fs)) (hf : getV fs f = some (.d x)) : EJ B env (TL.mFld c (mVar i) f) x := fun sl ext exs st r => by
  obtain ⟨a, fp, h1, vs, h2, h3⟩ := r.box h
  obtain ⟨v, b, h4, h5, _⟩ := h3.get hf
  obtain ⟨rfl, _⟩ := h5
  simp [TL.mFld, mVar, h1, R.bind, fldOf, h2, h4]
theorem EV_fldL {i : Nat} {c f : Str} {fs : List (Str × FV)} {xs : List PyData} (h : cellAt env i = some (.obj c fs)) (hf : getV fs f = some (.lst xs)) : EV B env (TL.mFld c (mVar i) f) (.list xs) := fun sl ext exs st r => by
  obtain ⟨a, fp, h1, vs, h2, h3⟩ := r.box h
  obtain ⟨v, b, h4, h5, _⟩ := h3.get hf
  obtain ⟨n, rfl, h6, _⟩ := h5
  exact ⟨.box n, by simp [TL.mFld, mVar, h1, R.bind, fldOf, h2, h4], by simp [deref, h6]⟩
theorem EV_fldD {i : Nat} {c f : Str} {fs : List (Str × FV)} {xs : List (PyData × PyData)} (h : cellAt env i = some (.obj c fs)) (hf : getV fs f = some (.dic xs)) : EV B env (TL.mFld c (mVar i) f) (.dict xs) := fun sl ext exs st r => by
  obtain ⟨a, fp, h1, vs, h2, h3⟩ := r.box h
  obtain ⟨v, b, h4, h5, _⟩ := h3.get hf
  obtain ⟨n, rfl, h6, _⟩ := h5
  exact ⟨.box n, by simp [TL.mFld, mVar, h1, R.bind, fldOf, h2, h4], by simp [deref, h6]⟩
/-! ### slices -/
def PJ (B : Base) (env : Env) (m : Option EM) (o : Option Int) : Prop :=
  match m, o with
  | none, none => True
  | some m, some i => EJ B env m (.int i)
  | _, _ => False
theorem EJ_sl {m : EM} {lo hi : Option EM} {x z : PyData} {l h : Option Int} (hm : EV B env m x) (hl : PJ B env lo l) (hh : PJ B env hi h) (hz : oSl x l h = some z) : EJ B env (mSl m lo hi) z := fun sl ext exs st r => by
  obtain ⟨v, h1, h2⟩ := hm sl ext exs st r
  have pt : ∀ {q : Option EM} {o : Option Int}, PJ B env q o → mPart q sl st = .ok o st := by
    intro q o hq
    cases q with
    | none => cases o with
      | none => rfl
      | some _ => exact hq.elim
    | some q => cases o with
      | none => exact hq.elim
      | some o => simp [mPart, hq sl ext exs st r, R.bind]
  simp [mSl, h1, R.bind, pt hl, pt hh, h2, hz]
/-! ### what is walked -/
theorem IJ_seq {m : EM} {x : PyData} {xs : List PyData} (h : EJ B env m x) (hx : seqD x = some xs) : IJ B env (iSeq m) xs := fun sl ext exs st r => by
  simp [iSeq, h sl ext exs st r, R.bind, dataOf, hx]
theorem IJ_pn {f : List PyData → Option (List PyData)} {a : AM} {xs ys : List PyData} (h : AJ B env a xs) (hx : f xs = some ys) : IJ B env (iPn f a) ys := fun sl ext exs st r => by
  simp [iPn, h sl ext exs st r, R.bind, datas_map, hx]
/-! ### targets -/
mutual
def putE : Tg → PyData → Env → Option Env
  | .name i, x, env => if i < env.length then some (env.set i (.d x)) else none
  | .tup ts, x, env =>
    match x with
    | .tuple xs => putsE ts xs env
    | _ => none
def putsE : List Tg → List PyData → Env → Option Env
  | [], [], env => some env
  | t :: ts, x :: xs, env =>
    match putE t x env with
    | some env1 => putsE ts xs env1
    | none => none
  | _, _, _ => none
end
def wipeE (env : Env) : List Nat → Env
  | [] => env
  | i :: is => (wipeE env is).set i .junk
mutual
theorem put_ok {B : Base} {ext : Env} {exs : Slots} {st : Store} : ∀ (t : Tg) {x : PyData} {env env1 : Env} {sl : Slots}, Rl B env ext sl exs st → putE t x env = some env1 → ∃ sl1, t.put x sl = some sl1 ∧ Rl B env1 ext sl1 exs st
  | .name i, x, env, env1, sl, r, h => by
    simp only [putE] at h
    split at h
    · rename_i hi
      cases h
      exact ⟨_, rfl, r.setD hi x⟩
    · cases h
  | .tup ts, x, env, env1, sl, r, h => by
    simp only [putE] at h
    split at h
    · rename_i xs
      obtain ⟨sl1, h1, h2⟩ := puts_ok ts r h
      exact ⟨sl1, by simp only [Tg.put]; exact h1, h2⟩
    · cases h
theorem puts_ok {B : Base} {ext : Env} {exs : Slots} {st : Store} : ∀ (ts : List Tg) {xs : List PyData} {env env1 : Env} {sl : Slots}, Rl B env ext sl exs st → putsE ts xs env = some env1 → ∃ sl1, Tg.puts ts xs sl = some sl1 ∧ Rl B env1 ext sl1 exs st
  | [], [], env, env1, sl, r, h => by
    simp only [putsE] at h; cases h
    exact ⟨sl, by simp only [Tg.puts], r⟩
  | t :: ts, x :: xs, env, env1, sl, r, h => by
    simp only [putsE] at h
    split at h
    · rename_i env2 e
      obtain ⟨sl2, h1, r2⟩ := put_ok t r e
      obtain ⟨sl1, h3, r3⟩ := puts_ok ts r2 h
      exact ⟨sl1, by simp only [Tg.puts, h1, Option.bind]; exact h3, r3⟩
    · cases h
  | [], _ :: _, _, _, _, _, h => by simp [putsE] at h
  | _ :: _, [], _, _, _, _, h => by simp [putsE] at h
end
theorem wipe_ok {ext : Env} {exs : Slots} {st : Store} : ∀ {own : List Nat} {env : Env} {sl : Slots}, Rl B env ext sl exs st → Rl B (wipeE env own) ext (wipeS sl own) exs st
  | [], env, sl, r => r
  | i :: is, env, sl, r => by
    have r2 := wipe_ok (own := is) r
    simp only [wipeE, wipeS]
    by_cases hi : i < (wipeE env is).length
    · exact r2.setJ hi none
    · rw [List.set_eq_of_length_le (by omega), List.set_eq_of_length_le (by rw [r2.len]; omega)]
      exact r2
end
end TY
end

section
set_option Elab.async false
set_option linter.all false
set_option maxRecDepth 100000
set_option maxHeartbeats 1000000
set_option autoImplicit false
/-! TY3: typed values, comprehensions. -/
namespace TY
open PySem L2 TL
class Enc (α : Type) where
  enc : α → PyData
open Enc (enc)
structure Tup (α : Type) where
  l : List α
deriving Inhabited, DecidableEq
structure Dict (κ ν : Type) where
  l : List (κ × ν)
deriving Inhabited, DecidableEq
structure T1 (α : Type) where
  a : α
deriving Inhabited, DecidableEq
structure T3 (α β γ : Type) where
  a : α
  b : β
  c : γ
deriving Inhabited, DecidableEq
structure T4 (α β γ δ : Type) where
  a : α
  b : β
  c : γ
  d : δ
deriving Inhabited, DecidableEq
structure T5 (α β γ δ ε : Type) where
  a : α
  b : β
  c : γ
  d : δ
  e : ε
deriving Inhabited, DecidableEq
structure T6 (α β γ δ ε ζ : Type) where
  a : α
  b : β
  c : γ
  d : δ
  e : ε
  f : ζ
deriving Inhabited, DecidableEq
@[reducible] instance : Enc Int := ⟨.int⟩
@[reducible] instance : Enc Bool := ⟨.bool⟩
@[reducible] instance : Enc Str := ⟨.str⟩
@[reducible] instance : Enc Unit := ⟨fun _ => .none⟩
@[reducible] instance : Enc PyData := ⟨fun x => x⟩
@[reducible] instance {α : Type} [Enc α] : Enc (List α) := ⟨fun xs => .list (xs.map enc)⟩
@[reducible] instance {α : Type} [Enc α] : Enc (Tup α) := ⟨fun xs => .tuple (xs.l.map enc)⟩
@[reducible] instance {α β : Type} [Enc α] [Enc β] : Enc (α × β) := ⟨fun p => .tuple [enc p.1, enc p.2]⟩
@[reducible] instance {α : Type} [Enc α] : Enc (T1 α) := ⟨fun p => .tuple [enc p.a]⟩
@[reducible] instance {α β γ : Type} [Enc α] [Enc β] [Enc γ] : Enc (T3 α β γ) := ⟨fun p => .tuple [enc p.a, enc p.b, enc p.c]⟩
@[reducible] instance {α β γ δ : Type} [Enc α] [Enc β] [Enc γ] [Enc δ] : Enc (T4 α β γ δ) := ⟨fun p => .tuple [enc p.a, enc p.b, enc p.c, enc p.d]⟩
@[reducible] instance {α β γ δ ε : Type} [Enc α] [Enc β] [Enc γ] [Enc δ] [Enc ε] : Enc (T5 α β γ δ ε) := ⟨fun p => .tuple [enc p.a, enc p.b, enc p.c, enc p.d, enc p.e]⟩
@[reducible] instance {α β γ δ ε ζ : Type} [Enc α] [Enc β] [Enc γ] [Enc δ] [Enc ε] [Enc ζ] : Enc (T6 α β γ δ ε ζ) := ⟨fun p => .tuple [enc p.a, enc p.b, enc p.c, enc p.d, enc p.e, enc p.f]⟩
@[reducible] instance {κ ν : Type} [Enc κ] [Enc ν] : Enc (Dict κ ν) := ⟨fun d => .dict (d.l.map fun p => (enc p.1, enc p.2))⟩
@[reducible] instance {α : Type} [Enc α] : Enc (Option α) := ⟨fun o => match o with | some x => enc x | none => .none⟩
section
variable {B : Base} {env : Env} {α β : Type} [Enc α] [Enc β]
theorem compL_ok {ext : Env} {exs : Slots} {st : Store} {tg : Tg} {c : TM} {e : EM} {env' : Env} {sl : Slots} (envp : α → Env) (g : α → Bool) (f : α → PyData) (r : Rl B env' ext sl exs st)
    (hp : ∀ y, putE tg (enc y) env' = some (envp y)) : ∀ (ys : List α), (∀ y ∈ ys, TJ B (envp y) c (g y)) → (∀ y ∈ ys, g y = true → EJ B (envp y) e (f y)) →
    compL tg c e sl (ys.map enc) st = .ok ((ys.filter g).map f) st
  | [], _, _ => rfl
  | y :: ys, hc, he => by
    obtain ⟨sl1, h1, r1⟩ := put_ok tg r (hp y)
    have ih := compL_ok envp g f r hp ys (fun z hz => hc z (by simp [hz])) (fun z hz => he z (by simp [hz]))
    have h2 := hc y (by simp) sl1 ext exs st r1
    cases hg : g y with
    | false => simp [compL, h1, h2, hg, R.bind, ih]
    | true =>
      have h3 := he y (by simp) hg sl1 ext exs st r1
      simp [compL, h1, h2, hg, R.bind, h3, ih]
/-- [f(y) for y in ys if g(y)] -/
theorem EJ_comp {own : List Nat} {tg : Tg} {it : IM} {c : TM} {e : EM} {ys : List α} (envp : α → Env) (g : α → Bool) (f : α → β) (hi : IJ B env it (ys.map enc))
    (hp : ∀ y : α, putE tg (enc y) (wipeE env own) = some (envp y)) (hc : ∀ y ∈ ys, TJ B (envp y) c (g y)) (he : ∀ y ∈ ys, g y = true → EJ B (envp y) e (enc (f y)))
    (hl : ys.length ≤ lineN) : EJ B env (mComp own tg it c e) (enc ((ys.filter g).map f)) := fun sl ext exs st r => by
  have h1 := compL_ok (c := c) (e := e) envp g (fun y => enc (f y)) (wipe_ok (own := own) r) hp ys hc he
  have h2 : ((ys.filter g).map fun y => enc (f y)).length ≤ lineN := by rw [List.length_map]; exact Nat.le_trans (List.length_filter_le _ _) hl
  simp only [mComp, hi sl ext exs st r, R.bind, compR, h1, noX, pLst, if_pos h2, Option.map, R.opt]
  show R.ok (Val.d (.list _)) st = .ok (.d (.list _)) st
  rw [List.map_map]; rfl
theorem EJ_map {own : List Nat} {tg : Tg} {it : IM} {e : EM} {ys : List α} (envp : α → Env) (f : α → β) (hi : IJ B env it (ys.map enc))
    (hp : ∀ y : α, putE tg (enc y) (wipeE env own) = some (envp y)) (he : ∀ y ∈ ys, EJ B (envp y) e (enc (f y)))
    (hl : ys.length ≤ lineN) : EJ B env (mComp own tg it TL.tYes e) (enc (ys.map f)) := by
  have := EJ_comp (c := TL.tYes) (ys := ys) envp (fun _ => true) f hi hp (fun y _ => TJ_yes) (fun y hy _ => he y hy) hl
  rw [List.filter_eq_self.mpr (fun _ _ => rfl)] at this
  exact this
theorem anyG_ok {ext : Env} {exs : Slots} {st : Store} {tg : Tg} {c : TM} {e : EM} {env' : Env} {sl : Slots} (envp : α → Env) (g f : α → Bool) (r : Rl B env' ext sl exs st)
    (hp : ∀ y, putE tg (enc y) env' = some (envp y)) : ∀ (ys : List α), (∀ y ∈ ys, TJ B (envp y) c (g y)) → (∀ y ∈ ys, g y = true → EJ B (envp y) e (.bool (f y))) →
    anyG tg c e sl (ys.map enc) st = .ok ((ys.filter g).any f) st
  | [], _, _ => rfl
  | y :: ys, hc, he => by
    obtain ⟨sl1, h1, r1⟩ := put_ok tg r (hp y)
    have ih := anyG_ok envp g f r hp ys (fun z hz => hc z (by simp [hz])) (fun z hz => he z (by simp [hz]))
    have h2 := hc y (by simp) sl1 ext exs st r1
    cases hg : g y with
    | false => simp [anyG, h1, h2, hg, R.bind, ih]
    | true =>
      have h3 := he y (by simp) hg sl1 ext exs st r1
      cases hf : f y with
      | true => simp [anyG, h1, h2, hg, R.bind, h3, hf, truthV]
      | false => simp [anyG, h1, h2, hg, R.bind, h3, hf, truthV, ih]
theorem allG_ok {ext : Env} {exs : Slots} {st : Store} {tg : Tg} {c : TM} {e : EM} {env' : Env} {sl : Slots} (envp : α → Env) (g f : α → Bool) (r : Rl B env' ext sl exs st)
    (hp : ∀ y, putE tg (enc y) env' = some (envp y)) : ∀ (ys : List α), (∀ y ∈ ys, TJ B (envp y) c (g y)) → (∀ y ∈ ys, g y = true → EJ B (envp y) e (.bool (f y))) →
    allG tg c e sl (ys.map enc) st = .ok ((ys.filter g).all f) st
  | [], _, _ => rfl
  | y :: ys, hc, he => by
    obtain ⟨sl1, h1, r1⟩ := put_ok tg r (hp y)
    have ih := allG_ok envp g f r hp ys (fun z hz => hc z (by simp [hz])) (fun z hz => he z (by simp [hz]))
    have h2 := hc y (by simp) sl1 ext exs st r1
    cases hg : g y with
    | false => simp [allG, h1, h2, hg, R.bind, ih]
    | true =>
      have h3 := he y (by simp) hg sl1 ext exs st r1
      cases hf : f y with
      | false => simp [allG, h1, h2, hg, R.bind, h3, hf, truthV]
      | true => simp [allG, h1, h2, hg, R.bind, h3, hf, truthV, ih]
/-- the sum is small all along -/
def sumOk : Int → List Int → Bool
  | _, [] => true
  | acc, k :: ks => longI k && longI (acc + k) && sumOk (acc + k) ks
theorem sumG_ok {ext : Env} {exs : Slots} {st : Store} {tg : Tg} {c : TM} {e : EM} {env' : Env} {sl : Slots} (envp : α → Env) (g : α → Bool) (f : α → Int) (r : Rl B env' ext sl exs st)
    (hp : ∀ y, putE tg (enc y) env' = some (envp y)) : ∀ (ys : List α) (acc : Int), (∀ y ∈ ys, TJ B (envp y) c (g y)) → (∀ y ∈ ys, g y = true → EJ B (envp y) e (.int (f y))) →
    sumOk acc ((ys.filter g).map f) = true → sumG tg c e sl acc (ys.map enc) st = .ok (acc + ((ys.filter g).map f).sum) st
  | [], acc, _, _, _ => by simp [sumG]
  | y :: ys, acc, hc, he, ho => by
    obtain ⟨sl1, h1, r1⟩ := put_ok tg r (hp y)
    have h2 := hc y (by simp) sl1 ext exs st r1
    cases hg : g y with
    | false =>
      simp [hg] at ho
      have ih := sumG_ok envp g f r hp ys acc (fun z hz => hc z (by simp [hz])) (fun z hz => he z (by simp [hz])) ho
      simp [sumG, h1, h2, hg, R.bind, ih]
    | true =>
      have h3 := he y (by simp) hg sl1 ext exs st r1
      simp [hg, sumOk] at ho
      have ih := sumG_ok envp g f r hp ys (acc + f y) (fun z hz => hc z (by simp [hz])) (fun z hz => he z (by simp [hz])) ho.2
      simp [sumG, h1, h2, hg, R.bind, h3, ho.1, ih, Int.add_assoc]
theorem EJ_any {own : List Nat} {tg : Tg} {it : IM} {c : TM} {e : EM} {ys : List α} (envp : α → Env) (g f : α → Bool) (hi : IJ B env it (ys.map enc))
    (hp : ∀ y : α, putE tg (enc y) (wipeE env own) = some (envp y)) (hc : ∀ y ∈ ys, TJ B (envp y) c (g y)) (he : ∀ y ∈ ys, g y = true → EJ B (envp y) e (.bool (f y))) :
    EJ B env (mAnyG own tg it c e) (.bool ((ys.filter g).any f)) := fun sl ext exs st r => by
  have h1 := anyG_ok (c := c) (e := e) envp g f (wipe_ok (own := own) r) hp ys hc he
  simp only [mAnyG, hi sl ext exs st r, R.bind, h1, noX]
theorem EJ_all {own : List Nat} {tg : Tg} {it : IM} {c : TM} {e : EM} {ys : List α} (envp : α → Env) (g f : α → Bool) (hi : IJ B env it (ys.map enc))
    (hp : ∀ y : α, putE tg (enc y) (wipeE env own) = some (envp y)) (hc : ∀ y ∈ ys, TJ B (envp y) c (g y)) (he : ∀ y ∈ ys, g y = true → EJ B (envp y) e (.bool (f y))) :
    EJ B env (mAllG own tg it c e) (.bool ((ys.filter g).all f)) := fun sl ext exs st r => by
  have h1 := allG_ok (c := c) (e := e) envp g f (wipe_ok (own := own) r) hp ys hc he
  simp only [mAllG, hi sl ext exs st r, R.bind, h1, noX]
theorem EJ_sum {own : List Nat} {tg : Tg} {it : IM} {c : TM} {e : EM} {ys : List α} (envp : α → Env) (g : α → Bool) (f : α → Int) (hi : IJ B env it (ys.map enc))
    (hp : ∀ y : α, putE tg (enc y) (wipeE env own) = some (envp y)) (hc : ∀ y ∈ ys, TJ B (envp y) c (g y)) (he : ∀ y ∈ ys, g y = true → EJ B (envp y) e (.int (f y)))
    (ho : sumOk 0 ((ys.filter g).map f) = true) : EJ B env (mSumG own tg it c e) (.int ((ys.filter g).map f).sum) := fun sl ext exs st r => by
  have h1 := sumG_ok (c := c) (e := e) envp g f (wipe_ok (own := own) r) hp ys 0 hc he ho
  simp only [mSumG, hi sl ext exs st r, R.bind, h1, noX, Int.zero_add]
theorem EJ_any1 {own : List Nat} {tg : Tg} {it : IM} {e : EM} {ys : List α} (envp : α → Env) (f : α → Bool) (hi : IJ B env it (ys.map enc))
    (hp : ∀ y : α, putE tg (enc y) (wipeE env own) = some (envp y)) (he : ∀ y ∈ ys, EJ B (envp y) e (.bool (f y))) :
    EJ B env (mAnyG own tg it TL.tYes e) (.bool (ys.any f)) := by
  have := EJ_any (c := TL.tYes) envp (fun _ => true) f hi hp (fun y _ => TJ_yes) (fun y hy _ => he y hy)
  rw [List.filter_eq_self.mpr (fun _ _ => rfl)] at this
  exact this
theorem EJ_all1 {own : List Nat} {tg : Tg} {it : IM} {e : EM} {ys : List α} (envp : α → Env) (f : α → Bool) (hi : IJ B env it (ys.map enc))
    (hp : ∀ y : α, putE tg (enc y) (wipeE env own) = some (envp y)) (he : ∀ y ∈ ys, EJ B (envp y) e (.bool (f y))) :
    EJ B env (mAllG own tg it TL.tYes e) (.bool (ys.all f)) := by
  have := EJ_all (c := TL.tYes) envp (fun _ => true) f hi hp (fun y _ => TJ_yes) (fun y hy _ => he y hy)
  rw [List.filter_eq_self.mpr (fun _ _ => rfl)] at this
  exact this
theorem EJ_sum1 {own : List Nat} {tg : Tg} {it : IM} {e : EM} {ys : List α} (envp : α → Env) (f : α → Int) (hi : IJ B env it (ys.map enc))
    (hp : ∀ y : α, putE tg (enc y) (wipeE env own) = some (envp y)) (he : ∀ y ∈ ys, EJ B (envp y) e (.int (f y)))
    (ho : sumOk 0 (ys.map f) = true) : EJ B env (mSumG own tg it TL.tYes e) (.int (ys.map f).sum) := by
  have := EJ_sum (c := TL.tYes) (ys := ys) envp (fun _ => true) f hi hp (fun y _ => TJ_yes) (fun y hy _ => he y hy)
  rw [List.filter_eq_self.mpr (fun _ _ => rfl)] at this
  exact this ho
/-! ### sorted by a key -/
theorem keyG_ok {γ : Type} {ext : Env} {exs : Slots} {st : Store} {pi : Nat} {m : EM} {sl : Slots} (f : α → PyData) (hi : pi < env.length) (r : Rl B env ext sl exs st) : ∀ ys : List α, (∀ y ∈ ys, EJ B (env.set pi (.d (enc y))) m (f y)) →
    keyG pi m sl (ys.map enc) st = .ok (ys.map f) st
  | [], _ => rfl
  | y :: ys, h => by
    have ih := keyG_ok (γ := γ) f hi r ys fun z hz => h z (by simp [hz])
    have h1 := h y (by simp) _ ext exs st (r.setD hi (enc y))
    simp [keyG, h1, ih, R.bind]
/-- in the order of keys -/
def srtK (rev : Bool) (f : α → β) (ys : List α) : List α := ys.mergeSort fun a b => PySem.W.dataLe rev id (enc (f a)) (enc (f b))
def srt (ys : List α) : List α := srtK false id ys
theorem srtK_eq (rev : Bool) (f : α → β) (ys : List α) : (((ys.map enc).zip (ys.map fun y => enc (f y))).mergeSort (PySem.W.dataLe rev Prod.snd)).map Prod.fst = (srtK rev f ys).map enc := by
  have e : (ys.map enc).zip (ys.map fun y => enc (f y)) = ys.map fun y => (enc y, enc (f y)) := by rw [List.zip_map']
  have e2 : (ys.map fun y => (enc y, enc (f y))).mergeSort (PySem.W.dataLe rev Prod.snd) = (srtK rev f ys).map fun y => (enc y, enc (f y)) := by
    symm
    exact List.map_mergeSort fun a _ b _ => rfl
  rw [e, e2, List.map_map]; rfl
theorem srt_eq (rev : Bool) (ys : List α) : (ys.map enc).mergeSort (PySem.W.dataLe rev id) = (srtK rev id ys).map (enc : α → PyData) := by
  symm
  exact List.map_mergeSort fun a _ b _ => rfl
theorem EJ_sortK {rev : Bool} {pi : Nat} {a : AM} {m : EM} {ys : List α} (f : α → β) (ha : AV B env a [.list (ys.map enc)]) (hi : pi < env.length) (hm : ∀ y ∈ ys, EJ B (env.set pi (.d (enc y))) m (enc (f y)))
    (ho : sortOk (ys.map fun y => enc (f y)) = true) (hl : ys.length ≤ lineN) : EJ B env (mSortK rev pi a m) (enc (srtK rev f ys)) := fun sl ext exs st r => by
  obtain ⟨vs, h1, h2⟩ := ha sl ext exs st r
  have h3 := keyG_ok (γ := Unit) (m := m) (fun y => enc (f y)) hi r ys hm
  have h4 : (sortOk (ys.map fun y => enc (f y)) && decide ((ys.map (enc : α → PyData)).length ≤ lineN)) = true := by rw [ho, List.length_map]; simp [hl]
  simp only [mSortK, h1, R.bind, h2, h3, noX, h4, if_true, srtK_eq]
  rfl
theorem oSort_ok {ys : List α} (ho : sortOk (ys.map (enc : α → PyData)) = true) : oSort [.list (ys.map (enc : α → PyData))] = some (enc (srt ys)) := by
  simp only [oSort, if_pos ho, srt_eq]; rfl
theorem oSortR_ok {ys : List α} {b : Bool} (ho : sortOk (ys.map (enc : α → PyData)) = true) : oSortR [.list (ys.map (enc : α → PyData)), .bool b] = some (enc (srtK b id ys)) := by
  simp only [oSortR, if_pos ho, srt_eq]; rfl
end
end TY
end

section
set_option Elab.async false
set_option linter.all false
set_option maxRecDepth 100000
set_option maxHeartbeats 1000000
set_option autoImplicit false
/-! TY4: outcomes; what a def does to its parameters; calls. -/
namespace TY
open PySem L2 TL
inductive Out (ξ σ : Type) where
  | ok (s : σ)
  | exn (c : Str) (x : ξ)
  | stuck
def Out.bind {ξ σ τ : Type} (o : Out ξ σ) (f : σ → Out ξ τ) : Out ξ τ :=
  match o with
  | .ok s => f s
  | .exn c x => .exn c x
  | .stuck => .stuck
@[simp] theorem Out.bind_ok {ξ σ τ : Type} (s : σ) (f : σ → Out ξ τ) : (Out.ok s).bind f = f s := rfl
@[simp] theorem Out.bind_exn {ξ σ τ : Type} (c : Str) (x : ξ) (f : σ → Out ξ τ) : (Out.exn c x).bind f = .exn c x := rfl
@[simp] theorem Out.bind_stuck {ξ σ τ : Type} (f : σ → Out ξ τ) : (Out.stuck).bind f = .stuck := rfl
theorem Out.bind_assoc {ξ σ τ υ : Type} (o : Out ξ σ) (f : σ → Out ξ τ) (g : τ → Out ξ υ) : (o.bind f).bind g = o.bind fun s => (f s).bind g := by
  cases o <;> rfl
/-- .. where p holds -/
def grd {ξ σ : Type} (p : Prop) [Decidable p] (o : Out ξ σ) : Out ξ σ := if p then o else .stuck
theorem grd_pos {ξ σ : Type} {p : Prop} [Decidable p] {o : Out ξ σ} (h : p) : grd p o = o := if_pos h
def Sat {ξ σ β : Type} (X : ξ → Store → Prop) (P : σ → β → Store → Prop) : Out ξ σ → R β → Prop
  | .stuck, _ => True
  | .ok s, .ok v st => P s v st
  | .exn c x, .exn c' st => c = c' ∧ X x st
  | _, _ => False
theorem Sat.bind {ξ σ τ β γ : Type} {X : ξ → Store → Prop} {P : σ → β → Store → Prop} {Q : τ → γ → Store → Prop} {t : Out ξ σ} {r : R β} {f : σ → Out ξ τ} {g : β → Store → R γ} (h : Sat X P t r)
    (hf : ∀ s v st, P s v st → Sat X Q (f s) (g v st)) : Sat X Q (t.bind f) (r.bind g) := by
  cases t with
  | stuck => trivial
  | ok s =>
    cases r with
    | ok v st => exact hf s v st h
    | exn _ _ => exact h.elim
    | stuck => exact h.elim
  | exn c x =>
    cases r with
    | ok v st => exact h.elim
    | exn _ _ => exact h
    | stuck => exact h.elim
theorem Sat.imp {ξ σ β : Type} {X : ξ → Store → Prop} {P Q : σ → β → Store → Prop} {t : Out ξ σ} {r : R β} (h : Sat X P t r) (hf : ∀ s v st, P s v st → Q s v st) : Sat X Q t r := by
  cases t with
  | stuck => trivial
  | ok s =>
    cases r with
    | ok v st => exact hf s v st h
    | exn _ _ => exact h.elim
    | stuck => exact h.elim
  | exn c x =>
    cases r with
    | ok v st => exact h.elim
    | exn _ _ => exact h
    | stuck => exact h.elim
/-! ### contracts -/
inductive PI where
  | j
  | d (x : PyData)
  | b (k : VC)
def PI.it (A : Nat → Nat) (n : Nat) : PI → It
  | .j => .junk
  | .d x => .d x
  | .b k => .p (A n) k
def PI.vl (A : Nat → Nat) (n : Nat) : PI → Val
  | .j => .d .none
  | .d x => .d x
  | .b _ => .box (A n)
def envOf (A : Nat → Nat) : List PI → Nat → Env
  | [], _ => []
  | p :: ps, n => p.it A n :: envOf A ps (n + 1)
def valsOf (A : Nat → Nat) : List PI → Nat → List Val
  | [], _ => []
  | p :: ps, n => p.vl A n :: valsOf A ps (n + 1)
theorem envOf_len (A : Nat → Nat) : ∀ (ps : List PI) (n : Nat), (envOf A ps n).length = ps.length
  | [], _ => rfl
  | p :: ps, n => by simp [envOf, envOf_len A ps (n + 1)]
theorem valsOf_len (A : Nat → Nat) : ∀ (ps : List PI) (n : Nat), (valsOf A ps n).length = ps.length
  | [], _ => rfl
  | p :: ps, n => by simp [valsOf, valsOf_len A ps (n + 1)]
theorem envOf_at (A : Nat → Nat) : ∀ (ps : List PI) (n j : Nat), (envOf A ps n)[j]? = (ps[j]?).map fun p => p.it A (n + j)
  | [], n, j => by simp [envOf]
  | p :: ps, n, 0 => by simp [envOf]
  | p :: ps, n, j + 1 => by
    simp only [envOf, List.getElem?_cons_succ, envOf_at A ps (n + 1) j]
    rw [show n + 1 + j = n + (j + 1) from by omega]
theorem valsOf_at (A : Nat → Nat) : ∀ (ps : List PI) (n j : Nat), (valsOf A ps n)[j]? = (ps[j]?).map fun p => p.vl A (n + j)
  | [], n, j => by simp [valsOf]
  | p :: ps, n, 0 => by simp [valsOf]
  | p :: ps, n, j + 1 => by
    simp only [valsOf, List.getElem?_cons_succ, valsOf_at A ps (n + 1) j]
    rw [show n + 1 + j = n + (j + 1) from by omega]
/-- the addresses of the first n -/
def allF (F : Nat → List Nat) (n : Nat) : List Nat := (List.range n).flatMap F
theorem mem_allF {F : Nat → List Nat} {n x : Nat} : x ∈ allF F n ↔ ∃ i, i < n ∧ x ∈ F i := by
  simp [allF, List.mem_flatMap, List.mem_range]
/-- what a def does, its parameters told -/
def FC {ξ σ : Type} (f : FM) (ps : List PI) (t : Out ξ σ) (psx : ξ → List PI) (psk : σ → List PI) (val : σ → PyData) : Prop :=
  ∀ (A : Nat → Nat) (st : Store) (F : Nat → List Nat), RelF ⟨st, allF F ps.length, true⟩ F (envOf A ps 0) ((valsOf A ps 0).map some) st →
    Sat (fun x st' => ∃ F', RelF ⟨st, allF F ps.length, false⟩ F' (envOf A (psx x) 0) ((valsOf A ps 0).map some) st')
      (fun s v st' => v = .d (val s) ∧ ∃ F', RelF ⟨st, allF F ps.length, false⟩ F' (envOf A (psk s) 0) ((valsOf A ps 0).map some) st') t (f (valsOf A ps 0) st)
/-! ### a call -/
abbrev Arg := PyData ⊕ Nat
def adr (sl : Slots) (i : Nat) : Nat :=
  match sl[i]? with
  | some (some (.box a)) => a
  | _ => 0
def argP (env : Env) : Arg → PI
  | .inl x => .d x
  | .inr i => match wrAt env i with
    | some k => .b k
    | none => .j
def argV (sl : Slots) : Arg → Val
  | .inl x => .d x
  | .inr i => .box (adr sl i)
/-- the boxes after the call -/
def after (env : Env) : List Arg → List PI → Env
  | .inr i :: ds, .b k :: ps => after (updC env i k) ds ps
  | _ :: ds, _ :: ps => after env ds ps
  | _, _ => env
def slotsOf : List Arg → List Nat
  | [] => []
  | .inl _ :: ds => slotsOf ds
  | .inr i :: ds => i :: slotsOf ds
/-- which argument stands in a slot -/
def argAt (i : Nat) : List Arg → Nat → Option Nat
  | [], _ => none
  | .inl _ :: ds, n => argAt i ds (n + 1)
  | .inr l :: ds, n => if l = i then some n else argAt i ds (n + 1)
theorem argAt_some {i : Nat} : ∀ {ds : List Arg} {n j : Nat}, argAt i ds n = some j → n ≤ j ∧ ds[j - n]? = some (.inr i)
  | .inl _ :: ds, n, j, h => by
    obtain ⟨h1, h2⟩ := argAt_some (ds := ds) (n := n + 1) h
    refine ⟨by omega, ?_⟩
    rw [show j - n = (j - (n + 1)) + 1 from by omega]; exact h2
  | .inr l :: ds, n, j, h => by
    simp only [argAt] at h
    split at h
    · rename_i e; cases h; subst e; simp
    · obtain ⟨h1, h2⟩ := argAt_some (ds := ds) (n := n + 1) h
      refine ⟨by omega, ?_⟩
      rw [show j - n = (j - (n + 1)) + 1 from by omega]; exact h2
theorem argAt_none {i : Nat} : ∀ {ds : List Arg} {n : Nat}, argAt i ds n = none → i ∉ slotsOf ds
  | [], _, _ => by simp [slotsOf]
  | .inl _ :: ds, n, h => by simp only [slotsOf]; exact argAt_none (n := n + 1) h
  | .inr l :: ds, n, h => by
    simp only [argAt] at h
    split at h
    · cases h
    · rename_i e
      have := argAt_none h
      simp only [slotsOf, List.mem_cons, not_or]
      exact ⟨fun z => e z.symm, this⟩
theorem slots_at {i : Nat} : ∀ {ds : List Arg} {j : Nat}, ds[j]? = some (.inr i) → i ∈ slotsOf ds
  | .inl _ :: ds, j + 1, h => by simp only [slotsOf]; exact slots_at (j := j) (by simpa using h)
  | .inr l :: ds, 0, h => by simp at h; simp [slotsOf, h]
  | .inr l :: ds, j + 1, h => by simp only [slotsOf, List.mem_cons]; exact .inr (slots_at (j := j) (by simpa using h))
theorem slots_inj : ∀ {ds : List Arg} {i j l : Nat}, (slotsOf ds).Nodup → ds[j]? = some (.inr i) → ds[l]? = some (.inr i) → j = l
  | .inl _ :: ds, i, j + 1, l + 1, h, h1, h2 => by rw [slots_inj (ds := ds) (j := j) (l := l) h (by simpa using h1) (by simpa using h2)]
  | .inr q :: ds, i, 0, 0, h, h1, h2 => rfl
  | .inr q :: ds, i, 0, l + 1, h, h1, h2 => by
    simp at h1; subst h1
    simp only [slotsOf, List.nodup_cons] at h
    exact absurd (slots_at (j := l) (by simpa using h2)) h.1
  | .inr q :: ds, i, j + 1, 0, h, h1, h2 => by
    simp at h2; subst h2
    simp only [slotsOf, List.nodup_cons] at h
    exact absurd (slots_at (j := j) (by simpa using h1)) h.1
  | .inr q :: ds, i, j + 1, l + 1, h, h1, h2 => by
    simp only [slotsOf, List.nodup_cons] at h
    rw [slots_inj (ds := ds) (j := j) (l := l) h.2 (by simpa using h1) (by simpa using h2)]
theorem argAt_of {i : Nat} {ds : List Arg} {j : Nat} (hn : (slotsOf ds).Nodup) (h : ds[j]? = some (.inr i)) : argAt i ds 0 = some j := by
  cases e : argAt i ds 0 with
  | none => exact absurd (slots_at h) (argAt_none e)
  | some l =>
    obtain ⟨_, h2⟩ := argAt_some e
    rw [Nat.sub_zero] at h2
    rw [slots_inj hn h h2]
theorem updC_len (env : Env) (i : Nat) (k : VC) : (updC env i k).length = env.length := by
  unfold updC; split <;> simp
theorem after_len : ∀ (env : Env) (ds : List Arg) (ps : List PI), (after env ds ps).length = env.length
  | env, [], ps => by simp [after]
  | env, d :: ds, [] => by cases d <;> simp [after]
  | env, .inl x :: ds, p :: ps => by simp only [after]; exact after_len env ds ps
  | env, .inr i :: ds, .b k :: ps => by simp only [after]; rw [after_len, updC_len]
  | env, .inr i :: ds, .j :: ps => by simp only [after]; exact after_len env ds ps
  | env, .inr i :: ds, .d x :: ps => by simp only [after]; exact after_len env ds ps
theorem updC_ne {env : Env} {i j : Nat} {k : VC} (h : j ≠ i) : (updC env i k)[j]? = env[j]? := by
  unfold updC; split
  · rw [List.getElem?_set_ne (fun q => h q.symm)]
  · rfl
theorem updC_self {env : Env} {i : Nat} {k : VC} {it : It} (h : env[i]? = some it) : (updC env i k)[i]? = some (reC k it) := by
  unfold updC; rw [h]; simp only
  rw [List.getElem?_set_self (List.getElem?_eq_some_iff.mp h).1]
theorem after_out : ∀ {env : Env} {ds : List Arg} {ps : List PI} {i : Nat}, i ∉ slotsOf ds → (after env ds ps)[i]? = env[i]?
  | env, [], ps, i, h => by simp [after]
  | env, d :: ds, [], i, h => by cases d <;> simp [after]
  | env, .inl x :: ds, p :: ps, i, h => by simp only [after]; exact after_out (by simpa [slotsOf] using h)
  | env, .inr l :: ds, .b k :: ps, i, h => by
    simp only [slotsOf, List.mem_cons, not_or] at h
    simp only [after]; rw [after_out h.2, updC_ne h.1]
  | env, .inr l :: ds, .j :: ps, i, h => by
    simp only [slotsOf, List.mem_cons, not_or] at h
    simp only [after]; exact after_out h.2
  | env, .inr l :: ds, .d x :: ps, i, h => by
    simp only [slotsOf, List.mem_cons, not_or] at h
    simp only [after]; exact after_out h.2
theorem after_in : ∀ {env : Env} {ds : List Arg} {ps : List PI} {i j : Nat} {k : VC} {it : It}, (slotsOf ds).Nodup → ds[j]? = some (.inr i) → ps[j]? = some (.b k) → env[i]? = some it → (after env ds ps)[i]? = some (reC k it)
  | env, .inl x :: ds, p :: ps, i, j + 1, k, it, hn, h1, h2, h3 => by simp only [after]; exact after_in (j := j) hn (by simpa using h1) (by simpa using h2) h3
  | env, .inr l :: ds, p :: ps, i, 0, k, it, hn, h1, h2, h3 => by
    simp at h1 h2; subst h1 h2
    simp only [slotsOf, List.nodup_cons] at hn
    simp only [after]
    rw [after_out hn.1, updC_self h3]
  | env, .inr l :: ds, p :: ps, i, j + 1, k, it, hn, h1, h2, h3 => by
    simp only [slotsOf, List.nodup_cons] at hn
    have hi : i ≠ l := fun z => hn.1 (z ▸ slots_at (j := j) (by simpa using h1))
    cases p with
    | b k2 =>
      simp only [after]
      exact after_in (j := j) hn.2 (by simpa using h1) (by simpa using h2) (by rw [updC_ne hi]; exact h3)
    | j => simp only [after]; exact after_in (j := j) hn.2 (by simpa using h1) (by simpa using h2) h3
    | d x => simp only [after]; exact after_in (j := j) hn.2 (by simpa using h1) (by simpa using h2) h3
/-- the parameters' boxes stay boxes -/
def shapeB : List Arg → List PI → Prop
  | [], [] => True
  | .inr _ :: ds, .b _ :: ps => shapeB ds ps
  | .inl _ :: ds, _ :: ps => shapeB ds ps
  | _, _ => False
theorem shapeB.at : ∀ {ds : List Arg} {ps : List PI} {j i : Nat}, shapeB ds ps → ds[j]? = some (.inr i) → ∃ k, ps[j]? = some (.b k)
  | .inr _ :: ds, .b k :: ps, 0, i, h, h1 => ⟨k, rfl⟩
  | .inr _ :: ds, .b k :: ps, j + 1, i, h, h1 => by
    simp only [List.getElem?_cons_succ] at h1 ⊢
    exact shapeB.at (ds := ds) h h1
  | .inl _ :: ds, _ :: ps, j + 1, i, h, h1 => by
    simp only [List.getElem?_cons_succ] at h1 ⊢
    exact shapeB.at (ds := ds) h h1
  | .inl _ :: ds, _ :: ps, 0, i, h, h1 => by simp at h1
  | .inr _ :: _, .j :: _, _, _, h, _ => h.elim
  | .inr _ :: _, .d _ :: _, _, _, h, _ => h.elim
  | .inr _ :: _, [], _, _, h, _ => h.elim
  | .inl _ :: _, [], _, _, h, _ => h.elim
  | [], [], j, i, _, h1 => by simp at h1
  | [], _ :: _, j, i, h, _ => h.elim
section
variable {B : Base} {F : Nat → List Nat} {env : Env} {sl : Slots} {st : Store} {ξ σ : Type}
theorem adr_eq (h : RelF B F env sl st) {i : Nat} {k : VC} (hk : wrAt env i = some k) : ∃ fp, F i = adr sl i :: fp ∧ sl[i]? = some (some (.box (adr sl i))) ∧ vcAt st (adr sl i) k fp ∧ ∀ a', env[i]? = some (.p a' k) → a' = adr sl i := by
  obtain ⟨a, fp, h1, h2, h3, h4⟩ := h.box hk
  have : adr sl i = a := by simp [adr, h2]
  rw [this]
  exact ⟨fp, h1, h2, h3, h4⟩
theorem argP_b {ds : List Arg} {j i : Nat} (h : ds[j]? = some (.inr i)) : (ds.map (argP env))[j]? = some (argP env (.inr i)) := by simp [h]
def callF (F : Nat → List Nat) (ds : List Arg) (j : Nat) : List Nat :=
  match ds[j]? with
  | some (.inr i) => F i
  | _ => []
def callA (sl : Slots) (ds : List Arg) (j : Nat) : Nat :=
  match ds[j]? with
  | some (.inr i) => adr sl i
  | _ => 0
theorem call_in (h : RelF B F env sl st) {ds : List Arg} (hc : ∀ i ∈ slotsOf ds, (wrAt env i).isSome = true) (hn : (slotsOf ds).Nodup) :
    RelF ⟨st, allF (callF F ds) (ds.map (argP env)).length, true⟩ (callF F ds) (envOf (callA sl ds) (ds.map (argP env)) 0) ((valsOf (callA sl ds) (ds.map (argP env)) 0).map some) st where
  len := by rw [List.length_map, valsOf_len, envOf_len]
  le := Nat.le_refl _
  hold := fun j it hj => by
    rw [envOf_at] at hj
    cases hd : ds[j]? with
    | none => simp [hd] at hj
    | some a =>
      simp only [List.getElem?_map, hd, Option.map_some, Option.some.injEq] at hj
      cases a with
      | inl x =>
        subst hj
        refine ⟨by simp [callF, hd], ?_⟩
        simp [List.getElem?_map, valsOf_at, hd, argP, PI.vl]
      | inr i =>
        have hs := hc i (slots_at hd)
        obtain ⟨k, hk⟩ := Option.isSome_iff_exists.mp hs
        obtain ⟨fp, h1, h2, h3, _⟩ := adr_eq h hk
        subst hj
        have eA : callA sl ds j = adr sl i := by simp [callA, hd]
        have : argP env (Sum.inr i) = .b k := by simp [argP, hk]
        rw [this]
        refine ⟨fp, ?_, ?_, ?_⟩
        · simp [callF, hd, h1, eA]
        · simp [List.getElem?_map, valsOf_at, hd, this, PI.vl, eA]
        · rw [Nat.zero_add, eA]; exact h3
  off := fun j hj => by
    rw [envOf_len, List.length_map] at hj
    simp [callF, List.getElem?_eq_none hj]
  dis := fun j l x hj hl => by
    unfold callF at hj hl
    split at hj
    · rename_i i e
      split at hl
      · rename_i i' e'
        have := h.dis i i' x hj hl
        subst this
        exact slots_inj hn e e'
      · cases hl
    · cases hj
  nd := fun j => by
    unfold callF
    split
    · exact h.nd _
    · exact List.nodup_nil
  inM := fun j x hx => by
    refine .inr (mem_allF.mpr ⟨j, ?_, hx⟩)
    rw [List.length_map]
    rcases Nat.lt_or_ge j ds.length with z | z
    · exact z
    · simp [callF, List.getElem?_eq_none z] at hx
  fr := fun a _ _ => rfl
  wf := fun _ a c _ hc => h.gw a c hc
  gw := h.gw
theorem call_out (h : RelF B F env sl st) {ds : List Arg} (hn : (slotsOf ds).Nodup) (hc : ∀ i ∈ slotsOf ds, (wrAt env i).isSome = true) {ps' : List PI} {F' : Nat → List Nat} {st' : Store} (hsh : shapeB ds ps')
    (hw : B.w = false ∨ slotsOf ds = []) (h' : RelF ⟨st, allF (callF F ds) (ds.map (argP env)).length, false⟩ F' (envOf (callA sl ds) ps' 0) ((valsOf (callA sl ds) (ds.map (argP env)) 0).map some) st') :
    ∃ F2, RelF B F2 (after env ds ps') sl st' := by
  have hM : ∀ {x : Nat}, x ∈ allF (callF F ds) (ds.map (argP env)).length → ∃ (j i : Nat), ds[j]? = some (Sum.inr i) ∧ x ∈ F i := by
    intro x hx
    obtain ⟨j, _, hx⟩ := mem_allF.mp hx
    unfold callF at hx
    split at hx
    · rename_i i e; exact ⟨j, i, e, hx⟩
    · cases hx
  have hold : ∀ x, x < st.length → (∀ (j i : Nat), ds[j]? = some (Sum.inr i) → x ∉ F i) → st'[x]? = st[x]? := fun x hx hno => h'.fr x hx fun q => by
    obtain ⟨j, i, e, q⟩ := hM q; exact hno j i e q
  let F2 : Nat → List Nat := fun i => match argAt i ds 0 with | some j => F' j | none => F i
  have f2 : ∀ {i x : Nat}, x ∈ F2 i → (∃ j, argAt i ds 0 = some j ∧ x ∈ F' j) ∨ (argAt i ds 0 = none ∧ x ∈ F i) := by
    intro i x hx
    simp only [F2] at hx
    split at hx
    · rename_i j e; exact .inl ⟨j, e, hx⟩
    · rename_i e; exact .inr ⟨e, hx⟩
  have cross : ∀ {i j x : Nat}, argAt i ds 0 = none → x ∈ F i → x ∈ F' j → False := by
    intro i j x e hx hj
    rcases h'.inM j x hj with q | q
    · have := h.lt hx
      have q' : st.length ≤ x := q
      omega
    · obtain ⟨l, i', e', q⟩ := hM q
      have := h.dis i i' x hx q
      subst this
      exact argAt_none e (slots_at e')
  refine ⟨F2, ?_⟩
  exact {
    len := by rw [after_len]; exact h.len
    le := Nat.le_trans h.le h'.le
    hold := fun i it hi => by
      cases e : argAt i ds 0 with
      | none =>
        rw [after_out (argAt_none e)] at hi
        refine (h.hold i it hi).keep (by simp [F2, e]) rfl fun x hx => hold x (h.lt hx) fun j l e' q => ?_
        have := h.dis i l x hx q
        subst this
        exact argAt_none e (slots_at e')
      | some j =>
        obtain ⟨_, e2⟩ := argAt_some e
        rw [Nat.sub_zero] at e2
        obtain ⟨k', hk'⟩ := hsh.at e2
        obtain ⟨k, hk⟩ := Option.isSome_iff_exists.mp (hc i (slots_at e2))
        obtain ⟨it0, q1, q2⟩ := wrAt_it hk
        rw [after_in hn e2 hk' q1] at hi
        obtain ⟨fp, g1, g2, g3, g4⟩ := adr_eq h hk
        have hj := h'.hold j (.p (callA sl ds (0 + j)) k') (by rw [envOf_at, hk']; rfl)
        obtain ⟨fp', i1, i2, i3⟩ := hj
        have eA : callA sl ds (0 + j) = adr sl i := by simp [callA, e2]
        rw [eA] at i1 i3
        cases hi
        rcases q2 with rfl | ⟨a, rfl⟩
        · exact ⟨adr sl i, fp', by simp [F2, e, i1], g2, i3⟩
        · have : a = adr sl i := g4 a q1
          subst this
          exact ⟨fp', by simp [F2, e, i1], g2, i3⟩
    off := fun i hi => by
      rw [after_len] at hi
      have e : argAt i ds 0 = none := by
        cases e : argAt i ds 0 with
        | none => rfl
        | some j =>
          obtain ⟨_, e2⟩ := argAt_some e
          rw [Nat.sub_zero] at e2
          obtain ⟨k, hk⟩ := Option.isSome_iff_exists.mp (hc i (slots_at e2))
          have := wrAt_lt hk
          omega
      simp [F2, e, h.off i hi]
    dis := fun i l x hi hl => by
      rcases f2 hi with ⟨j, e1, m1⟩ | ⟨e1, m1⟩
      · rcases f2 hl with ⟨j2, e2, m2⟩ | ⟨e2, m2⟩
        · have := h'.dis j j2 x m1 m2
          subst this
          have z1 := (argAt_some e1).2
          have z2 := (argAt_some e2).2
          rw [z1] at z2
          cases z2; rfl
        · exact (cross e2 m2 m1).elim
      · rcases f2 hl with ⟨j2, e2, m2⟩ | ⟨e2, m2⟩
        · exact (cross e1 m1 m2).elim
        · exact h.dis i l x m1 m2
    nd := fun i => by
      simp only [F2]
      split
      · exact h'.nd _
      · exact h.nd _
    inM := fun i x hx => by
      rcases f2 hx with ⟨j, e, m⟩ | ⟨e, m⟩
      · rcases h'.inM j x m with q | q
        · exact .inl (Nat.le_trans h.le q)
        · obtain ⟨_, i', _, q⟩ := hM q
          exact h.inM i' x q
      · exact h.inM i x m
    fr := fun a ha hm => by
      rw [← h.fr a ha hm]
      refine hold a (Nat.lt_of_lt_of_le ha h.le) fun j i e q => ?_
      rcases h.inM i a q with z | z
      · exact absurd ha (by omega)
      · exact hm z
    wf := fun z a c ha hc2 => by
      rcases hw with hw | hw
      · rw [hw] at z; cases z
      · rw [hold a (Nat.lt_of_lt_of_le ha h.le) fun j i e _ => by have := slots_at e; rw [hw] at this; cases this] at hc2
        exact h.wf z a c ha hc2
    gw := h'.gw }
end
end TY
end

section
set_option Elab.async false
set_option linter.all false
set_option maxRecDepth 100000
set_option maxHeartbeats 1000000
set_option autoImplicit false
/-! TY5: expressions that change things; calls. -/
namespace TY
open PySem L2 TL
open Enc (enc)
section
variable (B : Base) {ξ σ : Type} (envx : ξ → Env) (env : Env)
def XE (m : EM) (t : Out ξ σ) (envk : σ → Env) (val : σ → PyData) : Prop := ∀ sl ext exs st, Rl B env ext sl exs st →
  Sat (fun x st' => Rl B (envx x) ext sl exs st') (fun s v st' => v = Val.d (val s) ∧ Rl B (envk s) ext sl exs st') t (m sl st)
def XT (c : TM) (t : Out ξ σ) (envk : σ → Env) (val : σ → Bool) : Prop := ∀ sl ext exs st, Rl B env ext sl exs st →
  Sat (fun x st' => Rl B (envx x) ext sl exs st') (fun s v st' => v = val s ∧ Rl B (envk s) ext sl exs st') t (c sl st)
def XA (a : AM) (t : Out ξ σ) (envk : σ → Env) (val : σ → List PyData) : Prop := ∀ sl ext exs st, Rl B env ext sl exs st →
  Sat (fun x st' => Rl B (envx x) ext sl exs st') (fun s (v : List Val) st' => v = (val s).map .d ∧ Rl B (envk s) ext sl exs st') t (a sl st)
def XI (a : IM) (t : Out ξ σ) (envk : σ → Env) (val : σ → List PyData) : Prop := ∀ sl ext exs st, Rl B env ext sl exs st →
  Sat (fun x st' => Rl B (envx x) ext sl exs st') (fun s v st' => v = val s ∧ Rl B (envk s) ext sl exs st') t (a sl st)
def XO (m : EM) (t : Out ξ σ) (envk : σ → Env) (it : σ → It) : Prop := ∀ sl ext exs st, Rl B env ext sl exs st →
  Sat (fun x st' => Rl B (envx x) ext sl exs st') (fun s v st' => Rl B (envk s) (ext ++ [it s]) sl (exs ++ [some v]) st') t (m sl st)
def XL (a : AM) (t : Out ξ σ) (envk : σ → Env) (its : σ → List It) : Prop := ∀ sl ext exs st, Rl B env ext sl exs st →
  Sat (fun x st' => Rl B (envx x) ext sl exs st') (fun s (v : List Val) st' => v.length = (its s).length ∧ Rl B (envk s) (ext ++ its s) sl (exs ++ v.map some) st') t (a sl st)
end
section
variable {B : Base} {ξ σ τ υ : Type} {envx : ξ → Env} {env : Env}
theorem XE_p {m : EM} {x : PyData} (h : EJ B env m x) : XE B envx env m (.ok true) (fun _ => env) (fun _ => x) := fun sl ext exs st r => by
  rw [h sl ext exs st r]; exact ⟨rfl, r⟩
theorem XT_p {c : TM} {b : Bool} (h : TJ B env c b) : XT B envx env c (.ok true) (fun _ => env) (fun _ => b) := fun sl ext exs st r => by
  rw [h sl ext exs st r]; exact ⟨rfl, r⟩
theorem XI_p {c : IM} {b : List PyData} (h : IJ B env c b) : XI B envx env c (.ok true) (fun _ => env) (fun _ => b) := fun sl ext exs st r => by
  rw [h sl ext exs st r]; exact ⟨rfl, r⟩
theorem XA_p {c : AM} {b : List PyData} (h : AJ B env c b) : XA B envx env c (.ok true) (fun _ => env) (fun _ => b) := fun sl ext exs st r => by
  rw [h sl ext exs st r]; exact ⟨rfl, r⟩
/-- .. the same said otherwise -/
theorem XE.to {m : EM} {t : Out ξ σ} {envk : σ → Env} {val : σ → PyData} {envk' : τ → Env} {val' : τ → PyData} (h : XE B envx env m t envk val) (f : σ → τ) (h1 : ∀ s, wk (envk s) (envk' (f s))) (h2 : ∀ s, val s = val' (f s)) :
    XE B envx env m (t.bind fun s => .ok (f s)) envk' val' := fun sl ext exs st r => by
  have := h sl ext exs st r
  revert this
  cases t with
  | stuck => intro _; trivial
  | ok s =>
    cases m sl st with
    | ok v st' => rintro ⟨h3, h4⟩; exact ⟨by rw [h3, h2], h4.weak (h1 s)⟩
    | exn _ _ => exact fun z => z.elim
    | stuck => exact fun z => z.elim
  | exn c x =>
    cases m sl st with
    | ok v st' => exact fun z => z.elim
    | exn _ _ => exact fun z => z
    | stuck => exact fun z => z.elim
theorem XE_p1 {f : PyData → Option PyData} {m : EM} {t : Out ξ σ} {envk : σ → Env} {val z : σ → PyData} (h : XE B envx env m t envk val) (hf : ∀ s, f (val s) = some (z s)) : XE B envx env (mP1 f m) t envk z := fun sl ext exs st r => by
  have := Sat.bind (f := fun s => Out.ok s) (g := fun v st1 => R.opt (((deref v st1).bind f).map Val.d) st1) (Q := fun s v st' => v = Val.d (z s) ∧ Rl B (envk s) ext sl exs st') (h sl ext exs st r) fun s v st1 ⟨h1, h2⟩ => by
    subst h1; simp [hf]; exact ⟨rfl, h2⟩
  have e : (t.bind fun s => Out.ok s) = t := by cases t <;> rfl
  rw [e] at this; exact this
theorem bind_ok (t : Out ξ σ) : (t.bind fun s => Out.ok s) = t := by cases t <;> rfl
theorem XE_p2_ep {f : PyData → PyData → Option PyData} {a b : EM} {t : Out ξ σ} {envk : σ → Env} {va y z : σ → PyData} (ha : XE B envx env a t envk va) (hb : ∀ s, EV B (envk s) b (y s)) (hf : ∀ s, f (va s) (y s) = some (z s)) :
    XE B envx env (mP2 f a b) t envk z := fun sl ext exs st r => by
  rw [← bind_ok t]
  refine Sat.bind (ha sl ext exs st r) fun s v st1 ⟨h1, h2⟩ => ?_
  obtain ⟨u, h3, h4⟩ := hb s sl ext exs st1 h2
  subst h1; simp [h3, h4, hf, R.bind]; exact ⟨rfl, h2⟩
theorem XE_p2_pe {f : PyData → PyData → Option PyData} {a b : EM} {t : Out ξ σ} {envk : σ → Env} {x : PyData} {vb z : σ → PyData} (ha : EJ B env a x) (hb : XE B envx env b t envk vb) (hf : ∀ s, f x (vb s) = some (z s)) :
    XE B envx env (mP2 f a b) t envk z := fun sl ext exs st r => by
  rw [← bind_ok t]
  simp only [mP2, ha sl ext exs st r, R.bind_ok]
  refine Sat.bind (hb sl ext exs st r) fun s v st1 ⟨h1, h2⟩ => ?_
  subst h1; simp [hf]; exact ⟨rfl, h2⟩
theorem XE_p2_ee {f : PyData → PyData → Option PyData} {a b : EM} {t : Out ξ σ} {envk : σ → Env} {va : σ → PyData} {t2 : σ → Out ξ τ} {envl : σ → τ → Env} {vb z : σ → τ → PyData}
    (ha : XE B envx env a t envk va) (hb : ∀ s, XE B envx (envk s) b (t2 s) (envl s) (vb s)) (hf : ∀ s u, f (va s) (vb s u) = some (z s u)) :
    XE B envx env (mP2 f a b) (t.bind fun s => (t2 s).bind fun u => .ok (s, u)) (fun p => envl p.1 p.2) (fun p => z p.1 p.2) := fun sl ext exs st r => by
  refine Sat.bind (ha sl ext exs st r) fun s v st1 ⟨h1, h2⟩ => ?_
  refine Sat.bind (hb s sl ext exs st1 h2) fun u v2 st2 ⟨h3, h4⟩ => ?_
  subst h1 h3; simp [hf]; exact ⟨rfl, h4⟩
/-- a guard behind -/
theorem XE_p2_epG {f : PyData → PyData → Option PyData} {a b : EM} {t : Out ξ σ} {envk : σ → Env} {va y z : σ → PyData} (g : σ → Prop) {inst : ∀ s, Decidable (g s)} (ha : XE B envx env a t envk va) (hb : ∀ s, g s → EV B (envk s) b (y s)) (hf : ∀ s, g s → f (va s) (y s) = some (z s)) :
    XE B envx env (mP2 f a b) (t.bind fun s => grd (g s) (.ok s)) envk z := fun sl ext exs st r => by
  refine Sat.bind (ha sl ext exs st r) fun s v st1 ⟨h1, h2⟩ => ?_
  unfold grd
  split
  · rename_i hg
    obtain ⟨u, h3, h4⟩ := hb s hg sl ext exs st1 h2
    subst h1; simp [h3, h4, hf s hg, R.bind]; exact ⟨rfl, h2⟩
  · trivial
theorem XE_p2_peG {f : PyData → PyData → Option PyData} {a b : EM} {t : Out ξ σ} {envk : σ → Env} {x : PyData} {vb z : σ → PyData} (g : σ → Prop) {inst : ∀ s, Decidable (g s)} (ha : EJ B env a x) (hb : XE B envx env b t envk vb) (hf : ∀ s, g s → f x (vb s) = some (z s)) :
    XE B envx env (mP2 f a b) (t.bind fun s => grd (g s) (.ok s)) envk z := fun sl ext exs st r => by
  simp only [mP2, ha sl ext exs st r, R.bind_ok]
  refine Sat.bind (hb sl ext exs st r) fun s v st1 ⟨h1, h2⟩ => ?_
  unfold grd
  split
  · rename_i hg
    subst h1; simp [hf s hg]; exact ⟨rfl, h2⟩
  · trivial
theorem XT_e {m : EM} {t : Out ξ σ} {envk : σ → Env} {b : σ → Bool} (h : XE B envx env m t envk (fun s => .bool (b s))) : XT B envx env (tOfE m) t envk b := fun sl ext exs st r => by
  rw [← bind_ok t]
  refine Sat.bind (h sl ext exs st r) fun s v st1 ⟨h1, h2⟩ => ?_
  subst h1; exact ⟨rfl, h2⟩
theorem XT_not {c : TM} {t : Out ξ σ} {envk : σ → Env} {b : σ → Bool} (h : XT B envx env c t envk b) : XT B envx env (TL.tNot c) t envk (fun s => !(b s)) := fun sl ext exs st r => by
  rw [← bind_ok t]
  refine Sat.bind (h sl ext exs st r) fun s v st1 ⟨h1, h2⟩ => ?_
  subst h1; exact ⟨rfl, h2⟩
/-- or: the second is asked only where the first says no; both leave the same -/
theorem XT_or {c d : TM} {t : Out ξ σ} {envk : σ → Env} {b : σ → Bool} {t2 : σ → Out ξ τ} {envl : τ → Env} {b2 : τ → Bool} (f : σ → τ) (h : XT B envx env c t envk b) (h2 : ∀ s, b s = false → XT B envx (envk s) d (t2 s) envl b2)
    (hf : ∀ s, wk (envk s) (envl (f s))) (hv : ∀ s, b s = true → b2 (f s) = true) :
    XT B envx env (TL.tOr c d) (t.bind fun s => if b s = true then .ok (f s) else t2 s) envl b2 := fun sl ext exs st r => by
  refine Sat.bind (h sl ext exs st r) fun s v st1 ⟨h3, h4⟩ => ?_
  subst h3
  cases hb : b s with
  | true => exact ⟨(hv s hb).symm, h4.weak (hf s)⟩
  | false => simp; exact h2 s hb sl ext exs st1 h4
theorem XT_and {c d : TM} {t : Out ξ σ} {envk : σ → Env} {b : σ → Bool} {t2 : σ → Out ξ τ} {envl : τ → Env} {b2 : τ → Bool} (f : σ → τ) (h : XT B envx env c t envk b) (h2 : ∀ s, b s = true → XT B envx (envk s) d (t2 s) envl b2)
    (hf : ∀ s, wk (envk s) (envl (f s))) (hv : ∀ s, b s = false → b2 (f s) = false) :
    XT B envx env (TL.tAnd c d) (t.bind fun s => if b s = true then t2 s else .ok (f s)) envl b2 := fun sl ext exs st r => by
  refine Sat.bind (h sl ext exs st r) fun s v st1 ⟨h3, h4⟩ => ?_
  subst h3
  cases hb : b s with
  | false => exact ⟨(hv s hb).symm, h4.weak (hf s)⟩
  | true => simp; exact h2 s hb sl ext exs st1 h4
/-! ### arguments -/
theorem XA_pe {m : EM} {a : AM} {t : Out ξ σ} {envk : σ → Env} {x : PyData} {vs : σ → List PyData} (h : EJ B env m x) (ha : XA B envx env a t envk vs) : XA B envx env (aCons m a) t envk (fun s => x :: vs s) := fun sl ext exs st r => by
  simp only [aCons, h sl ext exs st r, R.bind_ok]
  rw [← bind_ok t]
  refine Sat.bind (ha sl ext exs st r) fun s v st1 ⟨h1, h2⟩ => ?_
  subst h1; exact ⟨rfl, h2⟩
theorem XA_ep {m : EM} {a : AM} {t : Out ξ σ} {envk : σ → Env} {vm : σ → PyData} {xs : σ → List PyData} (h : XE B envx env m t envk vm) (ha : ∀ s, AJ B (envk s) a (xs s)) : XA B envx env (aCons m a) t envk (fun s => vm s :: xs s) := fun sl ext exs st r => by
  rw [← bind_ok t]
  refine Sat.bind (h sl ext exs st r) fun s v st1 ⟨h1, h2⟩ => ?_
  subst h1
  simp [ha s sl ext exs st1 h2]
  exact ⟨rfl, h2⟩
theorem XA_epG {m : EM} {a : AM} {t : Out ξ σ} {envk : σ → Env} {vm : σ → PyData} {xs : σ → List PyData} (g : σ → Prop) {inst : ∀ s, Decidable (g s)} (h : XE B envx env m t envk vm) (ha : ∀ s, g s → AJ B (envk s) a (xs s)) : XA B envx env (aCons m a) (t.bind fun s => grd (g s) (.ok s)) envk (fun s => vm s :: xs s) := fun sl ext exs st r => by
  refine Sat.bind (h sl ext exs st r) fun s v st1 ⟨h1, h2⟩ => ?_
  unfold grd
  split
  · rename_i hg
    subst h1
    simp [ha s hg sl ext exs st1 h2]
    exact ⟨rfl, h2⟩
  · trivial
/-- the second asked only where the first says no, without effects -/
theorem XT_orP {c d : TM} {t : Out ξ σ} {envk : σ → Env} {b b2 : σ → Bool} (h : XT B envx env c t envk b) (h2 : ∀ s, b s = false → TJ B (envk s) d (b2 s)) : XT B envx env (TL.tOr c d) t envk (fun s => b s || b2 s) := fun sl ext exs st r => by
  rw [← bind_ok t]
  refine Sat.bind (h sl ext exs st r) fun s v st1 ⟨h3, h4⟩ => ?_
  subst h3
  cases hb : b s with
  | true => exact ⟨by simp [hb], h4⟩
  | false => simp only [cond_false, h2 s hb sl ext exs st1 h4]; exact ⟨by simp [hb], h4⟩
theorem XT_andP {c d : TM} {t : Out ξ σ} {envk : σ → Env} {b b2 : σ → Bool} (h : XT B envx env c t envk b) (h2 : ∀ s, b s = true → TJ B (envk s) d (b2 s)) : XT B envx env (TL.tAnd c d) t envk (fun s => b s && b2 s) := fun sl ext exs st r => by
  rw [← bind_ok t]
  refine Sat.bind (h sl ext exs st r) fun s v st1 ⟨h3, h4⟩ => ?_
  subst h3
  cases hb : b s with
  | false => exact ⟨by simp [hb], h4⟩
  | true => simp only [cond_true, h2 s hb sl ext exs st1 h4]; exact ⟨by simp [hb], h4⟩
theorem XT_orG {c d : TM} {t : Out ξ σ} {envk : σ → Env} {b b2 : σ → Bool} (g : σ → Prop) {inst : ∀ s, Decidable (g s)} (h : XT B envx env c t envk b) (h2 : ∀ s, g s → b s = false → TJ B (envk s) d (b2 s)) : XT B envx env (TL.tOr c d) (t.bind fun s => grd (g s) (.ok s)) envk (fun s => b s || b2 s) := fun sl ext exs st r => by
  refine Sat.bind (h sl ext exs st r) fun s v st1 ⟨h3, h4⟩ => ?_
  subst h3
  unfold grd
  split
  · rename_i hg
    cases hb : b s with
    | true => exact ⟨by simp [hb], h4⟩
    | false => simp only [cond_false, h2 s hg hb sl ext exs st1 h4]; exact ⟨by simp [hb], h4⟩
  · trivial
theorem XT_andG {c d : TM} {t : Out ξ σ} {envk : σ → Env} {b b2 : σ → Bool} (g : σ → Prop) {inst : ∀ s, Decidable (g s)} (h : XT B envx env c t envk b) (h2 : ∀ s, g s → b s = true → TJ B (envk s) d (b2 s)) : XT B envx env (TL.tAnd c d) (t.bind fun s => grd (g s) (.ok s)) envk (fun s => b s && b2 s) := fun sl ext exs st r => by
  refine Sat.bind (h sl ext exs st r) fun s v st1 ⟨h3, h4⟩ => ?_
  subst h3
  unfold grd
  split
  · rename_i hg
    cases hb : b s with
    | false => exact ⟨by simp [hb], h4⟩
    | true => simp only [cond_true, h2 s hg hb sl ext exs st1 h4]; exact ⟨by simp [hb], h4⟩
  · trivial
theorem XA_ee {m : EM} {a : AM} {t : Out ξ σ} {envk : σ → Env} {vm : σ → PyData} {t2 : σ → Out ξ τ} {envl : σ → τ → Env} {vs : σ → τ → List PyData} (h : XE B envx env m t envk vm) (ha : ∀ s, XA B envx (envk s) a (t2 s) (envl s) (vs s)) :
    XA B envx env (aCons m a) (t.bind fun s => (t2 s).bind fun u => .ok (s, u)) (fun p => envl p.1 p.2) (fun p => vm p.1 :: vs p.1 p.2) := fun sl ext exs st r => by
  refine Sat.bind (h sl ext exs st r) fun s v st1 ⟨h1, h2⟩ => ?_
  refine Sat.bind (ha s sl ext exs st1 h2) fun u v2 st2 ⟨h3, h4⟩ => ?_
  subst h1 h3
  exact ⟨rfl, h4⟩
theorem XE_pn {f : List PyData → Option PyData} {a : AM} {t : Out ξ σ} {envk : σ → Env} {vs : σ → List PyData} {z : σ → PyData} (h : XA B envx env a t envk vs) (hf : ∀ s, f (vs s) = some (z s)) : XE B envx env (mPn f a) t envk z := fun sl ext exs st r => by
  rw [← bind_ok t]
  refine Sat.bind (h sl ext exs st r) fun s v st1 ⟨h1, h2⟩ => ?_
  subst h1
  simp [derefs_map, hf]; exact ⟨rfl, h2⟩
theorem XE_pnG {f : List PyData → Option PyData} {a : AM} {t : Out ξ σ} {envk : σ → Env} {vs : σ → List PyData} {z : σ → PyData} (g : σ → Prop) {inst : ∀ s, Decidable (g s)} (h : XA B envx env a t envk vs) (hf : ∀ s, g s → f (vs s) = some (z s)) : XE B envx env (mPn f a) (t.bind fun s => grd (g s) (.ok s)) envk z := fun sl ext exs st r => by
  refine Sat.bind (h sl ext exs st r) fun s v st1 ⟨h1, h2⟩ => ?_
  subst h1
  unfold grd
  split
  · rename_i hg; simp [derefs_map, hf s hg]; exact ⟨rfl, h2⟩
  · trivial
theorem XE_disp {f : List PyData → Option PyData} {a : AM} {t : Out ξ σ} {envk : σ → Env} {vs : σ → List PyData} {z : σ → PyData} (h : XA B envx env a t envk vs) (hf : ∀ s, f (vs s) = some (z s)) : XE B envx env (mDisp f a) t envk z := fun sl ext exs st r => by
  rw [← bind_ok t]
  refine Sat.bind (h sl ext exs st r) fun s v st1 ⟨h1, h2⟩ => ?_
  subst h1
  simp [datas_map, hf]; exact ⟨rfl, h2⟩
theorem XI_pn {f : List PyData → Option (List PyData)} {a : AM} {t : Out ξ σ} {envk : σ → Env} {vs ys : σ → List PyData} (g : σ → Prop) {inst : ∀ s, Decidable (g s)} (h : XA B envx env a t envk vs) (hf : ∀ s, g s → f (vs s) = some (ys s)) : XI B envx env (iPn f a) (t.bind fun s => grd (g s) (.ok s)) envk ys := fun sl ext exs st r => by
  refine Sat.bind (h sl ext exs st r) fun s v st1 ⟨h1, h2⟩ => ?_
  subst h1
  unfold grd
  split
  · rename_i hg; simp [datas_map, hf s hg]; exact ⟨rfl, h2⟩
  · trivial
theorem XE_slH {m hi : EM} {t : Out ξ σ} {envk : σ → Env} {x : PyData} {i : σ → Int} {z : σ → PyData} (hm : EJ B env m x) (h : XE B envx env hi t envk (fun s => .int (i s))) (hz : ∀ s, oSl x none (some (i s)) = some (z s)) : XE B envx env (mSl m none (some hi)) t envk z := fun sl ext exs st r => by
  simp only [mSl, mPart, hm sl ext exs st r, R.bind_ok]
  have := h sl ext exs st r
  revert this
  cases t with
  | stuck => intro _; trivial
  | ok s =>
    cases hi sl st with
    | ok v st' => rintro ⟨h3, h4⟩; subst h3; simp [hz]; exact ⟨rfl, h4⟩
    | exn _ _ => exact fun z => z.elim
    | stuck => exact fun z => z.elim
  | exn c x =>
    cases hi sl st with
    | ok v st' => exact fun z => z.elim
    | exn _ _ => exact fun z => z
    | stuck => exact fun z => z.elim
theorem XE_slM {m : EM} {lo hi : Option EM} {t : Out ξ σ} {envk : σ → Env} {x z : σ → PyData} {l h : σ → Option Int} (g : σ → Prop) {inst : ∀ s, Decidable (g s)} (hm : XE B envx env m t envk x) (hl : ∀ s, PJ B (envk s) lo (l s)) (hh : ∀ s, PJ B (envk s) hi (h s)) (hz : ∀ s, g s → oSl (x s) (l s) (h s) = some (z s)) : XE B envx env (mSl m lo hi) (t.bind fun s => grd (g s) (.ok s)) envk z := fun sl ext exs st r => by
  refine Sat.bind (hm sl ext exs st r) fun s v st1 ⟨h1, h2⟩ => ?_
  subst h1
  unfold grd
  split
  · rename_i hg
    have pt : ∀ {q : Option EM} {o : Option Int}, PJ B (envk s) q o → mPart q sl st1 = .ok o st1 := by
      intro q o hq
      cases q with
      | none => cases o with
        | none => rfl
        | some _ => exact hq.elim
      | some q => cases o with
        | none => exact hq.elim
        | some o => simp [mPart, hq sl ext exs st1 h2, R.bind]
    simp [pt (hl s), pt (hh s), hz s hg]; exact ⟨rfl, h2⟩
  · trivial
theorem XE_if {c : TM} {a d : EM} {b : Bool} {t u : Out ξ σ} {envk : σ → Env} {val : σ → PyData} (hc : TJ B env c b) (ha : b = true → XE B envx env a t envk val) (hd : b = false → XE B envx env d u envk val) : XE B envx env (mIf c a d) (if b = true then t else u) envk val := fun sl ext exs st r => by
  cases b with
  | true => simp [mIf, hc sl ext exs st r, R.bind]; exact ha rfl sl ext exs st r
  | false => simp [mIf, hc sl ext exs st r, R.bind]; exact hd rfl sl ext exs st r
/-! ### calls -/
def AC (B : Base) (env : Env) (a : AM) (ds : List Arg) : Prop := ∀ sl ext exs st, Rl B env ext sl exs st → a sl st = .ok (ds.map (argV sl)) st
theorem AC_nil : AC B env aNil [] := fun sl ext exs st r => rfl
theorem AC_d {m : EM} {a : AM} {x : PyData} {ds : List Arg} (h : EJ B env m x) (ha : AC B env a ds) : AC B env (aCons m a) (.inl x :: ds) := fun sl ext exs st r => by
  simp [aCons, h sl ext exs st r, ha sl ext exs st r, argV]
theorem AC_b {i : Nat} {k : VC} {a : AM} {ds : List Arg} (h : cellAt env i = some k) (ha : AC B env a ds) : AC B env (aCons (mVar i) a) (.inr i :: ds) := fun sl ext exs st r => by
  obtain ⟨q, fp, h1, _⟩ := r.box h
  simp [aCons, mVar, h1, ha sl ext exs st r, argV, adr]
def isCell (env : Env) (i : Nat) : Bool := (wrAt env i).isSome
theorem vals_call {sl exs : Slots} {ext : Env} : ∀ (ds : List Arg) (n : Nat) (A : Nat → Nat), sl.length = env.length → (∀ i ∈ slotsOf ds, isCell env i = true) → (∀ j i, ds[j]? = some (Sum.inr i) → A (n + j) = adr (sl ++ exs) i) → valsOf A (ds.map (argP (env ++ ext))) n = ds.map (argV sl)
  | [], n, A, _, _, _ => rfl
  | .inl x :: ds, n, A, hl, hc, hA => by
    simp only [List.map_cons, valsOf]
    rw [vals_call ds (n + 1) A hl (fun i hi => hc i (by simpa [slotsOf] using hi)) (fun j i e => by have := hA (j + 1) i (by simpa using e); rw [show n + 1 + j = n + (j + 1) from by omega]; exact this)]
    rfl
  | .inr i :: ds, n, A, hl, hc, hA => by
    have hi := hc i (by simp [slotsOf])
    unfold isCell at hi
    obtain ⟨k, hk⟩ := Option.isSome_iff_exists.mp hi
    have hlt := wrAt_lt hk
    simp only [List.map_cons, valsOf]
    rw [vals_call ds (n + 1) A hl (fun i hi => hc i (by simp [slotsOf, hi])) (fun j i e => by have := hA (j + 1) i (by simpa using e); rw [show n + 1 + j = n + (j + 1) from by omega]; exact this)]
    have h0 := hA 0 i rfl
    have e1 : adr (sl ++ exs) i = adr sl i := by unfold adr; rw [List.getElem?_append_left (by rw [hl]; exact hlt)]
    simp only [argP, wrAt_app hlt, hk, PI.vl, argV]
    rw [show n = n + 0 from rfl, h0, e1]
theorem argP_app {ext : Env} : ∀ {ds : List Arg}, (∀ i ∈ slotsOf ds, isCell env i = true) → ds.map (argP (env ++ ext)) = ds.map (argP env)
  | [], _ => rfl
  | .inl x :: ds, h => by
    simp only [List.map_cons]
    rw [argP_app fun i hi => h i (by simpa [slotsOf] using hi)]
    rfl
  | .inr i :: ds, h => by
    have hi := h i (by simp [slotsOf])
    unfold isCell at hi
    obtain ⟨k, hk⟩ := Option.isSome_iff_exists.mp hi
    simp only [List.map_cons]
    rw [argP_app fun i hi => h i (by simp [slotsOf, hi])]
    simp only [argP, wrAt_app (wrAt_lt hk)]
theorem updC_app {ext : Env} {i : Nat} {k : VC} (hi : i < env.length) : updC (env ++ ext) i k = updC env i k ++ ext := by
  unfold updC
  rw [List.getElem?_append_left hi, List.getElem?_eq_getElem hi]
  simp only
  rw [List.set_append_left _ _ hi]
theorem after_app {ext : Env} : ∀ (env : Env) (ds : List Arg) (ps : List PI), (∀ i ∈ slotsOf ds, i < env.length) → after (env ++ ext) ds ps = after env ds ps ++ ext
  | env, [], ps, h => by simp [after]
  | env, d :: ds, [], h => by cases d <;> simp [after]
  | env, .inl x :: ds, p :: ps, h => by simp only [after]; exact after_app env ds ps (by simpa [slotsOf] using h)
  | env, .inr i :: ds, .b k :: ps, h => by
    simp only [after]
    rw [updC_app (h i (by simp [slotsOf])), after_app _ ds ps fun j hj => by rw [updC_len]; exact h j (by simp [slotsOf, hj])]
  | env, .inr i :: ds, .j :: ps, h => by simp only [after]; exact after_app env ds ps fun j hj => h j (by simp [slotsOf, hj])
  | env, .inr i :: ds, .d x :: ps, h => by simp only [after]; exact after_app env ds ps fun j hj => h j (by simp [slotsOf, hj])
/-- the call, its arguments there -/
theorem call_sat {f : FM} {t : Out ξ σ} {psx : ξ → List PI} {psk : σ → List PI} {val : σ → PyData} {ds : List Arg} (hf : FC f (ds.map (argP env)) t psx psk val)
    (hn : (slotsOf ds).Nodup) (hc : ∀ i ∈ slotsOf ds, isCell env i = true) (hsx : ∀ x, shapeB ds (psx x)) (hsk : ∀ s, shapeB ds (psk s)) (hw : B.w = false ∨ slotsOf ds = [])
    {sl exs : Slots} {ext : Env} {st : Store} (r : Rl B env ext sl exs st) :
    Sat (fun x st' => Rl B (after env ds (psx x)) ext sl exs st') (fun s v st' => v = Val.d (val s) ∧ Rl B (after env ds (psk s)) ext sl exs st') t (f (ds.map (argV sl)) st) := by
  obtain ⟨F, hF⟩ := r.ex
  have hlt : ∀ i ∈ slotsOf ds, i < env.length := fun i hi => by
    have := hc i hi
    unfold isCell at this
    obtain ⟨k, hk⟩ := Option.isSome_iff_exists.mp this
    exact wrAt_lt hk
  have hc2 : ∀ i ∈ slotsOf ds, (wrAt (env ++ ext) i).isSome = true := fun i hi => by rw [wrAt_app (hlt i hi)]; exact hc i hi
  have h1 := call_in hF hc2 hn
  have ev := vals_call (env := env) (sl := sl) (exs := exs) (ext := ext) ds 0 (callA (sl ++ exs) ds) r.len hc fun j i e => by simp [callA, e]
  have ep := argP_app (ext := ext) hc
  have h2 := hf (callA (sl ++ exs) ds) st (callF F ds) (by rw [ep] at h1; exact h1)
  rw [← ep, ev] at h2
  have fin : ∀ {ps' : List PI} {st' : Store}, shapeB ds ps' → (∃ F', RelF ⟨st, allF (callF F ds) (ds.map (argP (env ++ ext))).length, false⟩ F' (envOf (callA (sl ++ exs) ds) ps' 0) ((ds.map (argV sl)).map some) st') → Rl B (after env ds ps') ext sl exs st' := by
    rintro ps' st' hs ⟨F', h'⟩
    rw [← ev] at h'
    obtain ⟨F2, h3⟩ := call_out hF hn hc2 hs hw h'
    refine ⟨by rw [after_len]; exact r.len, F2, ?_⟩
    rw [after_app env ds ps' hlt] at h3
    exact h3
  revert h2
  cases t with
  | stuck => intro _; trivial
  | ok s =>
    cases f (ds.map (argV sl)) st with
    | ok v st' => rintro ⟨h3, h4⟩; exact ⟨h3, fin (hsk s) h4⟩
    | exn _ _ => exact fun z => z.elim
    | stuck => exact fun z => z.elim
  | exn c x =>
    cases f (ds.map (argV sl)) st with
    | ok v st' => exact fun z => z.elim
    | exn _ _ => rintro ⟨h3, h4⟩; exact ⟨h3, fin (hsx x) h4⟩
    | stuck => exact fun z => z.elim
theorem XE_call {f : FM} {a : AM} {t : Out ξ σ} {psx : ξ → List PI} {psk : σ → List PI} {val : σ → PyData} {ds : List Arg} (hf : FC f (ds.map (argP env)) t psx psk val) (ha : AC B env a ds)
    (hn : (slotsOf ds).Nodup) (hc : ∀ i ∈ slotsOf ds, isCell env i = true) (hsx : ∀ x, shapeB ds (psx x)) (hsk : ∀ s, shapeB ds (psk s)) (hw : B.w = false ∨ slotsOf ds = []) :
    XE B (fun x => after env ds (psx x)) env (mCall f a) t (fun s => after env ds (psk s)) val := fun sl ext exs st r => by
  simp only [mCall, ha sl ext exs st r, R.bind_ok]
  exact call_sat hf hn hc hsx hsk hw r
theorem XE_meth {f : FM} {a : AM} {t : Out ξ σ} {psx : ξ → List PI} {psk : σ → List PI} {val : σ → PyData} {ds : List Arg} {c g : Str} {i : Nat} {fs : List (Str × FV)} (hk : cellAt env i = some (.obj c fs)) (hg : getV fs g = none)
    (hf : FC f ((Sum.inr i :: ds).map (argP env)) t psx psk val) (ha : AC B env a ds)
    (hn : (slotsOf (Sum.inr i :: ds)).Nodup) (hc : ∀ j ∈ slotsOf (Sum.inr i :: ds), isCell env j = true) (hsx : ∀ x, shapeB (Sum.inr i :: ds) (psx x)) (hsk : ∀ s, shapeB (Sum.inr i :: ds) (psk s)) (hw : B.w = false) :
    XE B (fun x => after env (Sum.inr i :: ds) (psx x)) env (mMeth c g f (mVar i) a) t (fun s => after env (Sum.inr i :: ds) (psk s)) val := fun sl ext exs st r => by
  obtain ⟨q, fp, h1, vs, h2, h3⟩ := r.box hk
  have eo : TL.isObj c g (.box q) st = true := by simp [TL.isObj, h2, h3.none hg]
  simp only [mMeth, mVar, h1, R.bind_ok, eo, cond_true, ha sl ext exs st r]
  have := call_sat hf hn hc hsx hsk (.inl hw) r
  simpa [argV, adr, h1] using this
/-- another's errors are this one's -/
def Out.mapx {ξ' : Type} (t : Out ξ σ) (g : ξ → ξ') : Out ξ' σ :=
  match t with
  | .ok s => .ok s
  | .exn c x => .exn c (g x)
  | .stuck => .stuck
@[simp] theorem Out.mapx_ok {ξ' : Type} (s : σ) (g : ξ → ξ') : (Out.ok s).mapx g = .ok s := rfl
@[simp] theorem Out.mapx_exn {ξ' : Type} (c : Str) (x : ξ) (g : ξ → ξ') : (Out.exn c x : Out ξ σ).mapx g = .exn c (g x) := rfl
@[simp] theorem Out.mapx_stuck {ξ' : Type} (g : ξ → ξ') : (Out.stuck : Out ξ σ).mapx g = .stuck := rfl
theorem XE.mapx {ξ' : Type} {envx' : ξ' → Env} {m : EM} {t : Out ξ σ} {envk : σ → Env} {val : σ → PyData} (h : XE B envx env m t envk val) (g : ξ → ξ') (hg : ∀ x, wk (envx x) (envx' (g x))) : XE B envx' env m (t.mapx g) envk val := fun sl ext exs st r => by
  have := h sl ext exs st r
  revert this
  cases t with
  | stuck => intro _; trivial
  | ok s =>
    cases m sl st with
    | ok v st' => exact fun z => z
    | exn _ _ => exact fun z => z.elim
    | stuck => exact fun z => z.elim
  | exn c x =>
    cases m sl st with
    | ok v st' => exact fun z => z.elim
    | exn _ _ => rintro ⟨h3, h4⟩; exact ⟨h3, h4.weak (hg x)⟩
    | stuck => exact fun z => z.elim
end
end TY
end

section
set_option Elab.async false
set_option linter.all false
set_option maxRecDepth 100000
set_option maxHeartbeats 1000000
set_option autoImplicit false
/-! TY6: what is let go; told; what is made. -/
namespace TY
open PySem L2 TL
open Enc (enc)
section
variable {B : Base} {F : Nat → List Nat} {env env' ext : Env} {sl exs : Slots} {st st' : Store} {ξ σ τ δ : Type} {envx : ξ → Env}
theorem fvAt.below {k : Nat} {v : Val} : ∀ {u : FV} {b : List Nat}, fvAt st v u b → boxBelow k v = true → ∀ x ∈ b, x < k
  | .d x, b, ⟨_, h⟩, _, y, hy => by rw [h] at hy; cases hy
  | .lst xs, b, ⟨n, h1, h2, h3⟩, hb, y, hy => by
    subst h1
    rw [h3] at hy; simp at hy; subst hy
    simpa [boxBelow] using hb
  | .dic xs, b, ⟨n, h1, h2, h3⟩, hb, y, hy => by
    subst h1
    rw [h3] at hy; simp at hy; subst hy
    simpa [boxBelow] using hb
theorem fsAt.below {k : Nat} : ∀ {vs : List (Str × Val)} {fs : List (Str × FV)} {b : List Nat}, fsAt st vs fs b → (∀ p ∈ vs, boxBelow k p.2 = true) → ∀ x ∈ b, x < k
  | [], [], b, h, _, y, hy => by rw [show b = [] from h] at hy; cases hy
  | (f, v) :: r, (g, u) :: s, b, ⟨h1, b1, b2, h2, h3, h4⟩, hb, y, hy => by
    rw [h2] at hy
    rcases List.mem_append.mp hy with q | q
    · exact h3.below (hb (f, v) (by simp)) y q
    · exact h4.below (fun p hp => hb p (by simp [hp])) y q
  | [], _ :: _, _, h, _, _, _ => h.elim
  | _ :: _, [], _, h, _, _, _ => h.elim
theorem vcAt.below {k a : Nat} {c : VC} {fp : List Nat} (h : vcAt st a c fp) (ha : a < k) (hk : (st.take k).all (cellBelow k) = true) : ∀ x ∈ a :: fp, x < k := by
  have tk : ∀ {q : Cell}, st[a]? = some q → cellBelow k q = true := fun {q} hq => by
    refine List.all_eq_true.mp hk q (List.mem_of_getElem? (i := a) ?_)
    rw [List.getElem?_take_of_lt ha]; exact hq
  intro x hx
  rcases List.mem_cons.mp hx with q | q
  · rw [q]; exact ha
  · cases c with
    | lst xs => rw [h.2] at q; cases q
    | dic xs => rw [h.2] at q; cases q
    | ldic xs => rw [h.2] at q; cases q
    | obj n fs =>
      obtain ⟨vs, h1, h2⟩ := h
      have := tk h1
      simp only [cellBelow, List.all_eq_true] at this
      exact h2.below this x q
/-- what lies above k is let go -/
theorem RelF.take (h : RelF B F env sl st) {k : Nat} (h0 : B.n0 ≤ k) (hk : k ≤ st.length) (hall : (st.take k).all (cellBelow k) = true)
    (hb : ∀ i c a fp, wrAt env i = some c → F i = a :: fp → a < k) : RelF B F env sl (st.take k) := by
  have hl : (st.take k).length = k := by rw [List.length_take]; omega
  have fpk : ∀ i x, x ∈ F i → x < k := by
    intro i x hx
    rcases Nat.lt_or_ge i env.length with hi | hi
    · have hh := h.hold i _ (List.getElem?_eq_getElem hi)
      cases e : env[i] with
      | junk => rw [e] at hh; rw [show F i = [] from hh] at hx; cases hx
      | d y => rw [e] at hh; rw [hh.1] at hx; cases hx
      | c q =>
        rw [e] at hh
        obtain ⟨a, fp, e1, _, hv⟩ := hh
        rw [e1] at hx
        exact hv.below (hb i q a fp (by simp [wrAt, List.getElem?_eq_getElem hi, e]) e1) hall x hx
      | p a q =>
        rw [e] at hh
        obtain ⟨fp, e1, _, hv⟩ := hh
        rw [e1] at hx
        exact hv.below (hb i q a fp (by simp [wrAt, List.getElem?_eq_getElem hi, e]) e1) hall x hx
      | r a q => rw [e] at hh; rw [hh.1] at hx; cases hx
    · rw [h.off i hi] at hx; cases hx
  exact {
    len := h.len
    le := by rw [hl]; exact h0
    hold := fun i it hi => (h.hold i it hi).keep rfl rfl fun x hx => List.getElem?_take_of_lt (fpk i x hx)
    off := h.off
    dis := h.dis
    nd := h.nd
    inM := h.inM
    fr := fun a ha hm => by rw [List.getElem?_take_of_lt (Nat.lt_of_lt_of_le ha h0)]; exact h.fr a ha hm
    wf := fun hw a c ha hc => by rw [List.getElem?_take_of_lt (Nat.lt_of_lt_of_le ha h0)] at hc; exact h.wf hw a c ha hc
    gw := fun a c hc => by
      rw [hl]
      exact List.all_eq_true.mp hall c (List.mem_of_getElem? hc) }
/-- the same boxes at most -/
def subC : Env → Env → Bool
  | [], [] => true
  | a :: as, b :: bs => (match b with | .c _ => (match a with | .c _ => true | .p _ _ => true | _ => false) | .p _ _ => (match a with | .c _ => true | .p _ _ => true | _ => false) | _ => true) && subC as bs
  | _, _ => false
theorem subC_at : ∀ {a b : Env} {i : Nat} {k : VC}, subC a b = true → wrAt b i = some k → ∃ k', wrAt a i = some k'
  | x :: as, y :: bs, 0, k, h, hk => by
    simp only [subC, Bool.and_eq_true] at h
    have h1 := h.1
    cases y with
    | junk => cases hk
    | d _ => cases hk
    | r _ _ => cases hk
    | c q => cases x with
      | c z => exact ⟨z, rfl⟩
      | p _ z => exact ⟨z, rfl⟩
      | junk => cases h1
      | d _ => cases h1
      | r _ _ => cases h1
    | p _ q => cases x with
      | c z => exact ⟨z, rfl⟩
      | p _ z => exact ⟨z, rfl⟩
      | junk => cases h1
      | d _ => cases h1
      | r _ _ => cases h1
  | x :: as, y :: bs, i + 1, k, h, hk => by
    simp only [subC, Bool.and_eq_true] at h
    exact subC_at (i := i) h.2 hk
  | [], [], i, k, _, hk => by simp [wrAt] at hk
  | [], _ :: _, _, _, h, _ => by cases h
  | _ :: _, [], _, _, h, _ => by cases h
theorem subC_app : ∀ {a b : Env}, subC a b = true → a.length = b.length
  | [], [], _ => rfl
  | x :: as, y :: bs, h => by
    simp only [subC, Bool.and_eq_true] at h
    simp [subC_app h.2]
  | [], _ :: _, h => by cases h
  | _ :: _, [], h => by cases h
theorem Rl.take (h0 : Rl B env ext sl exs st) (h : Rl B env' ext sl exs st') (hs : subC env env' = true) (hle : st.length ≤ st'.length) (hall : (st'.take st.length).all (cellBelow st.length) = true) : Rl B env' ext sl exs (st'.take st.length) := by
  obtain ⟨F0, r0⟩ := h0.ex
  obtain ⟨F, r⟩ := h.ex
  refine ⟨h.len, F, r.take r0.le hle hall fun i c a fp hc ha => ?_⟩
  have he : env.length = env'.length := subC_app hs
  obtain ⟨k', hk'⟩ : ∃ k', wrAt (env ++ ext) i = some k' := by
    rcases Nat.lt_or_ge i env'.length with q | q
    · rw [wrAt_app q] at hc
      obtain ⟨k', hk'⟩ := subC_at hs hc
      exact ⟨k', by rw [wrAt_app (by rw [he]; exact q)]; exact hk'⟩
    · unfold wrAt at hc ⊢
      rw [List.getElem?_append_right q] at hc
      rw [List.getElem?_append_right (by rw [he]; exact q), he]
      exact ⟨c, hc⟩
  obtain ⟨b, fp0, e1, e2, e3, _⟩ := r0.box hk'
  obtain ⟨b', fp', f1, f2, f3, _⟩ := r.box hc
  rw [e2] at f2
  cases f2
  rw [ha] at f1
  cases f1
  exact e3.lt a (by simp)
theorem Rl.le_of (h : Rl B env ext sl exs st) : B.n0 ≤ st.length := by
  obtain ⟨F, r⟩ := h.ex
  exact r.le
/-- left, with data -/
theorem left_d (h0 : Rl B env ext sl exs st) (h : Rl B env' ext sl exs st') (hs : subC env env' = true) (x : PyData) : ∃ st2, TL.left st.length (.ok (.d x) st') = .ok (.d x) st2 ∧ Rl B env' ext sl exs st2 := by
  simp only [TL.left, leave]
  split
  · exact ⟨st', rfl, h⟩
  · split
    · rename_i q
      rw [Bool.and_eq_true] at q
      rcases Nat.lt_or_ge st'.length st.length with z | z
      · exact ⟨_, rfl, by rw [List.take_of_length_le (by omega)]; exact h⟩
      · exact ⟨_, rfl, h0.take h hs z q.2⟩
    · exact ⟨st', rfl, h⟩
/-- the last is forgotten -/
theorem RelF.pop {it : It} {v : Option Val} (h : RelF B F (env ++ [it]) (sl ++ [v]) st) : ∃ F', RelF B F' env sl st := by
  have hw : wk (env ++ [it]) (env ++ [.junk]) := wk.app (wk.refl env) ⟨.inl rfl, trivial⟩
  obtain ⟨F', h'⟩ := h.weak hw
  have hl : sl.length = env.length := by have := h.len; simpa using this
  have hj : F' env.length = [] := h'.hold env.length .junk (by simp)
  refine ⟨F', ?_⟩
  exact {
    len := hl
    le := h'.le
    hold := fun i it hi => by
      have hlt := (List.getElem?_eq_some_iff.mp hi).1
      refine (h'.hold i it (by rw [List.getElem?_append_left hlt]; exact hi)).keep rfl ?_ fun _ _ => rfl
      rw [List.getElem?_append_left (by rw [hl]; exact hlt)]
    off := fun i hi => by
      rcases Nat.lt_or_ge env.length i with z | z
      · exact h'.off i (by simp; omega)
      · have : i = env.length := by omega
        rw [this]; exact hj
    dis := h'.dis
    nd := h'.nd
    inM := h'.inM
    fr := h'.fr
    wf := h'.wf
    gw := h'.gw }
def toldX {ξ'  : Type} (tbl : List (Str × Str)) (t : Out ξ σ) (fk : σ → PyData × δ) (fx : ξ → δ) : Out ξ' (PyData × δ) :=
  match t with
  | .ok s => .ok (fk s)
  | .exn c x =>
    match tbl.lookup c with
    | some w => .ok (.str w, fx x)
    | none => .stuck
  | .stuck => .stuck
@[simp] theorem toldX_ok {ξ' : Type} (tbl : List (Str × Str)) (s : σ) (fk : σ → PyData × δ) (fx : ξ → δ) : (toldX tbl (.ok s) fk fx : Out ξ' (PyData × δ)) = .ok (fk s) := rfl
theorem XE_told {ξ' : Type} {envx' : ξ' → Env} {tbl : List (Str × Str)} {m : EM} {t : Out ξ σ} {envk : σ → Env} {val : σ → PyData} {envd : δ → Env} (fk : σ → PyData × δ) (fx : ξ → δ) (h : XE B envx env m t envk val)
    (hk : ∀ s, wk (envk s) (envd (fk s).2)) (hv : ∀ s, val s = (fk s).1) (hx : ∀ x, wk (envx x) (envd (fx x))) (hs : ∀ d, subC env (envd d) = true) :
    XE B envx' env (mTold tbl m) (toldX tbl t fk fx) (fun p => envd p.2) (fun p => p.1) := fun sl ext exs st r => by
  have := h sl ext exs st r
  revert this
  unfold mTold
  cases t with
  | stuck => intro _; trivial
  | ok s =>
    cases m sl st with
    | ok v st' =>
      rintro ⟨h1, h2⟩
      subst h1
      rw [hv s]
      obtain ⟨st2, e, r2⟩ := left_d r (h2.weak (hk s)) (hs _) (fk s).1
      simp only [e]
      exact ⟨rfl, r2⟩
    | exn _ _ => exact fun z => z.elim
    | stuck => exact fun z => z.elim
  | exn c x =>
    cases m sl st with
    | ok v st' => exact fun z => z.elim
    | exn c' st' =>
      rintro ⟨h1, h2⟩
      subst h1
      simp only [toldX]
      cases hl : tbl.lookup c with
      | none => trivial
      | some w =>
        obtain ⟨st2, e, r2⟩ := left_d r (h2.weak (hx x)) (hs _) (.str w)
        simp only [hl, e]
        exact ⟨rfl, r2⟩
    | stuck => exact fun z => z.elim
/-! ### what is made -/
theorem Rl.push (h : Rl B env ext sl exs st) (v : Option Val) (it : It) (G : List Nat) (hle : st.length ≤ st'.length) (hst : ∀ x, x < st.length → st'[x]? = st[x]?)
    (hG : ∀ x ∈ G, st.length ≤ x) (hn : G.Nodup) (hit : ∀ F' : Nat → List Nat, ∀ (sl' : Slots) (n : Nat), F' n = G → sl'[n]? = some v → holds B F' sl' st' n it)
    (hgw : ∀ a c, st.length ≤ a → st'[a]? = some c → cellBelow st'.length c = true) : Rl B env (ext ++ [it]) sl (exs ++ [v]) st' := by
  obtain ⟨F, hF⟩ := h.ex
  refine ⟨h.len, fun j => if j = (env ++ ext).length then G else F j, ?_⟩
  rw [← List.append_assoc, ← List.append_assoc]
  refine hF.push v it G hle hst hG hn (hit _ _ _ (by simp) ?_) hgw
  rw [← hF.len]; simp
theorem XO_d {m : EM} {t : Out ξ σ} {envk : σ → Env} {val : σ → PyData} (h : XE B envx env m t envk val) : XO B envx env m t envk (fun s => .d (val s)) := fun sl ext exs st r => by
  refine (h sl ext exs st r).imp fun s v st1 ⟨h1, h2⟩ => ?_
  subst h1
  exact h2.push _ _ [] (Nat.le_refl _) (fun _ _ => rfl) (fun x hx => by cases hx) List.nodup_nil (fun F' sl' n h3 h4 => ⟨h3, h4⟩) fun a c ha hc => by
    rw [List.getElem?_eq_none ha] at hc; cases hc
theorem vc_lst {xs : List PyData} : vcAt (st ++ [.lst xs]) st.length (.lst xs) [] := ⟨by simp, rfl⟩
theorem vc_dic {xs : List (PyData × PyData)} : vcAt (st ++ [.dic xs]) st.length (.dic xs) [] := ⟨by simp, rfl⟩
theorem push_new (h : Rl B env ext sl exs st) (c : Cell) (k : VC) (hv : vcAt (st ++ [c]) st.length k []) (hc : cellBelow (st.length + 1) c = true) : Rl B env (ext ++ [.c k]) sl (exs ++ [some (.box st.length)]) (st ++ [c]) := by
  refine h.push _ _ [st.length] (by simp) (fun x hx => by rw [List.getElem?_append_left hx]) (fun x hx => by simp at hx; omega) (by simp) (fun F' sl' n h1 h2 => ⟨st.length, [], h1, h2, hv⟩) fun a q ha hq => ?_
  have : a = st.length := by
    have := (List.getElem?_eq_some_iff.mp hq).1
    simp at this; omega
  subst this
  simp at hq; subst hq
  simpa using hc
theorem XO_lst {m : EM} {t : Out ξ σ} {envk : σ → Env} {val : σ → List PyData} (h : XE B envx env m t envk (fun s => .list (val s))) : XO B envx env (mOwn m) t envk (fun s => .c (.lst (val s))) := fun sl ext exs st r => by
  rw [← bind_ok t]
  refine Sat.bind (h sl ext exs st r) fun s v st1 ⟨h1, h2⟩ => ?_
  subst h1
  exact push_new h2 (.lst (val s)) (.lst (val s)) vc_lst rfl
theorem XO_dic {m : EM} {t : Out ξ σ} {envk : σ → Env} {val : σ → List (PyData × PyData)} (h : XE B envx env m t envk (fun s => .dict (val s))) : XO B envx env (mOwn m) t envk (fun s => .c (.dic (val s))) := fun sl ext exs st r => by
  rw [← bind_ok t]
  refine Sat.bind (h sl ext exs st r) fun s v st1 ⟨h1, h2⟩ => ?_
  subst h1
  exact push_new h2 (.dic (val s)) (.dic (val s)) vc_dic rfl
theorem shapeB.cons {d : Arg} {p : PI} {ds : List Arg} {ps : List PI} (h : shapeB (d :: ds) (p :: ps)) : shapeB ds ps := by
  cases d with
  | inl x => exact h
  | inr i => cases p with
    | b k => exact h
    | j => exact h.elim
    | d x => exact h.elim
/-- a new object -/
theorem XO_make {f : FM} {a : AM} {t : Out ξ σ} {psx : ξ → List PI} {psk : σ → List PI} {val : σ → PyData} {ds : List Arg} {c : Str} {obj : σ → VC} {psk' : σ → List PI} {psx' : ξ → List PI} (hf : FC f (.b (.obj c []) :: ds.map (argP env)) t psx psk val) (ha : AC B env a ds)
    (hn : (slotsOf ds).Nodup) (hc : ∀ i ∈ slotsOf ds, isCell env i = true) (hsx : ∀ x, ∃ k, psx x = .b k :: psx' x ∧ shapeB ds (psx' x)) (hsk : ∀ s, psk s = .b (obj s) :: psk' s ∧ shapeB ds (psk' s)) (hv : ∀ s, val s = .none) (hw : B.w = false) :
    XO B (fun x => after env ds (psx' x)) env (mMake c f a) t (fun s => after env ds (psk' s)) (fun s => .c (obj s)) := fun sl ext exs st r => by
  have hlt : ∀ i ∈ slotsOf ds, i < env.length := fun i hi => by
    have := hc i hi
    unfold isCell at this
    obtain ⟨k, hk⟩ := Option.isSome_iff_exists.mp this
    exact wrAt_lt hk
  have r1 := push_new r (.obj c []) (.obj c []) ⟨[], by simp, rfl⟩ rfl
  obtain ⟨F, hF⟩ := r1.ex
  rw [← List.append_assoc, ← List.append_assoc] at hF
  -- the new box is an argument
  have hF2 : Rl B (env ++ ext ++ [.c (.obj c [])]) [] (sl ++ exs ++ [some (.box st.length)]) [] (st ++ [.obj c []]) := ⟨hF.len, F, by simpa using hF⟩
  have elen : (sl ++ exs).length = (env ++ ext).length := by
    have := hF.len; simp at this ⊢; omega
  have hk0 : wrAt (env ++ ext ++ [.c (.obj c [])]) (env ++ ext).length = some (.obj c []) := by unfold wrAt; simp
  have hcc : ∀ i ∈ slotsOf ds, isCell (env ++ ext ++ [.c (.obj c [])]) i = true := fun i hi => by
    unfold isCell
    rw [List.append_assoc, wrAt_app (hlt i hi)]; exact hc i hi
  have ep : ds.map (argP (env ++ ext ++ [.c (.obj c [])])) = ds.map (argP env) := by rw [List.append_assoc]; exact argP_app hc
  have ev : ds.map (argV (sl ++ exs ++ [some (.box st.length)])) = ds.map (argV sl) := by
    apply List.map_congr_left
    intro d hd
    cases d with
    | inl x => rfl
    | inr i =>
      have hi : i ∈ slotsOf ds := by
        obtain ⟨j, hj⟩ := List.getElem?_of_mem hd
        exact slots_at hj
      have : i < sl.length := by rw [r.len]; exact hlt i hi
      simp [argV, adr, List.append_assoc, List.getElem?_append_left this]
  have ea0 : argV (sl ++ exs ++ [some (.box st.length)]) (.inr (env ++ ext).length) = .box st.length := by
    simp only [argV, adr]
    rw [← elen]; simp
  have hni : (env ++ ext).length ∉ slotsOf ds := fun hi => by have := hlt _ hi; simp at this; omega
  have key := call_sat (B := B) (env := env ++ ext ++ [.c (.obj c [])]) (ds := Sum.inr (env ++ ext).length :: ds) (f := f) (t := t) (psx := psx) (psk := psk) (val := val)
    (by simp only [List.map_cons, ep, argP, hk0]; exact hf) (by simp only [slotsOf, List.nodup_cons]; exact ⟨hni, hn⟩)
    (fun i hi => by
      simp only [slotsOf, List.mem_cons] at hi
      rcases hi with rfl | hi
      · unfold isCell; rw [hk0]; rfl
      · exact hcc i hi)
    (fun x => by obtain ⟨k, h1, h2⟩ := hsx x; rw [h1]; exact h2) (fun s => by rw [(hsk s).1]; exact (hsk s).2) (.inl hw) hF2
  rw [List.map_cons, ev, ea0] at key
  have eafter : ∀ (k : VC) (ps : List PI), after (env ++ ext ++ [.c (.obj c [])]) (Sum.inr (env ++ ext).length :: ds) (.b k :: ps) = after env ds ps ++ ext ++ [.c k] := fun k ps => by
    simp only [after]
    have : updC (env ++ ext ++ [.c (.obj c [])]) (env ++ ext).length k = env ++ (ext ++ [.c k]) := by
      unfold updC
      simp [reC]
    rw [this, after_app env ds ps hlt, List.append_assoc]
  simp only [mMake, ha sl ext exs st r, R.bind_ok]
  rw [← bind_ok t]
  have key2 : Sat (fun x st' => Rl B (after env ds (psx' x)) ext sl exs st') (fun s v st' => v = Val.d .none ∧ Rl B (after env ds (psk' s)) (ext ++ [.c (obj s)]) sl (exs ++ [some (.box st.length)]) st') t (f (.box st.length :: ds.map (argV sl)) (st ++ [.obj c []])) := by
    have al : ∀ ps : List PI, sl.length = (after env ds ps).length := fun ps => by rw [after_len]; exact r.len
    revert key
    cases t with
    | stuck => intro _; trivial
    | ok s =>
      cases f (.box st.length :: ds.map (argV sl)) (st ++ [.obj c []]) with
      | ok v st' =>
        rintro ⟨h1, h2⟩
        rw [(hsk s).1, eafter] at h2
        obtain ⟨F2, q⟩ := h2.ex
        refine ⟨by rw [h1, hv], al _, F2, ?_⟩
        simpa [List.append_assoc] using q
      | exn _ _ => exact fun z => z.elim
      | stuck => exact fun z => z.elim
    | exn c' x =>
      cases f (.box st.length :: ds.map (argV sl)) (st ++ [.obj c []]) with
      | ok v st' => exact fun z => z.elim
      | exn _ st' =>
        rintro ⟨h1, h2⟩
        obtain ⟨k, e1, e2⟩ := hsx x
        rw [e1, eafter] at h2
        obtain ⟨F2, q⟩ := h2.ex
        obtain ⟨F3, q3⟩ := RelF.pop (B := B) (F := F2) (env := after env ds (psx' x) ++ ext) (it := .c k) (sl := sl ++ exs) (v := some (.box st.length)) (st := st') (by simpa using q)
        exact ⟨h1, al _, F3, q3⟩
      | stuck => exact fun z => z.elim
  refine Sat.bind key2 fun s v st' ⟨h1, h2⟩ => ?_
  subst h1
  exact h2
end
end TY
end

section
set_option Elab.async false
set_option linter.all false
set_option maxRecDepth 100000
set_option maxHeartbeats 1000000
set_option autoImplicit false
/-! TY7: statements, defs. -/
namespace TY
open PySem L2 TL
open Enc (enc)
inductive Stp (ξ ρ β σ : Type) where
  | nx (s : σ)
  | rt (r : ρ)
  | bk (b : β)
  | ct (b : β)
  | exn (c : Str) (x : ξ)
  | stuck
section
variable {ξ ρ β σ τ : Type}
def Stp.seq (t : Stp ξ ρ β σ) (f : σ → Stp ξ ρ β τ) : Stp ξ ρ β τ :=
  match t with
  | .nx s => f s
  | .rt r => .rt r
  | .bk b => .bk b
  | .ct b => .ct b
  | .exn c x => .exn c x
  | .stuck => .stuck
@[simp] theorem Stp.seq_nx (s : σ) (f : σ → Stp ξ ρ β τ) : (Stp.nx s).seq f = f s := rfl
@[simp] theorem Stp.seq_rt (s : ρ) (f : σ → Stp ξ ρ β τ) : (Stp.rt s).seq f = .rt s := rfl
@[simp] theorem Stp.seq_bk (s : β) (f : σ → Stp ξ ρ β τ) : (Stp.bk s).seq f = .bk s := rfl
@[simp] theorem Stp.seq_ct (s : β) (f : σ → Stp ξ ρ β τ) : (Stp.ct s).seq f = .ct s := rfl
@[simp] theorem Stp.seq_exn (c : Str) (x : ξ) (f : σ → Stp ξ ρ β τ) : (Stp.exn c x).seq f = .exn c x := rfl
@[simp] theorem Stp.seq_stuck (f : σ → Stp ξ ρ β τ) : (Stp.stuck).seq f = .stuck := rfl
def grdS (p : Prop) [Decidable p] (t : Stp ξ ρ β σ) : Stp ξ ρ β σ := if p then t else .stuck
theorem grdS_pos {p : Prop} [Decidable p] {t : Stp ξ ρ β σ} (h : p) : grdS p t = t := if_pos h
def Out.stp (t : Out ξ σ) : Stp ξ ρ β σ :=
  match t with
  | .ok s => .nx s
  | .exn c x => .exn c x
  | .stuck => .stuck
@[simp] theorem Out.stp_ok (s : σ) : (Out.ok s : Out ξ σ).stp = (.nx s : Stp ξ ρ β σ) := rfl
@[simp] theorem Out.stp_exn (c : Str) (x : ξ) : (Out.exn c x : Out ξ σ).stp = (.exn c x : Stp ξ ρ β σ) := rfl
@[simp] theorem Out.stp_stuck : (Out.stuck : Out ξ σ).stp = (.stuck : Stp ξ ρ β σ) := rfl
/-- what never goes on -/
def Stp.lift (t : Stp ξ ρ β Empty) : Stp ξ ρ β σ :=
  match t with
  | .nx s => s.elim
  | .rt r => .rt r
  | .bk b => .bk b
  | .ct b => .ct b
  | .exn c x => .exn c x
  | .stuck => .stuck
@[simp] theorem Stp.lift_rt (s : ρ) : (Stp.rt s : Stp ξ ρ β Empty).lift = (.rt s : Stp ξ ρ β σ) := rfl
@[simp] theorem Stp.lift_bk (s : β) : (Stp.bk s : Stp ξ ρ β Empty).lift = (.bk s : Stp ξ ρ β σ) := rfl
@[simp] theorem Stp.lift_exn (c : Str) (x : ξ) : (Stp.exn c x : Stp ξ ρ β Empty).lift = (.exn c x : Stp ξ ρ β σ) := rfl
@[simp] theorem Stp.lift_stuck : (Stp.stuck : Stp ξ ρ β Empty).lift = (.stuck : Stp ξ ρ β σ) := rfl
def Stp.fin (t : Stp ξ ρ Empty σ) (f : σ → ρ) : Out ξ ρ :=
  match t with
  | .nx s => .ok (f s)
  | .rt r => .ok r
  | .bk b => b.elim
  | .ct b => b.elim
  | .exn c x => .exn c x
  | .stuck => .stuck
@[simp] theorem Stp.fin_nx (s : σ) (f : σ → ρ) : (Stp.nx s : Stp ξ ρ Empty σ).fin f = .ok (f s) := rfl
@[simp] theorem Stp.fin_rt (s : ρ) (f : σ → ρ) : (Stp.rt s : Stp ξ ρ Empty σ).fin f = .ok s := rfl
@[simp] theorem Stp.fin_exn (c : Str) (x : ξ) (f : σ → ρ) : (Stp.exn c x : Stp ξ ρ Empty σ).fin f = .exn c x := rfl
@[simp] theorem Stp.fin_stuck (f : σ → ρ) : (Stp.stuck : Stp ξ ρ Empty σ).fin f = .stuck := rfl
def forT {α : Type} (body : α → σ → Stp ξ ρ σ σ) : List α → σ → Stp ξ ρ β σ
  | [], s => .nx s
  | x :: xs, s =>
    match body x s with
    | .nx s' => forT body xs s'
    | .ct s' => forT body xs s'
    | .bk s' => .nx s'
    | .rt r => .rt r
    | .exn c x => .exn c x
    | .stuck => .stuck
def whileT (c : σ → Option Bool) (body : σ → Stp ξ ρ σ σ) : Nat → σ → Stp ξ ρ β σ
  | 0, _ => .stuck
  | n + 1, s =>
    match c s with
    | none => .stuck
    | some false => .nx s
    | some true =>
      match body s with
      | .nx s' => whileT c body n s'
      | .ct s' => whileT c body n s'
      | .bk s' => .nx s'
      | .rt r => .rt r
      | .exn c x => .exn c x
      | .stuck => .stuck
structure Sig (ξ ρ β : Type) where
  x : ξ → Env
  r : ρ → Env
  v : ρ → PyData
  b : β → Env
def retV (B : Base) (v : Val) (x : PyData) (st : Store) : Prop := v = .d x ∨ B.w = true ∧ ∃ n, v = .box n ∧ B.n0 ≤ n ∧ ((∃ xs, st[n]? = some (.lst xs) ∧ x = .list xs) ∨ ∃ kvs, st[n]? = some (.dic kvs) ∧ x = .dict kvs)
def SatS (B : Base) (S : Sig ξ ρ β) (envk : σ → Env) : Stp ξ ρ β σ → SR → Prop
  | .stuck, _ => True
  | .nx s, .nx sl st => Rl B (envk s) [] sl [] st
  | .rt r, .rt v st => (∃ sl, Rl B (S.r r) [] sl [] st) ∧ retV B v (S.v r) st
  | .bk b, .bk sl st => Rl B (S.b b) [] sl [] st
  | .ct b, .ct sl st => Rl B (S.b b) [] sl [] st
  | .exn c x, .exn c' sl st => c = c' ∧ Rl B (S.x x) [] sl [] st
  | _, _ => False
def SJ (B : Base) (S : Sig ξ ρ β) (env : Env) (b : SM) (t : Stp ξ ρ β σ) (envk : σ → Env) : Prop := ∀ sl st, Rl B env [] sl [] st → SatS B S envk t (b sl st)
variable {B : Base} {S : Sig ξ ρ β} {env : Env}
theorem Y_seq {a b : SM} {t : Stp ξ ρ β σ} {f : σ → Stp ξ ρ β τ} {envm : σ → Env} {envk : τ → Env} (h : SJ B S env a t envm) (h2 : ∀ s, SJ B S (envm s) b (f s) envk) : SJ B S env (sSeq a b) (t.seq f) envk := fun sl st r => by
  have := h sl st r
  revert this
  unfold sSeq
  cases t with
  | stuck => intro _; trivial
  | nx s => cases a sl st with
    | nx sl1 st1 => exact fun q => h2 s sl1 st1 q
    | _ => exact fun q => q.elim
  | rt s => cases a sl st with
    | rt sl1 st1 => exact fun q => q
    | _ => exact fun q => q.elim
  | bk s => cases a sl st with
    | bk sl1 st1 => exact fun q => q
    | _ => exact fun q => q.elim
  | ct s => cases a sl st with
    | ct sl1 st1 => exact fun q => q
    | _ => exact fun q => q.elim
  | exn c s => cases a sl st with
    | exn c1 sl1 st1 => exact fun q => q
    | _ => exact fun q => q.elim
/-- the last statement of a block, and what is kept of it -/
theorem Y_last {a : SM} {t : Stp ξ ρ β σ} {g : σ → τ} {envm : σ → Env} {envk : τ → Env} (h : SJ B S env a t envm) (hg : ∀ s, wk (envm s) (envk (g s))) : SJ B S env a (t.seq fun s => .nx (g s)) envk := fun sl st r => by
  have := h sl st r
  revert this
  cases t with
  | stuck => intro _; trivial
  | nx s => cases a sl st with
    | nx sl1 st1 => exact fun q => Rl.weak q (hg s)
    | _ => exact fun q => q.elim
  | rt s => cases a sl st with
    | rt sl1 st1 => exact fun q => q
    | _ => exact fun q => q.elim
  | bk s => cases a sl st with
    | bk sl1 st1 => exact fun q => q
    | _ => exact fun q => q.elim
  | ct s => cases a sl st with
    | ct sl1 st1 => exact fun q => q
    | _ => exact fun q => q.elim
  | exn c s => cases a sl st with
    | exn c1 sl1 st1 => exact fun q => q
    | _ => exact fun q => q.elim
theorem Y_lift {a : SM} {t : Stp ξ ρ β Empty} {envk : σ → Env} (h : SJ B S env a t Empty.elim) : SJ B S env a t.lift envk := fun sl st r => by
  have := h sl st r
  revert this
  cases t with
  | stuck => intro _; trivial
  | nx s => exact s.elim
  | rt s => cases a sl st with
    | rt sl1 st1 => exact fun q => q
    | _ => exact fun q => q.elim
  | bk s => cases a sl st with
    | bk sl1 st1 => exact fun q => q
    | _ => exact fun q => q.elim
  | ct s => cases a sl st with
    | ct sl1 st1 => exact fun q => q
    | _ => exact fun q => q.elim
  | exn c s => cases a sl st with
    | exn c1 sl1 st1 => exact fun q => q
    | _ => exact fun q => q.elim
theorem Y_grd {p : Prop} {inst : Decidable p} {a : SM} {t : Stp ξ ρ β σ} {envk : σ → Env} (h : p → SJ B S env a t envk) : SJ B S env a (grdS p t) envk := fun sl st r => by
  unfold grdS
  split
  · rename_i q; exact h q sl st r
  · trivial
theorem Y_at {a : SM} {t : Stp ξ ρ β σ} {envk : σ → Env} (env' : Env) (h : SJ B S env' a t envk) (e : env = env' := by rfl) : SJ B S env a t envk := by subst e; exact h
theorem Y_nil {s : σ} {envk : σ → Env} (h : wk env (envk s)) : SJ B S env sNil (.nx s) envk := fun sl st r => r.weak h
theorem Y_set {α : Type} [Enc α] {i : Nat} {m : TL.EM} {e : α} (hi : i < env.length) (h : EJ B env m (enc e)) : SJ B S env (sSet i m) (.nx e) (fun y => env.set i (.d (enc y))) := fun sl st r => by
  simp only [sSet, h sl [] [] st r, aS_ok]
  exact r.setD hi (enc e)
theorem Y_setX {i : Nat} {m : TL.EM} {t : Out ξ σ} {envk : σ → Env} {val : σ → PyData} (h : XE B S.x env m t envk val) (hi : ∀ s, i < (envk s).length) : SJ B S env (sSet i m) t.stp (fun s => (envk s).set i (.d (val s))) := fun sl st r => by
  have := h sl [] [] st r
  revert this
  unfold sSet
  cases t with
  | stuck => intro _; trivial
  | ok s => cases m sl st with
    | ok v st1 => rintro ⟨rfl, h2⟩; exact h2.setD (hi s) (val s)
    | _ => exact fun q => q.elim
  | exn c x => cases m sl st with
    | exn c1 st1 => exact fun q => q
    | _ => exact fun q => q.elim
/-- what lies behind goes into a slot -/
theorem Rl.pop {ext : Env} {it : It} {sl exs : Slots} {v : Option Val} {st : Store} {i : Nat} (h : Rl B env (ext ++ [it]) sl (exs ++ [v]) st) (hi : i < env.length) : Rl B (env.set i it) ext (sl.set i v) exs st := by
  obtain ⟨F, r⟩ := h.ex
  rw [← List.append_assoc, ← List.append_assoc] at r
  have hl : (sl ++ exs).length = (env ++ ext).length := by have := r.len; simp at this ⊢; omega
  have hls := h.len
  have hne : i ≠ (env ++ ext).length := by simp; omega
  refine ⟨by simp [h.len], fun j => if j = i then F (env ++ ext).length else if j = (env ++ ext).length then [] else F j, ?_⟩
  rw [← List.set_append_left _ _ hi, ← List.set_append_left _ _ (by rw [hls]; exact hi)]
  have sub : ∀ j x, x ∈ (if j = i then F (env ++ ext).length else if j = (env ++ ext).length then [] else F j) → (j = i ∧ x ∈ F (env ++ ext).length) ∨ (j ≠ i ∧ j ≠ (env ++ ext).length ∧ x ∈ F j) := by
    intro j x hx
    by_cases e : j = i
    · rw [if_pos e] at hx; exact .inl ⟨e, hx⟩
    · rw [if_neg e] at hx
      by_cases e2 : j = (env ++ ext).length
      · rw [if_pos e2] at hx; cases hx
      · rw [if_neg e2] at hx; exact .inr ⟨e, e2, hx⟩
  have hlast := r.hold (env ++ ext).length it (by simp)
  have slast : (sl ++ exs ++ [v])[(env ++ ext).length]? = some v := by rw [← hl]; simp
  have hi2 : i < (env ++ ext).length := by simp; omega
  exact {
    len := by rw [List.length_set, List.length_set, hl]
    le := r.le
    hold := fun j it2 hj => by
      by_cases e : j = i
      · subst e
        rw [List.getElem?_set_self hi2] at hj
        cases hj
        have s2 : ((sl ++ exs).set j v)[j]? = some v := List.getElem?_set_self (by rw [hl]; exact hi2)
        cases it with
        | junk => simp only [holds, if_true]; exact hlast
        | d y => exact ⟨by simp only [if_true]; exact hlast.1, by rw [s2, ← slast]; exact hlast.2⟩
        | c q =>
          obtain ⟨a, fp, h1, h2, h3⟩ := hlast
          exact ⟨a, fp, by simp only [if_true]; exact h1, by rw [s2, ← slast]; exact h2, h3⟩
        | p a q =>
          obtain ⟨fp, h1, h2, h3⟩ := hlast
          exact ⟨fp, by simp only [if_true]; exact h1, by rw [s2, ← slast]; exact h2, h3⟩
        | r a q =>
          obtain ⟨h1, h2, h3⟩ := hlast
          exact ⟨by simp only [if_true]; exact h1, by rw [s2, ← slast]; exact h2, h3⟩
      · rw [List.getElem?_set_ne (fun q => e q.symm)] at hj
        have hjl := (List.getElem?_eq_some_iff.mp hj).1
        refine (r.hold j it2 (by rw [List.getElem?_append_left hjl]; exact hj)).keep (by rw [if_neg e, if_neg (by omega)]) ?_ fun _ _ => rfl
        rw [List.getElem?_set_ne (fun q => e q.symm), List.getElem?_append_left (l₁ := sl ++ exs) (l₂ := [v]) (by rw [hl]; exact hjl)]
    off := fun j hj => by
      rw [List.length_set] at hj
      have e : j ≠ i := by omega
      rw [if_neg e]
      by_cases e2 : j = (env ++ ext).length
      · rw [if_pos e2]
      · rw [if_neg e2]; exact r.off j (by simp at hj e2 ⊢; omega)
    dis := fun j l x hj hl' => by
      rcases sub j x hj with ⟨e1, m1⟩ | ⟨e1, e1', m1⟩
      · rcases sub l x hl' with ⟨e2, m2⟩ | ⟨e2, e2', m2⟩
        · rw [e1, e2]
        · exact absurd (r.dis _ _ x m1 m2).symm e2'
      · rcases sub l x hl' with ⟨e2, m2⟩ | ⟨e2, e2', m2⟩
        · exact absurd (r.dis _ _ x m1 m2) e1'
        · exact r.dis j l x m1 m2
    nd := fun j => by
      show (if j = i then F (env ++ ext).length else if j = (env ++ ext).length then [] else F j).Nodup
      split
      · exact r.nd _
      · split
        · exact List.nodup_nil
        · exact r.nd _
    inM := fun j x hx => by
      rcases sub j x hx with ⟨_, m⟩ | ⟨_, _, m⟩
      · exact r.inM _ x m
      · exact r.inM _ x m
    fr := r.fr
    wf := r.wf
    gw := r.gw }
theorem Y_setO {i : Nat} {m : TL.EM} {t : Out ξ σ} {envk : σ → Env} {it : σ → It} (h : XO B S.x env m t envk it) (hi : ∀ s, i < (envk s).length) : SJ B S env (sSet i m) t.stp (fun s => (envk s).set i (it s)) := fun sl st r => by
  have := h sl [] [] st r
  revert this
  unfold sSet
  cases t with
  | stuck => intro _; trivial
  | ok s => cases m sl st with
    | ok v st1 => exact fun h2 => Rl.pop (ext := []) (exs := []) h2 (hi s)
    | _ => exact fun q => q.elim
  | exn c x => cases m sl st with
    | exn c1 st1 => exact fun q => q
    | _ => exact fun q => q.elim
/-! ### several at once -/
def putIts : List Nat → List It → Env → Env
  | i :: is, x :: xs, env => (putIts is xs env).set i x
  | _, _, env => env
theorem putIts_len : ∀ (is : List Nat) (xs : List It) (env : Env), (putIts is xs env).length = env.length
  | [], xs, env => by simp [putIts]
  | i :: is, [], env => by simp [putIts]
  | i :: is, x :: xs, env => by simp [putIts, putIts_len is xs env]
theorem putAll_set : ∀ (is : List Nat) (vs : List Val) (sl : Slots) (i : Nat) (v : Option Val), i ∉ is → putAll is vs (sl.set i v) = (putAll is vs sl).set i v
  | [], vs, sl, i, v, _ => by simp [putAll]
  | j :: is, [], sl, i, v, _ => by simp [putAll]
  | j :: is, u :: vs, sl, i, v, h => by
    simp only [List.mem_cons, not_or] at h
    simp only [putAll]
    rw [List.set_comm _ _ h.1, putAll_set is vs _ i v h.2]
theorem Rl.pops : ∀ (is : List Nat) (its : List It) (vs : List Val) (env ext : Env) (sl exs : Slots) (st : Store), is.Nodup → (∀ i ∈ is, i < env.length) → its.length = is.length → vs.length = is.length → Rl B env (ext ++ its) sl (exs ++ vs.map some) st →
    Rl B (putIts is its env) ext (putAll is vs sl) exs st
  | [], [], [], env, ext, sl, exs, st, _, _, _, _, h => by simpa [putIts, putAll] using h
  | i :: is, it :: its, v :: vs, env, ext, sl, exs, st, hn, hlt, h1, h2, h => by
    rw [List.nodup_cons] at hn
    have h3 : Rl B env (ext ++ [it] ++ its) sl (exs ++ [some v] ++ vs.map some) st := by simpa [List.append_assoc] using h
    have h4 := Rl.pops is its vs env (ext ++ [it]) sl (exs ++ [some v]) st hn.2 (fun j hj => hlt j (by simp [hj])) (by simpa using h1) (by simpa using h2) h3
    have h5 := Rl.pop h4 (i := i) (by rw [putIts_len]; exact hlt i (by simp))
    simp only [putIts, putAll]
    rw [putAll_set _ _ _ _ _ hn.1]
    exact h5
theorem Y_par {is : List Nat} {a : AM} {t : Out ξ σ} {envk : σ → Env} {its : σ → List It} (N : Nat) (h : XL B S.x env a t envk its) (hn : is.Nodup) (hN : ∀ s, (envk s).length = N) (hlt2 : (is.all fun i => decide (i < N)) = true) (hl : ∀ s, (its s).length = is.length) :
    SJ B S env (sPar is a) t.stp (fun s => putIts is (its s) (envk s)) := fun sl st r => by
  have hlt : ∀ s, ∀ i ∈ is, i < (envk s).length := fun s i hi => by
    rw [hN s]; exact of_decide_eq_true (List.all_eq_true.mp hlt2 i hi)
  have := h sl [] [] st r
  revert this
  unfold sPar
  cases t with
  | stuck => intro _; trivial
  | ok s => cases a sl st with
    | ok v st1 =>
      rintro ⟨h1, h2⟩
      simp only [aS_ok]
      rw [if_pos (by rw [h1, hl])]
      exact Rl.pops is (its s) v (envk s) [] sl [] st1 hn (hlt s) (hl s) (by rw [h1, hl]) h2
    | _ => exact fun q => q.elim
  | exn c x => cases a sl st with
    | exn c1 st1 => exact fun q => q
    | _ => exact fun q => q.elim
end
section
variable {ξ ρ β σ τ : Type} {B : Base} {S : Sig ξ ρ β} {env : Env} {envx : ξ → Env}
theorem XL_nil : XL B envx env aNil (.ok true) (fun _ => env) (fun _ => []) := fun sl ext exs st r => ⟨rfl, by simpa using r⟩
/-- data ahead -/
theorem XL_d {m : TL.EM} {a : AM} {t : Out ξ σ} {envk : σ → Env} {x : PyData} {its : σ → List It} (h : EJ B env m x) (ha : XL B envx env a t envk its) : XL B envx env (aCons m a) t envk (fun s => .d x :: its s) := fun sl ext exs st r => by
  have r1 := XO_d (envx := envx) (XE_p h) sl ext exs st r
  rw [h sl ext exs st r] at r1
  have h2 := ha sl (ext ++ [.d x]) (exs ++ [some (.d x)]) st (show Rl B env (ext ++ [.d x]) sl (exs ++ [some (.d x)]) st from r1)
  simp only [aCons, h sl ext exs st r, R.bind_ok]
  revert h2
  cases t with
  | stuck => intro _; trivial
  | ok s => cases a sl st with
    | ok v st1 => rintro ⟨h1, h2⟩; exact ⟨by simp [h1], by simpa [List.append_assoc] using h2⟩
    | _ => exact fun q => q.elim
  | exn c x => cases a sl st with
    | exn c1 st1 =>
      rintro ⟨h1, h2⟩
      refine ⟨h1, h2.len, ?_⟩
      obtain ⟨F, q⟩ := h2.ex
      rw [← List.append_assoc, ← List.append_assoc] at q
      exact q.pop
    | _ => exact fun q => q.elim
/-- something new ahead, the rest's errors none -/
theorem XL_o {m : TL.EM} {a : AM} {t : Out ξ σ} {envk : σ → Env} {it : σ → It} {t2 : σ → Out ξ τ} {envl : σ → τ → Env} {its : σ → τ → List It} (h : XO B envx env m t envk it) (ha : ∀ s, XL B envx (envk s) a (t2 s) (envl s) (its s)) :
    XL B envx env (aCons m a) (t.bind fun s => (t2 s).bind fun u => .ok (s, u)) (fun p => envl p.1 p.2) (fun p => it p.1 :: its p.1 p.2) := fun sl ext exs st r => by
  refine Sat.bind (h sl ext exs st r) fun s v st1 h1 => ?_
  have h2 := ha s sl _ _ st1 h1
  revert h2
  cases t2 s with
  | stuck => intro _; trivial
  | ok u => cases a sl st1 with
    | ok v st1 => rintro ⟨h1, h2⟩; exact ⟨by simp [h1], by simpa [List.append_assoc] using h2⟩
    | _ => exact fun q => q.elim
  | exn c x => cases a sl st1 with
    | exn c1 st1 =>
      rintro ⟨h1, h2⟩
      refine ⟨h1, h2.len, ?_⟩
      obtain ⟨F, q⟩ := h2.ex
      rw [← List.append_assoc, ← List.append_assoc] at q
      exact q.pop
    | _ => exact fun q => q.elim
theorem Y_expr {m : TL.EM} {t : Out ξ σ} {envk : σ → Env} {val : σ → PyData} (h : XE B S.x env m t envk val) : SJ B S env (sExpr m) t.stp envk := fun sl st r => by
  have := h sl [] [] st r
  revert this
  unfold sExpr
  cases t with
  | stuck => intro _; trivial
  | ok s => cases m sl st with
    | ok v st1 => exact fun h2 => h2.2
    | _ => exact fun q => q.elim
  | exn c x => cases m sl st with
    | exn c1 st1 => exact fun q => q
    | _ => exact fun q => q.elim
theorem Y_ret {m : TL.EM} {q : ρ} {envk : σ → Env} (h : EJ B env m (S.v q)) (hw : wk env (S.r q)) : SJ B S env (sRet m) (.rt q) envk := fun sl st r => by
  simp only [sRet, h sl [] [] st r, aS_ok]
  exact ⟨⟨sl, r.weak hw⟩, .inl rfl⟩
theorem Y_retX {m : TL.EM} {t : Out ξ τ} {enva : τ → Env} {val : τ → PyData} {f : τ → ρ} {envk : σ → Env} (h : XE B S.x env m t enva val) (hv : ∀ s, val s = S.v (f s)) (hw : ∀ s, wk (enva s) (S.r (f s))) : SJ B S env (sRet m) (t.stp.seq fun s => .rt (f s)) envk := fun sl st r => by
  have := h sl [] [] st r
  revert this
  unfold sRet
  cases t with
  | stuck => intro _; trivial
  | ok s => cases m sl st with
    | ok v st1 =>
      rintro ⟨h1, h2⟩
      subst h1
      exact ⟨⟨sl, h2.weak (hw s)⟩, .inl (by rw [hv])⟩
    | _ => exact fun q => q.elim
  | exn c x => cases m sl st with
    | exn c1 st1 => exact fun q => q
    | _ => exact fun q => q.elim
theorem Y_retL {i : Nat} {q : ρ} {xs : List PyData} {envk : σ → Env} (hB : B.w = true) (hi : env[i]? = some (.c (.lst xs))) (hv : S.v q = .list xs) (hw : wk env (S.r q)) (hM : ∀ x ∈ B.M, x < B.n0 → True) (h0 : B.M = []) : SJ B S env (sRet (mVar i)) (.rt q) envk := fun sl st r => by
  obtain ⟨F, hF⟩ := r.ex
  obtain ⟨a, fp, h1, h2, h3⟩ := hF.hold i (.c (.lst xs)) (by simpa using hi)
  simp only [List.append_nil] at h2
  simp only [sRet, mVar, h2, aS_ok]
  refine ⟨⟨sl, r.weak hw⟩, .inr ⟨hB, a, rfl, ?_, .inl ⟨xs, h3.1, hv⟩⟩⟩
  rcases hF.inM i a (by rw [h1]; simp) with z | z
  · exact z
  · rw [h0] at z; cases z
theorem Y_retD {i : Nat} {q : ρ} {xs : List (PyData × PyData)} {envk : σ → Env} (hB : B.w = true) (hi : env[i]? = some (.c (.dic xs))) (hv : S.v q = .dict xs) (hw : wk env (S.r q)) (h0 : B.M = []) : SJ B S env (sRet (mVar i)) (.rt q) envk := fun sl st r => by
  obtain ⟨F, hF⟩ := r.ex
  obtain ⟨a, fp, h1, h2, h3⟩ := hF.hold i (.c (.dic xs)) (by simpa using hi)
  simp only [List.append_nil] at h2
  simp only [sRet, mVar, h2, aS_ok]
  refine ⟨⟨sl, r.weak hw⟩, .inr ⟨hB, a, rfl, ?_, .inr ⟨xs, h3.1, hv⟩⟩⟩
  rcases hF.inM i a (by rw [h1]; simp) with z | z
  · exact z
  · rw [h0] at z; cases z
theorem Y_retN {q : ρ} {envk : σ → Env} (hv : S.v q = .none) (hw : wk env (S.r q)) : SJ B S env sRetN (.rt q) envk := fun sl st r => ⟨⟨sl, r.weak hw⟩, .inl (by rw [hv])⟩
theorem Y_raise {c : Str} {x : ξ} {envk : σ → Env} (hw : wk env (S.x x)) : SJ B S env (sRaise c) (.exn c x) envk := fun sl st r => ⟨rfl, r.weak hw⟩
theorem Y_break {b : β} {envk : σ → Env} (hw : wk env (S.b b)) : SJ B S env sBreak (.bk b) envk := fun sl st r => r.weak hw
theorem Y_if {c : TM} {a d : SM} {b : Bool} {t u : Stp ξ ρ β σ} {envk : σ → Env} (hc : TJ B env c b) (ha : b = true → SJ B S env a t envk) (hd : b = false → SJ B S env d u envk) : SJ B S env (sIf c a d) (if b = true then t else u) envk := fun sl st r => by
  simp only [sIf, hc sl [] [] st r, aS_ok]
  cases b with
  | true => exact ha rfl sl st r
  | false => exact hd rfl sl st r
theorem Y_ifX {c : TM} {a d : SM} {o : Out ξ τ} {enva : τ → Env} {b : τ → Bool} {t u : τ → Stp ξ ρ β σ} {envk : σ → Env} (hc : XT B S.x env c o enva b) (ha : ∀ s, b s = true → SJ B S (enva s) a (t s) envk) (hd : ∀ s, b s = false → SJ B S (enva s) d (u s) envk) :
    SJ B S env (sIf c a d) (o.stp.seq fun s => if b s = true then t s else u s) envk := fun sl st r => by
  have := hc sl [] [] st r
  revert this
  unfold sIf
  cases o with
  | stuck => intro _; trivial
  | ok s => cases c sl st with
    | ok v st1 =>
      rintro ⟨h1, h2⟩
      subst h1
      simp only [aS_ok, Out.stp_ok, Stp.seq_nx]
      cases e : b s with
      | true => exact ha s e sl st1 h2
      | false => exact hd s e sl st1 h2
    | _ => exact fun q => q.elim
  | exn c0 x0 => cases c sl st with
    | exn c1 st1 => exact fun q => q
    | _ => exact fun q => q.elim
/-- where the first branch never goes on -/
theorem Y_ifE {c : TM} {a rest : SM} {b : Bool} {t : Stp ξ ρ β Empty} {u : Stp ξ ρ β σ} {envk : σ → Env} (hc : TJ B env c b) (ha : b = true → SJ B S env a t Empty.elim) (hd : b = false → SJ B S env rest u envk) : SJ B S env (sSeq (sIf c a sNil) rest) (if b = true then t.lift else u) envk := fun sl st r => by
  simp only [sSeq, sIf, hc sl [] [] st r, aS_ok]
  cases b with
  | false => exact hd rfl sl st r
  | true =>
    have := Y_lift (envk := envk) (ha rfl) sl st r
    simp only [cond_true, if_true]
    revert this
    have h2 := ha rfl sl st r
    revert h2
    cases t with
    | stuck => intro _ _; trivial
    | nx s => exact s.elim
    | rt s => cases a sl st with
      | rt sl1 st1 => exact fun q _ => q
      | _ => exact fun q => q.elim
    | bk s => cases a sl st with
      | bk sl1 st1 => exact fun q _ => q
      | _ => exact fun q => q.elim
    | ct s => cases a sl st with
      | ct sl1 st1 => exact fun q _ => q
      | _ => exact fun q => q.elim
    | exn c s => cases a sl st with
      | exn c1 sl1 st1 => exact fun q _ => q
      | _ => exact fun q => q.elim
theorem Y_ifXE {c : TM} {a rest : SM} {o : Out ξ τ} {enva : τ → Env} {b : τ → Bool} {t : τ → Stp ξ ρ β Empty} {u : τ → Stp ξ ρ β σ} {envk : σ → Env} (hc : XT B S.x env c o enva b) (ha : ∀ s, b s = true → SJ B S (enva s) a (t s) Empty.elim) (hd : ∀ s, b s = false → SJ B S (enva s) rest (u s) envk) :
    SJ B S env (sSeq (sIf c a sNil) rest) (o.stp.seq fun s => if b s = true then (t s).lift else u s) envk := fun sl st r => by
  have := hc sl [] [] st r
  revert this
  unfold sSeq sIf
  cases o with
  | stuck => intro _; trivial
  | ok s => cases c sl st with
    | ok v st1 =>
      rintro ⟨h1, h2⟩
      subst h1
      simp only [aS_ok, Out.stp_ok, Stp.seq_nx]
      cases e : b s with
      | false => exact hd s e sl st1 h2
      | true =>
        simp only [cond_true, if_true]
        have h3 := ha s e sl st1 h2
        revert h3
        cases t s with
        | stuck => intro _; trivial
        | nx s => exact s.elim
        | rt s => cases a sl st1 with
          | rt sl1 st1 => exact fun q => q
          | _ => exact fun q => q.elim
        | bk s => cases a sl st1 with
          | bk sl1 st1 => exact fun q => q
          | _ => exact fun q => q.elim
        | ct s => cases a sl st1 with
          | ct sl1 st1 => exact fun q => q
          | _ => exact fun q => q.elim
        | exn c s => cases a sl st1 with
          | exn c1 sl1 st1 => exact fun q => q
          | _ => exact fun q => q.elim
    | _ => exact fun q => q.elim
  | exn c0 x0 => cases c sl st with
    | exn c1 st1 => exact fun q => q
    | _ => exact fun q => q.elim
/-! ### loops -/
abbrev Sig.loop {τ : Type} (S : Sig ξ ρ β) (e : τ → Env) : Sig ξ ρ τ := ⟨S.x, S.r, S.v, e⟩
theorem forL_ok {α : Type} [Enc α] {tg : Tg} {b : SM} {body : α → σ → Stp ξ ρ σ σ} (envL : σ → Env) (envp : σ → α → Env) (hp : ∀ s y, putE tg (enc y) (envL s) = some (envp s y)) :
    ∀ (ys : List α) (s : σ) (sl : Slots) (st : Store), (∀ s, ∀ y ∈ ys, SJ B (S.loop envL) (envp s y) b (body y s) envL) → Rl B (envL s) [] sl [] st → SatS B S envL (forT body ys s) (forL tg b (ys.map enc) sl st)
  | [], s, sl, st, _, r => r
  | y :: ys, s, sl, st, hb, r => by
    obtain ⟨sl1, h1, r1⟩ := put_ok tg r (hp s y)
    have h2 := hb s y (by simp) sl1 st r1
    simp only [List.map_cons, forL, h1, forT]
    revert h2
    cases body y s with
    | stuck => intro _; trivial
    | nx s' => cases b sl1 st with
      | nx sl2 st2 => exact fun q => forL_ok envL envp hp ys s' sl2 st2 (fun s z hz => hb s z (by simp [hz])) q
      | _ => exact fun q => q.elim
    | ct s' => cases b sl1 st with
      | ct sl2 st2 => exact fun q => forL_ok envL envp hp ys s' sl2 st2 (fun s z hz => hb s z (by simp [hz])) q
      | _ => exact fun q => q.elim
    | bk s' => cases b sl1 st with
      | bk sl2 st2 => exact fun q => q
      | _ => exact fun q => q.elim
    | rt s' => cases b sl1 st with
      | rt sl2 st2 => exact fun q => q
      | _ => exact fun q => q.elim
    | exn c s' => cases b sl1 st with
      | exn c' sl2 st2 => exact fun q => q
      | _ => exact fun q => q.elim
theorem Y_for {α : Type} [Enc α] {tg : Tg} {it : IM} {b : SM} {ys : List α} {s0 : σ} {body : α → σ → Stp ξ ρ σ σ} (envL : σ → Env) (envp : σ → α → Env) (hi : IJ B env it (ys.map enc)) (h0 : wk env (envL s0))
    (hp : ∀ s y, putE tg (enc y) (envL s) = some (envp s y)) (hb : ∀ s, ∀ y ∈ ys, SJ B (S.loop envL) (envp s y) b (body y s) envL) : SJ B S env (sFor tg it b) (forT body ys s0) envL := fun sl st r => by
  simp only [sFor, hi sl [] [] st r, aS_ok]
  exact forL_ok envL envp hp ys s0 sl st hb (r.weak h0)
theorem Y_forX {α : Type} [Enc α] {tg : Tg} {it : IM} {b : SM} {o : Out ξ τ} {enva : τ → Env} {ys : τ → List α} {s0 : τ → σ} {body : α → σ → Stp ξ ρ σ σ} (envL : σ → Env) (envp : σ → α → Env) (hi : XI B S.x env it o enva (fun t => (ys t).map enc)) (h0 : ∀ t, wk (enva t) (envL (s0 t)))
    (hp : ∀ s y, putE tg (enc y) (envL s) = some (envp s y)) (hb : ∀ t s, ∀ y ∈ ys t, SJ B (S.loop envL) (envp s y) b (body y s) envL) : SJ B S env (sFor tg it b) (o.stp.seq fun t => forT body (ys t) (s0 t)) envL := fun sl st r => by
  have := hi sl [] [] st r
  revert this
  unfold sFor
  cases o with
  | stuck => intro _; trivial
  | ok t => cases it sl st with
    | ok v st1 =>
      rintro ⟨h1, h2⟩
      subst h1
      exact forL_ok envL envp hp (ys t) (s0 t) sl st1 (hb t) (h2.weak (h0 t))
    | _ => exact fun q => q.elim
  | exn c x => cases it sl st with
    | exn c1 st1 => exact fun q => q
    | _ => exact fun q => q.elim
theorem whileN_ok {c : TM} {b : SM} {ct : σ → Option Bool} {body : σ → Stp ξ ρ σ σ} (envL : σ → Env) (hc : ∀ s q, ct s = some q → TJ B (envL s) c q) (hb : ∀ s, ct s = some true → SJ B (S.loop envL) (envL s) b (body s) envL) :
    ∀ (n : Nat) (s : σ) (sl : Slots) (st : Store), Rl B (envL s) [] sl [] st → SatS B S envL (whileT ct body n s) (whileN c b n sl st)
  | 0, s, sl, st, r => trivial
  | n + 1, s, sl, st, r => by
    simp only [whileT, whileN]
    cases e : ct s with
    | none => trivial
    | some q =>
      rw [hc s q e sl [] [] st r]
      cases q with
      | false => exact r
      | true =>
        simp only [aS_ok, cond_true]
        have h2 := hb s e sl st r
        revert h2
        cases body s with
        | stuck => intro _; trivial
        | nx s' => cases b sl st with
          | nx sl2 st2 => exact fun q => whileN_ok envL hc hb n s' sl2 st2 q
          | _ => exact fun q => q.elim
        | ct s' => cases b sl st with
          | ct sl2 st2 => exact fun q => whileN_ok envL hc hb n s' sl2 st2 q
          | _ => exact fun q => q.elim
        | bk s' => cases b sl st with
          | bk sl2 st2 => exact fun q => q
          | _ => exact fun q => q.elim
        | rt s' => cases b sl st with
          | rt sl2 st2 => exact fun q => q
          | _ => exact fun q => q.elim
        | exn c s' => cases b sl st with
          | exn c' sl2 st2 => exact fun q => q
          | _ => exact fun q => q.elim
theorem Y_while {c : TM} {b : SM} {ct : σ → Option Bool} {body : σ → Stp ξ ρ σ σ} {s0 : σ} (envL : σ → Env) (h0 : wk env (envL s0)) (hc : ∀ s q, ct s = some q → TJ B (envL s) c q) (hb : ∀ s, ct s = some true → SJ B (S.loop envL) (envL s) b (body s) envL) :
    SJ B S env (sWhile c b) (whileT ct body 1000000 s0) envL := fun sl st r => whileN_ok envL hc hb 1000000 s0 sl st (r.weak h0)
end
end TY
end

section
set_option Elab.async false
set_option linter.all false
set_option maxRecDepth 100000
set_option maxHeartbeats 1000000
set_option autoImplicit false
/-! TY8: defs as wholes, fields, lists. -/
namespace TY
open PySem L2 TL
open Enc (enc)
abbrev junks (n : Nat) : Env := List.replicate n .junk
theorem wk_j {env : Env} {n : Nat} (h : env.length = n) : wk env (junks n) := by
  subst h
  induction env with
  | nil => trivial
  | cons x xs ih => exact ⟨.inl rfl, ih⟩
def GW (st : Store) : Prop := ∀ (a : Nat) (c : Cell), st[a]? = some c → cellBelow st.length c = true
def RoOk (st : Store) (ps : List PI) (A : Nat → Nat) : Prop := ∀ (j : Nat) (k : VC), ps[j]? = some (.b k) → ∃ fp, vcAt st (A j) k fp
/-- what a def that changes nothing says -/
def FP {ξ σ : Type} (f : FM) (ps : List PI) (t : Out ξ σ) (val : σ → PyData) : Prop :=
  ∀ (A : Nat → Nat) (st : Store), GW st → RoOk st ps A → Sat (fun _ st' => st' = st) (fun s v st' => v = Val.d (val s) ∧ st' = st) t (f (valsOf A ps 0) st)
def PI.ir (A : Nat → Nat) (n : Nat) : PI → It
  | .j => .junk
  | .d x => .d x
  | .b k => .r (A n) k
def envOfR (A : Nat → Nat) : List PI → Nat → Env
  | [], _ => []
  | p :: ps, n => p.ir A n :: envOfR A ps (n + 1)
theorem envOfR_len (A : Nat → Nat) : ∀ (ps : List PI) (n : Nat), (envOfR A ps n).length = ps.length
  | [], _ => rfl
  | p :: ps, n => by simp [envOfR, envOfR_len A ps (n + 1)]
theorem envOfR_at (A : Nat → Nat) : ∀ (ps : List PI) (n j : Nat), (envOfR A ps n)[j]? = (ps[j]?).map fun p => p.ir A (n + j)
  | [], n, j => by simp [envOfR]
  | p :: ps, n, 0 => by simp [envOfR]
  | p :: ps, n, j + 1 => by
    simp only [envOfR, List.getElem?_cons_succ, envOfR_at A ps (n + 1) j]
    rw [show n + 1 + j = n + (j + 1) from by omega]
section
variable {ξ ρ β σ τ : Type} {B : Base} {F : Nat → List Nat} {env : Env} {sl : Slots} {st st1 : Store}
theorem RelF.junk (h : RelF B F env sl st) (v : Option Val) : ∃ F', RelF B F' (env ++ [.junk]) (sl ++ [v]) st := by
  refine ⟨_, h.push v .junk [] (Nat.le_refl _) (fun _ _ => rfl) (fun x hx => by cases hx) List.nodup_nil (by simp [holds]) fun a c ha hc => ?_⟩
  rw [List.getElem?_eq_none ha] at hc; cases hc
theorem RelF.junkN (h : RelF B F env sl st) : ∀ n : Nat, ∃ F', RelF B F' (env ++ List.replicate n .junk) (sl ++ List.replicate n none) st
  | 0 => ⟨F, by simpa using h⟩
  | n + 1 => by
    obtain ⟨F', h'⟩ := RelF.junkN h n
    obtain ⟨F2, h2⟩ := h'.junk none
    refine ⟨F2, ?_⟩
    rw [List.append_assoc, List.append_assoc, ← List.replicate_succ', ← List.replicate_succ'] at h2
    exact h2
/-- at the start of a def that changes nothing -/
theorem start_ro {ps : List PI} {A : Nat → Nat} (hg : GW st) (hr : RoOk st ps A) : ∃ F, RelF ⟨st, [], true⟩ F (envOfR A ps 0) ((valsOf A ps 0).map some) st := by
  refine ⟨fun _ => [], ?_⟩
  exact {
    len := by rw [List.length_map, valsOf_len, envOfR_len]
    le := Nat.le_refl _
    hold := fun j it hj => by
      rw [envOfR_at] at hj
      cases hp : ps[j]? with
      | none => rw [hp] at hj; cases hj
      | some p =>
        rw [hp] at hj
        cases hj
        cases p with
        | j => rfl
        | d x => exact ⟨rfl, by simp [List.getElem?_map, valsOf_at, hp, PI.vl]⟩
        | b k =>
          obtain ⟨fp, hv⟩ := hr j k hp
          exact ⟨rfl, by simp [List.getElem?_map, valsOf_at, hp, PI.vl], fp, by rw [Nat.zero_add]; exact hv, fun x _ hx => by cases hx⟩
    off := fun _ _ => rfl
    dis := fun _ _ _ h => by cases h
    nd := fun _ => List.nodup_nil
    inM := fun _ _ h => by cases h
    fr := fun _ _ _ => rfl
    wf := fun _ a c _ hc => hg a c hc
    gw := hg }
theorem same_store (hg : GW st) (h : RelF ⟨st, [], true⟩ F env sl st1) : st1.take st.length = st := by
  have hl : st.length ≤ st1.length := h.le
  refine List.ext_getElem? fun i => ?_
  rcases Nat.lt_or_ge i st.length with z | z
  · rw [List.getElem?_take_of_lt z]; exact h.fr i z (by simp)
  · rw [List.getElem?_eq_none (by simp; omega), List.getElem?_eq_none z]
theorem all_below (hg : GW st) : st.all (cellBelow st.length) = true := by
  rw [List.all_eq_true]
  intro c hc
  obtain ⟨i, hi⟩ := List.getElem?_of_mem hc
  exact hg i c hi
theorem FP_of {N : Nat} {b : SM} {ps : List PI} {t : Stp ξ ρ Empty σ} {v : ρ → PyData} {fn : σ → ρ} {envk : σ → Env} (hN : ps.length ≤ N)
    (h : ∀ (B : Base) (A : Nat → Nat), B.M = [] → B.w = true → SJ B ⟨fun _ => junks N, fun _ => junks N, v, Empty.elim⟩ (envOfR A ps 0 ++ junks (N - ps.length)) b t envk)
    (hn : ∀ s, v (fn s) = .none) : FP (fnOf N b) ps (t.fin fn) v := fun A st hg hr => by
  obtain ⟨F, h0⟩ := start_ro hg hr
  obtain ⟨F1, h1⟩ := h0.junkN (N - ps.length)
  have hs := h ⟨st, [], true⟩ A rfl rfl _ st ⟨h1.len, F1, by simpa using h1⟩
  have eN : N - (valsOf A ps 0).length = N - ps.length := by rw [valsOf_len]
  simp only [fnOf, eN]
  have fin : ∀ {e : Env} {sl1 : Slots} {st1 : Store} (x : PyData), Rl ⟨st, [], true⟩ e [] sl1 [] st1 → TL.left st.length (.ok (.d x) st1) = .ok (.d x) st := by
    intro e sl1 st1 x r
    obtain ⟨F2, q⟩ := r.ex
    have et := same_store hg q
    simp only [TL.left, leave]
    split
    · rename_i z; rw [← et, List.take_of_length_le (by omega)]
    · rw [if_pos]
      · rw [et]; rfl
      · rw [et, all_below hg]; rfl
  revert hs
  cases t with
  | stuck => intro _; trivial
  | nx s => cases b ((valsOf A ps 0).map some ++ List.replicate (N - ps.length) none) st with
    | nx sl1 st1 =>
      intro r
      show Sat _ _ _ (TL.left st.length (.ok (.d .none) st1))
      rw [fin .none r]; exact ⟨by rw [hn s], rfl⟩
    | _ => exact fun q => q.elim
  | rt s => cases b ((valsOf A ps 0).map some ++ List.replicate (N - ps.length) none) st with
    | rt u st1 =>
      rintro ⟨⟨sl1, r⟩, hv⟩
      rcases hv with rfl | ⟨_, n, rfl, hn0, hc⟩
      · show Sat _ _ _ (TL.left st.length (.ok (.d (v s)) st1))
        rw [fin _ r]; exact ⟨rfl, rfl⟩
      · obtain ⟨F2, q⟩ := r.ex
        have et := same_store hg q
        have hlt : n < st1.length := by
          rcases hc with ⟨xs, e, _⟩ | ⟨xs, e, _⟩ <;> exact (List.getElem?_eq_some_iff.mp e).1
        have hn1 : st.length ≤ n := hn0
        have : TL.left st.length (.ok (.box n) st1) = .ok (.d (v s)) st := by
          simp only [TL.left, leave]
          rw [if_neg (by omega)]
          have ef : frozen st.length (.box n) st1 = .d (v s) := by
            simp only [frozen]
            rw [if_neg (by omega)]
            rcases hc with ⟨xs, e, e2⟩ | ⟨xs, e, e2⟩
            · rw [e]; show Val.d (.list xs) = .d (v s); rw [← e2]
            · rw [e]; show Val.d (.dict xs) = .d (v s); rw [← e2]
          rw [ef, et, all_below hg]; rfl
        show Sat _ _ _ (TL.left st.length (.ok (.box n) st1))
        rw [this]; exact ⟨rfl, rfl⟩
    | _ => exact fun q => q.elim
  | bk s => exact s.elim
  | ct s => exact s.elim
  | exn c s => cases b ((valsOf A ps 0).map some ++ List.replicate (N - ps.length) none) st with
    | exn c1 sl1 st1 =>
      rintro ⟨e, r⟩
      obtain ⟨F2, q⟩ := r.ex
      have et := same_store hg q
      have : TL.left st.length (.exn c1 st1) = .exn c1 st := by
        simp only [TL.left, leaveX]
        split
        · rename_i z; rw [← et, List.take_of_length_le (by omega)]
        · rw [if_pos]
          · rw [et]
          · rw [et, all_below hg]
      show Sat _ _ _ (TL.left st.length (.exn c1 st1))
      rw [this]
      exact ⟨e, rfl⟩
    | _ => exact fun q => q.elim
/-! ### .. that changes its boxes -/
theorem RelF.reslot {sl' : Slots} (h : RelF B F env sl st) (hl : sl'.length = sl.length) (hs : ∀ (i : Nat) (it : It), env[i]? = some it → it = .junk ∨ ∃ a k, it = .p a k ∧ sl'[i]? = some (some (Val.box a))) : RelF B F env sl' st where
  len := hl.trans h.len
  le := h.le
  hold := fun i it hi => by
    have := h.hold i it hi
    rcases hs i it hi with rfl | ⟨a, k, rfl, e⟩
    · exact this
    · obtain ⟨fp, h1, _, h3⟩ := this
      exact ⟨fp, h1, e, h3⟩
  off := h.off
  dis := h.dis
  nd := h.nd
  inM := h.inM
  fr := h.fr
  wf := h.wf
  gw := h.gw
/-- the parameters at the end: boxes and what is forgotten -/
def okP : List PI → List PI → Bool
  | [], [] => true
  | .b _ :: ps, .b _ :: qs => okP ps qs
  | .d _ :: ps, .j :: qs => okP ps qs
  | .j :: ps, .j :: qs => okP ps qs
  | _, _ => false
theorem okP_len : ∀ {ps qs : List PI}, okP ps qs = true → qs.length = ps.length
  | [], [], _ => rfl
  | .b _ :: ps, .b _ :: qs, h => by simp [okP_len (ps := ps) (qs := qs) h]
  | .d _ :: ps, .j :: qs, h => by simp [okP_len (ps := ps) (qs := qs) h]
  | .j :: ps, .j :: qs, h => by simp [okP_len (ps := ps) (qs := qs) h]
theorem okP_at : ∀ {ps qs : List PI} {i : Nat} {q : PI}, okP ps qs = true → qs[i]? = some q → q = .j ∨ ∃ k k', q = .b k ∧ ps[i]? = some (.b k')
  | .b k' :: ps, .b k :: qs, 0, q, h, e => by simp at e; subst e; exact .inr ⟨k, k', rfl, rfl⟩
  | .b _ :: ps, .b _ :: qs, i + 1, q, h, e => by simpa using okP_at (ps := ps) (qs := qs) (i := i) h (by simpa using e)
  | .d _ :: ps, .j :: qs, 0, q, h, e => by simp at e; exact .inl e.symm
  | .d _ :: ps, .j :: qs, i + 1, q, h, e => by simpa using okP_at (ps := ps) (qs := qs) (i := i) h (by simpa using e)
  | .j :: ps, .j :: qs, 0, q, h, e => by simp at e; exact .inl e.symm
  | .j :: ps, .j :: qs, i + 1, q, h, e => by simpa using okP_at (ps := ps) (qs := qs) (i := i) h (by simpa using e)
  | [], [], i, q, _, e => by simp at e
theorem RelF.cut {n : Nat} (h : RelF B F (env ++ List.replicate n .junk) sl st) : ∃ F', RelF B F' env (sl.take env.length) st := by
  induction n generalizing sl F with
  | zero =>
    have hl := h.len
    simp at hl
    exact ⟨F, by rw [List.take_of_length_le (by omega)]; simpa using h⟩
  | succ n ih =>
    rw [List.replicate_succ', ← List.append_assoc] at h
    have hl := h.len
    simp at hl
    have e : sl = sl.take (env.length + n) ++ [sl.getLast (by intro z; rw [z] at hl; simp at hl)] := by
      have := List.take_append_getLast sl (by intro z; rw [z] at hl; simp at hl)
      rw [show sl.length - 1 = env.length + n from by omega] at this
      exact this.symm
    rw [e] at h
    obtain ⟨F', h'⟩ := h.pop
    obtain ⟨F2, h2⟩ := ih h'
    refine ⟨F2, ?_⟩
    rw [List.take_take, show min env.length (env.length + n) = env.length from by omega] at h2
    exact h2
theorem RelF.setW (h : RelF B F env sl st) : RelF ⟨B.st0, B.M, false⟩ F env sl st where
  len := h.len
  le := h.le
  hold := fun i it hi => by
    have := h.hold i it hi
    cases it with
    | junk => exact this
    | d x => exact this
    | c k => exact this
    | p a k => exact this
    | r a k => exact this
  off := h.off
  dis := h.dis
  nd := h.nd
  inM := h.inM
  fr := h.fr
  wf := fun z => by cases z
  gw := h.gw
theorem FC_of {N : Nat} {b : SM} {ps : List PI} {t : Stp ξ ρ Empty σ} {v : ρ → PyData} {fn : σ → ρ} {psx : ξ → List PI} {psr : ρ → List PI} {envk : (Nat → Nat) → σ → Env} (hN : ps.length ≤ N)
    (h : ∀ (B : Base) (A : Nat → Nat), B.w = false → SJ B ⟨fun x => envOf A (psx x) 0 ++ junks (N - ps.length), fun r => envOf A (psr r) 0 ++ junks (N - ps.length), v, Empty.elim⟩ (envOf A ps 0 ++ junks (N - ps.length)) b t (envk A))
    (hn : ∀ s, v (fn s) = .none) (hk : ∀ A s, wk (envk A s) (envOf A (psr (fn s)) 0 ++ junks (N - ps.length))) (hx : ∀ x, okP ps (psx x) = true) (hr : ∀ r, okP ps (psr r) = true) : FC (fnOf N b) ps (t.fin fn) psx psr v := fun A st F h00 => by
  have h0 : RelF ⟨st, allF F ps.length, false⟩ F (envOf A ps 0) ((valsOf A ps 0).map some) st := h00.setW
  obtain ⟨F1, h1⟩ := h0.junkN (N - ps.length)
  have hs := h ⟨st, allF F ps.length, false⟩ A rfl _ st ⟨h1.len, F1, by simpa using h1⟩
  have eN : N - (valsOf A ps 0).length = N - ps.length := by rw [valsOf_len]
  simp only [fnOf, eN]
  -- what is there at the end
  have ending : ∀ {qs : List PI} {sl1 : Slots} {st1 : Store}, okP ps qs = true → Rl ⟨st, allF F ps.length, false⟩ (envOf A qs 0 ++ junks (N - ps.length)) [] sl1 [] st1 → ∃ F', RelF ⟨st, allF F ps.length, false⟩ F' (envOf A qs 0) ((valsOf A ps 0).map some) st1 := by
    intro qs sl1 st1 hq r
    obtain ⟨F2, q⟩ := r.ex
    simp only [List.append_nil] at q
    obtain ⟨F3, q3⟩ := RelF.cut q
    refine ⟨F3, q3.reslot ?_ fun i it hi => ?_⟩
    · have := q3.len
      rw [this, List.length_map, valsOf_len, envOf_len, okP_len hq]
    · rw [envOf_at] at hi
      cases hp : qs[i]? with
      | none => rw [hp] at hi; cases hi
      | some p =>
        rw [hp] at hi
        cases hi
        rcases okP_at hq hp with rfl | ⟨k, k', rfl, e⟩
        · exact .inl rfl
        · refine .inr ⟨_, k, rfl, ?_⟩
          simp [List.getElem?_map, valsOf_at, e, PI.vl]
  have lessens : ∀ {qs : List PI} {st1 : Store}, okP ps qs = true → (∃ F', RelF ⟨st, allF F ps.length, false⟩ F' (envOf A qs 0) ((valsOf A ps 0).map some) st1) → (st1.take st.length).all (cellBelow st.length) = true → ∃ F', RelF ⟨st, allF F ps.length, false⟩ F' (envOf A qs 0) ((valsOf A ps 0).map some) (st1.take st.length) := by
    rintro qs st1 hq ⟨F', r⟩ hall
    refine ⟨F', r.take (Nat.le_refl _) r.le hall fun i c a fp hc ha => ?_⟩
    obtain ⟨it, e1, e2⟩ := wrAt_it hc
    rw [envOf_at] at e1
    cases hp : qs[i]? with
    | none => rw [hp] at e1; cases e1
    | some p =>
      rw [hp] at e1
      cases e1
      rcases okP_at hq hp with rfl | ⟨k, k', rfl, e⟩
      · rcases e2 with z | ⟨_, z⟩ <;> cases z
      · have h3 := r.hold i (.p (A (0 + i)) k) (by rw [envOf_at, hp]; rfl)
        obtain ⟨fp', e3, _, _⟩ := h3
        rw [ha] at e3
        cases e3
        have h4 := h00.hold i (.p (A (0 + i)) k') (by rw [envOf_at, e]; rfl)
        obtain ⟨fp'', e4, _, _⟩ := h4
        exact h00.lt (i := i) (by rw [e4]; simp)
  have fin : ∀ {qs : List PI} {sl1 : Slots} {st1 : Store} (x : PyData), okP ps qs = true → Rl ⟨st, allF F ps.length, false⟩ (envOf A qs 0 ++ junks (N - ps.length)) [] sl1 [] st1 → ∃ st2, TL.left st.length (.ok (.d x) st1) = .ok (.d x) st2 ∧ ∃ F', RelF ⟨st, allF F ps.length, false⟩ F' (envOf A qs 0) ((valsOf A ps 0).map some) st2 := by
    intro qs sl1 st1 x hq r
    have e := ending hq r
    simp only [TL.left, leave]
    split
    · exact ⟨_, rfl, e⟩
    · split
      · rename_i z
        rw [Bool.and_eq_true] at z
        exact ⟨_, rfl, lessens hq e z.2⟩
      · exact ⟨_, rfl, e⟩
  revert hs
  cases t with
  | stuck => intro _; trivial
  | nx s => cases b ((valsOf A ps 0).map some ++ List.replicate (N - ps.length) none) st with
    | nx sl1 st1 =>
      intro r
      obtain ⟨st2, e1, e2⟩ := fin .none (hr (fn s)) (Rl.weak r (hk A s))
      show Sat _ _ _ (TL.left st.length (.ok (.d .none) st1))
      rw [e1]
      exact ⟨by rw [hn], e2⟩
    | _ => exact fun q => q.elim
  | rt s => cases b ((valsOf A ps 0).map some ++ List.replicate (N - ps.length) none) st with
    | rt u st1 =>
      rintro ⟨⟨sl1, r⟩, hv⟩
      rcases hv with rfl | ⟨z, _⟩
      · obtain ⟨st2, e1, e2⟩ := fin (v s) (hr s) r
        show Sat _ _ _ (TL.left st.length (.ok (.d (v s)) st1))
        rw [e1]
        exact ⟨rfl, e2⟩
      · cases z
    | _ => exact fun q => q.elim
  | bk s => exact s.elim
  | ct s => exact s.elim
  | exn c s => cases b ((valsOf A ps 0).map some ++ List.replicate (N - ps.length) none) st with
    | exn c1 sl1 st1 =>
      rintro ⟨ec, r⟩
      have e := ending (hx s) r
      show Sat _ _ _ (TL.left st.length (.exn c1 st1))
      simp only [TL.left, leaveX]
      split
      · exact ⟨ec, e⟩
      · split
        · rename_i z; exact ⟨ec, lessens (hx s) e z⟩
        · exact ⟨ec, e⟩
    | _ => exact fun q => q.elim
/-! ### calls of what changes nothing -/
variable {envx : ξ → Env}
def argR (env : Env) : Arg → PI
  | .inl x => .d x
  | .inr i => match cellAt env i with
    | some k => .b k
    | none => .j
theorem ro_call {f : FM} {t : Out τ σ} {val : σ → PyData} {ds : List Arg} (hf : FP f (ds.map (argR env)) t val) (hc : ∀ i ∈ slotsOf ds, (cellAt env i).isSome = true) {sl exs : Slots} {ext : Env} {st : Store} (r : Rl B env ext sl exs st) :
    Sat (fun _ st' => st' = st) (fun s v st' => v = Val.d (val s) ∧ st' = st) t (f (ds.map (argV sl)) st) := by
  obtain ⟨F, hF⟩ := r.ex
  have hA : ∀ (ds : List Arg) (n : Nat) (A : Nat → Nat), (∀ i ∈ slotsOf ds, (cellAt env i).isSome = true) → (∀ j i, ds[j]? = some (Sum.inr i) → A (n + j) = adr sl i) → valsOf A (ds.map (argR env)) n = ds.map (argV sl) := by
    intro ds
    induction ds with
    | nil => intro n A _ _; rfl
    | cons d ds ih =>
      intro n A hc hA
      simp only [List.map_cons, valsOf]
      cases d with
      | inl x =>
        rw [ih (n + 1) A (fun i hi => hc i (by simpa [slotsOf] using hi)) (fun j i e => by have := hA (j + 1) i (by simpa using e); rw [show n + 1 + j = n + (j + 1) from by omega]; exact this)]
        rfl
      | inr i =>
        rw [ih (n + 1) A (fun i hi => hc i (by simp [slotsOf, hi])) (fun j i e => by have := hA (j + 1) i (by simpa using e); rw [show n + 1 + j = n + (j + 1) from by omega]; exact this)]
        have h0 := hA 0 i rfl
        obtain ⟨k, hk⟩ := Option.isSome_iff_exists.mp (hc i (by simp [slotsOf]))
        simp only [argR, hk, PI.vl, argV]
        rw [show n = n + 0 from rfl, h0]
  have e := hA ds 0 (callA sl ds) hc fun j i e => by simp [callA, e]
  have := hf (callA sl ds) st hF.gw fun j k hj => by
    rw [List.getElem?_map] at hj
    cases hd : ds[j]? with
    | none => rw [hd] at hj; cases hj
    | some d =>
      rw [hd] at hj
      cases d with
      | inl x => simp [argR] at hj
      | inr i =>
        obtain ⟨k', hk⟩ := Option.isSome_iff_exists.mp (hc i (slots_at hd))
        simp [argR, hk] at hj
        subst hj
        obtain ⟨a, fp, h1, h2⟩ := r.box hk
        have : callA sl ds j = a := by simp [callA, hd, adr, h1]
        rw [this]
        exact ⟨fp, h2⟩
  rw [e] at this
  exact this
theorem XE_callP {f : FM} {a : AM} {t : Out τ σ} {val : σ → PyData} {ds : List Arg} (g : τ → ξ) (hf : FP f (ds.map (argR env)) t val) (ha : AC B env a ds) (hc : ∀ i ∈ slotsOf ds, (cellAt env i).isSome = true) (hg : ∀ x, wk env (envx (g x))) :
    XE B envx env (mCall f a) (t.mapx g) (fun _ => env) val := fun sl ext exs st r => by
  simp only [mCall, ha sl ext exs st r, R.bind_ok]
  have := ro_call hf hc r
  revert this
  cases t with
  | stuck => intro _; trivial
  | ok s => cases f (ds.map (argV sl)) st with
    | ok v st1 => rintro ⟨h1, rfl⟩; exact ⟨h1, r⟩
    | _ => exact fun q => q.elim
  | exn c x => cases f (ds.map (argV sl)) st with
    | exn c1 st1 => rintro ⟨h1, rfl⟩; exact ⟨h1, r.weak (hg x)⟩
    | _ => exact fun q => q.elim
theorem EJ_callP {f : FM} {a : AM} {t : Out τ σ} {val : σ → PyData} {ds : List Arg} {s : σ} (hf : FP f (ds.map (argR env)) t val) (ha : AC B env a ds) (hc : ∀ i ∈ slotsOf ds, (cellAt env i).isSome = true) (ht : t = .ok s) :
    EJ B env (mCall f a) (val s) := fun sl ext exs st r => by
  simp only [mCall, ha sl ext exs st r, R.bind_ok]
  have := ro_call hf hc r
  rw [ht] at this
  revert this
  cases f (ds.map (argV sl)) st with
  | ok v st1 => rintro ⟨h1, rfl⟩; rw [h1]
  | _ => exact fun q => q.elim
theorem XE_methP {f : FM} {a : AM} {t : Out τ σ} {val : σ → PyData} {ds : List Arg} {c g : Str} {i : Nat} {fs : List (Str × FV)} (gx : τ → ξ) (hk : cellAt env i = some (.obj c fs)) (hg : getV fs g = none)
    (hf : FP f ((Sum.inr i :: ds).map (argR env)) t val) (ha : AC B env a ds) (hc : ∀ i ∈ slotsOf ds, (cellAt env i).isSome = true) (hgx : ∀ x, wk env (envx (gx x))) :
    XE B envx env (mMeth c g f (mVar i) a) (t.mapx gx) (fun _ => env) val := fun sl ext exs st r => by
  obtain ⟨q, fp, h1, vs, h2, h3⟩ := r.box hk
  have eo : TL.isObj c g (.box q) st = true := by simp [TL.isObj, h2, h3.none hg]
  simp only [mMeth, mVar, h1, R.bind_ok, eo, cond_true, ha sl ext exs st r]
  have := ro_call hf (fun j hj => by
    simp only [slotsOf, List.mem_cons] at hj
    rcases hj with rfl | hj
    · rw [hk]; rfl
    · exact hc j hj) r
  have ev : (Sum.inr i :: ds).map (argV sl) = .box q :: ds.map (argV sl) := by simp [argV, adr, h1]
  rw [ev] at this
  revert this
  cases t with
  | stuck => intro _; trivial
  | ok s => cases f (.box q :: ds.map (argV sl)) st with
    | ok v st1 => rintro ⟨h1, rfl⟩; exact ⟨h1, r⟩
    | _ => exact fun q => q.elim
  | exn c x => cases f (.box q :: ds.map (argV sl)) st with
    | exn c1 st1 => rintro ⟨h1, rfl⟩; exact ⟨h1, r.weak (hgx x)⟩
    | _ => exact fun q => q.elim
theorem EJ_methP {f : FM} {a : AM} {t : Out τ σ} {val : σ → PyData} {ds : List Arg} {c g : Str} {i : Nat} {fs : List (Str × FV)} {s : σ} (hk : cellAt env i = some (.obj c fs)) (hg : getV fs g = none)
    (hf : FP f ((Sum.inr i :: ds).map (argR env)) t val) (ha : AC B env a ds) (hc : ∀ i ∈ slotsOf ds, (cellAt env i).isSome = true) (ht : t = .ok s) : EJ B env (mMeth c g f (mVar i) a) (val s) := fun sl ext exs st r => by
  have := XE_methP (B := B) (envx := fun _ : Unit => env) (fun _ => ()) hk hg hf ha hc (fun _ => wk.refl env) sl ext exs st r
  rw [ht] at this
  revert this
  simp only [Out.mapx_ok]
  obtain ⟨q, fp, h1, vs, h2, h3⟩ := r.box hk
  have eo : TL.isObj c g (.box q) st = true := by simp [TL.isObj, h2, h3.none hg]
  have h4 := ro_call hf (fun j hj => by
    simp only [slotsOf, List.mem_cons] at hj
    rcases hj with rfl | hj
    · rw [hk]; rfl
    · exact hc j hj) r
  have ev : (Sum.inr i :: ds).map (argV sl) = .box q :: ds.map (argV sl) := by simp [argV, adr, h1]
  rw [ev, ht] at h4
  intro _
  simp only [mMeth, mVar, h1, R.bind_ok, eo, cond_true, ha sl ext exs st r]
  revert h4
  cases f (.box q :: ds.map (argV sl)) st with
  | ok v st1 => rintro ⟨h1, rfl⟩; rw [h1]
  | _ => exact fun q => q.elim
end
end TY
end

section
set_option Elab.async false
set_option linter.all false
set_option maxRecDepth 100000
set_option maxHeartbeats 1000000
set_option autoImplicit false
/-! TY9: fields, names with +=, lists that grow, comprehensions that roll dice. -/
namespace TY
open PySem L2 TL
open Enc (enc)
section
variable {ξ ρ β σ τ δ : Type} {B : Base} {S : Sig ξ ρ β} {F : Nat → List Nat} {env ext : Env} {sl exs : Slots} {st st1 : Store} {envx : ξ → Env}
/-! ### names -/
theorem Y_aug {α : Type} [Enc α] {i : Nat} {f : PyData → PyData → Option PyData} {m : TL.EM} {e : α} (hi : i < env.length) (h : EJ B env (mP2 f (mVar i) m) (enc e)) : SJ B S env (sAug i f m) (.nx e) (fun y => env.set i (.d (enc y))) := fun sl st r => by
  simp only [sAug, h sl [] [] st r, aS_ok]
  exact r.setD hi (enc e)
theorem Y_augX {i : Nat} {f : PyData → PyData → Option PyData} {m : TL.EM} {t : Out ξ σ} {envk : σ → Env} {val : σ → PyData} (h : XE B S.x env (mP2 f (mVar i) m) t envk val) (hi : ∀ s, i < (envk s).length) : SJ B S env (sAug i f m) t.stp (fun s => (envk s).set i (.d (val s))) := fun sl st r => by
  have := Y_setX (B := B) (S := S) h hi sl st r
  exact this
theorem Y_unp {tg : Tg} {m : TL.EM} {x : PyData} {env' : Env} (h : EV B env m x) (hp : putE tg x env = some env') : SJ B S env (sUnp tg m) (.nx ()) (fun _ => env') := fun sl st r => by
  obtain ⟨v, h1, h2⟩ := h sl [] [] st r
  obtain ⟨sl1, h3, r1⟩ := put_ok tg r hp
  simp only [sUnp, h1, aS_ok, h2, Option.bind, h3, SR.opt]
  exact r1
/-! ### fields -/
def setV (f : Str) (v : FV) : List (Str × FV) → List (Str × FV)
  | [] => [(f, v)]
  | (g, u) :: r => if g = f then (g, v) :: r else (g, u) :: setV f v r
theorem fsAt.set {f : Str} {x : PyData} : ∀ {vs : List (Str × Val)} {fs : List (Str × FV)} {b : List Nat}, fsAt st vs fs b → ∃ b', fsAt st (setF f (.d x) vs) (setV f (.d x) fs) b' ∧ b'.Sublist b
  | [], [], b, h => ⟨[], ⟨rfl, [], [], rfl, ⟨rfl, rfl⟩, rfl⟩, by simp⟩
  | (g, v) :: r, (g', u) :: s, b, ⟨h1, b1, b2, h2, h3, h4⟩ => by
    subst h1
    by_cases e : g = f
    · refine ⟨b2, ?_, by rw [h2]; exact List.sublist_append_right _ _⟩
      simp only [setF, setV, if_pos e]
      exact ⟨rfl, [], b2, rfl, ⟨rfl, rfl⟩, h4⟩
    · obtain ⟨b', h5, h6⟩ := h4.set (f := f) (x := x)
      refine ⟨b1 ++ b', ?_, by rw [h2]; exact List.Sublist.append_left h6 b1⟩
      simp only [setF, setV, if_neg e]
      exact ⟨rfl, b1, b', rfl, h3, h5⟩
  | [], _ :: _, _, h => h.elim
  | _ :: _, [], _, h => h.elim
theorem fsAt.len {vs : List (Str × Val)} {fs : List (Str × FV)} {b : List Nat} (h : fsAt st vs fs b) : vs.length = fs.length := by
  induction vs generalizing fs b with
  | nil => cases fs with
    | nil => rfl
    | cons _ _ => exact h.elim
  | cons v vs ih => cases fs with
    | nil => exact h.elim
    | cons u fs =>
      obtain ⟨f, v⟩ := v
      obtain ⟨g, u⟩ := u
      obtain ⟨_, b1, b2, _, _, h4⟩ := h
      simp [ih h4]
theorem setF_below {k : Nat} {f : Str} {x : PyData} : ∀ {vs : List (Str × Val)}, (vs.all fun p => boxBelow k p.2) = true → ((setF f (.d x) vs).all fun p => boxBelow k p.2) = true
  | [], _ => rfl
  | (g, v) :: r, h => by
    simp only [List.all_cons, Bool.and_eq_true] at h
    simp only [setF]
    split
    · simp only [List.all_cons, Bool.and_eq_true]; exact ⟨rfl, h.2⟩
    · simp only [List.all_cons, Bool.and_eq_true]; exact ⟨h.1, setF_below (f := f) (x := x) h.2⟩
theorem updC_eq {i : Nat} {it : It} {k : VC} (h : env[i]? = some it) : updC env i k = env.set i (reC k it) := by unfold updC; rw [h]
/-- an object's field gets data -/
theorem Rl.fld (r : Rl B env ext sl exs st) {i : Nat} {c f : Str} {fs : List (Str × FV)} {x : PyData} (hk : wrAt env i = some (.obj c fs)) (hf : fs.length < 999) :
    ∃ a, sl[i]? = some (some (.box a)) ∧ ∃ st', putFld c (.box a) f (.d x) st = some st' ∧ Rl B (updC env i (.obj c (setV f (.d x) fs))) ext sl exs st' := by
  obtain ⟨F, hF⟩ := r.ex
  have hi := wrAt_lt hk
  obtain ⟨a, fp, h1, h2, ⟨vs, h3, h4⟩, h5⟩ := hF.box (by rw [wrAt_app hi]; exact hk)
  have h2' : sl[i]? = some (some (.box a)) := by rwa [List.getElem?_append_left (by rw [r.len]; exact hi)] at h2
  refine ⟨a, h2', st.set a (.obj c (setF f (.d x) vs)), by simp [putFld, h3, h4.len, hf], ?_⟩
  have ha : a < st.length := (List.getElem?_eq_some_iff.mp h3).1
  obtain ⟨fp', h6, h7⟩ := h4.set (f := f) (x := x)
  have hnd := hF.nd i
  rw [h1, List.nodup_cons] at hnd
  obtain ⟨it, e1, e2⟩ := wrAt_it hk
  refine ⟨by rw [updC_len]; exact r.len, fun j => if j = i then a :: fp' else F j, ?_⟩
  rw [← updC_app hi, updC_eq (it := it) (by rw [List.getElem?_append_left hi]; exact e1)]
  refine hF.put (by simp; omega) (a :: fp') rfl (fun _ _ => rfl) (by simp) (fun y hy _ => ?_) (fun y hy => ?_) ?_ ?_ (fun hw b q hb hbF hq => ?_) (fun b q hb hq => ?_)
  · rw [List.getElem?_set_ne]
    intro z; subst z; exact hy (by rw [h1]; simp)
  · rw [h1]
    rcases List.mem_cons.mp hy with z | z
    · exact .inl (by rw [z]; simp)
    · exact .inl (by simp [h7.subset z])
  · rw [List.nodup_cons]
    exact ⟨fun z => hnd.1 (h7.subset z), h7.nodup hnd.2⟩
  · have hv : vcAt (st.set a (.obj c (setF f (.d x) vs))) a (.obj c (setV f (.d x) fs)) fp' :=
      ⟨_, by rw [List.getElem?_set_self ha], h6.keep fun y hy => by
        rw [List.getElem?_set_ne]
        intro z; subst z; exact hnd.1 (h7.subset hy)⟩
    rcases e2 with rfl | ⟨a', rfl⟩
    · exact ⟨a, fp', by simp, h2, hv⟩
    · have : a' = a := h5 a' (by rw [List.getElem?_append_left hi]; exact e1)
      subst this
      exact ⟨fp', by simp, h2, hv⟩
  · by_cases z : b = a
    · subst z
      rw [List.getElem?_set_self ha] at hq
      cases hq
      have := hF.wf hw b _ hb h3
      simp only [cellBelow] at this ⊢
      exact setF_below this
    · rw [List.getElem?_set_ne (fun q => z q.symm)] at hq
      exact hF.wf hw b q hb hq
  · rw [List.length_set]
    by_cases z : b = a
    · subst z
      rw [List.getElem?_set_self ha] at hq
      cases hq
      have := hF.gw b _ h3
      simp only [cellBelow] at this ⊢
      exact setF_below this
    · rw [List.getElem?_set_ne (fun q => z q.symm)] at hq
      exact hF.gw b q hq
theorem Y_fld {α : Type} [Enc α] {i : Nat} {c f : Str} {fs : List (Str × FV)} {m : TL.EM} {e : α} (hk : wrAt env i = some (.obj c fs)) (hf : fs.length < 999) (h : EJ B env m (enc e)) :
    SJ B S env (TL.sFld c (mVar i) f m) (.nx e) (fun y => updC env i (.obj c (setV f (.d (enc y)) fs))) := fun sl st r => by
  obtain ⟨a, h1, st', h2, r'⟩ := r.fld (x := enc e) (f := f) hk hf
  simp only [TL.sFld, h sl [] [] st r, aS_ok, mVar, h1, h2, SR.opt]
  exact r'
theorem Y_fldX {i : Nat} {c f : Str} {m : TL.EM} {t : Out ξ σ} {envk : σ → Env} {val : σ → PyData} {fs : σ → List (Str × FV)} (h : XE B S.x env m t envk val) (hk : ∀ s, wrAt (envk s) i = some (.obj c (fs s))) (hf : ∀ s, (fs s).length < 999) :
    SJ B S env (TL.sFld c (mVar i) f m) t.stp (fun s => updC (envk s) i (.obj c (setV f (.d (val s)) (fs s)))) := fun sl st r => by
  have := h sl [] [] st r
  revert this
  unfold TL.sFld
  cases t with
  | stuck => intro _; trivial
  | ok s => cases m sl st with
    | ok v st1 =>
      rintro ⟨rfl, h2⟩
      obtain ⟨a, h1, st', h3, r'⟩ := h2.fld (x := val s) (f := f) (hk s) (hf s)
      simp only [aS_ok, mVar, h1, h3, SR.opt]
      exact r'
    | _ => exact fun q => q.elim
  | exn c0 x0 => cases m sl st with
    | exn c1 st1 => exact fun q => q
    | _ => exact fun q => q.elim
theorem Y_augfld {α : Type} [Enc α] {i : Nat} {c g : Str} {f : PyData → PyData → Option PyData} {fs : List (Str × FV)} {m : TL.EM} {e : α} {x y : PyData} (hk : wrAt env i = some (.obj c fs)) (hf : fs.length < 999) (hx : getV fs g = some (.d x)) (h : EV B env m y) (he : f x y = some (enc e)) :
    SJ B S env (TL.sAugFld c (mVar i) g f m) (.nx e) (fun z => updC env i (.obj c (setV g (.d (enc z)) fs))) := fun sl st r => by
  obtain ⟨a, h1, st', h2, r'⟩ := r.fld (x := enc e) (f := g) hk hf
  have h3 := EJ_fld (B := B) (wrAt_cell hk) hx sl [] [] st r
  obtain ⟨v, h4, h5⟩ := h sl [] [] st r
  simp only [TL.mFld, mVar, h1, R.bind_ok] at h3
  simp only [TL.sAugFld, mVar, h1, aS_ok]
  cases e1 : fldOf c (.box a) g st with
  | none => rw [e1] at h3; cases h3
  | some w =>
    rw [e1] at h3
    cases h3
    simp only [SR.opt, h4, aS_ok, deref_d, h5, Option.bind, he, h2]
    exact r'
/-! ### lists that grow -/
theorem Rl.cell (r : Rl B env ext sl exs st) {i : Nat} {k k' : VC} {q : Nat → Cell} (hk : wrAt env i = some k) (h0 : ∀ (st : Store) a fp, vcAt st a k fp → fp = []) (h1 : ∀ (st : Store) a, st[a]? = some (q a) → vcAt st a k' []) (h2 : ∀ a n, cellBelow n (q a) = true) :
    ∃ a, sl[i]? = some (some (.box a)) ∧ vcAt st a k [] ∧ Rl B (updC env i k') ext sl exs (st.set a (q a)) := by
  obtain ⟨F, hF⟩ := r.ex
  have hi := wrAt_lt hk
  obtain ⟨a, fp, g1, g2, g3, g5⟩ := hF.box (by rw [wrAt_app hi]; exact hk)
  have := h0 _ _ _ g3
  subst this
  have h2' : sl[i]? = some (some (.box a)) := by rwa [List.getElem?_append_left (by rw [r.len]; exact hi)] at g2
  have ha : a < st.length := g3.lt a (by simp)
  refine ⟨a, h2', g3, ?_⟩
  obtain ⟨it, e1, e2⟩ := wrAt_it hk
  refine ⟨by rw [updC_len]; exact r.len, fun j => if j = i then [a] else F j, ?_⟩
  rw [← updC_app hi, updC_eq (it := it) (by rw [List.getElem?_append_left hi]; exact e1)]
  refine hF.put (by simp; omega) [a] rfl (fun _ _ => rfl) (by simp) (fun y hy _ => ?_) (fun y hy => ?_) (by simp) ?_ (fun hw b c hb hbF hc => ?_) (fun b c hb hc => ?_)
  · rw [List.getElem?_set_ne]
    intro z; subst z; exact hy (by rw [g1]; simp)
  · simp at hy; subst hy; rw [g1]; simp
  · have hv := h1 (st.set a (q a)) a (by rw [List.getElem?_set_self ha])
    rcases e2 with rfl | ⟨a', rfl⟩
    · exact ⟨a, [], by simp, g2, hv⟩
    · have : a' = a := g5 a' (by rw [List.getElem?_append_left hi]; exact e1)
      subst this
      exact ⟨[], by simp, g2, hv⟩
  · by_cases z : b = a
    · subst z
      rw [List.getElem?_set_self ha] at hc
      cases hc; exact h2 _ _
    · rw [List.getElem?_set_ne (fun q => z q.symm)] at hc
      exact hF.wf hw b c hb hc
  · by_cases z : b = a
    · subst z
      rw [List.getElem?_set_self ha] at hc
      cases hc; exact h2 _ _
    · rw [List.getElem?_set_ne (fun q => z q.symm)] at hc
      rw [List.length_set]
      exact hF.gw b c hc
theorem Rl.lst (r : Rl B env ext sl exs st) {i : Nat} {xs ys : List PyData} (hk : wrAt env i = some (.lst xs)) : ∃ a, sl[i]? = some (some (.box a)) ∧ st[a]? = some (.lst xs) ∧ Rl B (updC env i (.lst ys)) ext sl exs (st.set a (.lst ys)) := by
  obtain ⟨a, h1, h2, h3⟩ := r.cell (q := fun _ => .lst ys) (k' := .lst ys) hk (fun _ _ _ h => h.2) (fun _ _ h => ⟨h, rfl⟩) (fun _ _ => rfl)
  exact ⟨a, h1, h2.1, h3⟩
theorem Rl.dic (r : Rl B env ext sl exs st) {i : Nat} {xs ys : List (PyData × PyData)} (hk : wrAt env i = some (.dic xs)) : ∃ a, sl[i]? = some (some (.box a)) ∧ st[a]? = some (.dic xs) ∧ Rl B (updC env i (.dic ys)) ext sl exs (st.set a (.dic ys)) := by
  obtain ⟨a, h1, h2, h3⟩ := r.cell (q := fun _ => .dic ys) (k' := .dic ys) hk (fun _ _ _ h => h.2) (fun _ _ h => ⟨h, rfl⟩) (fun _ _ => rfl)
  exact ⟨a, h1, h2.1, h3⟩
theorem XE_app {α : Type} [Enc α] {i : Nat} {m : TL.EM} {xs : List α} {e : α} (hk : wrAt env i = some (.lst (xs.map enc))) (h : EJ B env m (enc e)) :
    XE B envx env (mApp (mVar i) m) (grd (xs.length < lineN) (.ok (xs ++ [e]))) (fun ys => updC env i (.lst (ys.map enc))) (fun _ => .none) := fun sl ext exs st r => by
  unfold grd
  split
  · rename_i hl
    obtain ⟨a, h1, h2, r'⟩ := r.lst (ys := (xs ++ [e]).map enc) hk
    have hb : boxL (.box a) st = some (a, xs.map enc) := by simp [boxL, h2]
    have hl2 : (xs.map (enc : α → PyData)).length < lineN := by rw [List.length_map]; exact hl
    simp only [mApp, mVar, h1, R.bind_ok, hb, Option.isSome, cond_true, h sl ext exs st r, dataOf, if_pos hl2]
    refine ⟨rfl, ?_⟩
    rw [List.map_append] at r' ⊢
    exact r'
  · trivial
theorem XE_appX {α : Type} [Enc α] {i : Nat} {m : TL.EM} {t : Out ξ σ} {envk : σ → Env} {xs : List α} {e : σ → α} (h0 : wrAt env i = some (.lst (xs.map enc))) (hk : ∀ s, wrAt (envk s) i = some (.lst (xs.map enc))) (h : XE B envx env m t envk (fun s => enc (e s))) :
    XE B envx env (mApp (mVar i) m) (t.bind fun s => grd (xs.length < lineN) (.ok (s, xs ++ [e s]))) (fun p => updC (envk p.1) i (.lst (p.2.map enc))) (fun _ => .none) := fun sl ext exs st r => by
  obtain ⟨a, h1, h2, _⟩ := r.lst (ys := []) h0
  have hb : boxL (.box a) st = some (a, xs.map enc) := by simp [boxL, h2]
  simp only [mApp, mVar, h1, R.bind_ok, hb, Option.isSome, cond_true]
  refine Sat.bind (h sl ext exs st r) fun s v st1 ⟨h3, h4⟩ => ?_
  subst h3
  unfold grd
  split
  · rename_i hl
    obtain ⟨a', g1, g2, r'⟩ := h4.lst (ys := (xs ++ [e s]).map enc) (hk s)
    rw [h1] at g1
    cases g1
    have hb : boxL (.box a) st1 = some (a, xs.map enc) := by simp [boxL, g2]
    have hl2 : (xs.map (enc : α → PyData)).length < lineN := by rw [List.length_map]; exact hl
    simp only [hb, dataOf, if_pos hl2]
    refine ⟨rfl, ?_⟩
    rw [List.map_append] at r' ⊢
    exact r'
  · trivial
/-- where xs[i] lies -/
def ixAt (n : Nat) (i : Int) : Nat := (if i < 0 then i + n else i).toNat
def inIx (n : Nat) (i : Int) : Prop := -(n : Int) ≤ i ∧ i < n
instance (n : Nat) (i : Int) : Decidable (inIx n i) := inferInstanceAs (Decidable (_ ∧ _))
theorem ixN_in {n : Nat} {i : Int} (h : inIx n i) : L2.ixN n i = some (ixAt n i) ∧ ixAt n i < n := by
  obtain ⟨h1, h2⟩ := h
  unfold L2.ixN ixAt
  constructor
  · by_cases h : 0 ≤ i
    · rw [if_pos h, if_pos h2, if_neg (by omega)]
    · rw [if_neg h, if_pos h1, if_pos (by omega)]
  · split <;> omega
def setIx {α : Type} (xs : List α) (i : Int) (x : α) : List α := xs.set (ixAt xs.length i) x
theorem Y_setix {α : Type} [Enc α] {i : Nat} {m ix : TL.EM} {xs : List α} {e : α} {j : Int} (hm : EJ B env m (enc e)) (hk : wrAt env i = some (.lst (xs.map enc))) (hj : EJ B env ix (.int j)) (hin : inIx xs.length j) :
    SJ B S env (sSetIx m (mVar i) ix) (.nx (setIx xs j e)) (fun ys => updC env i (.lst (ys.map enc))) := fun sl st r => by
  obtain ⟨a, h1, h2, r'⟩ := r.lst (ys := (setIx xs j e).map enc) hk
  have hb : boxL (.box a) st = some (a, xs.map enc) := by simp [boxL, h2]
  have hx := (ixN_in hin).1
  simp only [sSetIx, hm sl [] [] st r, aS_ok, mVar, h1, hj sl [] [] st r, hb, dataOf, List.length_map, hx]
  have e2 : (xs.map (enc : α → PyData)).set (ixAt xs.length j) (enc e) = (setIx xs j e).map enc := by simp [setIx, List.map_set]
  rw [e2]; exact r'
/-! ### comprehensions whose elements change things -/
/-- no error leaves it -/
def noXO {ξ' : Type} (t : Out ξ σ) : Out ξ' σ :=
  match t with
  | .ok s => .ok s
  | _ => .stuck
def compT {α β : Type} (f : α → δ → Out ξ (β × δ)) : List α → δ → Out ξ (List β × δ)
  | [], d => .ok ([], d)
  | x :: xs, d => (f x d).bind fun p => (compT f xs p.2).bind fun q => .ok (p.1 :: q.1, q.2)
/-- .. with a condition -/
def compC {α β : Type} (f : α → δ → Out ξ (Option β × δ)) : List α → δ → Out ξ (List β × δ)
  | [], d => .ok ([], d)
  | x :: xs, d => (f x d).bind fun p => (compC f xs p.2).bind fun q => .ok ((match p.1 with | some y => y :: q.1 | none => q.1), q.2)
theorem wipeS_len : ∀ (own : List Nat) (sl : Slots), (wipeS sl own).length = sl.length
  | [], sl => rfl
  | i :: is, sl => by simp [wipeS, wipeS_len is sl]
theorem wipeS_out : ∀ (own : List Nat) (sl : Slots) (j : Nat), j ∉ own → (wipeS sl own)[j]? = sl[j]?
  | [], sl, j, _ => rfl
  | i :: is, sl, j, h => by
    simp only [List.mem_cons, not_or] at h
    simp only [wipeS]
    rw [List.getElem?_set_ne (fun q => h.1 q.symm), wipeS_out is sl j h.2]
theorem wipeE_in : ∀ (own : List Nat) (env : Env) (j : Nat), j ∈ own → j < env.length → (wipeE env own)[j]? = some .junk
  | i :: is, env, j, h, hj => by
    have hl : ∀ is : List Nat, (wipeE env is).length = env.length := fun is => by
      induction is with
      | nil => rfl
      | cons i is ih => simp [wipeE, ih]
    simp only [wipeE]
    by_cases e : i = j
    · subst e; rw [List.getElem?_set_self (by rw [hl]; exact hj)]
    · rw [List.getElem?_set_ne e]
      rcases List.mem_cons.mp h with q | q
      · exact absurd q.symm e
      · exact wipeE_in is env j q hj
theorem Rl.swap {sl2 : Slots} (r : Rl B env ext sl exs st) {own : List Nat} (hj : ∀ j, j ∈ own → j < env.length → env[j]? = some .junk) (hl : sl2.length = sl.length) (hs : ∀ j, j ∉ own → sl2[j]? = sl[j]?) : Rl B env ext sl2 exs st := by
  obtain ⟨F, hF⟩ := r.ex
  refine ⟨hl.trans r.len, F, ?_⟩
  exact {
    len := by have := hF.len; simp at this ⊢; omega
    le := hF.le
    hold := fun i it hi => by
      rcases Nat.lt_or_ge i env.length with q | q
      · by_cases ho : i ∈ own
        · have := hj i ho q
          rw [List.getElem?_append_left q, this] at hi
          cases hi
          exact hF.hold i .junk (by rw [List.getElem?_append_left q]; exact this)
        · refine (hF.hold i it hi).keep rfl ?_ fun _ _ => rfl
          rw [List.getElem?_append_left (by rw [hl, r.len]; exact q), List.getElem?_append_left (by rw [r.len]; exact q)]
          exact hs i ho
      · refine (hF.hold i it hi).keep rfl ?_ fun _ _ => rfl
        rw [List.getElem?_append_right (by rw [hl, r.len]; exact q), List.getElem?_append_right (by rw [r.len]; exact q), hl]
    off := hF.off
    dis := hF.dis
    nd := hF.nd
    inM := hF.inM
    fr := hF.fr
    wf := hF.wf
    gw := hF.gw }
theorem compT_ok {α β ξ2 : Type} [Enc α] [Enc β] {envx2 : ξ2 → Env} {tg : Tg} {e : TL.EM} {own : List Nat} {f : α → δ → Out ξ2 (β × δ)} (envd : δ → Env) (envp : δ → α → Env) (envq : δ → α → Env)
    (hown : ∀ d, wipeE (envd d) own = envd d) (hp : ∀ d y, putE tg (enc y) (envd d) = some (envp d y)) (hix : ∀ i ∈ tg.ix, i ∈ own) (hq : ∀ d y, wk (envq d y) (envd d)) {sl : Slots} :
    ∀ (ys : List α) (d : δ) (st : Store), (∀ d, ∀ y ∈ ys, XE B envx2 (envp d y) e (f y d) (fun p => envq p.2 y) (fun p => enc p.1)) → Rl B (envd d) ext sl exs st →
      Sat (fun _ _ => False) (fun (p : List β × δ) (vs : List PyData) st' => vs = p.1.map enc ∧ Rl B (envd p.2) ext sl exs st') (noXO (compT f ys d) : Out Empty _) (noX (compL tg TL.tYes e sl (ys.map enc) st))
  | [], d, st, _, r => ⟨rfl, r⟩
  | y :: ys, d, st, he, r => by
    obtain ⟨sl1, h1, r1⟩ := put_ok tg r (hp d y)
    have h2 := he d y (by simp) sl1 ext exs st r1
    simp only [compT, List.map_cons, compL, h1, TL.tYes, R.bind_ok, cond_true]
    revert h2
    cases f y d with
    | stuck => intro _; trivial
    | exn _ _ => intro _; trivial
    | ok p => cases e sl1 st with
      | exn _ _ => exact fun q => q.elim
      | stuck => exact fun q => q.elim
      | ok v st1 =>
        rintro ⟨rfl, r2⟩
        obtain ⟨hk1, hk2⟩ := put_keeps tg _ _ _ h1
        have r3 : Rl B (envd p.2) ext sl exs st1 := (r2.weak (hq p.2 y)).swap (own := own) (fun j hj hlt => by
          have := wipeE_in own (envd p.2) j hj hlt
          rw [hown] at this; exact this) hk1.symm (fun j hj => (hk2 j fun z => hj (hix j z)).symm)
        have ih := compT_ok envd envp envq hown hp hix hq ys p.2 st1 (fun d z hz => he d z (by simp [hz])) r3
        simp only [R.bind_ok, Out.bind_ok]
        revert ih
        cases compT f ys p.2 with
        | stuck => intro _; trivial
        | exn _ _ => intro _; trivial
        | ok q => cases compL tg TL.tYes e sl (ys.map enc) st1 with
          | exn _ _ => exact fun q => q.elim
          | stuck => exact fun q => q.elim
          | ok vs st2 => rintro ⟨rfl, r4⟩; exact ⟨rfl, r4⟩
theorem compT_len {α β : Type} {f : α → δ → Out ξ (β × δ)} : ∀ {ys : List α} {d : δ} {p : List β × δ}, compT f ys d = .ok p → p.1.length = ys.length
  | [], d, p, h => by cases h; rfl
  | y :: ys, d, p, h => by
    simp only [compT] at h
    cases e : f y d with
    | stuck => rw [e] at h; cases h
    | exn _ _ => rw [e] at h; cases h
    | ok q =>
      rw [e] at h
      simp only [Out.bind_ok] at h
      cases e2 : compT f ys q.2 with
      | stuck => rw [e2] at h; cases h
      | exn _ _ => rw [e2] at h; cases h
      | ok q2 =>
        rw [e2] at h
        cases h
        simp [compT_len e2]
/-- [e for y in it], its elements rolling dice -/
theorem XE_comp {α β ξ2 : Type} [Enc α] [Enc β] {envx2 : ξ2 → Env} {own : List Nat} {tg : Tg} {it : IM} {e : TL.EM} {o : Out ξ τ} {enva : τ → Env} {ys : τ → List α} {d0 : τ → δ} {f : α → δ → Out ξ2 (β × δ)} (envd : δ → Env) (envp : δ → α → Env) (envq : δ → α → Env)
    (hi : XI B envx env it o enva (fun t => (ys t).map enc)) (h0 : ∀ t, wk (enva t) (envd (d0 t))) (hown : ∀ d, wipeE (envd d) own = envd d) (hp : ∀ d y, putE tg (enc y) (envd d) = some (envp d y)) (hix : ∀ i ∈ tg.ix, i ∈ own)
    (he : ∀ t d, ∀ y ∈ ys t, XE B envx2 (envp d y) e (f y d) (fun p => envq p.2 y) (fun p => enc p.1)) (hq : ∀ d y, wk (envq d y) (envd d)) :
    XE B envx env (mComp own tg it TL.tYes e) (o.bind fun t => grd ((ys t).length ≤ lineN) (noXO (compT f (ys t) (d0 t)))) (fun p => envd p.2) (fun p => enc p.1) := fun sl ext exs st r => by
  refine Sat.bind (hi sl ext exs st r) fun t xs st1 ⟨h1, rr⟩ => ?_
  subst h1
  unfold grd
  split
  · rename_i hl
    have r2 := rr.weak (h0 t)
    have rw2 : Rl B (envd (d0 t)) ext (wipeS sl own) exs st1 := r2.swap (own := own) (fun j hj hlt => by
      have := wipeE_in own (envd (d0 t)) j hj hlt
      rw [hown] at this; exact this) (wipeS_len own sl) (fun j hj => wipeS_out own sl j hj)
    have h3 := compT_ok (ext := ext) (exs := exs) envd envp envq hown hp hix hq (ys t) (d0 t) st1 (he t) rw2
    unfold compR
    revert h3
    cases hc : compT f (ys t) (d0 t) with
    | stuck => intro _; trivial
    | exn _ _ => intro _; trivial
    | ok p => cases noX (compL tg TL.tYes e (wipeS sl own) ((ys t).map enc) st1) with
      | exn _ _ => exact fun q => q.elim
      | stuck => exact fun q => q.elim
      | ok vs st2 =>
        rintro ⟨rfl, r4⟩
        have hlen : (p.1.map (enc : β → PyData)).length ≤ lineN := by rw [List.length_map, compT_len hc]; exact hl
        simp only [R.bind_ok, pLst, if_pos hlen, Option.map, R.opt_some]
        refine ⟨rfl, r4.swap (own := own) (fun j hj hlt => by
          have := wipeE_in own (envd p.2) j hj hlt
          rw [hown] at this; exact this) (wipeS_len own sl).symm (fun j hj => (wipeS_out own sl j hj).symm)⟩
  · trivial
end
end TY
end

section
set_option Elab.async false
set_option linter.all false
set_option maxRecDepth 100000
set_option maxHeartbeats 1000000
set_option autoImplicit false
/-! TY10: operations on typed values. -/
namespace TY
open PySem L2 TL
open Enc (enc)
theorem o_mul {i j : Int} (h : (wideI i || wideI j) = true) : oMul (.int i) (.int j) = some (.int (i * j)) := by simp only [oMul, if_pos h]
theorem o_div {i j : Int} (h : 0 < j ∧ j < 1073741824) : oDiv (.int i) (.int j) = some (.int (i / j)) := by simp only [oDiv, if_pos h]
theorem o_mod {i j : Int} (h : 0 < j) : oMod (.int i) (.int j) = some (.int (i % j)) := by simp only [oMod, if_pos h]
section
variable {α β : Type} [Enc α] [Enc β]
theorem o_addL {xs ys : List α} (h : xs.length + ys.length ≤ lineN) : oAdd (.list (xs.map enc)) (.list (ys.map enc)) = some (.list ((xs ++ ys).map (enc : α → PyData))) := by
  simp only [oAdd, List.length_map, if_pos h, List.map_append]
theorem o_addT {xs ys : List α} (h : xs.length + ys.length ≤ lineN ∧ xs ≠ []) : oAdd (.tuple (xs.map enc)) (.tuple (ys.map enc)) = some (.tuple ((xs ++ ys).map (enc : α → PyData))) := by
  have h2 : xs.map (enc : α → PyData) ≠ [] := by simp [h.2]
  simp only [oAdd, List.length_map, List.map_append]
  rw [if_pos ⟨h.1, h2⟩]
theorem o_addS {a b : Str} (h : a.length + b.length ≤ lineN) : oAdd (.str a) (.str b) = some (.str (a ++ b)) := by simp only [oAdd, if_pos h]
theorem o_lenL {xs : List α} : oLen [.list (xs.map (enc : α → PyData))] = some (.int xs.length) := by simp [oLen]
theorem o_lenT {xs : List α} : oLen [.tuple (xs.map (enc : α → PyData))] = some (.int xs.length) := by simp [oLen]
theorem o_lenS {a : Str} (h : a.length ≤ lineN) : oLen [.str a] = some (.int a.length) := by simp only [oLen, if_pos h]
def pyIx [Inhabited α] (xs : List α) (i : Int) : α := xs.getD (ixAt xs.length i) default
theorem atI_ok [Inhabited α] {xs : List α} {i : Int} (h : inIx xs.length i) : L2.atI (xs.map (enc : α → PyData)) i = some (enc (pyIx xs i)) := by
  obtain ⟨h1, h2⟩ := ixN_in h
  simp only [L2.atI, List.length_map, h1, Option.bind, List.getElem?_map, pyIx, List.getD_eq_getElem?_getD, List.getElem?_eq_getElem h2, Option.map, Option.getD]
theorem o_ixL [Inhabited α] {xs : List α} {i : Int} (h : inIx xs.length i) : oIx (.list (xs.map (enc : α → PyData))) (.int i) = some (enc (pyIx xs i)) := atI_ok h
theorem o_ixT [Inhabited α] {xs : List α} {i : Int} (h : inIx xs.length i) : oIx (.tuple (xs.map (enc : α → PyData))) (.int i) = some (enc (pyIx xs i)) := atI_ok h
/-- the signs of a text -/
def chars (s : Str) : List Str := s.cps.toList.map fun c => ⟨#[c]⟩
instance : Inhabited Str := ⟨⟨#[]⟩⟩
theorem o_ixS {s : Str} {i : Int} (h : inIx s.length i ∧ s.length ≤ lineN) : oIx (.str s) (.int i) = some (.str (pyIx (chars s) i)) := by
  have hl : s.cps.toList.length = s.length := by simp [Str.length]
  obtain ⟨h1, h2⟩ := ixN_in h.1
  have h3 : ixAt s.length i < s.cps.toList.length := by rw [hl]; exact h2
  have h4 : (chars s).length = s.length := by simp [chars, hl]
  have e : L2.atI s.cps.toList i = some (s.cps.toList[ixAt s.length i]) := by
    unfold L2.atI
    rw [hl, h1]
    exact List.getElem?_eq_getElem h3
  simp only [oIx, if_pos h.2, e, Option.map, pyIx, h4, List.getD_eq_getElem?_getD]
  simp [chars, List.getElem?_map, List.getElem?_eq_getElem h3]
theorem ints_enc (ns : List Int) : intsOf (ns.map (enc : Int → PyData)) = some ns := by
  induction ns with
  | nil => rfl
  | cons n ns ih =>
    show (intsOf (PyData.int n :: ns.map enc)) = _
    simp only [intsOf, ih]; rfl
theorem o_sum {ns : List Int} : oSum [.list (ns.map (enc : Int → PyData))] = some (.int ns.sum) := by simp only [oSum, ints_enc, Option.map]
theorem mx2 (a b : Int) : maxI a [b] = max a b := by simp only [maxI, List.foldl]; split <;> omega
theorem mn2 (a b : Int) : minI a [b] = min a b := by simp only [minI, List.foldl]; split <;> omega
theorem mx3 (a b c : Int) : maxI a [b, c] = max (max a b) c := by simp only [maxI, List.foldl]; (repeat' split) <;> omega
theorem mn3 (a b c : Int) : minI a [b, c] = min (min a b) c := by simp only [minI, List.foldl]; (repeat' split) <;> omega
theorem o_max2 {a b : Int} : oMax [.int a, .int b] = some (.int (max a b)) := by simp only [oMax, mx2]
theorem o_min2 {a b : Int} : oMin [.int a, .int b] = some (.int (min a b)) := by simp only [oMin, mn2]
theorem o_max3 {a b c : Int} : oMax [.int a, .int b, .int c] = some (.int (max (max a b) c)) := by simp only [oMax, mx3]
theorem o_min3 {a b c : Int} : oMin [.int a, .int b, .int c] = some (.int (min (min a b) c)) := by simp only [oMin, mn3]
def minD (ns : List Int) (d : Int) : Int := match ns with | [] => d | n :: r => r.foldl min n
def maxD (ns : List Int) (d : Int) : Int := match ns with | [] => d | n :: r => r.foldl max n
theorem minI_fold : ∀ (ns : List Int) (n : Int), minI n ns = ns.foldl min n
  | [], n => rfl
  | m :: ns, n => by
    have : minI n (m :: ns) = minI (if m < n then m else n) ns := rfl
    rw [this, minI_fold ns, List.foldl_cons]
    congr 1
    split <;> omega
theorem maxI_fold : ∀ (ns : List Int) (n : Int), maxI n ns = ns.foldl max n
  | [], n => rfl
  | m :: ns, n => by
    have : maxI n (m :: ns) = maxI (if n < m then m else n) ns := rfl
    rw [this, maxI_fold ns, List.foldl_cons]
    congr 1
    split <;> omega
theorem o_minL {ns : List Int} (h : ns ≠ []) : oMin [.list (ns.map (enc : Int → PyData))] = some (.int (minD ns 0)) := by
  cases ns with
  | nil => exact absurd rfl h
  | cons n ns =>
    have := ints_enc (n :: ns)
    simp only [oMin, this, minD, minI_fold]
theorem o_maxL {ns : List Int} (h : ns ≠ []) : oMax [.list (ns.map (enc : Int → PyData))] = some (.int (maxD ns 0)) := by
  cases ns with
  | nil => exact absurd rfl h
  | cons n ns =>
    have := ints_enc (n :: ns)
    simp only [oMax, this, maxD, maxI_fold]
theorem o_minD {ns : List Int} {d : Int} (h : ns.length ≤ lineN) : oMinD ([.list (ns.map (enc : Int → PyData))] ++ [.int d]) = some (.int (minD ns d)) := by
  cases ns with
  | nil => rfl
  | cons n ns =>
    have := ints_enc (n :: ns)
    show oMinD [.list ((n :: ns).map enc), .int d] = _
    simp only [oMinD, List.map_cons]
    simp only [List.map_cons] at this
    simp only [this, if_pos h, minD, minI_fold]
theorem o_maxD {ns : List Int} {d : Int} (h : ns.length ≤ lineN) : oMaxD ([.list (ns.map (enc : Int → PyData))] ++ [.int d]) = some (.int (maxD ns d)) := by
  cases ns with
  | nil => rfl
  | cons n ns =>
    have := ints_enc (n :: ns)
    show oMaxD [.list ((n :: ns).map enc), .int d] = _
    simp only [oMaxD, List.map_cons]
    simp only [List.map_cons] at this
    simp only [this, if_pos h, maxD, maxI_fold]
/-! ### ranges -/
def rng (n : Int) : List Int := (List.range n.toNat).map fun (k : Nat) => (k : Int)
def rng2 (i j : Int) : List Int := (List.range (j - i).toNat).map fun (k : Nat) => i + (k : Int)
def rng3 (i j k : Int) : List Int := (List.range (Builtin.Range.rangeSize i j k).toNat).map fun (q : Nat) => i + (q : Int) * k
theorem rangeN_rng (n : Int) : rangeN 0 1 n.toNat = (rng n).map (enc : Int → PyData) := by
  unfold rangeN rng; rw [List.map_map]; apply List.map_congr_left; intro k _; show PyData.int _ = PyData.int (k : Int); congr 1; omega
theorem rangeN_rng2 (i j : Int) : rangeN i 1 (j - i).toNat = (rng2 i j).map (enc : Int → PyData) := by
  unfold rangeN rng2; rw [List.map_map]; apply List.map_congr_left; intro k _; show PyData.int _ = PyData.int (i + (k : Int)); congr 1; omega
theorem rangeN_rng3 (i j k : Int) : rangeN i k (Builtin.Range.rangeSize i j k).toNat = (rng3 i j k).map (enc : Int → PyData) := by
  unfold rangeN rng3; rw [List.map_map]; rfl
def small (i : Int) : Prop := -(2 ^ 62) ≤ i ∧ i < 2 ^ 62
@[irreducible] def decSmall (i : Int) : Decidable (small i) := inferInstanceAs (Decidable (_ ∧ _))
instance (i : Int) : Decidable (small i) := decSmall i
theorem smallI_of {i : Int} (h : small i) : smallI i = true := by unfold smallI; rw [Bool.and_eq_true]; exact ⟨decide_eq_true h.1, decide_eq_true h.2⟩
theorem p_range1 {n : Int} (h : small n) : pRange1 [.int n] = some ((rng n).map (enc : Int → PyData)) := by simp only [pRange1, smallI_of h, if_true, rangeN_rng]
theorem p_range2 {i j : Int} (h : small i ∧ small j) : pRange2 [.int i, .int j] = some ((rng2 i j).map (enc : Int → PyData)) := by simp only [pRange2, smallI_of h.1, smallI_of h.2, Bool.and_self, if_true, rangeN_rng2]
def ok3 (i j k : Int) : Prop := k ≠ 0 ∧ k.natAbs < 1073741824 ∧ Builtin.Range.small i j k = true
@[irreducible] def decOk3 (i j k : Int) : Decidable (ok3 i j k) := inferInstanceAs (Decidable (_ ∧ _ ∧ _))
instance (i j k : Int) : Decidable (ok3 i j k) := decOk3 i j k
theorem p_range3 {i j k : Int} (h : ok3 i j k) : pRange3 [.int i, .int j, .int k] = some ((rng3 i j k).map (enc : Int → PyData)) := by
  have h' : k ≠ 0 ∧ k.natAbs < 1073741824 ∧ Builtin.Range.small i j k = true := h
  simp only [pRange3, if_pos h', rangeN_rng3]
theorem o_lrg1 {n : Int} (h : small n ∧ n.toNat ≤ lineN) : oLRg [.int n] = some (enc (rng n)) := by
  have : (smallI n && decide (n.toNat ≤ lineN)) = true := by rw [smallI_of h.1]; simp [h.2]
  simp only [oLRg, pRg, if_pos this, Option.map, rangeN_rng]; rfl
theorem o_lrg2 {i j : Int} (h : small i ∧ small j ∧ (j - i).toNat ≤ lineN) : oLRg [.int i, .int j] = some (enc (rng2 i j)) := by
  have : (smallI i && smallI j && decide ((j - i).toNat ≤ lineN)) = true := by rw [smallI_of h.1, smallI_of h.2.1]; simp [h.2.2]
  simp only [oLRg, pRg, if_pos this, Option.map, rangeN_rng2]; rfl
theorem o_lrg3 {i j k : Int} (h : ok3 i j k ∧ (Builtin.Range.rangeSize i j k).toNat ≤ lineN) : oLRg [.int i, .int j, .int k] = some (enc (rng3 i j k)) := by
  have : k ≠ 0 ∧ k.natAbs < 1073741824 ∧ Builtin.Range.small i j k = true ∧ (Builtin.Range.rangeSize i j k).toNat ≤ lineN := ⟨h.1.1, h.1.2.1, h.1.2.2, h.2⟩
  simp only [oLRg, pRg, if_pos this, Option.map, rangeN_rng3]; rfl
theorem o_trg1 {n : Int} (h : small n ∧ n.toNat ≤ lineN) : oTRg [.int n] = some (enc (Tup.mk (rng n))) := by
  have : (smallI n && decide (n.toNat ≤ lineN)) = true := by rw [smallI_of h.1]; simp [h.2]
  simp only [oTRg, pRg, if_pos this, Option.map, rangeN_rng]; rfl
theorem o_trg2 {i j : Int} (h : small i ∧ small j ∧ (j - i).toNat ≤ lineN) : oTRg [.int i, .int j] = some (enc (Tup.mk (rng2 i j))) := by
  have : (smallI i && smallI j && decide ((j - i).toNat ≤ lineN)) = true := by rw [smallI_of h.1, smallI_of h.2.1]; simp [h.2.2]
  simp only [oTRg, pRg, if_pos this, Option.map, rangeN_rng2]; rfl
/-! ### pairs -/
def enumT : Nat → List α → List (Int × α)
  | _, [] => []
  | k, x :: xs => ((k : Int), x) :: enumT (k + 1) xs
theorem enumL_enc : ∀ (xs : List α) (k : Nat), enumL k (xs.map enc) = (enumT k xs).map (enc : Int × α → PyData)
  | [], _ => rfl
  | x :: xs, k => by simp only [List.map_cons, enumL, enumT, enumL_enc xs (k + 1)]; rfl
theorem p_enum {xs : List α} : pEnum [.list (xs.map enc)] = some ((enumT 0 xs).map (enc : Int × α → PyData)) := by simp only [pEnum, enumL_enc]
theorem zipL_enc : ∀ (xs : List α) (ys : List β), zipL (xs.map enc) (ys.map enc) = (xs.zip ys).map (enc : α × β → PyData)
  | [], _ => rfl
  | _ :: _, [] => rfl
  | x :: xs, y :: ys => by simp only [List.map_cons, zipL, List.zip_cons_cons, zipL_enc xs ys]; rfl
theorem p_zip {xs : List α} {ys : List β} : pZip [.list (xs.map enc), .list (ys.map enc)] = some ((xs.zip ys).map (enc : α × β → PyData)) := by simp only [pZip, zipL_enc]
def b2i (b : Bool) : Int := if b = true then 1 else 0
theorem o_intB {b : Bool} : oInt [.bool b] = some (.int (b2i b)) := by simp only [oInt, b2i]
theorem o_abs {i : Int} : oAbs [.int i] = some (.int (i.natAbs : Int)) := by simp only [oAbs]; congr 2; split <;> omega
theorem o_cutL {xs : List α} {l h : Option Int} : oSl (.list (xs.map enc)) l h = some (.list ((cutL xs l h).map (enc : α → PyData))) := by simp [oSl, cutL]
theorem o_cutT {xs : List α} {l h : Option Int} : oSl (.tuple (xs.map enc)) l h = some (.tuple ((cutL xs l h).map (enc : α → PyData))) := by simp [oSl, cutL]
theorem o_cutS {s : Str} {l h : Option Int} (hl : s.length ≤ lineN) : oSl (.str s) l h = some (.str (Txt.slice s l h)) := by simp only [oSl, if_pos hl]
end
/-! ### equality -/
class EqT (α : Type) [Enc α] [DecidableEq α] where
  dp : Nat
  dep : ∀ a : α, (enc a).depth ≤ dp
  eqv : ∀ a b : α, PyData.eqv (enc a) (enc b) = decide (a = b)
/-- no text in it -/
class LayT (α : Type) [Enc α] where
  lay : ∀ a : α, (enc a).canLay0 = true
def layP {α : Type} [Enc α] (a : α) : Prop := (enc a).canLay0 = true
instance {α : Type} [Enc α] (a : α) : Decidable (layP a) := inferInstanceAs (Decidable (_ = true))
theorem shp {α : Type} [Enc α] [DecidableEq α] [EqT α] (a : α) (h : EqT.dp α ≤ 64) (hl : layP a) : SeqAt.shaped (enc a) = true := by
  unfold SeqAt.shaped
  rw [Bool.and_eq_true]
  exact ⟨hl, decide_eq_true (Nat.le_trans (EqT.dep a) h)⟩
theorem o_eq {α : Type} [Enc α] [DecidableEq α] [EqT α] {a b : α} (hl : layP a ∧ layP b) (h : EqT.dp α ≤ 64 := by decide) : oEq (enc a) (enc b) = some (.bool (decide (a = b))) := by
  have h1 := shp a h hl.1
  have h2 := shp b h hl.2
  have h3 := EqT.eqv a b
  rw [← h3]
  unfold oEq
  split
  · rename_i i j e1 e2; rw [e1, e2]; rfl
  · rename_i i j e1 e2; rw [e1, e2]; rfl
  · rw [if_pos (by rw [h1, h2]; rfl)]
theorem o_ne {α : Type} [Enc α] [DecidableEq α] [EqT α] {a b : α} (hl : layP a ∧ layP b) (h : EqT.dp α ≤ 64 := by decide) : oNe (enc a) (enc b) = some (.bool (!decide (a = b))) := by
  have h1 := shp a h hl.1
  have h2 := shp b h hl.2
  have h3 := EqT.eqv a b
  rw [← h3]
  unfold oNe
  split
  · rename_i i j e1 e2; rw [e1, e2]; rfl
  · rename_i i j e1 e2; rw [e1, e2]; rfl
  · rw [if_pos (by rw [h1, h2]; rfl)]

theorem str_eq {a b : Str} : (a == b) = decide (a = b) := by
  by_cases h : a = b
  · simp [h]
  · simp [h]
instance : EqT Int where
  dp := 0
  dep := fun a => by simp [enc, PyData.depth]
  eqv := fun a b => by simp only [enc, PyData.eqv]; by_cases h : a = b <;> simp [h]
instance : EqT Bool where
  dp := 0
  dep := fun a => by simp [enc, PyData.depth]
  eqv := fun a b => by simp only [enc, PyData.eqv]; cases a <;> cases b <;> rfl
instance : EqT Str where
  dp := 0
  dep := fun a => by simp [enc, PyData.depth]
  eqv := fun a b => by simp only [enc, PyData.eqv]; exact str_eq
theorem depAll {α : Type} [Enc α] [DecidableEq α] [EqT α] : ∀ xs : List α, PyData.depthAll (xs.map enc) ≤ EqT.dp α
  | [] => by simp [PyData.depthAll]
  | x :: xs => by
    have := EqT.dep x
    have := depAll xs
    simp only [List.map_cons, PyData.depthAll]; omega
theorem eqvAll {α : Type} [Enc α] [DecidableEq α] [EqT α] : ∀ xs ys : List α, PyData.eqvAll (xs.map enc) (ys.map enc) = decide (xs = ys)
  | [], [] => by simp [PyData.eqvAll]
  | [], _ :: _ => by simp [PyData.eqvAll]
  | _ :: _, [] => by simp [PyData.eqvAll]
  | x :: xs, y :: ys => by simp [PyData.eqvAll, EqT.eqv, eqvAll xs ys]
instance {α : Type} [Enc α] [DecidableEq α] [EqT α] : EqT (List α) where
  dp := EqT.dp α + 1
  dep := fun a => by have := depAll a; simp only [enc, PyData.depth]; omega
  eqv := fun a b => by simp only [enc, PyData.eqv]; exact eqvAll a b
instance {α : Type} [Enc α] [DecidableEq α] [EqT α] : EqT (Tup α) where
  dp := EqT.dp α + 1
  dep := fun a => by have := depAll a.l; simp only [enc, PyData.depth]; omega
  eqv := fun a b => by
    cases a; cases b
    simp only [enc, PyData.eqv, Tup.mk.injEq]; exact eqvAll _ _
instance {α β : Type} [Enc α] [DecidableEq α] [EqT α] [Enc β] [DecidableEq β] [EqT β] : EqT (α × β) where
  dp := max (EqT.dp α) (EqT.dp β) + 1
  dep := fun a => by
    have h1 := EqT.dep a.1
    have h2 := EqT.dep a.2
    simp only [enc, PyData.depth, PyData.depthAll] at *; omega
  eqv := fun a b => by
    obtain ⟨a1, a2⟩ := a
    obtain ⟨b1, b2⟩ := b
    simp [enc, PyData.eqv, PyData.eqvAll, EqT.eqv]
instance {α : Type} [Enc α] [DecidableEq α] [EqT α] : EqT (T1 α) where
  dp := EqT.dp α + 1
  dep := fun a => by
    have h1 := EqT.dep a.a
    simp only [enc, PyData.depth, PyData.depthAll] at *; omega
  eqv := fun a b => by
    obtain ⟨a1⟩ := a
    obtain ⟨b1⟩ := b
    simp [enc, PyData.eqv, PyData.eqvAll, EqT.eqv]
instance {α β γ : Type} [Enc α] [DecidableEq α] [EqT α] [Enc β] [DecidableEq β] [EqT β] [Enc γ] [DecidableEq γ] [EqT γ] : EqT (T3 α β γ) where
  dp := max (max (EqT.dp α) (EqT.dp β)) (EqT.dp γ) + 1
  dep := fun a => by
    have h1 := EqT.dep a.a
    have h2 := EqT.dep a.b
    have h3 := EqT.dep a.c
    simp only [enc, PyData.depth, PyData.depthAll] at *; omega
  eqv := fun a b => by
    obtain ⟨a1, a2, a3⟩ := a
    obtain ⟨b1, b2, b3⟩ := b
    simp [enc, PyData.eqv, PyData.eqvAll, EqT.eqv]
instance {α β γ δ : Type} [Enc α] [DecidableEq α] [EqT α] [Enc β] [DecidableEq β] [EqT β] [Enc γ] [DecidableEq γ] [EqT γ] [Enc δ] [DecidableEq δ] [EqT δ] : EqT (T4 α β γ δ) where
  dp := max (max (EqT.dp α) (EqT.dp β)) (max (EqT.dp γ) (EqT.dp δ)) + 1
  dep := fun a => by
    have h1 := EqT.dep a.a
    have h2 := EqT.dep a.b
    have h3 := EqT.dep a.c
    have h4 := EqT.dep a.d
    simp only [enc, PyData.depth, PyData.depthAll] at *; omega
  eqv := fun a b => by
    obtain ⟨a1, a2, a3, a4⟩ := a
    obtain ⟨b1, b2, b3, b4⟩ := b
    simp [enc, PyData.eqv, PyData.eqvAll, EqT.eqv]
theorem canAll {α : Type} [Enc α] [LayT α] : ∀ xs : List α, PyData.canLayAll0 (xs.map enc) = true
  | [] => rfl
  | x :: xs => by simp [PyData.canLayAll0, LayT.lay x, canAll xs]
instance : LayT Int := ⟨fun a => by simp [enc, PyData.canLay0]⟩
instance : LayT Bool := ⟨fun a => by simp [enc, PyData.canLay0]⟩
instance {α : Type} [Enc α] [LayT α] : LayT (List α) := ⟨fun a => by simp only [enc, PyData.canLay0]; exact canAll a⟩
instance {α : Type} [Enc α] [LayT α] : LayT (Tup α) := ⟨fun a => by simp only [enc, PyData.canLay0]; exact canAll a.l⟩
instance {α : Type} [Enc α] [LayT α] : LayT (T1 α) := ⟨fun a => by simp [enc, PyData.canLay0, PyData.canLayAll0, LayT.lay]⟩
instance {α β : Type} [Enc α] [LayT α] [Enc β] [LayT β] : LayT (α × β) := ⟨fun a => by simp [enc, PyData.canLay0, PyData.canLayAll0, LayT.lay]⟩
instance {α β γ : Type} [Enc α] [LayT α] [Enc β] [LayT β] [Enc γ] [LayT γ] : LayT (T3 α β γ) := ⟨fun a => by simp [enc, PyData.canLay0, PyData.canLayAll0, LayT.lay]⟩
instance {α β γ δ : Type} [Enc α] [LayT α] [Enc β] [LayT β] [Enc γ] [LayT γ] [Enc δ] [LayT δ] : LayT (T4 α β γ δ) := ⟨fun a => by simp [enc, PyData.canLay0, PyData.canLayAll0, LayT.lay]⟩
theorem lay2 {α : Type} [Enc α] [LayT α] {a b : α} : layP a ∧ layP b := ⟨LayT.lay a, LayT.lay b⟩
/-- on data -/
def shpD (x y : PyData) : Prop := (SeqAt.shaped x && SeqAt.shaped y) = true
instance (x y : PyData) : Decidable (shpD x y) := inferInstanceAs (Decidable (_ = true))
theorem o_eqD {x y : PyData} (h : shpD x y) : oEq x y = some (.bool (PyData.eqv x y)) := by
  have h : (SeqAt.shaped x && SeqAt.shaped y) = true := h
  unfold oEq
  split
  · rfl
  · rfl
  · rw [if_pos h]
theorem o_neD {x y : PyData} (h : shpD x y) : oNe x y = some (.bool (!PyData.eqv x y)) := by
  have h : (SeqAt.shaped x && SeqAt.shaped y) = true := h
  unfold oNe
  split
  · rfl
  · rfl
  · rw [if_pos h]
end TY
end

section
set_option Elab.async false
set_option linter.all false
set_option maxRecDepth 100000
set_option maxHeartbeats 2000000
set_option autoImplicit false
/-! TY11: the dice. -/
namespace TY
open PySem L2 TL
open Enc (enc)
def rollM : SM := sSeq (sIf (tOr (tOfE (mP2 oEq (mP2 oIx (mVar 0) (mC (.int 2))) (mC (.int 2)))) (tAnd (tOfE (mP2 oEq (mP2 oIx (mVar 0) (mC (.int 2))) (mC (.int 1)))) (tOfE (mP2 oGt (mP2 oIx (mVar 0) (mC (.int 0))) (mC (.int 0)))))) (sSeq (sSet 2 (mP2 oMod (mPn oInt (aCons (mP2 oIx (mVar 0) (mC (.int 0))) (aNil))) (mVar 1))) (sSeq (sSetIx (mP2 oDiv (mP2 oIx (mVar 0) (mC (.int 0))) (mVar 1)) (mVar 0) (mC (.int 0))) (sRet (mVar 2)))) (sNil)) (sSeq (sSetIx (mC (.int 0)) (mVar 0) (mC (.int 2))) (sSeq (sSetIx (mP2 oMod (mPn oInt (aCons (mP2 oAdd (mP2 oAdd (mP2 oMul (mP2 oIx (mVar 0) (mC (.int 0))) (mC (.int 48271))) (mP2 oMul (mP2 oIx (mVar 0) (mC (.int 1))) (mC (.int 69621)))) (mC (.int 11))) (aNil))) (mC (.int 2147483647))) (mVar 0) (mC (.int 0))) (sSeq (sSetIx (mP2 oAdd (mP2 oIx (mVar 0) (mC (.int 1))) (mC (.int 1))) (mVar 0) (mC (.int 1))) (sRet (mP2 oMod (mPn oInt (aCons (mP2 oAdd (mP2 oDiv (mP2 oIx (mVar 0) (mC (.int 0))) (mC (.int 7))) (mP2 oIx (mVar 0) (mC (.int 0)))) (aNil))) (mVar 1))))))
def rollF : FM := fnOf 3 rollM
abbrev Dice := Int × Int × Int
@[reducible] def dv (d : Dice) : VC := .lst [.int d.1, .int d.2.1, .int d.2.2]
def rollD (d : Dice) (many : Int) : Int × Dice :=
  if d.2.2 = 2 ∨ (d.2.2 = 1 ∧ 0 < d.1) then (d.1 % many, (d.1 / many, d.2.1, d.2.2))
  else
    (((d.1 * 48271 + d.2.1 * 69621 + 11) % 2147483647 / 7 + (d.1 * 48271 + d.2.1 * 69621 + 11) % 2147483647) % many,
      ((d.1 * 48271 + d.2.1 * 69621 + 11) % 2147483647, d.2.1 + 1, 0))
theorem rollD_in (d : Dice) {many : Int} (h : 0 < many) : 0 ≤ (rollD d many).1 ∧ (rollD d many).1 < many := by
  have hne : many ≠ 0 := by omega
  unfold rollD
  split
  · exact ⟨Int.emod_nonneg _ hne, Int.emod_lt_of_pos _ h⟩
  · exact ⟨Int.emod_nonneg _ hne, Int.emod_lt_of_pos _ h⟩
def rollO {ξ : Type} (d : Dice) (many : Int) : Out ξ (Int × Dice) := .ok (rollD d many)
theorem boxL_at {n : Nat} {st : Store} {xs : List PyData} (h : st[n]? = some (.lst xs)) : boxL (.box n) st = some (n, xs) := by simp [boxL, h]
theorem deref_at {n : Nat} {st : Store} {xs : List PyData} (h : st[n]? = some (.lst xs)) : deref (.box n) st = some (.list xs) := by simp [deref, h]
theorem set_at {n : Nat} {st : Store} {xs ys : List PyData} (h : st[n]? = some (.lst xs)) : (st.set n (.lst ys))[n]? = some (.lst ys) := by
  rw [List.getElem?_set_self (List.getElem?_eq_some_iff.mp h).1]
theorem left_same {k : Nat} {r : R Val} {v : Val} {st : Store} (h : r = .ok v st) (hl : st.length = k) : TL.left k r = .ok v st := by
  subst h; simp [TL.left, leave, hl]
theorem roll_eq {n : Nat} {st : Store} {d : Dice} {many : Int} (h : st[n]? = some (.lst [.int d.1, .int d.2.1, .int d.2.2])) (h1 : 0 < many) (h2 : many < 1073741824) :
    rollF [.box n, .d (.int many)] st = .ok (.d (.int (rollD d many).1)) (st.set n (.lst [.int (rollD d many).2.1, .int (rollD d many).2.2.1, .int (rollD d many).2.2.2])) := by
  obtain ⟨a, b, c⟩ := d
  simp only at h
  have e2 := fun (xs : List PyData) => set_at (ys := xs) h
  unfold rollD
  simp only
  by_cases hc : c = 2 ∨ (c = 1 ∧ 0 < a)
  · rw [if_pos hc]
    refine left_same ?_ (by simp)
    rcases hc with hc | ⟨hc, ha⟩
    · subst hc
      simp [rollM, sSeq, sIf, TL.tOr, TL.tAnd, tOfE, mP2, mVar, mC, oIx, oEq, deref_at h, boxL_at h, L2.atI, L2.ixN, aS, sSet, sSetIx, sRet, mPn, aCons, aNil, derefs, oInt, oMod, oDiv, h1, h2, dataOf, sNil]
    · subst hc
      simp [rollM, sSeq, sIf, TL.tOr, TL.tAnd, tOfE, mP2, mVar, mC, oIx, oEq, oGt, deref_at h, boxL_at h, L2.atI, L2.ixN, aS, sSet, sSetIx, sRet, mPn, aCons, aNil, derefs, oInt, oMod, oDiv, h1, h2, ha, dataOf, sNil]
  · rw [if_neg hc]
    refine left_same ?_ (by simp)
    have hc2 : ¬ c = 2 := fun z => hc (.inl z)
    by_cases hc1 : c = 1
    · have ha : ¬ 0 < a := fun z => hc (.inr ⟨hc1, z⟩)
      subst hc1
      simp [rollM, sSeq, sIf, TL.tOr, TL.tAnd, tOfE, mP2, mVar, mC, oIx, oEq, oGt, deref_at h, boxL_at h, L2.atI, L2.ixN, aS, sSet, sSetIx, sRet, mPn, aCons, aNil, derefs, oInt, oMod, oDiv, oAdd, oMul, wideI, h1, h2, ha, dataOf, sNil, e2, deref_at (e2 _), boxL_at (e2 _)]
    · simp [rollM, sSeq, sIf, TL.tOr, TL.tAnd, tOfE, mP2, mVar, mC, oIx, oEq, oGt, deref_at h, boxL_at h, L2.atI, L2.ixN, aS, sSet, sSetIx, sRet, mPn, aCons, aNil, derefs, oInt, oMod, oDiv, oAdd, oMul, wideI, h1, h2, hc1, hc2, dataOf, sNil, e2, deref_at (e2 _), boxL_at (e2 _)]
section
variable {ξ σ : Type} {B : Base} {env : Env} {envx : ξ → Env}
theorem XE_roll {i : Nat} {d : Dice} {m : TL.EM} {many : Int} (hk : wrAt env i = some (dv d)) (hm : EJ B env m (.int many)) (hg : 0 < many ∧ many < 1073741824) :
    XE B envx env (mCall rollF (aCons (mVar i) (aCons m aNil))) (rollO d many) (fun p => updC env i (dv p.2)) (fun p => .int p.1) := fun sl ext exs st r => by
  obtain ⟨a, h1, h2, r'⟩ := r.lst (ys := [.int (rollD d many).2.1, .int (rollD d many).2.2.1, .int (rollD d many).2.2.2]) hk
  simp only [mCall, aCons, aNil, mVar, h1, R.bind_ok, hm sl ext exs st r, roll_eq h2 hg.1 hg.2]
  exact ⟨rfl, r'⟩
theorem XE_rollX {i : Nat} {d : σ → Dice} {m : TL.EM} {t : Out ξ σ} {envk : σ → Env} {many : σ → Int} {d0 : Dice} (hk0 : wrAt env i = some (dv d0)) (hm : XE B envx env m t envk (fun s => .int (many s))) (hk : ∀ s, wrAt (envk s) i = some (dv (d s))) :
    XE B envx env (mCall rollF (aCons (mVar i) (aCons m aNil))) (t.bind fun s => grd (0 < many s ∧ many s < 1073741824) ((rollO (d s) (many s)).bind fun q => .ok (s, q))) (fun p => updC (envk p.1) i (dv p.2.2)) (fun p => .int p.2.1) := fun sl ext exs st r => by
  obtain ⟨a, fp, h1, _⟩ := r.box (wrAt_cell hk0)
  have e : mCall rollF (aCons (mVar i) (aCons m aNil)) sl st = (m sl st).bind fun v st1 => rollF [.box a, v] st1 := by
    simp only [mCall, aCons, aNil, mVar, h1, R.bind_ok]
    cases m sl st <;> rfl
  rw [e]
  refine Sat.bind (hm sl ext exs st r) fun s v st1 ⟨h3, h4⟩ => ?_
  subst h3
  unfold grd
  split
  · rename_i hg
    obtain ⟨a', g1, g2, r'⟩ := h4.lst (ys := [.int (rollD (d s) (many s)).2.1, .int (rollD (d s) (many s)).2.2.1, .int (rollD (d s) (many s)).2.2.2]) (hk s)
    rw [h1] at g1
    cases g1
    rw [roll_eq g2 hg.1 hg.2]
    exact ⟨rfl, r'⟩
  · trivial
def Out.isOk {ξ σ : Type} : Out ξ σ → Bool
  | .ok _ => true
  | _ => false
def Out.get {ξ σ : Type} [Inhabited σ] : Out ξ σ → σ
  | .ok s => s
  | _ => default
theorem Out.ok_get {ξ σ : Type} [Inhabited σ] {t : Out ξ σ} (h : t.isOk = true) : t = .ok t.get := by
  cases t with
  | ok s => rfl
  | exn _ _ => cases h
  | stuck => cases h
@[simp] theorem Out.isOk_ok {ξ σ : Type} (s : σ) : (Out.ok s : Out ξ σ).isOk = true := rfl
@[simp] theorem Out.get_ok {ξ σ : Type} [Inhabited σ] (s : σ) : (Out.ok s : Out ξ σ).get = s := rfl
def toldT : List (Str × Str) := [("BadSize", "size"), ("BadPipe", "pipe"), ("BadPlan", "plan"), ("NoSuch", "no such"), ("NoRoom", "no room"), ("NoWay", "no way"), ("BadDeed", "deed")]
end
end TY
end

section
set_option Elab.async false
set_option linter.all false
set_option maxRecDepth 100000
set_option maxHeartbeats 2000000
set_option autoImplicit false
/-! TY12: for what a program prints. -/
namespace TY
open PySem L2 TL
open Enc (enc)
section
variable {ξ σ τ : Type} {B : Base} {env : Env} {envx : ξ → Env}
theorem all_mem {p : Nat → Bool} {l : List Nat} (h : l.all p = true) : ∀ i ∈ l, p i = true := List.all_eq_true.mp h
def canRead (env : Env) (i : Nat) : Bool := (cellAt env i).isSome
theorem call' {f : FM} {a : AM} {t : Out τ σ} {psx : τ → List PI} {psk : σ → List PI} {val : σ → PyData} {ds : List Arg} (g : τ → ξ) (hw : B.w = false) (hf : FC f (ds.map (argP env)) t psx psk val) (ha : AC B env a ds)
    (hn : (slotsOf ds).Nodup) (hc : (slotsOf ds).all (isCell env) = true) (hsx : ∀ x, shapeB ds (psx x)) (hsk : ∀ s, shapeB ds (psk s)) (hg : ∀ x, wk (after env ds (psx x)) (envx (g x))) :
    XE B envx env (mCall f a) (t.mapx g) (fun s => after env ds (psk s)) val := (XE_call hf ha hn (all_mem hc) hsx hsk (.inl hw)).mapx g hg
theorem meth' {f : FM} {a : AM} {t : Out τ σ} {psx : τ → List PI} {psk : σ → List PI} {val : σ → PyData} {ds : List Arg} {c gn : Str} {i : Nat} {fs : List (Str × FV)} (g : τ → ξ) (hw : B.w = false) (hk : cellAt env i = some (.obj c fs)) (hg : getV fs gn = none)
    (hf : FC f ((Sum.inr i :: ds).map (argP env)) t psx psk val) (ha : AC B env a ds)
    (hn : (slotsOf (Sum.inr i :: ds)).Nodup) (hc : (slotsOf (Sum.inr i :: ds)).all (isCell env) = true) (hsx : ∀ x, shapeB (Sum.inr i :: ds) (psx x)) (hsk : ∀ s, shapeB (Sum.inr i :: ds) (psk s)) (hgx : ∀ x, wk (after env (Sum.inr i :: ds) (psx x)) (envx (g x))) :
    XE B envx env (mMeth c gn f (mVar i) a) (t.mapx g) (fun s => after env (Sum.inr i :: ds) (psk s)) val := (XE_meth hk hg hf ha hn (all_mem hc) hsx hsk hw).mapx g hgx
theorem make' {f : FM} {a : AM} {t : Out τ σ} {psx : τ → List PI} {psk : σ → List PI} {val : σ → PyData} {ds : List Arg} {c : Str} {obj : σ → VC} {psk' : σ → List PI} {psx' : τ → List PI} (g : τ → ξ) (hw : B.w = false) (hf : FC f (.b (.obj c []) :: ds.map (argP env)) t psx psk val) (ha : AC B env a ds)
    (hn : (slotsOf ds).Nodup) (hc : (slotsOf ds).all (isCell env) = true) (hsx : ∀ x, ∃ k, psx x = .b k :: psx' x ∧ shapeB ds (psx' x)) (hsk : ∀ s, psk s = .b (obj s) :: psk' s ∧ shapeB ds (psk' s)) (hv : ∀ s, val s = .none) (hgx : ∀ x, wk (after env ds (psx' x)) (envx (g x))) :
    XO B envx env (mMake c f a) (t.mapx g) (fun s => after env ds (psk' s)) (fun s => .c (obj s)) := fun sl ext exs st r => by
  have := XO_make hf ha hn (all_mem hc) hsx hsk hv hw sl ext exs st r
  revert this
  cases t with
  | stuck => intro _; trivial
  | ok s => cases mMake c f a sl st with
    | ok v st1 => exact fun q => q
    | _ => exact fun q => q.elim
  | exn c0 x => cases mMake c f a sl st with
    | exn c1 st1 => rintro ⟨h1, h2⟩; exact ⟨h1, h2.weak (hgx x)⟩
    | _ => exact fun q => q.elim
theorem callP' {f : FM} {a : AM} {t : Out τ σ} {val : σ → PyData} {ds : List Arg} (g : τ → ξ) (hf : FP f (ds.map (argR env)) t val) (ha : AC B env a ds) (hc : (slotsOf ds).all (canRead env) = true) (hg : ∀ x, wk env (envx (g x))) :
    XE B envx env (mCall f a) (t.mapx g) (fun _ => env) val := XE_callP g hf ha (all_mem hc) hg
theorem callG {f : FM} {a : AM} {t : Out τ σ} [Inhabited σ] {val : σ → PyData} {ds : List Arg} (h : t.isOk = true) (hf : FP f (ds.map (argR env)) t val) (ha : AC B env a ds) (hc : (slotsOf ds).all (canRead env) = true) :
    EJ B env (mCall f a) (val t.get) := EJ_callP hf ha (all_mem hc) (Out.ok_get h)
theorem methP' {f : FM} {a : AM} {t : Out τ σ} {val : σ → PyData} {ds : List Arg} {c gn : Str} {i : Nat} {fs : List (Str × FV)} (g : τ → ξ) (hk : cellAt env i = some (.obj c fs)) (hg : getV fs gn = none)
    (hf : FP f ((Sum.inr i :: ds).map (argR env)) t val) (ha : AC B env a ds) (hc : (slotsOf ds).all (canRead env) = true) (hgx : ∀ x, wk env (envx (g x))) :
    XE B envx env (mMeth c gn f (mVar i) a) (t.mapx g) (fun _ => env) val := XE_methP g hk hg hf ha (all_mem hc) hgx
theorem methG {f : FM} {a : AM} {t : Out τ σ} [Inhabited σ] {val : σ → PyData} {ds : List Arg} {c gn : Str} {i : Nat} {fs : List (Str × FV)} (h : t.isOk = true) (hk : cellAt env i = some (.obj c fs)) (hg : getV fs gn = none)
    (hf : FP f ((Sum.inr i :: ds).map (argR env)) t val) (ha : AC B env a ds) (hc : (slotsOf ds).all (canRead env) = true) : EJ B env (mMeth c gn f (mVar i) a) (val t.get) := EJ_methP hk hg hf ha (all_mem hc) (Out.ok_get h)
end
section
variable {α : Type} [Enc α]
theorem ite_enc {b : Bool} {x y : α} : (if b = true then enc x else enc y) = enc (if b = true then x else y) := by split <;> rfl
theorem o_mulL {i j : Int} (h : wideI i = true) : oMul (.int i) (.int j) = some (.int (i * j)) := o_mul (by rw [h]; rfl)
theorem o_mulR {i j : Int} (h : wideI j = true) : oMul (.int i) (.int j) = some (.int (i * j)) := o_mul (by rw [h]; simp)
theorem pT {xs : List PyData} (h : decide (xs.length ≤ lineN) = true) : pTup xs = some (.tuple xs) := by unfold pTup; rw [if_pos (of_decide_eq_true h)]
theorem pL {xs : List PyData} (h : decide (xs.length ≤ lineN) = true) : pLst xs = some (.list xs) := by unfold pLst; rw [if_pos (of_decide_eq_true h)]
theorem seqD_str {s : Str} : seqD (.str s) = some ((chars s).map (enc : Str → PyData)) := by simp only [seqD, chars, List.map_map]; rfl
theorem pTn (n : Nat) {xs : List PyData} (h : xs.length = n) (hn : n ≤ 100 := by decide) : pTup xs = some (.tuple xs) := by
  unfold pTup
  have h100 : (100 : Nat) ≤ lineN := by unfold lineN; omega
  rw [if_pos (by omega)]
theorem pLn (n : Nat) {xs : List PyData} (h : xs.length = n) (hn : n ≤ 100 := by decide) : pLst xs = some (.list xs) := by
  unfold pLst
  have h100 : (100 : Nat) ≤ lineN := by unfold lineN; omega
  rw [if_pos (by omega)]
/-! ### the law as a whole -/
theorem law_start {a b c : Int} {n : Nat} : Rl ⟨[], [], false⟩ (.junk :: .c (dv (a, b, c)) :: junks n) [] (none :: some (.box 0) :: List.replicate n none) [] [.lst [.int a, .int b, .int c]] := by
  have r0 : RelF ⟨[], [], false⟩ (fun _ => []) [] [] [] := {
    len := rfl
    le := Nat.le_refl _
    hold := fun i it h => by simp at h
    off := fun _ _ => rfl
    dis := fun _ _ _ h => by cases h
    nd := fun _ => List.nodup_nil
    inM := fun _ _ h => by cases h
    fr := fun _ h => by cases h
    wf := fun h => by cases h
    gw := fun a c h => by simp at h }
  have r1 := r0.push (st' := [.lst [.int a, .int b, .int c]]) none .junk [] (Nat.zero_le _) (fun x hx => by cases hx) (fun x hx => by cases hx) List.nodup_nil (by simp [holds]) (fun q c _ hq => by
    match q, hq with
    | 0, hq => simp at hq; subst hq; rfl)
  have r2 := r1.push (st' := [.lst [.int a, .int b, .int c]]) (some (.box 0)) (.junk) [] (Nat.le_refl _) (fun _ _ => rfl) (fun x hx => by cases hx) List.nodup_nil (by simp [holds]) (fun q c h hq => by
    rw [List.getElem?_eq_none h] at hq; cases hq)
  have r3 : RelF ⟨[], [], false⟩ (fun i => if i = 1 then [0] else []) [.junk, .c (dv (a, b, c))] [none, some (.box 0)] [.lst [.int a, .int b, .int c]] := {
    len := rfl
    le := Nat.zero_le _
    hold := fun i it h => by
      match i, h with
      | 0, h => cases h; simp [holds]
      | 1, h => cases h; exact ⟨0, [], rfl, rfl, rfl, rfl⟩
      | i + 2, h => simp at h
    off := fun i h => by
      simp at h
      rw [if_neg (by omega)]
    dis := fun i j x h1 h2 => by
      split at h1
      · split at h2
        · omega
        · cases h2
      · cases h1
    nd := fun i => by
      show (if i = 1 then [0] else []).Nodup
      split <;> simp
    inM := fun i x h => .inl (Nat.zero_le _)
    fr := fun _ h => by cases h
    wf := fun h => by cases h
    gw := fun q c hq => by
      match q, hq with
      | 0, hq => simp at hq; subst hq; rfl
      | q + 1, hq => simp at hq }
  obtain ⟨F, r4⟩ := r3.junkN n
  refine ⟨by simp, F, ?_⟩
  simpa using r4
/-- the law's word -/
def good {σ : Type} : Stp Unit Bool Empty σ → Prop
  | .nx _ => True
  | .rt b => b = true
  | _ => False
theorem law_plain {σ : Type} {n : Nat} {b : SM} {a p c : Int} {t : Stp Unit Bool Empty σ} {envk : σ → Env}
    (h : ∀ B : Base, B.w = false → SJ B ⟨fun _ => junks (n + 2), fun _ => junks (n + 2), fun b => .bool b, Empty.elim⟩ (.junk :: .c (dv (a, p, c)) :: junks n) b t envk) (hg : good t) :
    TL.lawGood (b (none :: some (.box 0) :: List.replicate n none) [.lst [.int a, .int p, .int c]]) := by
  have := h ⟨[], [], false⟩ rfl _ _ (law_start (n := n) (a := a) (b := p) (c := c))
  revert this
  cases t with
  | stuck => exact hg.elim
  | exn _ _ => exact hg.elim
  | bk z => exact z.elim
  | ct z => exact z.elim
  | nx s => cases b (none :: some (.box 0) :: List.replicate n none) [.lst [.int a, .int p, .int c]] with
    | nx sl st => exact fun _ => trivial
    | _ => exact fun q => q.elim
  | rt s =>
    have hs : s = true := hg
    subst hs
    cases b (none :: some (.box 0) :: List.replicate n none) [.lst [.int a, .int p, .int c]] with
    | rt v st =>
      rintro ⟨_, h⟩
      rcases h with rfl | ⟨z, _⟩
      · trivial
      · cases z
    | _ => exact fun q => q.elim
end
end TY
end

section
set_option Elab.async false
set_option linter.all false
set_option maxRecDepth 100000
set_option maxHeartbeats 2000000
set_option autoImplicit false
/-! TY13: data that may be text or number, loops' tests. -/
namespace TY
open PySem L2 TL
open Enc (enc)
section
variable {B : Base} {env : Env} {α : Type} [Enc α]
def isI : PyData → Bool
  | .int _ => true
  | _ => false
def asI : PyData → Int
  | .int i => i
  | _ => 0
def isS : PyData → Bool
  | .str _ => true
  | _ => false
def asS : PyData → Str
  | .str i => i
  | _ => default
theorem EJ_as {m : TL.EM} (x : PyData) (h : EJ B env m x) : EJ B env m x := h
theorem PJ_n : PJ B env none none := trivial
theorem PJ_s {m : TL.EM} {i : Int} (h : EJ B env m (.int i)) : PJ B env (some m) (some i) := h
theorem EJ_asI {m : TL.EM} {x : PyData} (h : EJ B env m x) (hx : isI x = true) : EJ B env m (enc (asI x)) := by
  cases x <;> first | exact h | cases hx
theorem EJ_asS {m : TL.EM} {x : PyData} (h : EJ B env m x) (hx : isS x = true) : EJ B env m (enc (asS x)) := by
  cases x <;> first | exact h | cases hx
theorem EJ_opt [Inhabited α] {m : TL.EM} {x : Option α} (h : EJ B env m (enc x)) (hx : x.isSome = true) : EJ B env m (enc (x.getD default)) := by
  cases x with
  | none => cases hx
  | some y => exact h
theorem EJ_optN {m : TL.EM} {x : Option α} (h : EJ B env m (enc x)) (hn : ∀ a : α, isN (enc a) = false := by intro _; rfl) : EJ B env (mIsN m) (.bool x.isNone) := by
  cases x with
  | none => exact EJ_isN h
  | some y => have := EJ_isN h; rw [show isN (enc (some y)) = false from hn y] at this; exact this
theorem EJ_optS {m : TL.EM} {x : Option α} (h : EJ B env m (enc x)) (hn : ∀ a : α, isN (enc a) = false := by intro _; rfl) : EJ B env (mNotN m) (.bool (!x.isNone)) := by
  cases x with
  | none => exact EJ_notN h
  | some y => have := EJ_notN h; rw [show isN (enc (some y)) = false from hn y] at this; exact this
theorem XE_ofO {ξ σ : Type} {envx : ξ → Env} {m : TL.EM} {t : Out ξ σ} {envk : σ → Env} {it : σ → It} {envk' : Unit → Env} {val : Unit → PyData} (h : XO B envx env m t envk it) : XE B envx env m (t.bind fun _ => (Out.stuck : Out ξ Unit)) envk' val := fun sl ext exs st r => by
  have := h sl ext exs st r
  revert this
  cases t with
  | stuck => intro _; trivial
  | ok s => intro _; trivial
  | exn c x => cases m sl st with
    | exn _ _ => exact fun q => q
    | _ => exact fun q => q.elim
theorem while1 {c : TM} {b q : Bool} (h : some b = some q) (d : TJ B env c b) : TJ B env c q := by cases h; exact d
theorem whileG {c : TM} {p : Prop} {inst : Decidable p} {b q : Bool} (h : (if p then some b else none) = some q) (d : p → TJ B env c b) : TJ B env c q := by
  split at h
  · rename_i hp; cases h; exact d hp
  · cases h
end
end TY
end

section
set_option Elab.async false
set_option linter.all false
set_option maxRecDepth 100000
set_option maxHeartbeats 2000000
set_option autoImplicit false
/-! TP1: what typed programs end in. -/
namespace TY
open PySem L2 TL
open Enc (enc)
section
variable {ξ ρ β σ τ : Type}
def wpO (o : Out ξ σ) (P : σ → Prop) : Prop :=
  match o with
  | .ok s => P s
  | _ => False
def wpS (t : Stp ξ ρ β σ) (N : σ → Prop) (R : ρ → Prop) (Kb Kc : β → Prop) : Prop :=
  match t with
  | .nx s => N s
  | .rt r => R r
  | .bk b => Kb b
  | .ct b => Kc b
  | _ => False
theorem wpO_ok (s : σ) (P : σ → Prop) : wpO (.ok s : Out ξ σ) P = P s := rfl
theorem wpO_bind (o : Out ξ σ) (f : σ → Out ξ τ) (P : τ → Prop) : wpO (o.bind f) P = wpO o fun s => wpO (f s) P := by cases o <;> rfl
theorem wpO_grd (p : Prop) [Decidable p] (o : Out ξ σ) (P : σ → Prop) : wpO (grd p o) P = (p ∧ wpO o P) := by
  unfold grd; split
  · rename_i h; simp [h]
  · rename_i h; simp [h, wpO]
theorem wpO_mapx {ξ' : Type} (o : Out ξ σ) (g : ξ → ξ') (P : σ → Prop) : wpO (o.mapx g) P = wpO o P := by cases o <;> rfl
theorem wpO_mono {o : Out ξ σ} {P Q : σ → Prop} (h : wpO o P) (hi : ∀ s, P s → Q s) : wpO o Q := by
  cases o with
  | ok s => exact hi s h
  | exn _ _ => exact h
  | stuck => exact h
theorem wpO_roll {d : Dice} {n : Int} {P : Int × Dice → Prop} (hn : 0 < n) (h : ∀ r d', 0 ≤ r → r < n → P (r, d')) : wpO (rollO d n : Out ξ (Int × Dice)) P :=
  h _ _ (rollD_in d hn).1 (rollD_in d hn).2
theorem wpO_noX {ξ' : Type} (o : Out ξ σ) (P : σ → Prop) : wpO (noXO o : Out ξ' σ) P = wpO o P := by cases o <;> rfl
theorem wpO_comp {α β' δ : Type} {f : α → δ → Out ξ (β' × δ)} (Q : β' → Prop) : ∀ {xs : List α} {d : δ} {P : List β' × δ → Prop}, (∀ y ∈ xs, ∀ d, wpO (f y d) fun p => Q p.1) → (∀ l d', l.length = xs.length → (∀ x ∈ l, Q x) → P (l, d')) → wpO (compT f xs d) P
  | [], d, P, _, h => h [] d rfl (by simp)
  | y :: ys, d, P, hf, h => by
    simp only [compT, wpO_bind]
    refine wpO_mono (hf y (by simp) d) fun p hp => ?_
    refine wpO_comp Q (fun z hz => hf z (by simp [hz])) fun l d' hl hq => ?_
    exact h (p.1 :: l) d' (by simp [hl]) fun x hx => by
      rcases List.mem_cons.mp hx with e | e
      · rw [e]; exact hp
      · exact hq x e
theorem wpS_nx (s : σ) (N : σ → Prop) (R : ρ → Prop) (Kb Kc : β → Prop) : wpS (.nx s : Stp ξ ρ β σ) N R Kb Kc = N s := rfl
theorem wpS_rt (s : ρ) (N : σ → Prop) (R : ρ → Prop) (Kb Kc : β → Prop) : wpS (.rt s : Stp ξ ρ β σ) N R Kb Kc = R s := rfl
theorem wpS_bk (s : β) (N : σ → Prop) (R : ρ → Prop) (Kb Kc : β → Prop) : wpS (.bk s : Stp ξ ρ β σ) N R Kb Kc = Kb s := rfl
theorem wpS_seq (t : Stp ξ ρ β σ) (f : σ → Stp ξ ρ β τ) (N : τ → Prop) (R : ρ → Prop) (Kb Kc : β → Prop) : wpS (t.seq f) N R Kb Kc = wpS t (fun s => wpS (f s) N R Kb Kc) R Kb Kc := by cases t <;> rfl
theorem wpS_stp (o : Out ξ σ) (N : σ → Prop) (R : ρ → Prop) (Kb Kc : β → Prop) : wpS (o.stp : Stp ξ ρ β σ) N R Kb Kc = wpO o N := by cases o <;> rfl
theorem wpS_lift (t : Stp ξ ρ β Empty) (N : σ → Prop) (R : ρ → Prop) (Kb Kc : β → Prop) : wpS (t.lift : Stp ξ ρ β σ) N R Kb Kc = wpS t (fun _ => True) R Kb Kc := by
  cases t with
  | nx s => exact s.elim
  | _ => rfl
theorem wpS_ite (b : Bool) (t u : Stp ξ ρ β σ) (N : σ → Prop) (R : ρ → Prop) (Kb Kc : β → Prop) : wpS (if b = true then t else u) N R Kb Kc = ((b = true → wpS t N R Kb Kc) ∧ (b = false → wpS u N R Kb Kc)) := by
  cases b <;> simp
theorem wpS_grd (p : Prop) [Decidable p] (t : Stp ξ ρ β σ) (N : σ → Prop) (R : ρ → Prop) (Kb Kc : β → Prop) : wpS (grdS p t) N R Kb Kc = (p ∧ wpS t N R Kb Kc) := by
  unfold grdS; split
  · rename_i h; simp [h]
  · rename_i h; simp [h, wpS]
theorem wpS_mono {t : Stp ξ ρ β σ} {N N' : σ → Prop} {R R' : ρ → Prop} {Kb Kb' Kc Kc' : β → Prop} (h : wpS t N R Kb Kc) (h1 : ∀ s, N s → N' s) (h2 : ∀ s, R s → R' s) (h3 : ∀ s, Kb s → Kb' s) (h4 : ∀ s, Kc s → Kc' s) : wpS t N' R' Kb' Kc' := by
  cases t with
  | nx s => exact h1 s h
  | rt s => exact h2 s h
  | bk s => exact h3 s h
  | ct s => exact h4 s h
  | exn _ _ => exact h
  | stuck => exact h
/-- a loop by an invariant of what is left to walk -/
theorem wpS_for {α : Type} {body : α → σ → Stp ξ ρ σ σ} {R : ρ → Prop} {Kb Kc : β → Prop} (I : List α → σ → Prop) {N : σ → Prop} (hN : ∀ s, I [] s → N s) :
    ∀ {xs : List α} {s : σ}, I xs s → (∀ x r s, I (x :: r) s → wpS (body x s) (I r) R N (I r)) → wpS (forT body xs s : Stp ξ ρ β σ) N R Kb Kc
  | [], s, h, _ => hN s h
  | x :: xs, s, h, hb => by
    have h1 := hb x xs s h
    simp only [forT]
    revert h1
    cases body x s with
    | nx s' => exact fun h1 => wpS_for I hN h1 hb
    | ct s' => exact fun h1 => wpS_for I hN h1 hb
    | bk s' => exact fun h1 => h1
    | rt r => exact fun h1 => h1
    | exn _ _ => exact fun h1 => h1.elim
    | stuck => exact fun h1 => h1.elim
/-- .. by an invariant that knows nothing of the walk -/
theorem wpS_forI {α : Type} {body : α → σ → Stp ξ ρ σ σ} {R : ρ → Prop} {Kb Kc : β → Prop} (I : σ → Prop) {N : σ → Prop} {xs : List α} {s : σ} (h0 : I s) (hN : ∀ s, I s → N s) (hb : ∀ x ∈ xs, ∀ s, I s → wpS (body x s) I R N I) : wpS (forT body xs s : Stp ξ ρ β σ) N R Kb Kc := by
  refine wpS_for (fun r s => (∀ x ∈ r, x ∈ xs) ∧ I s) (fun s h => hN s h.2) ⟨fun x h => h, h0⟩ fun x r s h => ?_
  refine wpS_mono (hb x (h.1 x (by simp)) s h.2) (fun s hs => ⟨fun y hy => h.1 y (by simp [hy]), hs⟩) (fun _ z => z) (fun _ z => z) (fun s hs => ⟨fun y hy => h.1 y (by simp [hy]), hs⟩)
theorem good_wp {t : Stp Unit Bool Empty σ} (h : wpS t (fun _ => True) (fun b => b = true) (fun _ => True) (fun _ => True)) : good t := by
  cases t with
  | nx s => trivial
  | rt b => exact h
  | bk b => exact b.elim
  | ct b => exact b.elim
  | exn _ _ => exact h
  | stuck => exact h
theorem wpO_fin {t : Stp ξ ρ Empty σ} {f : σ → ρ} {P : ρ → Prop} (h : wpS t (fun s => P (f s)) P (fun _ => True) (fun _ => True)) : wpO (t.fin f) P := by
  cases t with
  | nx s => exact h
  | rt b => exact h
  | bk b => exact b.elim
  | ct b => exact b.elim
  | exn _ _ => exact h
  | stuck => exact h
@[simp] theorem toldX_exn {ξ' δ : Type} (tbl : List (Str × Str)) (c : Str) (x : ξ) (fk : σ → PyData × δ) (fx : ξ → δ) : (toldX tbl (.exn c x) fk fx : Out ξ' (PyData × δ)) = match tbl.lookup c with | some w => .ok (.str w, fx x) | none => .stuck := rfl
end
/-! ### comparing data -/
theorem eqv_self {α : Type} [Enc α] [DecidableEq α] [EqT α] (a : α) : PyData.eqv (enc a) (enc a) = true := by rw [EqT.eqv]; simp
theorem shp_enc {α : Type} [Enc α] [DecidableEq α] [EqT α] {a : α} (hl : layP a) (h : EqT.dp α ≤ 64 := by decide) : SeqAt.shaped (enc a) = true := shp a h hl
theorem shpD_of {x y : PyData} (h1 : SeqAt.shaped x = true) (h2 : SeqAt.shaped y = true) : shpD x y := by unfold shpD; rw [h1, h2]; rfl
/-- what is told is what is due -/
theorem chk {α : Type} [Enc α] [DecidableEq α] [EqT α] {x y : PyData} {a : α} (hx : x = enc a) (hy : y = enc a) (hl : layP a) (h : EqT.dp α ≤ 64 := by decide) : shpD x y ∧ PyData.eqv x y = true := by
  rw [hx, hy]; exact ⟨shpD_of (shp_enc hl h) (shp_enc hl h), eqv_self a⟩
theorem lay_of {α : Type} [Enc α] [LayT α] (a : α) : layP a := LayT.lay a
theorem small_of {i : Int} (h1 : -1000000000 ≤ i) (h2 : i ≤ 1000000000) : small i := by unfold small; omega
theorem le_line {n : Nat} (h : n ≤ 1000000) : n ≤ lineN := by unfold lineN; omega
theorem rng_len (n : Int) : (rng n).length = n.toNat := by simp [rng]
theorem mem_rng {n k : Int} : k ∈ rng n ↔ 0 ≤ k ∧ k < n := by
  simp only [rng, List.mem_map, List.mem_range]
  constructor
  · rintro ⟨i, hi, rfl⟩; omega
  · rintro ⟨h1, h2⟩; exact ⟨k.toNat, by omega, by omega⟩
/-- what was told is what is due: go on -/
theorem chk_on {x y : PyData} {G Q R : Prop} (h : shpD x y ∧ PyData.eqv x y = true) (g : G) (r : R) : (G ∧ shpD x y) ∧ ((!PyData.eqv x y) = true → Q) ∧ ((!PyData.eqv x y) = false → R) :=
  ⟨⟨g, h.1⟩, (fun z => by rw [h.2] at z; cases z), fun _ => r⟩
theorem chk_on1 {x y : PyData} {Q R : Prop} (h : shpD x y ∧ PyData.eqv x y = true) (r : R) : shpD x y ∧ ((!PyData.eqv x y) = true → Q) ∧ ((!PyData.eqv x y) = false → R) :=
  ⟨h.1, (fun z => by rw [h.2] at z; cases z), fun _ => r⟩
theorem told_on {ξ : Type} {o : Out ξ (PyData × Unit)} {due : PyData} {G Q R : Prop} (h : ∃ x, o = .ok (x, ()) ∧ shpD x due ∧ PyData.eqv x due = true) (g : G) (r : R) : wpO o fun s => (G ∧ shpD s.1 due) ∧ ((!PyData.eqv s.1 due) = true → Q) ∧ ((!PyData.eqv s.1 due) = false → R) := by
  obtain ⟨x, rfl, h⟩ := h
  exact chk_on h g r
theorem told_on1 {ξ : Type} {o : Out ξ (PyData × Unit)} {due : PyData} {Q R : Prop} (h : ∃ x, o = .ok (x, ()) ∧ shpD x due ∧ PyData.eqv x due = true) (r : R) : wpO o fun s => shpD s.1 due ∧ ((!PyData.eqv s.1 due) = true → Q) ∧ ((!PyData.eqv s.1 due) = false → R) := by
  obtain ⟨x, rfl, h⟩ := h
  exact chk_on1 h r
theorem eq_on {α : Type} [DecidableEq α] {x y : α} {Q R : Prop} (h : x = y) (r : R) : ((!decide (x = y)) = true → Q) ∧ ((!decide (x = y)) = false → R) :=
  ⟨(fun z => by simp [h] at z), fun _ => r⟩
theorem wpO_eq {ξ σ : Type} {o : Out ξ σ} {s : σ} {P : σ → Prop} (h : o = .ok s) (hp : P s) : wpO o P := by rw [h]; exact hp
theorem wpS_eq {ξ ρ β σ : Type} {t : Stp ξ ρ β σ} {s : σ} {N : σ → Prop} {R : ρ → Prop} {Kb Kc : β → Prop} (h : t = .nx s) (hp : N s) : wpS t N R Kb Kc := by rw [h]; exact hp
/-! ### sorting typed lists -/
class SrtT (α : Type) [Enc α] where
  alk : ∀ a b : α, PySem.W.alike (enc a) (enc b) = true
  shp : (∀ a : α, isTupN (enc a) = true) ∨ ∀ a : α, isFlat (enc a) = true
  nod : ∀ a : α, TL.nod (enc a) = true
  dep : ∀ a : α, (enc a).depth ≤ 64
theorem nods_enc {α : Type} [Enc α] [SrtT α] : ∀ xs : List α, TL.nods (xs.map enc) = true
  | [] => by simp [TL.nods]
  | x :: xs => by simp [TL.nods, SrtT.nod x, nods_enc xs]
theorem sort_ok {α : Type} [Enc α] [SrtT α] {xs : List α} (h : xs.length ≤ lineN) : sortOk (xs.map enc) = true := by
  unfold sortOk
  simp only [Bool.and_eq_true, decide_eq_true_eq, List.length_map, List.all_map, List.all_eq_true, Function.comp, Bool.or_eq_true]
  refine ⟨⟨⟨⟨fun a _ b _ => SrtT.alk a b, ?_⟩, nods_enc xs⟩, fun a _ => SrtT.dep a⟩, h⟩
  rcases SrtT.shp (α := α) with q | q
  · exact .inl fun a _ => q a
  · exact .inr fun a _ => q a
instance : SrtT Int := ⟨fun _ _ => rfl, .inr fun _ => rfl, fun _ => by simp [enc, TL.nod], fun _ => by simp [enc, PyData.depth]⟩
instance : SrtT Str := ⟨fun _ _ => rfl, .inr fun _ => rfl, fun _ => by simp [enc, TL.nod], fun _ => by simp [enc, PyData.depth]⟩
instance : SrtT (Int × Int) := ⟨fun _ _ => rfl, .inl fun _ => rfl, fun _ => by simp [enc, TL.nod, TL.nods], fun _ => by simp [enc, PyData.depth, PyData.depthAll]⟩
instance : SrtT (Int × Str) := ⟨fun _ _ => rfl, .inl fun _ => rfl, fun _ => by simp [enc, TL.nod, TL.nods], fun _ => by simp [enc, PyData.depth, PyData.depthAll]⟩
theorem srt_map {α β : Type} [Enc α] [Enc β] (f : α → β) (xs : List α) : srt (xs.map f) = (srtK false f xs).map f := by
  unfold srt srtK
  symm
  exact List.map_mergeSort fun a _ b _ => rfl
theorem srtK_len {α β : Type} [Enc α] [Enc β] (r : Bool) (f : α → β) (xs : List α) : (srtK r f xs).length = xs.length := by simp [srtK]
theorem srt_len {α : Type} [Enc α] (xs : List α) : (srt xs).length = xs.length := srtK_len _ _ _
theorem mem_srtK {α β : Type} [Enc α] [Enc β] {r : Bool} {f : α → β} {xs : List α} {x : α} : x ∈ srtK r f xs ↔ x ∈ xs := by simp [srtK]
theorem mem_srt {α : Type} [Enc α] {xs : List α} {x : α} : x ∈ srt xs ↔ x ∈ xs := mem_srtK
theorem cut_take {α : Type} (xs : List α) {k : Int} (h : 0 ≤ k) : cutL xs none (some k) = xs.take k.toNat := by
  unfold cutL HT.sIx
  simp only [List.drop_zero, Nat.sub_zero]
  rw [if_neg (by omega)]
  rcases Nat.le_total k.toNat xs.length with q | q
  · rw [show min k.toNat xs.length = k.toNat from by omega]
  · rw [show min k.toNat xs.length = xs.length from by omega, List.take_of_length_le (Nat.le_refl _), List.take_of_length_le q]
theorem pyIx0 {α : Type} [Inhabited α] (x : α) (xs : List α) : pyIx (x :: xs) 0 = x := by simp [pyIx, ixAt]
/-- the first of range(n) with p -/
theorem filter_first {p : Int → Bool} {n k : Nat} (hk : k < n) (hp : p (k : Int) = true) (hn : ∀ i : Nat, i < k → p (i : Int) = false) : ∃ r, (rng (n : Int)).filter p = (k : Int) :: r := by
  obtain ⟨m, rfl⟩ : ∃ m, n = k + (m + 1) := ⟨n - k - 1, by omega⟩
  have e : rng ((k + (m + 1) : Nat) : Int) = (List.range k).map (fun (i : Nat) => (i : Int)) ++ ((k : Int) :: ((List.range' (k + 1) m).map fun (i : Nat) => (i : Int))) := by
    unfold rng
    rw [Int.toNat_natCast, List.range_eq_range', List.range_eq_range', List.range'_append_1.symm, List.map_append, Nat.zero_add, List.range'_succ]
    rfl
  rw [e, List.filter_append]
  have h1 : ((List.range k).map (fun (i : Nat) => (i : Int))).filter p = [] := by
    rw [List.filter_eq_nil_iff]
    intro x hx
    obtain ⟨i, hi, rfl⟩ := List.mem_map.mp hx
    rw [hn i (List.mem_range.mp hi)]; simp
  rw [h1, List.nil_append, List.filter_cons_of_pos hp]
  exact ⟨_, rfl⟩
theorem filter_none {p : Int → Bool} {n : Nat} (hn : ∀ i : Nat, i < n → p (i : Int) = false) : (rng (n : Int)).filter p = [] := by
  rw [List.filter_eq_nil_iff]
  intro x hx
  have := mem_rng.mp hx
  have := hn x.toNat (by omega)
  rw [show ((x.toNat : Nat) : Int) = x from by omega] at this
  rw [this]; simp
end TY
end

section
set_option Elab.async false
set_option linter.all false
set_option maxRecDepth 100000
set_option maxHeartbeats 4000000
set_option autoImplicit false
namespace K04
open PySem L2 TL
def top (i : Nat) : Stmt := PySem.Challenge.pw_pipehall_k04_pumps.main.body.getD i (.Pass ⟨0, 0, 0, 0⟩)
def toldT : List (Str × Str) := [("BadSize", "size"), ("BadPipe", "pipe"), ("BadPlan", "plan"), ("NoSuch", "no such"), ("NoRoom", "no room"), ("NoWay", "no way"), ("BadDeed", "deed")]
def N_pump_init : List Str := ["self", "lift", "stroke", "washer"]
def m_pump_init : SM := sSeq (sIf (tOfE (mP2 oLt (mPn oMin (aCons (mVar 1) (aCons (mVar 2) (aCons (mVar 3) (aNil))))) (mC (.int 1)))) (sRaise "BadPlan") (sNil)) (sSeq (sFld "Pump" (mVar 0) "lift" (mVar 1)) (sSeq (sFld "Pump" (mVar 0) "stroke" (mVar 2)) (sSeq (sFld "Pump" (mVar 0) "washer" (mVar 3)) (sSeq (sFld "Pump" (mVar 0) "left" (mVar 3)) (sSeq (sFld "Pump" (mVar 0) "well" (mC (.int 0))) (sSeq (sFld "Pump" (mVar 0) "lifted" (mC (.int 0))) (sFld "Pump" (mVar 0) "strokes" (mC (.int 0)))))))))
def f_pump_init : FM := fnOf 4 m_pump_init
def N_pump_rain : List Str := ["self", "much"]
def m_pump_rain : SM := sSeq (sIf (tOfE (mP2 oLt (mVar 1) (mC (.int 1)))) (sRaise "BadSize") (sNil)) (sSeq (sAugFld "Pump" (mVar 0) "well" oAdd1 (mVar 1)) (sRet (mFld "Pump" (mVar 0) "well")))
def f_pump_rain : FM := fnOf 2 m_pump_rain
def N_pump_work : List Str := ["self", "strokes", "deep", "found", "turn", "part"]
def m_pump_work : SM := sSeq (sIf (tOr (tOfE (mP2 oLt (mVar 1) (mC (.int 1)))) (tOfE (mP2 oLt (mVar 2) (mC (.int 0))))) (sRaise "BadSize") (sNil)) (sSeq (sIf (tOfE (mP2 oGt (mVar 2) (mFld "Pump" (mVar 0) "lift"))) (sRaise "NoWay") (sNil)) (sSeq (sSet 3 (mC (.int 0))) (sSeq (sFor (.name 4) (iPn pRange1 (aCons (mVar 1) (aNil))) (sSeq (sAugFld "Pump" (mVar 0) "strokes" oAdd1 (mC (.int 1))) (sIf (tOfE (mP2 oGt (mFld "Pump" (mVar 0) "left") (mC (.int 0)))) (sSeq (sSet 5 (mPn oMin (aCons (mFld "Pump" (mVar 0) "stroke") (aCons (mFld "Pump" (mVar 0) "well") (aNil))))) (sSeq (sAugFld "Pump" (mVar 0) "well" oSub (mVar 5)) (sSeq (sAug 3 oAdd1 (mVar 5)) (sAugFld "Pump" (mVar 0) "left" oSub (mC (.int 1)))))) (sNil)))) (sSeq (sAugFld "Pump" (mVar 0) "lifted" oAdd1 (mVar 3)) (sRet (mVar 3))))))
def f_pump_work : FM := fnOf 6 m_pump_work
def N_pump_new_washer : List Str := ["self", "found"]
def m_pump_new_washer : SM := sSeq (sIf (tOfE (mP2 oEq (mFld "Pump" (mVar 0) "left") (mFld "Pump" (mVar 0) "washer"))) (sRaise "BadDeed") (sNil)) (sSeq (sSet 1 (mFld "Pump" (mVar 0) "left")) (sSeq (sFld "Pump" (mVar 0) "left" (mFld "Pump" (mVar 0) "washer")) (sRet (mVar 1))))
def f_pump_new_washer : FM := fnOf 2 m_pump_new_washer
def N_pump_strokes_for : List Str := ["self", "much"]
def m_pump_strokes_for : SM := sSeq (sIf (tOfE (mP2 oLt (mVar 1) (mC (.int 0)))) (sRaise "BadSize") (sNil)) (sRet (mP2 oSub (mC (.int 0)) (mP2 oDiv (mP2 oSub (mC (.int 0)) (mVar 1)) (mFld "Pump" (mVar 0) "stroke"))))
def f_pump_strokes_for : FM := fnOf 2 m_pump_strokes_for
def N_pump_shown : List Str := ["self"]
def m_pump_shown : SM := sRet (mDisp pTup (aCons (mFld "Pump" (mVar 0) "well") (aCons (mFld "Pump" (mVar 0) "lifted") (aCons (mFld "Pump" (mVar 0) "strokes") (aCons (mFld "Pump" (mVar 0) "left") (aNil))))))
def f_pump_shown : FM := fnOf 1 m_pump_shown
def N_stages : List Str := ["high", "lift"]
def m_stages : SM := sSeq (sIf (tOr (tOfE (mP2 oLt (mVar 0) (mC (.int 0)))) (tOfE (mP2 oLt (mVar 1) (mC (.int 1))))) (sRaise "BadSize") (sNil)) (sRet (mPn oTuple (aCons (mPn oLRg (aCons (mC (.int 0)) (aCons (mVar 0) (aCons (mVar 1) (aNil))))) (aNil))))
def f_stages : FM := fnOf 2 m_stages
def N_row_gives : List Str := ["pumps"]
def m_row_gives : SM := sRet (mKw oMinD (aCons (mVar 0) (aNil)) (mC (.int 0)))
def f_row_gives : FM := fnOf 1 m_row_gives
def N_shifts : List Str := ["hours", "hands", "each", "names", "hour"]
def m_shifts : SM := sSeq (sIf (tOr (tOfE (mP2 oLt (mVar 0) (mC (.int 0)))) (tOfE (mP2 oLt (mVar 2) (mC (.int 1))))) (sRaise "BadSize") (sNil)) (sSeq (sSet 3 (mPn oSort (aCons (mVar 1) (aNil)))) (sSeq (sIf (tOfE (mP2 oEq (mVar 3) (mDisp pLst (aNil)))) (sRaise "BadPlan") (sNil)) (sRet (mPn oTuple (aCons (mComp [4] (.name 4) (iPn pRange1 (aCons (mVar 0) (aNil))) (TL.tYes) (mP2 oIx (mVar 3) (mP2 oMod (mP2 oDiv (mVar 4) (mVar 2)) (mPn oLen (aCons (mVar 3) (aNil)))))) (aNil))))))
def f_shifts : FM := fnOf 5 m_shifts
def N_law_flat : List Str := ["rows", "found", "row"]
def m_law_flat : SM := sSeq (sSet 1 (mDisp pLst (aNil))) (sSeq (sFor (.name 2) (iSeq (mVar 0)) (sSet 1 (mP2 oAdd (mVar 1) (mVar 2)))) (sRet (mVar 1)))
def f_law_flat : FM := fnOf 3 m_law_flat
def N_law_dice : List Str := ["cell"]
def m_law_dice : SM := sSeq (sIf (tOfE (mChain oLt oLt (mP2 oSub (mC (.int 0)) (mC (.int 10))) (mVar 0) (mC (.int 10)))) (sRet (mOwn (mDisp pLst (aCons (mPn oAbs (aCons (mVar 0) (aNil))) (aCons (mC (.int 0)) (aCons (mC (.int 2)) (aNil))))))) (sNil)) (sRet (mOwn (mDisp pLst (aCons (mVar 0) (aCons (mP2 oAdd (mC (.int 1)) (mP2 oMod (mPn oInt (aCons (mVar 0) (aNil))) (mC (.int 1009)))) (aCons (mPn oInt (aCons (mP2 oGe (mVar 0) (mP2 oPow (mC (.int 10)) (mC (.int 18)))) (aNil))) (aNil)))))))
def f_law_dice : FM := fnOfB 1 m_law_dice
def N_law_roll : List Str := ["dice", "many", "found"]
def m_law_roll : SM := sSeq (sIf (tOr (tOfE (mP2 oEq (mP2 oIx (mVar 0) (mC (.int 2))) (mC (.int 2)))) (tAnd (tOfE (mP2 oEq (mP2 oIx (mVar 0) (mC (.int 2))) (mC (.int 1)))) (tOfE (mP2 oGt (mP2 oIx (mVar 0) (mC (.int 0))) (mC (.int 0)))))) (sSeq (sSet 2 (mP2 oMod (mPn oInt (aCons (mP2 oIx (mVar 0) (mC (.int 0))) (aNil))) (mVar 1))) (sSeq (sSetIx (mP2 oDiv (mP2 oIx (mVar 0) (mC (.int 0))) (mVar 1)) (mVar 0) (mC (.int 0))) (sRet (mVar 2)))) (sNil)) (sSeq (sSetIx (mC (.int 0)) (mVar 0) (mC (.int 2))) (sSeq (sSetIx (mP2 oMod (mPn oInt (aCons (mP2 oAdd (mP2 oAdd (mP2 oMul (mP2 oIx (mVar 0) (mC (.int 0))) (mC (.int 48271))) (mP2 oMul (mP2 oIx (mVar 0) (mC (.int 1))) (mC (.int 69621)))) (mC (.int 11))) (aNil))) (mC (.int 2147483647))) (mVar 0) (mC (.int 0))) (sSeq (sSetIx (mP2 oAdd (mP2 oIx (mVar 0) (mC (.int 1))) (mC (.int 1))) (mVar 0) (mC (.int 1))) (sRet (mP2 oMod (mPn oInt (aCons (mP2 oAdd (mP2 oDiv (mP2 oIx (mVar 0) (mC (.int 0))) (mC (.int 7))) (mP2 oIx (mVar 0) (mC (.int 0)))) (aNil))) (mVar 1))))))
def f_law_roll : FM := fnOf 3 m_law_roll
def N_shaft_dry : List Str := ["water", "inflow", "pumps", "most", "minutes", "pump"]
def m_shaft_dry : SM := sSeq (sIf (tOr (tOfE (mP2 oLt (mPn oMin (aCons (mVar 0) (aCons (mVar 1) (aCons (mVar 3) (aNil))))) (mC (.int 0)))) (tOfE (mAnyG [5] (.name 5) (iSeq (mVar 2)) (TL.tYes) (mP2 oLt (mVar 5) (mC (.int 0)))))) (sRaise "BadSize") (sNil)) (sSeq (sSet 4 (mC (.int 0))) (sSeq (sWhile (tOfE (mP2 oGt (mVar 0) (mC (.int 0)))) (sSeq (sIf (tOfE (mP2 oEq (mVar 4) (mVar 3))) (sRaise "NoWay") (sNil)) (sSeq (sSet 0 (mPn oMax (aCons (mC (.int 0)) (aCons (mP2 oSub (mP2 oAdd (mVar 0) (mVar 1)) (mPn oSum (aCons (mVar 2) (aNil)))) (aNil))))) (sAug 4 oAdd1 (mC (.int 1)))))) (sRet (mVar 4))))
def f_shaft_dry : FM := fnOf 6 m_shaft_dry
def nm_shaft_dry : Nat → Nat → Option Str := fun _ _ => none
def N_fewest_pumps : List Str := ["pumps", "need", "found", "whole", "number", "pump", "one"]
def m_fewest_pumps : SM := sSeq (sIf (tOr (tOfE (mP2 oLt (mVar 1) (mC (.int 0)))) (tOfE (mAnyG [5] (.name 5) (iSeq (mVar 0)) (TL.tYes) (mP2 oLt (mVar 5) (mC (.int 0)))))) (sRaise "BadSize") (sNil)) (sSeq (sPar [2, 3] (aCons (mOwn (mDisp pLst (aNil))) (aCons (mC (.int 0)) (aNil)))) (sSeq (sFor (.name 4) (iSeq (mSortK false 6 (aCons (mPn oLRg (aCons (mPn oLen (aCons (mVar 0) (aNil))) (aNil))) (aNil)) (mDisp pTup (aCons (mP2 oSub (mC (.int 0)) (mP2 oIx (mVar 0) (mVar 6))) (aCons (mVar 6) (aNil)))))) (sSeq (sIf (tOfE (mP2 oGe (mVar 3) (mVar 1))) (sBreak) (sNil)) (sSeq (sExpr (mApp (mVar 2) (mVar 4))) (sAug 3 oAdd1 (mP2 oIx (mVar 0) (mVar 4)))))) (sSeq (sIf (tOfE (mP2 oLt (mVar 3) (mVar 1))) (sRaise "NoWay") (sNil)) (sRet (mPn oTuple (aCons (mPn oSort (aCons (mVar 2) (aNil))) (aNil)))))))
def f_fewest_pumps : FM := fnOf 7 m_fewest_pumps
def nm_fewest_pumps : Nat → Nat → Option Str := fun l c => if ((l == 88 && c == 54)) = true then some ("fewest_pumps.<locals>." ++ "<lambda>") else none
def N_wheel_pumps : List Str := ["teeth", "turns", "wheel", "pumps", "tooth"]
def m_wheel_pumps : SM := sSeq (sUnp (.tup [.name 2, .name 3]) (mVar 0)) (sSeq (sIf (tOr (tOfE (mP2 oLt (mVar 2) (mC (.int 1)))) (tOr (tOfE (mP2 oLt (mVar 1) (mC (.int 0)))) (tOfE (mAnyG [4] (.name 4) (iSeq (mVar 3)) (TL.tYes) (mP2 oLt (mVar 4) (mC (.int 1))))))) (sRaise "BadSize") (sNil)) (sRet (mPn oTuple (aCons (mComp [4] (.name 4) (iSeq (mVar 3)) (TL.tYes) (mP2 oDiv (mP2 oMul (mVar 2) (mVar 1)) (mVar 4))) (aNil)))))
def f_wheel_pumps : FM := fnOf 5 m_wheel_pumps
def nm_wheel_pumps : Nat → Nat → Option Str := fun _ _ => none
def N_primed : List Str := ["pours", "leaks", "need", "water", "number", "pour"]
def m_primed : SM := sSeq (sIf (tOr (tOfE (mP2 oLt (mVar 1) (mC (.int 0)))) (tOr (tOfE (mP2 oLt (mVar 2) (mC (.int 1)))) (tOfE (mAnyG [5] (.name 5) (iSeq (mVar 0)) (TL.tYes) (mP2 oLt (mVar 5) (mC (.int 0))))))) (sRaise "BadSize") (sNil)) (sSeq (sSet 3 (mC (.int 0))) (sSeq (sFor (.tup [.name 4, .name 5]) (iPn pEnum (aCons (mVar 0) (aNil))) (sSeq (sSet 3 (mP2 oAdd (mPn oMax (aCons (mC (.int 0)) (aCons (mP2 oSub (mVar 3) (mVar 1)) (aNil)))) (mVar 5))) (sIf (tOfE (mP2 oGe (mVar 3) (mVar 2))) (sRet (mVar 4)) (sNil)))) (sRaise "NoWay")))
def f_primed : FM := fnOf 6 m_primed
def nm_primed : Nat → Nat → Option Str := fun _ _ => none
def N_law_cases1 : List Str := []
def m_law_cases1 : SM := sSeq (sIf (tOfE (mP2 oNe (mTold toldT (mCall f_shaft_dry (aCons (mC (.int 1)) (aCons (mC (.int 1)) (aCons (mDisp pLst (aCons (mP2 oSub (mC (.int 0)) (mC (.int 1))) (aNil))) (aCons (mC (.int 1)) (aNil))))))) (mC (.str "size")))) (sRet (mC (.bool false))) (sNil)) (sSeq (sIf (tOfE (mP2 oNe (mTold toldT (mCall f_fewest_pumps (aCons (mDisp pLst (aNil)) (aCons (mP2 oSub (mC (.int 0)) (mC (.int 1))) (aNil))))) (mC (.str "size")))) (sRet (mC (.bool false))) (sNil)) (sSeq (sIf (tOfE (mP2 oNe (mTold toldT (mCall f_shifts (aCons (mC (.int 1)) (aCons (mDisp pLst (aNil)) (aCons (mC (.int 0)) (aNil)))))) (mC (.str "size")))) (sRet (mC (.bool false))) (sNil)) (sSeq (sIf (tOfE (mP2 oNe (mTold toldT (mCall f_wheel_pumps (aCons (mDisp pTup (aCons (mC (.int 0)) (aCons (mDisp pLst (aNil)) (aNil)))) (aCons (mC (.int 1)) (aNil))))) (mC (.str "size")))) (sRet (mC (.bool false))) (sNil)) (sSeq (sIf (tOfE (mP2 oNe (mTold toldT (mCall f_primed (aCons (mDisp pLst (aNil)) (aCons (mC (.int 0)) (aCons (mC (.int 0)) (aNil)))))) (mC (.str "size")))) (sRet (mC (.bool false))) (sNil)) (sRet (mC (.bool true)))))))
def f_law_cases1 : FM := fnOf 0 m_law_cases1
def nm_law_cases1 : Nat → Nat → Option Str := fun _ _ => some (("_law_cases1.<locals>." : Str) ++ "<lambda>")
def N_law_rest1 : List Str := ["dice", "pump", "some", "k", "order", "fits", "line", "turn", "wheel", "teeth", "turns", "level", "due", "each", "goal", "hands", "hours", "leaks", "pours", "want", "worth", "j", "name", "hour", "tooth"]
def m_law_rest1 : SM := sSeq (sSet 19 (mCall f_law_roll (aCons (mVar 0) (aCons (mC (.int 30)) (aNil))))) (sSeq (sSet 4 (mComp [20, 3] (.tup [.name 20, .name 3]) (iSeq (mPn oSort (aCons (mComp [3] (.name 3) (iPn pRange1 (aCons (mPn oLen (aCons (mVar 2) (aNil))) (aNil))) (TL.tYes) (mDisp pTup (aCons (mP2 oSub (mC (.int 0)) (mP2 oIx (mVar 2) (mVar 3))) (aCons (mVar 3) (aNil))))) (aNil)))) (TL.tYes) (mVar 3))) (sSeq (sSet 5 (mComp [3] (.name 3) (iPn pRange1 (aCons (mP2 oAdd (mPn oLen (aCons (mVar 4) (aNil))) (mC (.int 1))) (aNil))) (tOfE (mP2 oGe (mPn oSum (aCons (mComp [21] (.name 21) (iSeq (mSl (mVar 4) none (some (mVar 3)))) (TL.tYes) (mP2 oIx (mVar 2) (mVar 21))) (aNil))) (mVar 19))) (mVar 3))) (sSeq (sIf (tOfE (mP2 oNe (mTold toldT (mPn oList (aCons (mCall f_fewest_pumps (aCons (mVar 2) (aCons (mVar 19) (aNil)))) (aNil)))) (mIf (tOfE (mP2 oNe (mVar 5) (mDisp pLst (aNil)))) (mPn oSort (aCons (mSl (mVar 4) none (some (mP2 oIx (mVar 5) (mC (.int 0))))) (aNil))) (mC (.str "no way"))))) (sRet (mC (.bool false))) (sNil)) (sSeq (sPar [15, 16, 13] (aCons (mSl (mDisp pLst (aCons (mC (.str "bo")) (aCons (mC (.str "ann")) (aCons (mC (.str "cy")) (aNil))))) none (some (mCall f_law_roll (aCons (mVar 0) (aCons (mC (.int 4)) (aNil)))))) (aCons (mCall f_law_roll (aCons (mVar 0) (aCons (mC (.int 12)) (aNil)))) (aCons (mP2 oAdd (mC (.int 1)) (mCall f_law_roll (aCons (mVar 0) (aCons (mC (.int 4)) (aNil))))) (aNil))))) (sSeq (sSet 6 (mDisp pLst (aNil))) (sSeq (sFor (.name 7) (iPn pRange1 (aCons (mC (.int 12)) (aNil))) (sSet 6 (mP2 oAdd (mVar 6) (mCall f_law_flat (aCons (mComp [22] (.name 22) (iSeq (mPn oSort (aCons (mVar 15) (aNil)))) (TL.tYes) (mComp [23] (.name 23) (iPn pRange1 (aCons (mVar 13) (aNil))) (TL.tYes) (mVar 22))) (aNil)))))) (sSeq (sIf (tOfE (mP2 oNe (mTold toldT (mPn oList (aCons (mCall f_shifts (aCons (mVar 16) (aCons (mVar 15) (aCons (mVar 13) (aNil))))) (aNil)))) (mIf (tOfE (mP2 oNe (mVar 15) (mDisp pLst (aNil)))) (mSl (mVar 6) none (some (mVar 16))) (mC (.str "plan"))))) (sRet (mC (.bool false))) (sNil)) (sSeq (sPar [8, 9, 10] (aCons (mP2 oAdd (mC (.int 1)) (mCall f_law_roll (aCons (mVar 0) (aCons (mC (.int 20)) (aNil))))) (aCons (mComp [3] (.name 3) (iPn pRange1 (aCons (mCall f_law_roll (aCons (mVar 0) (aCons (mC (.int 4)) (aNil)))) (aNil))) (TL.tYes) (mP2 oAdd (mC (.int 1)) (mCall f_law_roll (aCons (mVar 0) (aCons (mC (.int 12)) (aNil)))))) (aCons (mCall f_law_roll (aCons (mVar 0) (aCons (mC (.int 9)) (aNil)))) (aNil))))) (sSeq (sIf (tOfE (mP2 oNe (mPn oList (aCons (mCall f_wheel_pumps (aCons (mDisp pTup (aCons (mVar 8) (aCons (mVar 9) (aNil)))) (aCons (mVar 10) (aNil)))) (aNil))) (mComp [24] (.name 24) (iSeq (mVar 9)) (TL.tYes) (mPn oLen (aCons (mPn oLRg (aCons (mVar 24) (aCons (mP2 oAdd (mP2 oMul (mVar 8) (mVar 10)) (mC (.int 1))) (aCons (mVar 24) (aNil))))) (aNil)))))) (sRet (mC (.bool false))) (sNil)) (sSeq (sPar [18, 17, 14, 11, 12] (aCons (mComp [3] (.name 3) (iPn pRange1 (aCons (mCall f_law_roll (aCons (mVar 0) (aCons (mC (.int 6)) (aNil)))) (aNil))) (TL.tYes) (mCall f_law_roll (aCons (mVar 0) (aCons (mC (.int 9)) (aNil))))) (aCons (mCall f_law_roll (aCons (mVar 0) (aCons (mC (.int 6)) (aNil)))) (aCons (mP2 oAdd (mC (.int 1)) (mCall f_law_roll (aCons (mVar 0) (aCons (mC (.int 15)) (aNil))))) (aCons (mC (.int 0)) (aCons (mC (.str "no way")) (aNil))))))) (sSeq (sFor (.name 3) (iPn pRange1 (aCons (mPn oLen (aCons (mVar 18) (aNil))) (aNil))) (sSeq (sSet 11 (mP2 oAdd (mPn oMax (aCons (mC (.int 0)) (aCons (mP2 oSub (mVar 11) (mVar 17)) (aNil)))) (mP2 oIx (mVar 18) (mVar 3)))) (sSet 12 (mIf (tAnd (tOfE (mP2 oEq (mVar 12) (mC (.str "no way")))) (tOfE (mP2 oGe (mVar 11) (mVar 14)))) (mVar 3) (mVar 12))))) (sSeq (sIf (tOfE (mP2 oNe (mTold toldT (mCall f_primed (aCons (mVar 18) (aCons (mVar 17) (aCons (mVar 14) (aNil)))))) (mVar 12))) (sRet (mC (.bool false))) (sNil)) (sSeq (sIf (tOfE (mP2 oNe (mTold toldT (mMake "Pump" f_pump_init (aCons (mC (.int 0)) (aCons (mC (.int 1)) (aCons (mC (.int 1)) (aNil)))))) (mC (.str "plan")))) (sRet (mC (.bool false))) (sNil)) (sSeq (sIf (tOfE (mP2 oNe (mTold toldT (mMeth "Pump" "strokes_for" f_pump_strokes_for (mVar 1) (aCons (mP2 oSub (mC (.int 0)) (mC (.int 1))) (aNil)))) (mC (.str "size")))) (sRet (mC (.bool false))) (sNil)) (sSeq (sIf (tOfE (mP2 oNe (mTold toldT (mCall f_stages (aCons (mC (.int 1)) (aCons (mC (.int 0)) (aNil))))) (mC (.str "size")))) (sRet (mC (.bool false))) (sNil)) (sRet (mCall f_law_cases1 aNil)))))))))))))))))
def f_law_rest1 : FM := fnOf 25 m_law_rest1
def nm_law_rest1 : Nat → Nat → Option Str := fun _ _ => some (("_law_rest1.<locals>." : Str) ++ "<lambda>")
def N_law : List Str := ["script", "dice", "lift", "stroke", "washer", "well", "lifted", "strokes", "left", "step", "sort", "due", "told", "need", "high", "when", "level", "deep", "inflow", "most", "much", "pump", "some", "water", "k"]
def m_law : SM := sSeq (sPar [2, 3, 4] (aCons (mP2 oAdd (mC (.int 1)) (mCall f_law_roll (aCons (mVar 1) (aCons (mC (.int 9)) (aNil))))) (aCons (mP2 oAdd (mC (.int 1)) (mCall f_law_roll (aCons (mVar 1) (aCons (mC (.int 4)) (aNil))))) (aCons (mP2 oAdd (mC (.int 1)) (mCall f_law_roll (aCons (mVar 1) (aCons (mC (.int 9)) (aNil))))) (aNil))))) (sSeq (sPar [21, 5, 6, 7, 8] (aCons (mMake "Pump" f_pump_init (aCons (mVar 2) (aCons (mVar 3) (aCons (mVar 4) (aNil))))) (aCons (mC (.int 0)) (aCons (mC (.int 0)) (aCons (mC (.int 0)) (aCons (mVar 4) (aNil))))))) (sSeq (sFor (.name 9) (iPn pRange1 (aCons (mCall f_law_roll (aCons (mVar 1) (aCons (mC (.int 11)) (aNil)))) (aNil))) (sSeq (sPar [10, 20, 17] (aCons (mCall f_law_roll (aCons (mVar 1) (aCons (mC (.int 6)) (aNil)))) (aCons (mCall f_law_roll (aCons (mVar 1) (aCons (mC (.int 12)) (aNil)))) (aCons (mCall f_law_roll (aCons (mVar 1) (aCons (mC (.int 12)) (aNil)))) (aNil))))) (sSeq (sIf (tOfE (mP2 oLt (mVar 10) (mC (.int 2)))) (sPar [11, 12, 5] (aCons (mIf (tOfE (mP2 oGt (mVar 20) (mC (.int 0)))) (mP2 oAdd (mVar 5) (mVar 20)) (mC (.str "size"))) (aCons (mTold toldT (mMeth "Pump" "rain" f_pump_rain (mVar 21) (aCons (mVar 20) (aNil)))) (aCons (mP2 oAdd (mVar 5) (mVar 20)) (aNil))))) (sIf (tOfE (mP2 oLt (mVar 10) (mC (.int 5)))) (sSeq (sPar [11, 12] (aCons (mIf (tOfE (mP2 oLt (mVar 20) (mC (.int 1)))) (mC (.str "size")) (mC (.str "no way"))) (aCons (mTold toldT (mMeth "Pump" "work" f_pump_work (mVar 21) (aCons (mVar 20) (aCons (mVar 17) (aNil))))) (aNil)))) (sIf (tAnd (tOfE (mP2 oGt (mVar 20) (mC (.int 0)))) (tOfE (mP2 oLe (mVar 17) (mVar 2)))) (sSeq (sSet 11 (mPn oMin (aCons (mVar 5) (aCons (mP2 oMul (mVar 3) (mPn oMin (aCons (mVar 20) (aCons (mVar 8) (aNil))))) (aNil))))) (sPar [5, 6, 7, 8] (aCons (mP2 oSub (mVar 5) (mVar 11)) (aCons (mP2 oAdd (mVar 6) (mVar 11)) (aCons (mP2 oAdd (mVar 7) (mVar 20)) (aCons (mP2 oSub (mVar 8) (mPn oMin (aCons (mVar 20) (aCons (mVar 8) (aNil))))) (aNil))))))) (sNil))) (sPar [11, 12, 8] (aCons (mIf (tOfE (mP2 oLt (mVar 8) (mVar 4))) (mVar 8) (mC (.str "deed"))) (aCons (mTold toldT (mMeth "Pump" "new_washer" f_pump_new_washer (mVar 21) aNil)) (aCons (mVar 4) (aNil))))))) (sIf (tOr (tOfE (mP2 oNe (mVar 12) (mVar 11))) (tOfE (mP2 oNe (mMeth "Pump" "shown" f_pump_shown (mVar 21) aNil) (mDisp pTup (aCons (mVar 5) (aCons (mVar 6) (aCons (mVar 7) (aCons (mVar 8) (aNil))))))))) (sRet (mC (.bool false))) (sNil))))) (sSeq (sSet 13 (mCall f_law_roll (aCons (mVar 1) (aCons (mC (.int 60)) (aNil))))) (sSeq (sIf (tOfE (mP2 oNe (mMeth "Pump" "strokes_for" f_pump_strokes_for (mVar 21) (aCons (mVar 13) (aNil))) (mPn oLen (aCons (mPn oLRg (aCons (mC (.int 0)) (aCons (mVar 13) (aCons (mVar 3) (aNil))))) (aNil))))) (sRet (mC (.bool false))) (sNil)) (sSeq (sSet 14 (mCall f_law_roll (aCons (mVar 1) (aCons (mC (.int 40)) (aNil))))) (sSeq (sIf (tOfE (mP2 oNe (mPn oList (aCons (mCall f_stages (aCons (mVar 14) (aCons (mVar 2) (aNil)))) (aNil))) (mComp [24] (.name 24) (iPn pRange1 (aCons (mVar 14) (aNil))) (tOfE (mP2 oEq (mP2 oMod (mVar 24) (mVar 2)) (mC (.int 0)))) (mVar 24)))) (sRet (mC (.bool false))) (sNil)) (sSeq (sSet 22 (mComp [24] (.name 24) (iPn pRange1 (aCons (mCall f_law_roll (aCons (mVar 1) (aCons (mC (.int 5)) (aNil)))) (aNil))) (TL.tYes) (mCall f_law_roll (aCons (mVar 1) (aCons (mC (.int 9)) (aNil)))))) (sSeq (sIf (tOfE (mP2 oNe (mCall f_row_gives (aCons (mVar 22) (aNil))) (mIf (tOfE (mP2 oNe (mVar 22) (mDisp pLst (aNil)))) (mP2 oIx (mPn oSort (aCons (mVar 22) (aNil))) (mC (.int 0))) (mC (.int 0))))) (sRet (mC (.bool false))) (sNil)) (sSeq (sPar [23, 18, 19, 15] (aCons (mCall f_law_roll (aCons (mVar 1) (aCons (mC (.int 40)) (aNil)))) (aCons (mCall f_law_roll (aCons (mVar 1) (aCons (mC (.int 6)) (aNil)))) (aCons (mCall f_law_roll (aCons (mVar 1) (aCons (mC (.int 15)) (aNil)))) (aCons (mC (.int 0)) (aNil)))))) (sSeq (sSet 16 (mVar 23)) (sSeq (sWhile (tAnd (tOfE (mP2 oGt (mVar 16) (mC (.int 0)))) (tOfE (mP2 oLt (mVar 15) (mVar 19)))) (sPar [16, 15] (aCons (mPn oMax (aCons (mC (.int 0)) (aCons (mP2 oSub (mP2 oAdd (mVar 16) (mVar 18)) (mPn oSum (aCons (mVar 22) (aNil)))) (aNil)))) (aCons (mP2 oAdd (mVar 15) (mC (.int 1))) (aNil))))) (sSeq (sIf (tOfE (mP2 oNe (mTold toldT (mCall f_shaft_dry (aCons (mVar 23) (aCons (mVar 18) (aCons (mVar 22) (aCons (mVar 19) (aNil))))))) (mIf (tOfE (mP2 oEq (mVar 16) (mC (.int 0)))) (mVar 15) (mC (.str "no way"))))) (sRet (mC (.bool false))) (sNil)) (sIf (tNot (tOfE (mCall f_law_rest1 (aCons (mVar 1) (aCons (mVar 21) (aCons (mVar 22) (aNil))))))) (sRet (mC (.bool false))) (sNil))))))))))))))
def nm_law : Nat → Nat → Option Str := fun _ _ => some (("law.<locals>." : Str) ++ "<lambda>")
structure Pg (K : PySem.W.Frag) (mg : Str → Option Value) : Prop where
  b_abs : mg "abs" = none
  b_any : mg "any" = none
  b_enumerate : mg "enumerate" = none
  b_int : mg "int" = none
  b_len : mg "len" = none
  b_list : mg "list" = none
  b_max : mg "max" = none
  b_min : mg "min" = none
  b_range : mg "range" = none
  b_sorted : mg "sorted" = none
  b_sum : mg "sum" = none
  b_tuple : mg "tuple" = none
  x_BadDeed : ExnOk K mg "BadDeed"
  x_BadPlan : ExnOk K mg "BadPlan"
  x_BadSize : ExnOk K mg "BadSize"
  x_NoWay : ExnOk K mg "NoWay"
  f_Pump_left : FldOk K mg "Pump" "left"
  f_Pump_lift : FldOk K mg "Pump" "lift"
  f_Pump_lifted : FldOk K mg "Pump" "lifted"
  f_Pump_stroke : FldOk K mg "Pump" "stroke"
  f_Pump_strokes : FldOk K mg "Pump" "strokes"
  f_Pump_washer : FldOk K mg "Pump" "washer"
  f_Pump_well : FldOk K mg "Pump" "well"
  told : ToldOk K mg "_law_told" toldT
abbrev s_pump_init : Stmt := inClass (top 10) 0
theorem sc_pump_init : FnScope N_pump_init ["self", "lift", "stroke", "washer"] (defScope s_pump_init) := ⟨rfl, rfl, rfl, by decide +kernel, rfl, by decide +kernel, by decide +kernel⟩
theorem ok_pump_init {P : Program} {w : World} {K : PySem.W.Frag} {mg : Str → Option Value} {base : Heap} {T : List Tb} {f c : Addr} {fd : FuncData} (F : FunC K "__init__" "Pump.__init__" s_pump_init f c fd) (G : Pg K mg) : FnOk P w K mg base (L2.CX P w) 1 f fd ["self", "lift", "stroke", "washer"] (spF K mg T 4 f_pump_init) :=
  fn_okC (N := N_pump_init) (cl := []) (m := m_pump_init) F sc_pump_init (fun A outer s0 H W ci tk => Ss_cons (S_if (Et_cmp (op_lt' ci) (E_blt ci (call_min' ci) (by rfl) (G.b_min) (by rfl) (Ea_cons (E_var ci (i := 1) (by decide +kernel)) (Ea_cons (E_var ci (i := 2) (by decide +kernel)) (Ea_cons (E_var ci (i := 3) (by decide +kernel)) (Ea_nil))))) (E_int)) (Ss_one (S_raise ci tk G.x_BadPlan (by rfl))) (Ss_nil)) (Ss_cons (S_fld G.f_Pump_lift (E_var ci (i := 0) (by decide +kernel)) (E_var ci (i := 1) (by decide +kernel))) (Ss_cons (S_fld G.f_Pump_stroke (E_var ci (i := 0) (by decide +kernel)) (E_var ci (i := 2) (by decide +kernel))) (Ss_cons (S_fld G.f_Pump_washer (E_var ci (i := 0) (by decide +kernel)) (E_var ci (i := 3) (by decide +kernel))) (Ss_cons (S_fld G.f_Pump_left (E_var ci (i := 0) (by decide +kernel)) (E_var ci (i := 3) (by decide +kernel))) (Ss_cons (S_fld G.f_Pump_well (E_var ci (i := 0) (by decide +kernel)) (E_int)) (Ss_cons (S_fld G.f_Pump_lifted (E_var ci (i := 0) (by decide +kernel)) (E_int)) (Ss_one (S_fld G.f_Pump_strokes (E_var ci (i := 0) (by decide +kernel)) (E_int))))))))))
abbrev s_pump_rain : Stmt := inClass (top 10) 1
theorem sc_pump_rain : FnScope N_pump_rain ["self", "much"] (defScope s_pump_rain) := ⟨rfl, rfl, rfl, by decide +kernel, rfl, by decide +kernel, by decide +kernel⟩
theorem ok_pump_rain {P : Program} {w : World} {K : PySem.W.Frag} {mg : Str → Option Value} {base : Heap} {T : List Tb} {f c : Addr} {fd : FuncData} (F : FunC K "rain" "Pump.rain" s_pump_rain f c fd) (G : Pg K mg) : FnOk P w K mg base (L2.CX P w) 1 f fd ["self", "much"] (spF K mg T 2 f_pump_rain) :=
  fn_okC (N := N_pump_rain) (cl := []) (m := m_pump_rain) F sc_pump_rain (fun A outer s0 H W ci tk => Ss_cons (S_if (Et_cmp (op_lt' ci) (E_var ci (i := 1) (by decide +kernel)) (E_int)) (Ss_one (S_raise ci tk G.x_BadSize (by rfl))) (Ss_nil)) (Ss_cons (S_augfld G.f_Pump_well iop_add' (E_var ci (i := 0) (by decide +kernel)) (E_var ci (i := 1) (by decide +kernel))) (Ss_one (S_ret (E_fld G.f_Pump_well (E_var ci (i := 0) (by decide +kernel)))))))
abbrev s_pump_work : Stmt := inClass (top 10) 2
theorem sc_pump_work : FnScope N_pump_work ["self", "strokes", "deep"] (defScope s_pump_work) := ⟨rfl, rfl, rfl, by decide +kernel, rfl, by decide +kernel, by decide +kernel⟩
theorem ok_pump_work {P : Program} {w : World} {K : PySem.W.Frag} {mg : Str → Option Value} {base : Heap} {T : List Tb} {f c : Addr} {fd : FuncData} (F : FunC K "work" "Pump.work" s_pump_work f c fd) (G : Pg K mg) : FnOk P w K mg base (L2.CX P w) 1 f fd ["self", "strokes", "deep"] (spF K mg T 3 f_pump_work) :=
  fn_okC (N := N_pump_work) (cl := []) (m := m_pump_work) F sc_pump_work (fun A outer s0 H W ci tk => Ss_cons (S_if (Ew.t (Ew_or (Et_cmp (op_lt' ci) (E_var ci (i := 1) (by decide +kernel)) (E_int)) (Ew_or1 (Et_cmp (op_lt' ci) (E_var ci (i := 2) (by decide +kernel)) (E_int))))) (Ss_one (S_raise ci tk G.x_BadSize (by rfl))) (Ss_nil)) (Ss_cons (S_if (Et_cmp (op_gt' ci) (E_var ci (i := 2) (by decide +kernel)) (E_fld G.f_Pump_lift (E_var ci (i := 0) (by decide +kernel)))) (Ss_one (S_raise ci tk G.x_NoWay (by rfl))) (Ss_nil)) (Ss_cons (S_set ci (i := 3) (by decide +kernel) (E_int)) (Ss_cons (S_for ci (I_range1 ci (by rfl) (G.b_range) (Ea_cons (E_var ci (i := 1) (by decide +kernel)) (Ea_nil))) (G_name ci (i := 4) (by decide +kernel)) (Ss_cons (S_augfld G.f_Pump_strokes iop_add' (E_var ci (i := 0) (by decide +kernel)) (E_int)) (Ss_one (S_if (Et_cmp (op_gt' ci) (E_fld G.f_Pump_left (E_var ci (i := 0) (by decide +kernel))) (E_int)) (Ss_cons (S_set ci (i := 5) (by decide +kernel) (E_blt ci (call_min' ci) (by rfl) (G.b_min) (by rfl) (Ea_cons (E_fld G.f_Pump_stroke (E_var ci (i := 0) (by decide +kernel))) (Ea_cons (E_fld G.f_Pump_well (E_var ci (i := 0) (by decide +kernel))) (Ea_nil))))) (Ss_cons (S_augfld G.f_Pump_well iop_sub' (E_var ci (i := 0) (by decide +kernel)) (E_var ci (i := 5) (by decide +kernel))) (Ss_cons (S_aug ci (i := 3) (by decide +kernel) iop_add' (E_var ci (i := 5) (by decide +kernel))) (Ss_one (S_augfld G.f_Pump_left iop_sub' (E_var ci (i := 0) (by decide +kernel)) (E_int)))))) (Ss_nil))))) (Ss_cons (S_augfld G.f_Pump_lifted iop_add' (E_var ci (i := 0) (by decide +kernel)) (E_var ci (i := 3) (by decide +kernel))) (Ss_one (S_ret (E_var ci (i := 3) (by decide +kernel)))))))))
abbrev s_pump_new_washer : Stmt := inClass (top 10) 3
theorem sc_pump_new_washer : FnScope N_pump_new_washer ["self"] (defScope s_pump_new_washer) := ⟨rfl, rfl, rfl, by decide +kernel, rfl, by decide +kernel, by decide +kernel⟩
theorem ok_pump_new_washer {P : Program} {w : World} {K : PySem.W.Frag} {mg : Str → Option Value} {base : Heap} {T : List Tb} {f c : Addr} {fd : FuncData} (F : FunC K "new_washer" "Pump.new_washer" s_pump_new_washer f c fd) (G : Pg K mg) : FnOk P w K mg base (L2.CX P w) 1 f fd ["self"] (spF K mg T 1 f_pump_new_washer) :=
  fn_okC (N := N_pump_new_washer) (cl := []) (m := m_pump_new_washer) F sc_pump_new_washer (fun A outer s0 H W ci tk => Ss_cons (S_if (Et_cmp (op_eq' ci) (E_fld G.f_Pump_left (E_var ci (i := 0) (by decide +kernel))) (E_fld G.f_Pump_washer (E_var ci (i := 0) (by decide +kernel)))) (Ss_one (S_raise ci tk G.x_BadDeed (by rfl))) (Ss_nil)) (Ss_cons (S_set ci (i := 1) (by decide +kernel) (E_fld G.f_Pump_left (E_var ci (i := 0) (by decide +kernel)))) (Ss_cons (S_fld G.f_Pump_left (E_var ci (i := 0) (by decide +kernel)) (E_fld G.f_Pump_washer (E_var ci (i := 0) (by decide +kernel)))) (Ss_one (S_ret (E_var ci (i := 1) (by decide +kernel)))))))
abbrev s_pump_strokes_for : Stmt := inClass (top 10) 4
theorem sc_pump_strokes_for : FnScope N_pump_strokes_for ["self", "much"] (defScope s_pump_strokes_for) := ⟨rfl, rfl, rfl, by decide +kernel, rfl, by decide +kernel, by decide +kernel⟩
theorem ok_pump_strokes_for {P : Program} {w : World} {K : PySem.W.Frag} {mg : Str → Option Value} {base : Heap} {T : List Tb} {f c : Addr} {fd : FuncData} (F : FunC K "strokes_for" "Pump.strokes_for" s_pump_strokes_for f c fd) (G : Pg K mg) : FnOk P w K mg base (L2.CX P w) 1 f fd ["self", "much"] (spF K mg T 2 f_pump_strokes_for) :=
  fn_okC (N := N_pump_strokes_for) (cl := []) (m := m_pump_strokes_for) F sc_pump_strokes_for (fun A outer s0 H W ci tk => Ss_cons (S_if (Et_cmp (op_lt' ci) (E_var ci (i := 1) (by decide +kernel)) (E_int)) (Ss_one (S_raise ci tk G.x_BadSize (by rfl))) (Ss_nil)) (Ss_one (S_ret (E_bin op_sub' (E_int) (E_bin op_div' (E_bin op_sub' (E_int) (E_var ci (i := 1) (by decide +kernel))) (E_fld G.f_Pump_stroke (E_var ci (i := 0) (by decide +kernel))))))))
abbrev s_pump_shown : Stmt := inClass (top 10) 5
theorem sc_pump_shown : FnScope N_pump_shown ["self"] (defScope s_pump_shown) := ⟨rfl, rfl, rfl, by decide +kernel, rfl, by decide +kernel, by decide +kernel⟩
theorem ok_pump_shown {P : Program} {w : World} {K : PySem.W.Frag} {mg : Str → Option Value} {base : Heap} {T : List Tb} {f c : Addr} {fd : FuncData} (F : FunC K "shown" "Pump.shown" s_pump_shown f c fd) (G : Pg K mg) : FnOk P w K mg base (L2.CX P w) 1 f fd ["self"] (spF K mg T 1 f_pump_shown) :=
  fn_okC (N := N_pump_shown) (cl := []) (m := m_pump_shown) F sc_pump_shown (fun A outer s0 H W ci tk => Ss_one (S_ret (E_tup (Ea_cons (E_fld G.f_Pump_well (E_var ci (i := 0) (by decide +kernel))) (Ea_cons (E_fld G.f_Pump_lifted (E_var ci (i := 0) (by decide +kernel))) (Ea_cons (E_fld G.f_Pump_strokes (E_var ci (i := 0) (by decide +kernel))) (Ea_cons (E_fld G.f_Pump_left (E_var ci (i := 0) (by decide +kernel))) (Ea_nil))))))))
abbrev s_stages : Stmt := top 11
theorem sc_stages : FnScope N_stages ["high", "lift"] (defScope s_stages) := ⟨rfl, rfl, rfl, by decide +kernel, rfl, by decide +kernel, by decide +kernel⟩
theorem ok_stages {P : Program} {w : World} {K : PySem.W.Frag} {mg : Str → Option Value} {base : Heap} {T : List Tb} {f c : Addr} {fd : FuncData} (F : FunC K "stages" "stages" s_stages f c fd) (G : Pg K mg) : FnOk P w K mg base (L2.CX P w) 1 f fd ["high", "lift"] (spF K mg T 2 f_stages) :=
  fn_okC (N := N_stages) (cl := []) (m := m_stages) F sc_stages (fun A outer s0 H W ci tk => Ss_cons (S_if (Ew.t (Ew_or (Et_cmp (op_lt' ci) (E_var ci (i := 0) (by decide +kernel)) (E_int)) (Ew_or1 (Et_cmp (op_lt' ci) (E_var ci (i := 1) (by decide +kernel)) (E_int))))) (Ss_one (S_raise ci tk G.x_BadSize (by rfl))) (Ss_nil)) (Ss_one (S_ret (E_bty ci call_tuple' (by rfl) (G.b_tuple) (by rfl) (Ea_cons (E_listRg ci (by rfl) (G.b_list) (by rfl) (G.b_range) (Ea_cons (E_int) (Ea_cons (E_var ci (i := 0) (by decide +kernel)) (Ea_cons (E_var ci (i := 1) (by decide +kernel)) (Ea_nil))))) (Ea_nil))))))
abbrev s_row_gives : Stmt := top 12
theorem sc_row_gives : FnScope N_row_gives ["pumps"] (defScope s_row_gives) := ⟨rfl, rfl, rfl, by decide +kernel, rfl, by decide +kernel, by decide +kernel⟩
theorem ok_row_gives {P : Program} {w : World} {K : PySem.W.Frag} {mg : Str → Option Value} {base : Heap} {T : List Tb} {f c : Addr} {fd : FuncData} (F : FunC K "row_gives" "row_gives" s_row_gives f c fd) (G : Pg K mg) : FnOk P w K mg base (L2.CX P w) 1 f fd ["pumps"] (spF K mg T 1 f_row_gives) :=
  fn_okC (N := N_row_gives) (cl := []) (m := m_row_gives) F sc_row_gives (fun A outer s0 H W ci tk => Ss_one (S_ret (E_bltK ci (callk_min' ci) (by rfl) (G.b_min) (by rfl) (Ea_cons (E_var ci (i := 0) (by decide +kernel)) (Ea_nil)) (E_int))))
abbrev s_shifts : Stmt := top 15
theorem sc_shifts : FnScope N_shifts ["hours", "hands", "each"] (defScope s_shifts) := ⟨rfl, rfl, rfl, by decide +kernel, rfl, by decide +kernel, by decide +kernel⟩
theorem ok_shifts {P : Program} {w : World} {K : PySem.W.Frag} {mg : Str → Option Value} {base : Heap} {T : List Tb} {f c : Addr} {fd : FuncData} (F : FunC K "shifts" "shifts" s_shifts f c fd) (G : Pg K mg) : FnOk P w K mg base (L2.CX P w) 1 f fd ["hours", "hands", "each"] (spF K mg T 3 f_shifts) :=
  fn_okC (N := N_shifts) (cl := ["each", "names"]) (m := m_shifts) F sc_shifts (fun A outer s0 H W ci tk => Ss_cons (S_if (Ew.t (Ew_or (Et_cmp (op_lt' ci) (E_var ci (i := 0) (by decide +kernel)) (E_int)) (Ew_or1 (Et_cmp (op_lt' ci) (E_var ci (i := 2) (by decide +kernel)) (E_int))))) (Ss_one (S_raise ci tk G.x_BadSize (by rfl))) (Ss_nil)) (Ss_cons (S_set ci (i := 3) (by decide +kernel) (E_blt ci (call_sorted' ci) (by rfl) (G.b_sorted) (by rfl) (Ea_cons (E_var ci (i := 1) (by decide +kernel)) (Ea_nil)))) (Ss_cons (S_if (Et_cmp (op_eq' ci) (E_var ci (i := 3) (by decide +kernel)) (E_lst (Ea_nil))) (Ss_one (S_raise ci tk G.x_BadPlan (by rfl))) (Ss_nil)) (Ss_one (S_ret (E_bty ci call_tuple' (by rfl) (G.b_tuple) (by rfl) (Ea_cons (E_comp ci (own := [("hour", 4)]) (by decide +kernel) (by decide) (I_range1 ci (by rfl) (G.b_range) (Ea_cons (E_var ci (i := 0) (by decide +kernel)) (Ea_nil))) (fun _ _ _ _ _ ci => G_name ci (i := 4) (by decide +kernel)) (fun _ _ _ _ _ ci => Ets_nil) (fun _ _ _ _ _ ci => E_ix ix' (E_var ci (i := 3) (by decide +kernel)) (E_bin op_mod' (E_bin op_div' (E_var ci (i := 4) (by decide +kernel)) (E_var ci (i := 2) (by decide +kernel))) (E_blt ci call_len' (by rfl) (G.b_len) (by rfl) (Ea_cons (E_var ci (i := 3) (by decide +kernel)) (Ea_nil)))))) (Ea_nil))))))))
abbrev s_law_flat : Stmt := top 19
theorem sc_law_flat : FnScope N_law_flat ["rows"] (defScope s_law_flat) := ⟨rfl, rfl, rfl, by decide +kernel, rfl, by decide +kernel, by decide +kernel⟩
theorem ok_law_flat {P : Program} {w : World} {K : PySem.W.Frag} {mg : Str → Option Value} {base : Heap} {T : List Tb} {f c : Addr} {fd : FuncData} (F : FunC K "_law_flat" "_law_flat" s_law_flat f c fd) (G : Pg K mg) : FnOk P w K mg base (L2.CX P w) 1 f fd ["rows"] (spF K mg T 1 f_law_flat) :=
  fn_okC (N := N_law_flat) (cl := []) (m := m_law_flat) F sc_law_flat (fun A outer s0 H W ci tk => Ss_cons (S_set ci (i := 1) (by decide +kernel) (E_lst (Ea_nil))) (Ss_cons (S_for ci (I_seq (E_var ci (i := 0) (by decide +kernel))) (G_name ci (i := 2) (by decide +kernel)) (Ss_one (S_set ci (i := 1) (by decide +kernel) (E_bin op_add' (E_var ci (i := 1) (by decide +kernel)) (E_var ci (i := 2) (by decide +kernel)))))) (Ss_one (S_ret (E_var ci (i := 1) (by decide +kernel))))))
abbrev s_law_dice : Stmt := top 20
theorem sc_law_dice : FnScope N_law_dice ["cell"] (defScope s_law_dice) := ⟨rfl, rfl, rfl, by decide +kernel, rfl, by decide +kernel, by decide +kernel⟩
theorem ok_law_dice {P : Program} {w : World} {K : PySem.W.Frag} {mg : Str → Option Value} {base : Heap} {T : List Tb} {f c : Addr} {fd : FuncData} (F : FunC K "_law_dice" "_law_dice" s_law_dice f c fd) (G : Pg K mg) : FnOk P w K mg base (L2.CX P w) 1 f fd ["cell"] (spF K mg T 1 f_law_dice) :=
  fn_okB (N := N_law_dice) (cl := []) (m := m_law_dice) F sc_law_dice (fun A outer s0 H W ci tk => Ss_cons (S_if (Et_chain (op_lt' ci) (op_lt' ci) (E_bin op_sub' (E_int) (E_int)) (E_var ci (i := 0) (by decide +kernel)) (E_int)) (Ss_one (S_ret (E_ownL (Ea_cons (E_blt ci call_abs' (by rfl) (G.b_abs) (by rfl) (Ea_cons (E_var ci (i := 0) (by decide +kernel)) (Ea_nil))) (Ea_cons (E_int) (Ea_cons (E_int) (Ea_nil))))))) (Ss_nil)) (Ss_one (S_ret (E_ownL (Ea_cons (E_var ci (i := 0) (by decide +kernel)) (Ea_cons (E_bin op_add' (E_int) (E_bin op_mod' (E_bty ci call_int' (by rfl) (G.b_int) (by rfl) (Ea_cons (E_var ci (i := 0) (by decide +kernel)) (Ea_nil))) (E_int))) (Ea_cons (E_bty ci call_int' (by rfl) (G.b_int) (by rfl) (Ea_cons (E_cmp (op_ge' ci) (E_var ci (i := 0) (by decide +kernel)) (E_bin op_pow' (E_int) (E_int))) (Ea_nil))) (Ea_nil))))))))
abbrev s_law_roll : Stmt := top 21
theorem sc_law_roll : FnScope N_law_roll ["dice", "many"] (defScope s_law_roll) := ⟨rfl, rfl, rfl, by decide +kernel, rfl, by decide +kernel, by decide +kernel⟩
theorem ok_law_roll {P : Program} {w : World} {K : PySem.W.Frag} {mg : Str → Option Value} {base : Heap} {T : List Tb} {f c : Addr} {fd : FuncData} (F : FunC K "_law_roll" "_law_roll" s_law_roll f c fd) (G : Pg K mg) : FnOk P w K mg base (L2.CX P w) 1 f fd ["dice", "many"] (spF K mg T 2 f_law_roll) :=
  fn_okC (N := N_law_roll) (cl := []) (m := m_law_roll) F sc_law_roll (fun A outer s0 H W ci tk => Ss_cons (S_if (Ew.t (Ew_or (Et_cmp (op_eq' ci) (E_ix ix' (E_var ci (i := 0) (by decide +kernel)) (E_int)) (E_int)) (Ew_or1 (Ew.t (Ew_and (Et_cmp (op_eq' ci) (E_ix ix' (E_var ci (i := 0) (by decide +kernel)) (E_int)) (E_int)) (Ew_and1 (Et_cmp (op_gt' ci) (E_ix ix' (E_var ci (i := 0) (by decide +kernel)) (E_int)) (E_int)))))))) (Ss_cons (S_set ci (i := 2) (by decide +kernel) (E_bin op_mod' (E_bty ci call_int' (by rfl) (G.b_int) (by rfl) (Ea_cons (E_ix ix' (E_var ci (i := 0) (by decide +kernel)) (E_int)) (Ea_nil))) (E_var ci (i := 1) (by decide +kernel)))) (Ss_cons (S_setix (E_bin op_div' (E_ix ix' (E_var ci (i := 0) (by decide +kernel)) (E_int)) (E_var ci (i := 1) (by decide +kernel))) (E_var ci (i := 0) (by decide +kernel)) (E_int)) (Ss_one (S_ret (E_var ci (i := 2) (by decide +kernel)))))) (Ss_nil)) (Ss_cons (S_setix (E_int) (E_var ci (i := 0) (by decide +kernel)) (E_int)) (Ss_cons (S_setix (E_bin op_mod' (E_bty ci call_int' (by rfl) (G.b_int) (by rfl) (Ea_cons (E_bin op_add' (E_bin op_add' (E_bin op_mul' (E_ix ix' (E_var ci (i := 0) (by decide +kernel)) (E_int)) (E_int)) (E_bin op_mul' (E_ix ix' (E_var ci (i := 0) (by decide +kernel)) (E_int)) (E_int))) (E_int)) (Ea_nil))) (E_int)) (E_var ci (i := 0) (by decide +kernel)) (E_int)) (Ss_cons (S_setix (E_bin op_add' (E_ix ix' (E_var ci (i := 0) (by decide +kernel)) (E_int)) (E_int)) (E_var ci (i := 0) (by decide +kernel)) (E_int)) (Ss_one (S_ret (E_bin op_mod' (E_bty ci call_int' (by rfl) (G.b_int) (by rfl) (Ea_cons (E_bin op_add' (E_bin op_div' (E_ix ix' (E_var ci (i := 0) (by decide +kernel)) (E_int)) (E_int)) (E_ix ix' (E_var ci (i := 0) (by decide +kernel)) (E_int))) (Ea_nil))) (E_var ci (i := 1) (by decide +kernel)))))))))
abbrev s_shaft_dry : Stmt := top 13
theorem sc_shaft_dry : FnScope N_shaft_dry ["water", "inflow", "pumps", "most"] (defScope s_shaft_dry) := ⟨rfl, rfl, rfl, by decide +kernel, rfl, by decide +kernel, by decide +kernel⟩
theorem ok_shaft_dry {P : Program} {w : World} {K : PySem.W.Frag} {mg : Str → Option Value} {base : Heap} {T : List Tb} {f c P_ : Addr} {fd : FuncData} (F : FunC K "shaft_dry" "shaft_dry" s_shaft_dry f c fd) (G : Pg K mg) (hh : HomeOk base mg T c ⟨P_, nm_shaft_dry⟩) : FnOk P w K mg base (L2.CX P w) 2 f fd ["water", "inflow", "pumps", "most"] (spF K mg T 4 f_shaft_dry) :=
  fn_okC (N := N_shaft_dry) (cl := []) (m := m_shaft_dry) F sc_shaft_dry (fun A outer s0 H W ci tk => have ho := hh.home; Ss_cons (S_if (Ew.t (Ew_or (Et_cmp (op_lt' ci) (E_blt ci (call_min' ci) (by rfl) (G.b_min) (by rfl) (Ea_cons (E_var ci (i := 0) (by decide +kernel)) (Ea_cons (E_var ci (i := 1) (by decide +kernel)) (Ea_cons (E_var ci (i := 3) (by decide +kernel)) (Ea_nil))))) (E_int)) (Ew_or1 (Et_val (E_anyG (own := [5]) ci ho (by rfl) (by rfl) (G.b_any) (by rfl) (by decide +kernel) (by decide) (I_seq (E_var ci (i := 2) (by decide +kernel))) (fun _ _ _ _ ci => G_name ci (i := 5) (by decide +kernel)) (fun _ _ _ _ ci => Ets_nil) (fun _ _ _ _ ci => E_cmp (op_lt' ci) (E_var ci (i := 5) (by decide +kernel)) (E_int))))))) (Ss_one (S_raise ci tk G.x_BadSize (by rfl))) (Ss_nil)) (Ss_cons (S_set ci (i := 4) (by decide +kernel) (E_int)) (Ss_cons (S_while ci (Et_cmp (op_gt' ci) (E_var ci (i := 0) (by decide +kernel)) (E_int)) (Ss_cons (S_if (Et_cmp (op_eq' ci) (E_var ci (i := 4) (by decide +kernel)) (E_var ci (i := 3) (by decide +kernel))) (Ss_one (S_raise ci tk G.x_NoWay (by rfl))) (Ss_nil)) (Ss_cons (S_set ci (i := 0) (by decide +kernel) (E_blt ci (call_max' ci) (by rfl) (G.b_max) (by rfl) (Ea_cons (E_int) (Ea_cons (E_bin op_sub' (E_bin op_add' (E_var ci (i := 0) (by decide +kernel)) (E_var ci (i := 1) (by decide +kernel))) (E_blt ci (call_sum' ci) (by rfl) (G.b_sum) (by rfl) (Ea_cons (E_var ci (i := 2) (by decide +kernel)) (Ea_nil)))) (Ea_nil))))) (Ss_one (S_aug ci (i := 4) (by decide +kernel) iop_add' (E_int)))))) (Ss_one (S_ret (E_var ci (i := 4) (by decide +kernel)))))))
abbrev s_fewest_pumps : Stmt := top 14
theorem sc_fewest_pumps : FnScope N_fewest_pumps ["pumps", "need"] (defScope s_fewest_pumps) := ⟨rfl, rfl, rfl, by decide +kernel, rfl, by decide +kernel, by decide +kernel⟩
theorem ok_fewest_pumps {P : Program} {w : World} {K : PySem.W.Frag} {mg : Str → Option Value} {base : Heap} {T : List Tb} {f c P_ : Addr} {fd : FuncData} (F : FunC K "fewest_pumps" "fewest_pumps" s_fewest_pumps f c fd) (G : Pg K mg) (hh : HomeOk base mg T c ⟨P_, nm_fewest_pumps⟩) : FnOk P w K mg base (L2.CX P w) 2 f fd ["pumps", "need"] (spF K mg T 2 f_fewest_pumps) :=
  fn_okC (N := N_fewest_pumps) (cl := ["pumps"]) (m := m_fewest_pumps) F sc_fewest_pumps (fun A outer s0 H W ci tk => have ho := hh.home; Ss_cons (S_if (Ew.t (Ew_or (Et_cmp (op_lt' ci) (E_var ci (i := 1) (by decide +kernel)) (E_int)) (Ew_or1 (Et_val (E_anyG (own := [5]) ci ho (by rfl) (by rfl) (G.b_any) (by rfl) (by decide +kernel) (by decide) (I_seq (E_var ci (i := 0) (by decide +kernel))) (fun _ _ _ _ ci => G_name ci (i := 5) (by decide +kernel)) (fun _ _ _ _ ci => Ets_nil) (fun _ _ _ _ ci => E_cmp (op_lt' ci) (E_var ci (i := 5) (by decide +kernel)) (E_int))))))) (Ss_one (S_raise ci tk G.x_BadSize (by rfl))) (Ss_nil)) (Ss_cons (S_par2 ci (i := 2) (j := 3) (by decide +kernel) (by decide +kernel) (by decide) (by rfl) (by rfl) (Ea_cons (E_ownL (Ea_nil)) (Ea_cons (E_int) (Ea_nil))) (by rfl)) (Ss_cons (S_for ci (I_seq (E_sortK (y := "one") (pi := 6) ci ho (by rfl) (by rfl) G.b_sorted (by rfl) (by decide +kernel) (by rfl) (fun _ _ _ _ _ _ => rfl) (Ea_cons (E_listRg ci (by rfl) (G.b_list) (by rfl) (G.b_range) (Ea_cons (E_blt ci call_len' (by rfl) (G.b_len) (by rfl) (Ea_cons (E_var ci (i := 0) (by decide +kernel)) (Ea_nil))) (Ea_nil))) (Ea_nil)) (fun _ _ _ _ ci => E_tup (Ea_cons (E_bin op_sub' (E_int) (E_ix ix' (E_var ci (i := 0) (by decide +kernel)) (E_var ci (i := 6) (by decide +kernel)))) (Ea_cons (E_var ci (i := 6) (by decide +kernel)) (Ea_nil)))))) (G_name ci (i := 4) (by decide +kernel)) (Ss_cons (S_if (Et_cmp (op_ge' ci) (E_var ci (i := 3) (by decide +kernel)) (E_var ci (i := 1) (by decide +kernel))) (Ss_one (S_break)) (Ss_nil)) (Ss_cons (S_expr (E_append (E_var ci (i := 2) (by decide +kernel)) (E_var ci (i := 4) (by decide +kernel)))) (Ss_one (S_aug ci (i := 3) (by decide +kernel) iop_add' (E_ix ix' (E_var ci (i := 0) (by decide +kernel)) (E_var ci (i := 4) (by decide +kernel)))))))) (Ss_cons (S_if (Et_cmp (op_lt' ci) (E_var ci (i := 3) (by decide +kernel)) (E_var ci (i := 1) (by decide +kernel))) (Ss_one (S_raise ci tk G.x_NoWay (by rfl))) (Ss_nil)) (Ss_one (S_ret (E_bty ci call_tuple' (by rfl) (G.b_tuple) (by rfl) (Ea_cons (E_blt ci (call_sorted' ci) (by rfl) (G.b_sorted) (by rfl) (Ea_cons (E_var ci (i := 2) (by decide +kernel)) (Ea_nil))) (Ea_nil)))))))))
abbrev s_wheel_pumps : Stmt := top 16
theorem sc_wheel_pumps : FnScope N_wheel_pumps ["teeth", "turns"] (defScope s_wheel_pumps) := ⟨rfl, rfl, rfl, by decide +kernel, rfl, by decide +kernel, by decide +kernel⟩
theorem ok_wheel_pumps {P : Program} {w : World} {K : PySem.W.Frag} {mg : Str → Option Value} {base : Heap} {T : List Tb} {f c P_ : Addr} {fd : FuncData} (F : FunC K "wheel_pumps" "wheel_pumps" s_wheel_pumps f c fd) (G : Pg K mg) (hh : HomeOk base mg T c ⟨P_, nm_wheel_pumps⟩) : FnOk P w K mg base (L2.CX P w) 2 f fd ["teeth", "turns"] (spF K mg T 2 f_wheel_pumps) :=
  fn_okC (N := N_wheel_pumps) (cl := ["turns", "wheel"]) (m := m_wheel_pumps) F sc_wheel_pumps (fun A outer s0 H W ci tk => have ho := hh.home; Ss_cons (S_unp (G_tup ci (Gs_cons (G_name ci (i := 2) (by decide +kernel)) (Gs_cons (G_name ci (i := 3) (by decide +kernel)) (Gs_nil)))) (E_var ci (i := 0) (by decide +kernel))) (Ss_cons (S_if (Ew.t (Ew_or (Et_cmp (op_lt' ci) (E_var ci (i := 2) (by decide +kernel)) (E_int)) (Ew_or (Et_cmp (op_lt' ci) (E_var ci (i := 1) (by decide +kernel)) (E_int)) (Ew_or1 (Et_val (E_anyG (own := [4]) ci ho (by rfl) (by rfl) (G.b_any) (by rfl) (by decide +kernel) (by decide) (I_seq (E_var ci (i := 3) (by decide +kernel))) (fun _ _ _ _ ci => G_name ci (i := 4) (by decide +kernel)) (fun _ _ _ _ ci => Ets_nil) (fun _ _ _ _ ci => E_cmp (op_lt' ci) (E_var ci (i := 4) (by decide +kernel)) (E_int)))))))) (Ss_one (S_raise ci tk G.x_BadSize (by rfl))) (Ss_nil)) (Ss_one (S_ret (E_bty ci call_tuple' (by rfl) (G.b_tuple) (by rfl) (Ea_cons (E_comp ci (own := [("tooth", 4)]) (by decide +kernel) (by decide) (I_seq (E_var ci (i := 3) (by decide +kernel))) (fun _ _ _ _ _ ci => G_name ci (i := 4) (by decide +kernel)) (fun _ _ _ _ _ ci => Ets_nil) (fun _ _ _ _ _ ci => E_bin op_div' (E_bin op_mul' (E_var ci (i := 2) (by decide +kernel)) (E_var ci (i := 1) (by decide +kernel))) (E_var ci (i := 4) (by decide +kernel)))) (Ea_nil)))))))
abbrev s_primed : Stmt := top 17
theorem sc_primed : FnScope N_primed ["pours", "leaks", "need"] (defScope s_primed) := ⟨rfl, rfl, rfl, by decide +kernel, rfl, by decide +kernel, by decide +kernel⟩
theorem ok_primed {P : Program} {w : World} {K : PySem.W.Frag} {mg : Str → Option Value} {base : Heap} {T : List Tb} {f c P_ : Addr} {fd : FuncData} (F : FunC K "primed" "primed" s_primed f c fd) (G : Pg K mg) (hh : HomeOk base mg T c ⟨P_, nm_primed⟩) : FnOk P w K mg base (L2.CX P w) 2 f fd ["pours", "leaks", "need"] (spF K mg T 3 f_primed) :=
  fn_okC (N := N_primed) (cl := []) (m := m_primed) F sc_primed (fun A outer s0 H W ci tk => have ho := hh.home; Ss_cons (S_if (Ew.t (Ew_or (Et_cmp (op_lt' ci) (E_var ci (i := 1) (by decide +kernel)) (E_int)) (Ew_or (Et_cmp (op_lt' ci) (E_var ci (i := 2) (by decide +kernel)) (E_int)) (Ew_or1 (Et_val (E_anyG (own := [5]) ci ho (by rfl) (by rfl) (G.b_any) (by rfl) (by decide +kernel) (by decide) (I_seq (E_var ci (i := 0) (by decide +kernel))) (fun _ _ _ _ ci => G_name ci (i := 5) (by decide +kernel)) (fun _ _ _ _ ci => Ets_nil) (fun _ _ _ _ ci => E_cmp (op_lt' ci) (E_var ci (i := 5) (by decide +kernel)) (E_int)))))))) (Ss_one (S_raise ci tk G.x_BadSize (by rfl))) (Ss_nil)) (Ss_cons (S_set ci (i := 3) (by decide +kernel) (E_int)) (Ss_cons (S_for ci (I_enum ci (by rfl) (G.b_enumerate) (Ea_cons (E_var ci (i := 0) (by decide +kernel)) (Ea_nil))) (G_tup ci (Gs_cons (G_name ci (i := 4) (by decide +kernel)) (Gs_cons (G_name ci (i := 5) (by decide +kernel)) (Gs_nil)))) (Ss_cons (S_set ci (i := 3) (by decide +kernel) (E_bin op_add' (E_blt ci (call_max' ci) (by rfl) (G.b_max) (by rfl) (Ea_cons (E_int) (Ea_cons (E_bin op_sub' (E_var ci (i := 3) (by decide +kernel)) (E_var ci (i := 1) (by decide +kernel))) (Ea_nil)))) (E_var ci (i := 5) (by decide +kernel)))) (Ss_one (S_if (Et_cmp (op_ge' ci) (E_var ci (i := 3) (by decide +kernel)) (E_var ci (i := 2) (by decide +kernel))) (Ss_one (S_ret (E_var ci (i := 4) (by decide +kernel)))) (Ss_nil))))) (Ss_one (S_raise ci tk G.x_NoWay (by rfl))))))
abbrev s_law_cases1 : Stmt := top 24
theorem sc_law_cases1 : FnScope N_law_cases1 [] (defScope s_law_cases1) := ⟨rfl, rfl, rfl, by decide +kernel, rfl, by decide +kernel, by decide +kernel⟩
theorem ok_law_cases1 {P : Program} {w : World} {K : PySem.W.Frag} {mg : Str → Option Value} {base : Heap} {T : List Tb} {f c P_ : Addr} {fd : FuncData} (F : FunC K "_law_cases1" "_law_cases1" s_law_cases1 f c fd) (G : Pg K mg) (hh : HomeOk base mg T c ⟨P_, nm_law_cases1⟩) (c_primed : CallOk P w K mg base T "primed" 3 f_primed 2) (c_wheel_pumps : CallOk P w K mg base T "wheel_pumps" 2 f_wheel_pumps 2) (c_shifts : CallOk P w K mg base T "shifts" 3 f_shifts 1) (c_fewest_pumps : CallOk P w K mg base T "fewest_pumps" 2 f_fewest_pumps 2) (c_shaft_dry : CallOk P w K mg base T "shaft_dry" 4 f_shaft_dry 2) : FnOk P w K mg base (L2.CX P w) 6 f fd [] (spF K mg T 0 f_law_cases1) :=
  fn_okC (N := N_law_cases1) (cl := []) (m := m_law_cases1) F sc_law_cases1 (fun A outer s0 H W ci tk => have ho := hh.home; Ss_cons (S_if (Et_cmp (op_ne' ci) (E_told ci ho G.told (by rfl) (by rfl) (by decide +kernel) (by rfl) (fun _ _ _ _ _ => rfl) (fun _ _ _ _ _ _ _ ci tk => E_call ci tk c_shaft_dry (by omega) (by rfl) (len_cons (len_cons (len_cons (len_cons len_nil)))) (Ea_cons (E_int) (Ea_cons (E_int) (Ea_cons (E_lst (Ea_cons (E_bin op_sub' (E_int) (E_int)) (Ea_nil))) (Ea_cons (E_int) (Ea_nil))))))) (E_str)) (Ss_one (S_ret (E_bool))) (Ss_nil)) (Ss_cons (S_if (Et_cmp (op_ne' ci) (E_told ci ho G.told (by rfl) (by rfl) (by decide +kernel) (by rfl) (fun _ _ _ _ _ => rfl) (fun _ _ _ _ _ _ _ ci tk => E_call ci tk c_fewest_pumps (by omega) (by rfl) (len_cons (len_cons len_nil)) (Ea_cons (E_lst (Ea_nil)) (Ea_cons (E_bin op_sub' (E_int) (E_int)) (Ea_nil))))) (E_str)) (Ss_one (S_ret (E_bool))) (Ss_nil)) (Ss_cons (S_if (Et_cmp (op_ne' ci) (E_told ci ho G.told (by rfl) (by rfl) (by decide +kernel) (by rfl) (fun _ _ _ _ _ => rfl) (fun _ _ _ _ _ _ _ ci tk => E_call ci tk c_shifts (by omega) (by rfl) (len_cons (len_cons (len_cons len_nil))) (Ea_cons (E_int) (Ea_cons (E_lst (Ea_nil)) (Ea_cons (E_int) (Ea_nil)))))) (E_str)) (Ss_one (S_ret (E_bool))) (Ss_nil)) (Ss_cons (S_if (Et_cmp (op_ne' ci) (E_told ci ho G.told (by rfl) (by rfl) (by decide +kernel) (by rfl) (fun _ _ _ _ _ => rfl) (fun _ _ _ _ _ _ _ ci tk => E_call ci tk c_wheel_pumps (by omega) (by rfl) (len_cons (len_cons len_nil)) (Ea_cons (E_tup (Ea_cons (E_int) (Ea_cons (E_lst (Ea_nil)) (Ea_nil)))) (Ea_cons (E_int) (Ea_nil))))) (E_str)) (Ss_one (S_ret (E_bool))) (Ss_nil)) (Ss_cons (S_if (Et_cmp (op_ne' ci) (E_told ci ho G.told (by rfl) (by rfl) (by decide +kernel) (by rfl) (fun _ _ _ _ _ => rfl) (fun _ _ _ _ _ _ _ ci tk => E_call ci tk c_primed (by omega) (by rfl) (len_cons (len_cons (len_cons len_nil))) (Ea_cons (E_lst (Ea_nil)) (Ea_cons (E_int) (Ea_cons (E_int) (Ea_nil)))))) (E_str)) (Ss_one (S_ret (E_bool))) (Ss_nil)) (Ss_one (S_ret (E_bool))))))))
abbrev s_law_rest1 : Stmt := top 25
theorem sc_law_rest1 : FnScope N_law_rest1 ["dice", "pump", "some"] (defScope s_law_rest1) := ⟨rfl, rfl, rfl, by decide +kernel, rfl, by decide +kernel, by decide +kernel⟩
theorem ok_law_rest1 {P : Program} {w : World} {K : PySem.W.Frag} {mg : Str → Option Value} {base : Heap} {T : List Tb} {f c P_ : Addr} {fd : FuncData} (F : FunC K "_law_rest1" "_law_rest1" s_law_rest1 f c fd) (G : Pg K mg) (hh : HomeOk base mg T c ⟨P_, nm_law_rest1⟩) (c_law_cases1 : CallOk P w K mg base T "_law_cases1" 0 f_law_cases1 6) (c_stages : CallOk P w K mg base T "stages" 2 f_stages 1) (c_pump_strokes_for : MethOk P w K mg base T "Pump" "strokes_for" 1 f_pump_strokes_for 1) (c_pump_init : MakeOk P w K mg base T "Pump" 3 f_pump_init 1) (c_primed : CallOk P w K mg base T "primed" 3 f_primed 2) (c_law_roll : CallOk P w K mg base T "_law_roll" 2 f_law_roll 1) (c_wheel_pumps : CallOk P w K mg base T "wheel_pumps" 2 f_wheel_pumps 2) (c_shifts : CallOk P w K mg base T "shifts" 3 f_shifts 1) (c_law_flat : CallOk P w K mg base T "_law_flat" 1 f_law_flat 1) (c_fewest_pumps : CallOk P w K mg base T "fewest_pumps" 2 f_fewest_pumps 2) : FnOk P w K mg base (L2.CX P w) 7 f fd ["dice", "pump", "some"] (spF K mg T 3 f_law_rest1) :=
  fn_okC (N := N_law_rest1) (cl := ["dice", "pump", "some", "order", "wheel", "turns", "each", "goal", "hands", "hours", "leaks", "pours", "want"]) (m := m_law_rest1) F sc_law_rest1 (fun A outer s0 H W ci tk => have ho := hh.home; Ss_cons (S_set ci (i := 19) (by decide +kernel) (E_call ci tk c_law_roll (by omega) (by rfl) (len_cons (len_cons len_nil)) (Ea_cons (E_var ci (i := 0) (by decide +kernel)) (Ea_cons (E_int) (Ea_nil))))) (Ss_cons (S_set ci (i := 4) (by decide +kernel) (E_comp ci (own := [("worth", 20), ("k", 3)]) (by decide +kernel) (by decide) (I_seq (E_blt ci (call_sorted' ci) (by rfl) (G.b_sorted) (by rfl) (Ea_cons (E_comp ci (own := [("k", 3)]) (by decide +kernel) (by decide) (I_range1 ci (by rfl) (G.b_range) (Ea_cons (E_blt ci call_len' (by rfl) (G.b_len) (by rfl) (Ea_cons (E_var ci (i := 2) (by decide +kernel)) (Ea_nil))) (Ea_nil))) (fun _ _ _ _ _ ci => G_name ci (i := 3) (by decide +kernel)) (fun _ _ _ _ _ ci => Ets_nil) (fun _ _ _ _ _ ci => E_tup (Ea_cons (E_bin op_sub' (E_int) (E_ix ix' (E_var ci (i := 2) (by decide +kernel)) (E_var ci (i := 3) (by decide +kernel)))) (Ea_cons (E_var ci (i := 3) (by decide +kernel)) (Ea_nil))))) (Ea_nil)))) (fun _ _ _ _ _ ci => G_tup ci (Gs_cons (G_name ci (i := 20) (by decide +kernel)) (Gs_cons (G_name ci (i := 3) (by decide +kernel)) (Gs_nil)))) (fun _ _ _ _ _ ci => Ets_nil) (fun _ _ _ _ _ ci => E_var ci (i := 3) (by decide +kernel)))) (Ss_cons (S_comp ci (i := 5) (by decide +kernel) (by rfl) (by rfl) (own := [("k", 3)]) (by decide +kernel) (by decide) (I_range1 ci (by rfl) (G.b_range) (Ea_cons (E_bin op_add' (E_blt ci call_len' (by rfl) (G.b_len) (by rfl) (Ea_cons (E_var ci (i := 4) (by decide +kernel)) (Ea_nil))) (E_int)) (Ea_nil))) (fun _ _ _ _ _ ci => G_name ci (i := 3) (by decide +kernel)) (fun _ _ _ _ _ ci => Ets_one (Et_cmp (op_ge' ci) (E_blt ci (call_sum' ci) (by rfl) (G.b_sum) (by rfl) (Ea_cons (E_comp ci (own := [("j", 21)]) (by decide +kernel) (by decide) (I_seq (E_sl (E_var ci (i := 4) (by decide +kernel)) .none (.some (E_var ci (i := 3) (by decide +kernel))))) (fun _ _ _ _ _ ci => G_name ci (i := 21) (by decide +kernel)) (fun _ _ _ _ _ ci => Ets_nil) (fun _ _ _ _ _ ci => E_ix ix' (E_var ci (i := 2) (by decide +kernel)) (E_var ci (i := 21) (by decide +kernel)))) (Ea_nil))) (E_var ci (i := 19) (by decide +kernel)))) (fun _ _ _ _ _ ci => E_var ci (i := 3) (by decide +kernel))) (Ss_cons (S_if (Et_cmp (op_ne' ci) (E_told ci ho G.told (by rfl) (by rfl) (by decide +kernel) (by rfl) (fun _ _ _ _ _ => rfl) (fun _ _ _ _ _ _ _ ci tk => E_bty ci call_list' (by rfl) (G.b_list) (by rfl) (Ea_cons (E_call ci tk c_fewest_pumps (by omega) (by rfl) (len_cons (len_cons len_nil)) (Ea_cons (E_var ci (i := 2) (by decide +kernel)) (Ea_cons (E_var ci (i := 19) (by decide +kernel)) (Ea_nil)))) (Ea_nil)))) (E_if (Et_cmp (op_ne' ci) (E_var ci (i := 5) (by decide +kernel)) (E_lst (Ea_nil))) (E_blt ci (call_sorted' ci) (by rfl) (G.b_sorted) (by rfl) (Ea_cons (E_sl (E_var ci (i := 4) (by decide +kernel)) .none (.some (E_ix ix' (E_var ci (i := 5) (by decide +kernel)) (E_int)))) (Ea_nil))) (E_str))) (Ss_one (S_ret (E_bool))) (Ss_nil)) (Ss_cons (S_parT ci (Gn_cons ci (i := 15) (by decide +kernel) (Gn_cons ci (i := 16) (by decide +kernel) (Gn_cons ci (i := 13) (by decide +kernel) (Gn_nil)))) (Ea_cons (E_sl (E_lst (Ea_cons (E_str) (Ea_cons (E_str) (Ea_cons (E_str) (Ea_nil))))) .none (.some (E_call ci tk c_law_roll (by omega) (by rfl) (len_cons (len_cons len_nil)) (Ea_cons (E_var ci (i := 0) (by decide +kernel)) (Ea_cons (E_int) (Ea_nil)))))) (Ea_cons (E_call ci tk c_law_roll (by omega) (by rfl) (len_cons (len_cons len_nil)) (Ea_cons (E_var ci (i := 0) (by decide +kernel)) (Ea_cons (E_int) (Ea_nil)))) (Ea_cons (E_bin op_add' (E_int) (E_call ci tk c_law_roll (by omega) (by rfl) (len_cons (len_cons len_nil)) (Ea_cons (E_var ci (i := 0) (by decide +kernel)) (Ea_cons (E_int) (Ea_nil))))) (Ea_nil)))) (hw := by rfl)) (Ss_cons (S_set ci (i := 6) (by decide +kernel) (E_lst (Ea_nil))) (Ss_cons (S_for ci (I_range1 ci (by rfl) (G.b_range) (Ea_cons (E_int) (Ea_nil))) (G_name ci (i := 7) (by decide +kernel)) (Ss_one (S_set ci (i := 6) (by decide +kernel) (E_bin op_add' (E_var ci (i := 6) (by decide +kernel)) (E_call ci tk c_law_flat (by omega) (by rfl) (len_cons len_nil) (Ea_cons (E_comp ci (own := [("name", 22)]) (by decide +kernel) (by decide) (I_seq (E_blt ci (call_sorted' ci) (by rfl) (G.b_sorted) (by rfl) (Ea_cons (E_var ci (i := 15) (by decide +kernel)) (Ea_nil)))) (fun _ _ _ _ _ ci => G_name ci (i := 22) (by decide +kernel)) (fun _ _ _ _ _ ci => Ets_nil) (fun _ _ _ _ _ ci => E_comp ci (own := [("hour", 23)]) (by decide +kernel) (by decide) (I_range1 ci (by rfl) (G.b_range) (Ea_cons (E_var ci (i := 13) (by decide +kernel)) (Ea_nil))) (fun _ _ _ _ _ ci => G_name ci (i := 23) (by decide +kernel)) (fun _ _ _ _ _ ci => Ets_nil) (fun _ _ _ _ _ ci => E_var ci (i := 22) (by decide +kernel)))) (Ea_nil))))))) (Ss_cons (S_if (Et_cmp (op_ne' ci) (E_told ci ho G.told (by rfl) (by rfl) (by decide +kernel) (by rfl) (fun _ _ _ _ _ => rfl) (fun _ _ _ _ _ _ _ ci tk => E_bty ci call_list' (by rfl) (G.b_list) (by rfl) (Ea_cons (E_call ci tk c_shifts (by omega) (by rfl) (len_cons (len_cons (len_cons len_nil))) (Ea_cons (E_var ci (i := 16) (by decide +kernel)) (Ea_cons (E_var ci (i := 15) (by decide +kernel)) (Ea_cons (E_var ci (i := 13) (by decide +kernel)) (Ea_nil))))) (Ea_nil)))) (E_if (Et_cmp (op_ne' ci) (E_var ci (i := 15) (by decide +kernel)) (E_lst (Ea_nil))) (E_sl (E_var ci (i := 6) (by decide +kernel)) .none (.some (E_var ci (i := 16) (by decide +kernel)))) (E_str))) (Ss_one (S_ret (E_bool))) (Ss_nil)) (Ss_cons (S_parT ci (Gn_cons ci (i := 8) (by decide +kernel) (Gn_cons ci (i := 9) (by decide +kernel) (Gn_cons ci (i := 10) (by decide +kernel) (Gn_nil)))) (Ea_cons (E_bin op_add' (E_int) (E_call ci tk c_law_roll (by omega) (by rfl) (len_cons (len_cons len_nil)) (Ea_cons (E_var ci (i := 0) (by decide +kernel)) (Ea_cons (E_int) (Ea_nil))))) (Ea_cons (E_comp ci (own := [("k", 3)]) (by decide +kernel) (by decide) (I_range1 ci (by rfl) (G.b_range) (Ea_cons (E_call ci tk c_law_roll (by omega) (by rfl) (len_cons (len_cons len_nil)) (Ea_cons (E_var ci (i := 0) (by decide +kernel)) (Ea_cons (E_int) (Ea_nil)))) (Ea_nil))) (fun _ _ _ _ _ ci => G_name ci (i := 3) (by decide +kernel)) (fun _ _ _ _ _ ci => Ets_nil) (fun _ _ _ _ _ ci => E_bin op_add' (E_int) (E_call ci takesW0 c_law_roll (by omega) (by rfl) (len_cons (len_cons len_nil)) (Ea_cons (E_var ci (i := 0) (by decide +kernel)) (Ea_cons (E_int) (Ea_nil)))))) (Ea_cons (E_call ci tk c_law_roll (by omega) (by rfl) (len_cons (len_cons len_nil)) (Ea_cons (E_var ci (i := 0) (by decide +kernel)) (Ea_cons (E_int) (Ea_nil)))) (Ea_nil)))) (hw := by rfl)) (Ss_cons (S_if (Et_cmp (op_ne' ci) (E_bty ci call_list' (by rfl) (G.b_list) (by rfl) (Ea_cons (E_call ci tk c_wheel_pumps (by omega) (by rfl) (len_cons (len_cons len_nil)) (Ea_cons (E_tup (Ea_cons (E_var ci (i := 8) (by decide +kernel)) (Ea_cons (E_var ci (i := 9) (by decide +kernel)) (Ea_nil)))) (Ea_cons (E_var ci (i := 10) (by decide +kernel)) (Ea_nil)))) (Ea_nil))) (E_comp ci (own := [("tooth", 24)]) (by decide +kernel) (by decide) (I_seq (E_var ci (i := 9) (by decide +kernel))) (fun _ _ _ _ _ ci => G_name ci (i := 24) (by decide +kernel)) (fun _ _ _ _ _ ci => Ets_nil) (fun _ _ _ _ _ ci => E_blt ci call_len' (by rfl) (G.b_len) (by rfl) (Ea_cons (E_listRg ci (by rfl) (G.b_list) (by rfl) (G.b_range) (Ea_cons (E_var ci (i := 24) (by decide +kernel)) (Ea_cons (E_bin op_add' (E_bin op_mul' (E_var ci (i := 8) (by decide +kernel)) (E_var ci (i := 10) (by decide +kernel))) (E_int)) (Ea_cons (E_var ci (i := 24) (by decide +kernel)) (Ea_nil))))) (Ea_nil))))) (Ss_one (S_ret (E_bool))) (Ss_nil)) (Ss_cons (S_parT ci (Gn_cons ci (i := 18) (by decide +kernel) (Gn_cons ci (i := 17) (by decide +kernel) (Gn_cons ci (i := 14) (by decide +kernel) (Gn_cons ci (i := 11) (by decide +kernel) (Gn_cons ci (i := 12) (by decide +kernel) (Gn_nil)))))) (Ea_cons (E_comp ci (own := [("k", 3)]) (by decide +kernel) (by decide) (I_range1 ci (by rfl) (G.b_range) (Ea_cons (E_call ci tk c_law_roll (by omega) (by rfl) (len_cons (len_cons len_nil)) (Ea_cons (E_var ci (i := 0) (by decide +kernel)) (Ea_cons (E_int) (Ea_nil)))) (Ea_nil))) (fun _ _ _ _ _ ci => G_name ci (i := 3) (by decide +kernel)) (fun _ _ _ _ _ ci => Ets_nil) (fun _ _ _ _ _ ci => E_call ci takesW0 c_law_roll (by omega) (by rfl) (len_cons (len_cons len_nil)) (Ea_cons (E_var ci (i := 0) (by decide +kernel)) (Ea_cons (E_int) (Ea_nil))))) (Ea_cons (E_call ci tk c_law_roll (by omega) (by rfl) (len_cons (len_cons len_nil)) (Ea_cons (E_var ci (i := 0) (by decide +kernel)) (Ea_cons (E_int) (Ea_nil)))) (Ea_cons (E_bin op_add' (E_int) (E_call ci tk c_law_roll (by omega) (by rfl) (len_cons (len_cons len_nil)) (Ea_cons (E_var ci (i := 0) (by decide +kernel)) (Ea_cons (E_int) (Ea_nil))))) (Ea_cons (E_int) (Ea_cons (E_str) (Ea_nil)))))) (hw := by rfl)) (Ss_cons (S_for ci (I_range1 ci (by rfl) (G.b_range) (Ea_cons (E_blt ci call_len' (by rfl) (G.b_len) (by rfl) (Ea_cons (E_var ci (i := 18) (by decide +kernel)) (Ea_nil))) (Ea_nil))) (G_name ci (i := 3) (by decide +kernel)) (Ss_cons (S_set ci (i := 11) (by decide +kernel) (E_bin op_add' (E_blt ci (call_max' ci) (by rfl) (G.b_max) (by rfl) (Ea_cons (E_int) (Ea_cons (E_bin op_sub' (E_var ci (i := 11) (by decide +kernel)) (E_var ci (i := 17) (by decide +kernel))) (Ea_nil)))) (E_ix ix' (E_var ci (i := 18) (by decide +kernel)) (E_var ci (i := 3) (by decide +kernel))))) (Ss_one (S_set ci (i := 12) (by decide +kernel) (E_if (Ew.t (Ew_and (Et_cmp (op_eq' ci) (E_var ci (i := 12) (by decide +kernel)) (E_str)) (Ew_and1 (Et_cmp (op_ge' ci) (E_var ci (i := 11) (by decide +kernel)) (E_var ci (i := 14) (by decide +kernel)))))) (E_var ci (i := 3) (by decide +kernel)) (E_var ci (i := 12) (by decide +kernel))))))) (Ss_cons (S_if (Et_cmp (op_ne' ci) (E_told ci ho G.told (by rfl) (by rfl) (by decide +kernel) (by rfl) (fun _ _ _ _ _ => rfl) (fun _ _ _ _ _ _ _ ci tk => E_call ci tk c_primed (by omega) (by rfl) (len_cons (len_cons (len_cons len_nil))) (Ea_cons (E_var ci (i := 18) (by decide +kernel)) (Ea_cons (E_var ci (i := 17) (by decide +kernel)) (Ea_cons (E_var ci (i := 14) (by decide +kernel)) (Ea_nil)))))) (E_var ci (i := 12) (by decide +kernel))) (Ss_one (S_ret (E_bool))) (Ss_nil)) (Ss_cons (S_if (Et_cmp (op_ne' ci) (E_told ci ho G.told (by rfl) (by rfl) (by decide +kernel) (by rfl) (fun _ _ _ _ _ => rfl) (fun _ _ _ _ _ _ _ ci tk => E_make ci tk c_pump_init (by omega) (by rfl) (len_cons (len_cons (len_cons len_nil))) (Ea_cons (E_int) (Ea_cons (E_int) (Ea_cons (E_int) (Ea_nil)))))) (E_str)) (Ss_one (S_ret (E_bool))) (Ss_nil)) (Ss_cons (S_if (Et_cmp (op_ne' ci) (E_told ci ho G.told (by rfl) (by rfl) (by decide +kernel) (by rfl) (fun _ _ _ _ _ => rfl) (fun _ _ _ _ _ _ _ ci tk => E_meth ci tk c_pump_strokes_for (by omega) (len_cons len_nil) (E_var ci (i := 1) (by decide +kernel)) (Ea_cons (E_bin op_sub' (E_int) (E_int)) (Ea_nil)))) (E_str)) (Ss_one (S_ret (E_bool))) (Ss_nil)) (Ss_cons (S_if (Et_cmp (op_ne' ci) (E_told ci ho G.told (by rfl) (by rfl) (by decide +kernel) (by rfl) (fun _ _ _ _ _ => rfl) (fun _ _ _ _ _ _ _ ci tk => E_call ci tk c_stages (by omega) (by rfl) (len_cons (len_cons len_nil)) (Ea_cons (E_int) (Ea_cons (E_int) (Ea_nil))))) (E_str)) (Ss_one (S_ret (E_bool))) (Ss_nil)) (Ss_one (S_ret (E_call0 ci tk c_law_cases1 (by omega) (by rfl))))))))))))))))))))
abbrev s_law_rounds : Stmt := top 22
theorem sc_law_rounds : FnScope N_rounds ["script", "most"] (defScope s_law_rounds) := ⟨rfl, rfl, rfl, by decide +kernel, rfl, by decide +kernel, by decide +kernel⟩
theorem ok_law_rounds {P : Program} {w : World} {K : PySem.W.Frag} {mg : Str → Option Value} {base : Heap} {T : List Tb} {f c : Addr} {fd : FuncData} {good : Int → Int → Int → Int → Prop} (F : FunC K "_law_rounds" "_law_rounds" s_law_rounds f c fd) (c_law_dice : CallOk P w K mg base T "_law_dice" 1 f_law_dice 1) (hD : DiceOk f_law_dice good) : FnOk P w K mg base (L2.CX P w) 2 f fd ["script", "most"] (spR K mg T good) :=
  rounds_ok F sc_law_rounds rfl (by decide +kernel) (by decide +kernel) (by decide +kernel) (by decide +kernel) (by decide +kernel) (by decide +kernel) (by decide +kernel) (by decide +kernel) c_law_dice hD
abbrev s_law : Stmt := top 26
theorem sc_law : FnScope N_law ["script"] (defScope s_law) := ⟨rfl, rfl, rfl, by decide +kernel, rfl, by decide +kernel, by decide +kernel⟩
theorem ok_law {P : Program} {w : World} {K : PySem.W.Frag} {mg : Str → Option Value} {base : Heap} {T : List Tb} {f c P_ fR : Addr} {fd fdR : FuncData} {good : Int → Int → Int → Int → Prop} (F : FunC K "law" "law" s_law f c fd) (G : Pg K mg) (hh : HomeOk base mg T c ⟨P_, nm_law⟩) (c_law_rest1 : CallOk P w K mg base T "_law_rest1" 3 f_law_rest1 7) (c_shaft_dry : CallOk P w K mg base T "shaft_dry" 4 f_shaft_dry 2) (c_law_roll : CallOk P w K mg base T "_law_roll" 2 f_law_roll 1) (c_row_gives : CallOk P w K mg base T "row_gives" 1 f_row_gives 1) (c_stages : CallOk P w K mg base T "stages" 2 f_stages 1) (c_pump_strokes_for : MethOk P w K mg base T "Pump" "strokes_for" 1 f_pump_strokes_for 1) (c_pump_shown : MethOk P w K mg base T "Pump" "shown" 0 f_pump_shown 1) (c_pump_rain : MethOk P w K mg base T "Pump" "rain" 1 f_pump_rain 1) (c_pump_work : MethOk P w K mg base T "Pump" "work" 2 f_pump_work 1) (c_pump_new_washer : MethOk P w K mg base T "Pump" "new_washer" 0 f_pump_new_washer 1) (c_pump_init : MakeOk P w K mg base T "Pump" 3 f_pump_init 1) (hmR : mg "_law_rounds" = some (.ref fR)) (hkR : PySem.W.keepIn K (.ref fR) = true) (hbR : Binds K fdR ["script", "most"] []) (R : FnOk P w K mg base (L2.CX P w) 2 fR fdR ["script", "most"] (spR K mg T good))
  (plain : ∀ z a b c, good z a b c → lawGood (m_law (none :: some (.box 0) :: List.replicate 23 none) [.lst [.int a, .int b, .int c]])) : FnOk P w K mg base (L2.CX P w) 8 f fd ["script"] (spLaw K mg T) :=
  law_ok (N := N_law) (cl := ["dice", "lift", "deep", "inflow", "most", "much", "pump", "some", "water"]) (k := 7) F sc_law (by decide) (fun A outer s0 H W ci tk => have ho := hh.home; law_body ci tk (by decide +kernel) (by decide +kernel) (by decide +kernel) hmR hkR hbR (R.mono (by omega)) (m := m_law) (Ss_cons (S_parT ci (Gn_cons ci (i := 2) (by decide +kernel) (Gn_cons ci (i := 3) (by decide +kernel) (Gn_cons ci (i := 4) (by decide +kernel) (Gn_nil)))) (Ea_cons (E_bin op_add' (E_int) (E_call ci tk c_law_roll (by omega) (by rfl) (len_cons (len_cons len_nil)) (Ea_cons (E_var ci (i := 1) (by decide +kernel)) (Ea_cons (E_int) (Ea_nil))))) (Ea_cons (E_bin op_add' (E_int) (E_call ci tk c_law_roll (by omega) (by rfl) (len_cons (len_cons len_nil)) (Ea_cons (E_var ci (i := 1) (by decide +kernel)) (Ea_cons (E_int) (Ea_nil))))) (Ea_cons (E_bin op_add' (E_int) (E_call ci tk c_law_roll (by omega) (by rfl) (len_cons (len_cons len_nil)) (Ea_cons (E_var ci (i := 1) (by decide +kernel)) (Ea_cons (E_int) (Ea_nil))))) (Ea_nil)))) (hw := by rfl)) (Ss_cons (S_parT ci (Gn_cons ci (i := 21) (by decide +kernel) (Gn_cons ci (i := 5) (by decide +kernel) (Gn_cons ci (i := 6) (by decide +kernel) (Gn_cons ci (i := 7) (by decide +kernel) (Gn_cons ci (i := 8) (by decide +kernel) (Gn_nil)))))) (Ea_cons (E_make ci tk c_pump_init (by omega) (by rfl) (len_cons (len_cons (len_cons len_nil))) (Ea_cons (E_var ci (i := 2) (by decide +kernel)) (Ea_cons (E_var ci (i := 3) (by decide +kernel)) (Ea_cons (E_var ci (i := 4) (by decide +kernel)) (Ea_nil))))) (Ea_cons (E_int) (Ea_cons (E_int) (Ea_cons (E_int) (Ea_cons (E_var ci (i := 4) (by decide +kernel)) (Ea_nil)))))) (hw := by rfl)) (Ss_cons (S_for ci (I_range1 ci (by rfl) (G.b_range) (Ea_cons (E_call ci tk c_law_roll (by omega) (by rfl) (len_cons (len_cons len_nil)) (Ea_cons (E_var ci (i := 1) (by decide +kernel)) (Ea_cons (E_int) (Ea_nil)))) (Ea_nil))) (G_name ci (i := 9) (by decide +kernel)) (Ss_cons (S_parT ci (Gn_cons ci (i := 10) (by decide +kernel) (Gn_cons ci (i := 20) (by decide +kernel) (Gn_cons ci (i := 17) (by decide +kernel) (Gn_nil)))) (Ea_cons (E_call ci tk c_law_roll (by omega) (by rfl) (len_cons (len_cons len_nil)) (Ea_cons (E_var ci (i := 1) (by decide +kernel)) (Ea_cons (E_int) (Ea_nil)))) (Ea_cons (E_call ci tk c_law_roll (by omega) (by rfl) (len_cons (len_cons len_nil)) (Ea_cons (E_var ci (i := 1) (by decide +kernel)) (Ea_cons (E_int) (Ea_nil)))) (Ea_cons (E_call ci tk c_law_roll (by omega) (by rfl) (len_cons (len_cons len_nil)) (Ea_cons (E_var ci (i := 1) (by decide +kernel)) (Ea_cons (E_int) (Ea_nil)))) (Ea_nil)))) (hw := by rfl)) (Ss_cons (S_if (Et_cmp (op_lt' ci) (E_var ci (i := 10) (by decide +kernel)) (E_int)) (Ss_one (S_par3 ci (i := 11) (j := 12) (l := 5) (by decide +kernel) (by decide +kernel) (by decide +kernel) (by decide) (by decide) (by decide) (by rfl) (by rfl) (by rfl) (Ea_cons (E_if (Et_cmp (op_gt' ci) (E_var ci (i := 20) (by decide +kernel)) (E_int)) (E_bin op_add' (E_var ci (i := 5) (by decide +kernel)) (E_var ci (i := 20) (by decide +kernel))) (E_str)) (Ea_cons (E_told ci ho G.told (by rfl) (by rfl) (by decide +kernel) (by rfl) (fun _ _ _ _ _ => rfl) (fun _ _ _ _ _ _ _ ci tk => E_meth ci tk c_pump_rain (by omega) (len_cons len_nil) (E_var ci (i := 21) (by decide +kernel)) (Ea_cons (E_var ci (i := 20) (by decide +kernel)) (Ea_nil)))) (Ea_cons (E_bin op_add' (E_var ci (i := 5) (by decide +kernel)) (E_var ci (i := 20) (by decide +kernel))) (Ea_nil)))) (by rfl))) (Ss_one (S_if (Et_cmp (op_lt' ci) (E_var ci (i := 10) (by decide +kernel)) (E_int)) (Ss_cons (S_par2 ci (i := 11) (j := 12) (by decide +kernel) (by decide +kernel) (by decide) (by rfl) (by rfl) (Ea_cons (E_if (Et_cmp (op_lt' ci) (E_var ci (i := 20) (by decide +kernel)) (E_int)) (E_str) (E_str)) (Ea_cons (E_told ci ho G.told (by rfl) (by rfl) (by decide +kernel) (by rfl) (fun _ _ _ _ _ => rfl) (fun _ _ _ _ _ _ _ ci tk => E_meth ci tk c_pump_work (by omega) (len_cons (len_cons len_nil)) (E_var ci (i := 21) (by decide +kernel)) (Ea_cons (E_var ci (i := 20) (by decide +kernel)) (Ea_cons (E_var ci (i := 17) (by decide +kernel)) (Ea_nil))))) (Ea_nil))) (by rfl)) (Ss_one (S_if (Ew.t (Ew_and (Et_cmp (op_gt' ci) (E_var ci (i := 20) (by decide +kernel)) (E_int)) (Ew_and1 (Et_cmp (op_le' ci) (E_var ci (i := 17) (by decide +kernel)) (E_var ci (i := 2) (by decide +kernel)))))) (Ss_cons (S_set ci (i := 11) (by decide +kernel) (E_blt ci (call_min' ci) (by rfl) (G.b_min) (by rfl) (Ea_cons (E_var ci (i := 5) (by decide +kernel)) (Ea_cons (E_bin op_mul' (E_var ci (i := 3) (by decide +kernel)) (E_blt ci (call_min' ci) (by rfl) (G.b_min) (by rfl) (Ea_cons (E_var ci (i := 20) (by decide +kernel)) (Ea_cons (E_var ci (i := 8) (by decide +kernel)) (Ea_nil))))) (Ea_nil))))) (Ss_one (S_parT ci (Gn_cons ci (i := 5) (by decide +kernel) (Gn_cons ci (i := 6) (by decide +kernel) (Gn_cons ci (i := 7) (by decide +kernel) (Gn_cons ci (i := 8) (by decide +kernel) (Gn_nil))))) (Ea_cons (E_bin op_sub' (E_var ci (i := 5) (by decide +kernel)) (E_var ci (i := 11) (by decide +kernel))) (Ea_cons (E_bin op_add' (E_var ci (i := 6) (by decide +kernel)) (E_var ci (i := 11) (by decide +kernel))) (Ea_cons (E_bin op_add' (E_var ci (i := 7) (by decide +kernel)) (E_var ci (i := 20) (by decide +kernel))) (Ea_cons (E_bin op_sub' (E_var ci (i := 8) (by decide +kernel)) (E_blt ci (call_min' ci) (by rfl) (G.b_min) (by rfl) (Ea_cons (E_var ci (i := 20) (by decide +kernel)) (Ea_cons (E_var ci (i := 8) (by decide +kernel)) (Ea_nil))))) (Ea_nil))))) (hw := by rfl)))) (Ss_nil)))) (Ss_one (S_par3 ci (i := 11) (j := 12) (l := 8) (by decide +kernel) (by decide +kernel) (by decide +kernel) (by decide) (by decide) (by decide) (by rfl) (by rfl) (by rfl) (Ea_cons (E_if (Et_cmp (op_lt' ci) (E_var ci (i := 8) (by decide +kernel)) (E_var ci (i := 4) (by decide +kernel))) (E_var ci (i := 8) (by decide +kernel)) (E_str)) (Ea_cons (E_told ci ho G.told (by rfl) (by rfl) (by decide +kernel) (by rfl) (fun _ _ _ _ _ => rfl) (fun _ _ _ _ _ _ _ ci tk => E_meth0 ci tk c_pump_new_washer (by omega) (E_var ci (i := 21) (by decide +kernel)))) (Ea_cons (E_var ci (i := 4) (by decide +kernel)) (Ea_nil)))) (by rfl)))))) (Ss_one (S_if (Ew.t (Ew_or (Et_cmp (op_ne' ci) (E_var ci (i := 12) (by decide +kernel)) (E_var ci (i := 11) (by decide +kernel))) (Ew_or1 (Et_cmp (op_ne' ci) (E_meth0 ci tk c_pump_shown (by omega) (E_var ci (i := 21) (by decide +kernel))) (E_tup (Ea_cons (E_var ci (i := 5) (by decide +kernel)) (Ea_cons (E_var ci (i := 6) (by decide +kernel)) (Ea_cons (E_var ci (i := 7) (by decide +kernel)) (Ea_cons (E_var ci (i := 8) (by decide +kernel)) (Ea_nil)))))))))) (Ss_one (S_ret (E_bool))) (Ss_nil)))))) (Ss_cons (S_set ci (i := 13) (by decide +kernel) (E_call ci tk c_law_roll (by omega) (by rfl) (len_cons (len_cons len_nil)) (Ea_cons (E_var ci (i := 1) (by decide +kernel)) (Ea_cons (E_int) (Ea_nil))))) (Ss_cons (S_if (Et_cmp (op_ne' ci) (E_meth ci tk c_pump_strokes_for (by omega) (len_cons len_nil) (E_var ci (i := 21) (by decide +kernel)) (Ea_cons (E_var ci (i := 13) (by decide +kernel)) (Ea_nil))) (E_blt ci call_len' (by rfl) (G.b_len) (by rfl) (Ea_cons (E_listRg ci (by rfl) (G.b_list) (by rfl) (G.b_range) (Ea_cons (E_int) (Ea_cons (E_var ci (i := 13) (by decide +kernel)) (Ea_cons (E_var ci (i := 3) (by decide +kernel)) (Ea_nil))))) (Ea_nil)))) (Ss_one (S_ret (E_bool))) (Ss_nil)) (Ss_cons (S_set ci (i := 14) (by decide +kernel) (E_call ci tk c_law_roll (by omega) (by rfl) (len_cons (len_cons len_nil)) (Ea_cons (E_var ci (i := 1) (by decide +kernel)) (Ea_cons (E_int) (Ea_nil))))) (Ss_cons (S_if (Et_cmp (op_ne' ci) (E_bty ci call_list' (by rfl) (G.b_list) (by rfl) (Ea_cons (E_call ci tk c_stages (by omega) (by rfl) (len_cons (len_cons len_nil)) (Ea_cons (E_var ci (i := 14) (by decide +kernel)) (Ea_cons (E_var ci (i := 2) (by decide +kernel)) (Ea_nil)))) (Ea_nil))) (E_comp ci (own := [("k", 24)]) (by decide +kernel) (by decide) (I_range1 ci (by rfl) (G.b_range) (Ea_cons (E_var ci (i := 14) (by decide +kernel)) (Ea_nil))) (fun _ _ _ _ _ ci => G_name ci (i := 24) (by decide +kernel)) (fun _ _ _ _ _ ci => Ets_one (Et_cmp (op_eq' ci) (E_bin op_mod' (E_var ci (i := 24) (by decide +kernel)) (E_var ci (i := 2) (by decide +kernel))) (E_int))) (fun _ _ _ _ _ ci => E_var ci (i := 24) (by decide +kernel)))) (Ss_one (S_ret (E_bool))) (Ss_nil)) (Ss_cons (S_set ci (i := 22) (by decide +kernel) (E_comp ci (own := [("k", 24)]) (by decide +kernel) (by decide) (I_range1 ci (by rfl) (G.b_range) (Ea_cons (E_call ci tk c_law_roll (by omega) (by rfl) (len_cons (len_cons len_nil)) (Ea_cons (E_var ci (i := 1) (by decide +kernel)) (Ea_cons (E_int) (Ea_nil)))) (Ea_nil))) (fun _ _ _ _ _ ci => G_name ci (i := 24) (by decide +kernel)) (fun _ _ _ _ _ ci => Ets_nil) (fun _ _ _ _ _ ci => E_call ci takesW0 c_law_roll (by omega) (by rfl) (len_cons (len_cons len_nil)) (Ea_cons (E_var ci (i := 1) (by decide +kernel)) (Ea_cons (E_int) (Ea_nil)))))) (Ss_cons (S_if (Et_cmp (op_ne' ci) (E_call ci tk c_row_gives (by omega) (by rfl) (len_cons len_nil) (Ea_cons (E_var ci (i := 22) (by decide +kernel)) (Ea_nil))) (E_if (Et_cmp (op_ne' ci) (E_var ci (i := 22) (by decide +kernel)) (E_lst (Ea_nil))) (E_ix ix' (E_blt ci (call_sorted' ci) (by rfl) (G.b_sorted) (by rfl) (Ea_cons (E_var ci (i := 22) (by decide +kernel)) (Ea_nil))) (E_int)) (E_int))) (Ss_one (S_ret (E_bool))) (Ss_nil)) (Ss_cons (S_parT ci (Gn_cons ci (i := 23) (by decide +kernel) (Gn_cons ci (i := 18) (by decide +kernel) (Gn_cons ci (i := 19) (by decide +kernel) (Gn_cons ci (i := 15) (by decide +kernel) (Gn_nil))))) (Ea_cons (E_call ci tk c_law_roll (by omega) (by rfl) (len_cons (len_cons len_nil)) (Ea_cons (E_var ci (i := 1) (by decide +kernel)) (Ea_cons (E_int) (Ea_nil)))) (Ea_cons (E_call ci tk c_law_roll (by omega) (by rfl) (len_cons (len_cons len_nil)) (Ea_cons (E_var ci (i := 1) (by decide +kernel)) (Ea_cons (E_int) (Ea_nil)))) (Ea_cons (E_call ci tk c_law_roll (by omega) (by rfl) (len_cons (len_cons len_nil)) (Ea_cons (E_var ci (i := 1) (by decide +kernel)) (Ea_cons (E_int) (Ea_nil)))) (Ea_cons (E_int) (Ea_nil))))) (hw := by rfl)) (Ss_cons (S_set ci (i := 16) (by decide +kernel) (E_var ci (i := 23) (by decide +kernel))) (Ss_cons (S_while ci (Ew.t (Ew_and (Et_cmp (op_gt' ci) (E_var ci (i := 16) (by decide +kernel)) (E_int)) (Ew_and1 (Et_cmp (op_lt' ci) (E_var ci (i := 15) (by decide +kernel)) (E_var ci (i := 19) (by decide +kernel)))))) (Ss_one (S_par2 ci (i := 16) (j := 15) (by decide +kernel) (by decide +kernel) (by decide) (by rfl) (by rfl) (Ea_cons (E_blt ci (call_max' ci) (by rfl) (G.b_max) (by rfl) (Ea_cons (E_int) (Ea_cons (E_bin op_sub' (E_bin op_add' (E_var ci (i := 16) (by decide +kernel)) (E_var ci (i := 18) (by decide +kernel))) (E_blt ci (call_sum' ci) (by rfl) (G.b_sum) (by rfl) (Ea_cons (E_var ci (i := 22) (by decide +kernel)) (Ea_nil)))) (Ea_nil)))) (Ea_cons (E_bin op_add' (E_var ci (i := 15) (by decide +kernel)) (E_int)) (Ea_nil))) (by rfl)))) (Ss_cons (S_if (Et_cmp (op_ne' ci) (E_told ci ho G.told (by rfl) (by rfl) (by decide +kernel) (by rfl) (fun _ _ _ _ _ => rfl) (fun _ _ _ _ _ _ _ ci tk => E_call ci tk c_shaft_dry (by omega) (by rfl) (len_cons (len_cons (len_cons (len_cons len_nil)))) (Ea_cons (E_var ci (i := 23) (by decide +kernel)) (Ea_cons (E_var ci (i := 18) (by decide +kernel)) (Ea_cons (E_var ci (i := 22) (by decide +kernel)) (Ea_cons (E_var ci (i := 19) (by decide +kernel)) (Ea_nil))))))) (E_if (Et_cmp (op_eq' ci) (E_var ci (i := 16) (by decide +kernel)) (E_int)) (E_var ci (i := 15) (by decide +kernel)) (E_str))) (Ss_one (S_ret (E_bool))) (Ss_nil)) (Ss_one (S_if (Et_not (Et_val (E_call ci tk c_law_rest1 (by omega) (by rfl) (len_cons (len_cons (len_cons len_nil))) (Ea_cons (E_var ci (i := 1) (by decide +kernel)) (Ea_cons (E_var ci (i := 21) (by decide +kernel)) (Ea_cons (E_var ci (i := 22) (by decide +kernel)) (Ea_nil))))))) (Ss_one (S_ret (E_bool))) (Ss_nil)))))))))))))))) (show 2 ≤ N_law.length by decide) plain)
abbrev s_law_told : Stmt := top 23
theorem sc_law_told : FnScope ["what"] ["what"] (defScope s_law_told) := ⟨rfl, rfl, rfl, by decide +kernel, rfl, by decide +kernel, by decide +kernel⟩
def D_pump_init : He.DefD := ⟨("Pump", some "__init__"), "__init__", "Pump.__init__", defArgs s_pump_init, defBody s_pump_init, defScope s_pump_init, [], []⟩
def D_pump_rain : He.DefD := ⟨("Pump", some "rain"), "rain", "Pump.rain", defArgs s_pump_rain, defBody s_pump_rain, defScope s_pump_rain, [], []⟩
def D_pump_work : He.DefD := ⟨("Pump", some "work"), "work", "Pump.work", defArgs s_pump_work, defBody s_pump_work, defScope s_pump_work, [], []⟩
def D_pump_new_washer : He.DefD := ⟨("Pump", some "new_washer"), "new_washer", "Pump.new_washer", defArgs s_pump_new_washer, defBody s_pump_new_washer, defScope s_pump_new_washer, [], []⟩
def D_pump_strokes_for : He.DefD := ⟨("Pump", some "strokes_for"), "strokes_for", "Pump.strokes_for", defArgs s_pump_strokes_for, defBody s_pump_strokes_for, defScope s_pump_strokes_for, [], []⟩
def D_pump_shown : He.DefD := ⟨("Pump", some "shown"), "shown", "Pump.shown", defArgs s_pump_shown, defBody s_pump_shown, defScope s_pump_shown, [], []⟩
def D_stages : He.DefD := ⟨("stages", none), "stages", "stages", defArgs s_stages, defBody s_stages, defScope s_stages, [], []⟩
def D_row_gives : He.DefD := ⟨("row_gives", none), "row_gives", "row_gives", defArgs s_row_gives, defBody s_row_gives, defScope s_row_gives, [], []⟩
def D_shifts : He.DefD := ⟨("shifts", none), "shifts", "shifts", defArgs s_shifts, defBody s_shifts, defScope s_shifts, [], []⟩
def D_law_flat : He.DefD := ⟨("_law_flat", none), "_law_flat", "_law_flat", defArgs s_law_flat, defBody s_law_flat, defScope s_law_flat, [], []⟩
def D_law_dice : He.DefD := ⟨("_law_dice", none), "_law_dice", "_law_dice", defArgs s_law_dice, defBody s_law_dice, defScope s_law_dice, [], []⟩
def D_law_roll : He.DefD := ⟨("_law_roll", none), "_law_roll", "_law_roll", defArgs s_law_roll, defBody s_law_roll, defScope s_law_roll, [], []⟩
def D_shaft_dry : He.DefD := ⟨("shaft_dry", none), "shaft_dry", "shaft_dry", defArgs s_shaft_dry, defBody s_shaft_dry, defScope s_shaft_dry, [], []⟩
def D_fewest_pumps : He.DefD := ⟨("fewest_pumps", none), "fewest_pumps", "fewest_pumps", defArgs s_fewest_pumps, defBody s_fewest_pumps, defScope s_fewest_pumps, [], []⟩
def D_wheel_pumps : He.DefD := ⟨("wheel_pumps", none), "wheel_pumps", "wheel_pumps", defArgs s_wheel_pumps, defBody s_wheel_pumps, defScope s_wheel_pumps, [], []⟩
def D_primed : He.DefD := ⟨("primed", none), "primed", "primed", defArgs s_primed, defBody s_primed, defScope s_primed, [], []⟩
def D_law_cases1 : He.DefD := ⟨("_law_cases1", none), "_law_cases1", "_law_cases1", defArgs s_law_cases1, defBody s_law_cases1, defScope s_law_cases1, [], []⟩
def D_law_rest1 : He.DefD := ⟨("_law_rest1", none), "_law_rest1", "_law_rest1", defArgs s_law_rest1, defBody s_law_rest1, defScope s_law_rest1, [], []⟩
def D_law_told : He.DefD := ⟨("_law_told", none), "_law_told", "_law_told", defArgs s_law_told, defBody s_law_told, defScope s_law_told, [], []⟩
def D_law_rounds : He.DefD := ⟨("_law_rounds", none), "_law_rounds", "_law_rounds", defArgs s_law_rounds, defBody s_law_rounds, defScope s_law_rounds, [], []⟩
def D_law : He.DefD := ⟨("law", none), "law", "law", defArgs s_law, defBody s_law, defScope s_law, [], []⟩
def fn : List He.DefD := [D_pump_init, D_pump_rain, D_pump_work, D_pump_new_washer, D_pump_strokes_for, D_pump_shown, D_stages, D_row_gives, D_shifts, D_law_flat, D_law_dice, D_law_roll, D_shaft_dry, D_fewest_pumps, D_wheel_pumps, D_primed, D_law_cases1, D_law_rest1, D_law_told, D_law_rounds, D_law]
def fa : List He.Fa := [.glo "stages", .glo "row_gives", .glo "shifts", .glo "_law_flat", .glo "_law_dice", .glo "_law_roll", .glo "shaft_dry", .glo "fewest_pumps", .glo "wheel_pumps", .glo "primed", .glo "_law_cases1", .glo "_law_rest1", .glo "_law_told", .glo "_law_rounds", .glo "law", .glo "BadDeed", .glo "BadPlan", .glo "BadSize", .glo "NoWay", .glo "Pump", .free "abs", .free "any", .free "enumerate", .free "int", .free "len", .free "list", .free "max", .free "min", .free "range", .free "sorted", .free "sum", .free "tuple", .exc "BadDeed", .exc "BadPlan", .exc "BadSize", .exc "NoWay", .cls "Pump", .noat "Pump" "left", .noat "Pump" "lift", .noat "Pump" "lifted", .noat "Pump" "stroke", .noat "Pump" "strokes", .noat "Pump" "washer", .noat "Pump" "well", .mkr "Pump", .meth "Pump" "rain", .meth "Pump" "work", .meth "Pump" "new_washer", .meth "Pump" "strokes_for", .meth "Pump" "shown"] ++ ((toldT.map (·.1)).map He.Fa.glo ++ exms (toldT.map (·.1)))
def tn : List (He.Defn × (Nat → Nat → Option Str)) := [(("shaft_dry", none), nm_shaft_dry), (("fewest_pumps", none), nm_fewest_pumps), (("wheel_pumps", none), nm_wheel_pumps), (("primed", none), nm_primed), (("_law_cases1", none), nm_law_cases1), (("_law_rest1", none), nm_law_rest1), (("law", none), nm_law)]
def tf : List He.Defn := tn.map (·.1)
def ex (K : PySem.W.Frag) : Bool := decide ((tn.map fun q => (He.cT K q.1).2)).Nodup
theorem facts {w : World} {K : PySem.W.Frag} {h : Heap} {mg : Str → Option Value} {f : Addr} {good : Int → Int → Int → Int → Prop} (X : K.In h) (G0 : h.Ns mainGlobals mg) (hfa : mg ("law" : Str) = some (.ref f)) (c : He.SaysX fa fn [] tf ex w h K) (hD : DiceOk f_law_dice good)
    (plain : ∀ z a b c, good z a b c → lawGood (m_law (none :: some (.box 0) :: List.replicate 23 none) [.lst [.int a, .int b, .int c]])) : LamX.LawAtS PySem.Challenge.rw_pipehall_k04_pumps w K (L2.CX (PySem.Challenge.rw_pipehall_k04_pumps).prog w) 8 63 "script" mg f h := by
  have cd : He.SaysD fa fn K := c.t.d
  obtain ⟨fd_pump_init, F_pump_init⟩ := cd.def_ 0 (d := D_pump_init) rfl
  have b_pump_init : L2.Binds K fd_pump_init ["self", "lift", "stroke", "washer"] [] := FunD.bindsN F_pump_init fun _ _ _ _ _ _ us hl => match us, hl with | [_, _, _, _], _ => rfl
  obtain ⟨fd_pump_rain, F_pump_rain⟩ := cd.def_ 1 (d := D_pump_rain) rfl
  have b_pump_rain : L2.Binds K fd_pump_rain ["self", "much"] [] := FunD.bindsN F_pump_rain fun _ _ _ _ _ _ us hl => match us, hl with | [_, _], _ => rfl
  obtain ⟨fd_pump_work, F_pump_work⟩ := cd.def_ 2 (d := D_pump_work) rfl
  have b_pump_work : L2.Binds K fd_pump_work ["self", "strokes", "deep"] [] := FunD.bindsN F_pump_work fun _ _ _ _ _ _ us hl => match us, hl with | [_, _, _], _ => rfl
  obtain ⟨fd_pump_new_washer, F_pump_new_washer⟩ := cd.def_ 3 (d := D_pump_new_washer) rfl
  have b_pump_new_washer : L2.Binds K fd_pump_new_washer ["self"] [] := FunD.bindsN F_pump_new_washer fun _ _ _ _ _ _ us hl => match us, hl with | [_], _ => rfl
  obtain ⟨fd_pump_strokes_for, F_pump_strokes_for⟩ := cd.def_ 4 (d := D_pump_strokes_for) rfl
  have b_pump_strokes_for : L2.Binds K fd_pump_strokes_for ["self", "much"] [] := FunD.bindsN F_pump_strokes_for fun _ _ _ _ _ _ us hl => match us, hl with | [_, _], _ => rfl
  obtain ⟨fd_pump_shown, F_pump_shown⟩ := cd.def_ 5 (d := D_pump_shown) rfl
  have b_pump_shown : L2.Binds K fd_pump_shown ["self"] [] := FunD.bindsN F_pump_shown fun _ _ _ _ _ _ us hl => match us, hl with | [_], _ => rfl
  obtain ⟨fd_stages, F_stages⟩ := cd.def_ 6 (d := D_stages) rfl
  have b_stages : L2.Binds K fd_stages ["high", "lift"] [] := FunD.bindsN F_stages fun _ _ _ _ _ _ us hl => match us, hl with | [_, _], _ => rfl
  obtain ⟨fd_row_gives, F_row_gives⟩ := cd.def_ 7 (d := D_row_gives) rfl
  have b_row_gives : L2.Binds K fd_row_gives ["pumps"] [] := FunD.bindsN F_row_gives fun _ _ _ _ _ _ us hl => match us, hl with | [_], _ => rfl
  obtain ⟨fd_shifts, F_shifts⟩ := cd.def_ 8 (d := D_shifts) rfl
  have b_shifts : L2.Binds K fd_shifts ["hours", "hands", "each"] [] := FunD.bindsN F_shifts fun _ _ _ _ _ _ us hl => match us, hl with | [_, _, _], _ => rfl
  obtain ⟨fd_law_flat, F_law_flat⟩ := cd.def_ 9 (d := D_law_flat) rfl
  have b_law_flat : L2.Binds K fd_law_flat ["rows"] [] := FunD.bindsN F_law_flat fun _ _ _ _ _ _ us hl => match us, hl with | [_], _ => rfl
  obtain ⟨fd_law_dice, F_law_dice⟩ := cd.def_ 10 (d := D_law_dice) rfl
  have b_law_dice : L2.Binds K fd_law_dice ["cell"] [] := FunD.bindsN F_law_dice fun _ _ _ _ _ _ us hl => match us, hl with | [_], _ => rfl
  obtain ⟨fd_law_roll, F_law_roll⟩ := cd.def_ 11 (d := D_law_roll) rfl
  have b_law_roll : L2.Binds K fd_law_roll ["dice", "many"] [] := FunD.bindsN F_law_roll fun _ _ _ _ _ _ us hl => match us, hl with | [_, _], _ => rfl
  obtain ⟨fd_shaft_dry, F_shaft_dry⟩ := cd.def_ 12 (d := D_shaft_dry) rfl
  have b_shaft_dry : L2.Binds K fd_shaft_dry ["water", "inflow", "pumps", "most"] [] := FunD.bindsN F_shaft_dry fun _ _ _ _ _ _ us hl => match us, hl with | [_, _, _, _], _ => rfl
  obtain ⟨fd_fewest_pumps, F_fewest_pumps⟩ := cd.def_ 13 (d := D_fewest_pumps) rfl
  have b_fewest_pumps : L2.Binds K fd_fewest_pumps ["pumps", "need"] [] := FunD.bindsN F_fewest_pumps fun _ _ _ _ _ _ us hl => match us, hl with | [_, _], _ => rfl
  obtain ⟨fd_wheel_pumps, F_wheel_pumps⟩ := cd.def_ 14 (d := D_wheel_pumps) rfl
  have b_wheel_pumps : L2.Binds K fd_wheel_pumps ["teeth", "turns"] [] := FunD.bindsN F_wheel_pumps fun _ _ _ _ _ _ us hl => match us, hl with | [_, _], _ => rfl
  obtain ⟨fd_primed, F_primed⟩ := cd.def_ 15 (d := D_primed) rfl
  have b_primed : L2.Binds K fd_primed ["pours", "leaks", "need"] [] := FunD.bindsN F_primed fun _ _ _ _ _ _ us hl => match us, hl with | [_, _, _], _ => rfl
  obtain ⟨fd_law_cases1, F_law_cases1⟩ := cd.def_ 16 (d := D_law_cases1) rfl
  have b_law_cases1 : L2.Binds K fd_law_cases1 [] [] := FunD.bindsN F_law_cases1 fun _ _ _ _ _ _ us hl => match us, hl with | [], _ => rfl
  obtain ⟨fd_law_rest1, F_law_rest1⟩ := cd.def_ 17 (d := D_law_rest1) rfl
  have b_law_rest1 : L2.Binds K fd_law_rest1 ["dice", "pump", "some"] [] := FunD.bindsN F_law_rest1 fun _ _ _ _ _ _ us hl => match us, hl with | [_, _, _], _ => rfl
  obtain ⟨fd_law_told, F_law_told⟩ := cd.def_ 18 (d := D_law_told) rfl
  have b_law_told : L2.Binds K fd_law_told ["what"] [] := FunD.bindsN F_law_told fun _ _ _ _ _ _ us hl => match us, hl with | [_], _ => rfl
  obtain ⟨fd_law_rounds, F_law_rounds⟩ := cd.def_ 19 (d := D_law_rounds) rfl
  have b_law_rounds : L2.Binds K fd_law_rounds ["script", "most"] [] := FunD.bindsN F_law_rounds fun _ _ _ _ _ _ us hl => match us, hl with | [_, _], _ => rfl
  obtain ⟨fd_law, F_law⟩ := cd.def_ 20 (d := D_law) rfl
  have b_law : L2.Binds K fd_law ["script"] [] := FunD.bindsN F_law fun _ _ _ _ _ _ us hl => match us, hl with | [_], _ => rfl
  have G : Pg K mg := {
    b_abs := He.free_ok X G0 (cd.fact 20 (f := .free "abs") rfl)
    b_any := He.free_ok X G0 (cd.fact 21 (f := .free "any") rfl)
    b_enumerate := He.free_ok X G0 (cd.fact 22 (f := .free "enumerate") rfl)
    b_int := He.free_ok X G0 (cd.fact 23 (f := .free "int") rfl)
    b_len := He.free_ok X G0 (cd.fact 24 (f := .free "len") rfl)
    b_list := He.free_ok X G0 (cd.fact 25 (f := .free "list") rfl)
    b_max := He.free_ok X G0 (cd.fact 26 (f := .free "max") rfl)
    b_min := He.free_ok X G0 (cd.fact 27 (f := .free "min") rfl)
    b_range := He.free_ok X G0 (cd.fact 28 (f := .free "range") rfl)
    b_sorted := He.free_ok X G0 (cd.fact 29 (f := .free "sorted") rfl)
    b_sum := He.free_ok X G0 (cd.fact 30 (f := .free "sum") rfl)
    b_tuple := He.free_ok X G0 (cd.fact 31 (f := .free "tuple") rfl)
    x_BadDeed := (by obtain ⟨h1, h2, h3, h4⟩ := He.exc_ok (cd.fact 32 (f := .exc "BadDeed") rfl); exact ⟨_, He.glo_ok X G0 (cd.fact 15 (f := .glo "BadDeed") rfl), h1, h2, h3, h4⟩)
    x_BadPlan := (by obtain ⟨h1, h2, h3, h4⟩ := He.exc_ok (cd.fact 33 (f := .exc "BadPlan") rfl); exact ⟨_, He.glo_ok X G0 (cd.fact 16 (f := .glo "BadPlan") rfl), h1, h2, h3, h4⟩)
    x_BadSize := (by obtain ⟨h1, h2, h3, h4⟩ := He.exc_ok (cd.fact 34 (f := .exc "BadSize") rfl); exact ⟨_, He.glo_ok X G0 (cd.fact 17 (f := .glo "BadSize") rfl), h1, h2, h3, h4⟩)
    x_NoWay := (by obtain ⟨h1, h2, h3, h4⟩ := He.exc_ok (cd.fact 35 (f := .exc "NoWay") rfl); exact ⟨_, He.glo_ok X G0 (cd.fact 18 (f := .glo "NoWay") rfl), h1, h2, h3, h4⟩)
    f_Pump_left := ⟨_, He.glo_ok X G0 (cd.fact 19 (f := .glo "Pump") rfl), He.cls_ok (cd.fact 36 (f := .cls "Pump") rfl), He.noat_ok (cd.fact 37 (f := .noat "Pump" "left") rfl)⟩
    f_Pump_lift := ⟨_, He.glo_ok X G0 (cd.fact 19 (f := .glo "Pump") rfl), He.cls_ok (cd.fact 36 (f := .cls "Pump") rfl), He.noat_ok (cd.fact 38 (f := .noat "Pump" "lift") rfl)⟩
    f_Pump_lifted := ⟨_, He.glo_ok X G0 (cd.fact 19 (f := .glo "Pump") rfl), He.cls_ok (cd.fact 36 (f := .cls "Pump") rfl), He.noat_ok (cd.fact 39 (f := .noat "Pump" "lifted") rfl)⟩
    f_Pump_stroke := ⟨_, He.glo_ok X G0 (cd.fact 19 (f := .glo "Pump") rfl), He.cls_ok (cd.fact 36 (f := .cls "Pump") rfl), He.noat_ok (cd.fact 40 (f := .noat "Pump" "stroke") rfl)⟩
    f_Pump_strokes := ⟨_, He.glo_ok X G0 (cd.fact 19 (f := .glo "Pump") rfl), He.cls_ok (cd.fact 36 (f := .cls "Pump") rfl), He.noat_ok (cd.fact 41 (f := .noat "Pump" "strokes") rfl)⟩
    f_Pump_washer := ⟨_, He.glo_ok X G0 (cd.fact 19 (f := .glo "Pump") rfl), He.cls_ok (cd.fact 36 (f := .cls "Pump") rfl), He.noat_ok (cd.fact 42 (f := .noat "Pump" "washer") rfl)⟩
    f_Pump_well := ⟨_, He.glo_ok X G0 (cd.fact 19 (f := .glo "Pump") rfl), He.cls_ok (cd.fact 36 (f := .cls "Pump") rfl), He.noat_ok (cd.fact 43 (f := .noat "Pump" "well") rfl)⟩
    told := told_of (x := "_law_told") (s := s_law_told) F_law_told (He.glo_ok X G0 (cd.fact 12 (f := .glo "_law_told") rfl)) b_law_told sc_law_told rfl (.cons (.cons (.cons (.cons (.cons (.cons (.cons .nil))))))) (by decide +kernel) (by decide +kernel) (by decide +kernel) (by decide +kernel)
      (fun e he => He.glo_ok X G0 (cd.facts (List.mem_append_right _ (List.mem_append_left _ (List.mem_map.mpr ⟨e, he, rfl⟩))))) (fun c hc e he => He.exm_ok (cd.facts (List.mem_append_right _ (List.mem_append_right _ (exms_mem hc he))))) }
  have ehf := hfa.symm.trans (He.glo_ok X G0 (cd.fact 14 (f := .glo "law") rfl))
  cases ehf
  have nd : (tn.map fun q => (He.cT K q.1).2).Nodup := of_decide_eq_true c.more
  refine ⟨fd_law, tf.map (He.cT K), spLaw K mg (tabsT K tn), fun p hp => ?_, fun p hp => ?_, fun p hp => ?_, fun s v => FunD.bindsA (ps := ["script"]) F_law (fun _ _ _ _ _ _ us hl => match us, hl with | [_], _ => rfl) s [v] rfl, fun H a ns hl _ hT hS => ⟨a, ns, rfl, hS, str0 fun t ht => ?_, fun _ => rfl⟩, fun base KX' G' TB => ?_⟩
  · obtain ⟨q, hq, rfl⟩ := List.mem_map.mp hp; exact c.empty q hq
  · obtain ⟨q, hq, rfl⟩ := List.mem_map.mp hp; exact c.out q hq
  · obtain ⟨q, hq, rfl⟩ := List.mem_map.mp hp; exact PySem.W.codeHd_of_K X (c.hd q hq)
  · obtain ⟨q, hq, rfl⟩ := List.mem_map.mp ht; exact hT (He.cT K q.1) (List.mem_map.mpr ⟨q.1, List.mem_map.mpr ⟨q, hq, rfl⟩, rfl⟩)
  · have hh := homes (base := base) (mg := mg) nd (fun p hp => TB p (by obtain ⟨q, hq, rfl⟩ := List.mem_map.mp hp; exact List.mem_map.mpr ⟨q.1, List.mem_map.mpr ⟨q, hq, rfl⟩, rfl⟩))
    have c_pump_init : MakeOk (PySem.Challenge.rw_pipehall_k04_pumps).prog w K mg base (tabsT K tn) "Pump" 3 f_pump_init 1 := ⟨_, _, _, _, He.glo_ok X G0 (cd.fact 19 (f := .glo "Pump") rfl), He.mkr_ok (cd.fact 44 (f := .mkr "Pump") rfl), b_pump_init, (ok_pump_init (P := (PySem.Challenge.rw_pipehall_k04_pumps).prog) (w := w) (base := base) (T := tabsT K tn) (funC_of (p := ("Pump", some "__init__")) (x := "__init__") (qual := "Pump.__init__") (s := s_pump_init) F_pump_init) G )⟩
    have c_pump_rain : MethOk (PySem.Challenge.rw_pipehall_k04_pumps).prog w K mg base (tabsT K tn) "Pump" "rain" 1 f_pump_rain 1 := ⟨_, _, _, _, He.glo_ok X G0 (cd.fact 19 (f := .glo "Pump") rfl), He.cls_ok (cd.fact 36 (f := .cls "Pump") rfl), He.meth_ok (cd.fact 45 (f := .meth "Pump" "rain") rfl), b_pump_rain, (ok_pump_rain (P := (PySem.Challenge.rw_pipehall_k04_pumps).prog) (w := w) (base := base) (T := tabsT K tn) (funC_of (p := ("Pump", some "rain")) (x := "rain") (qual := "Pump.rain") (s := s_pump_rain) F_pump_rain) G )⟩
    have c_pump_work : MethOk (PySem.Challenge.rw_pipehall_k04_pumps).prog w K mg base (tabsT K tn) "Pump" "work" 2 f_pump_work 1 := ⟨_, _, _, _, He.glo_ok X G0 (cd.fact 19 (f := .glo "Pump") rfl), He.cls_ok (cd.fact 36 (f := .cls "Pump") rfl), He.meth_ok (cd.fact 46 (f := .meth "Pump" "work") rfl), b_pump_work, (ok_pump_work (P := (PySem.Challenge.rw_pipehall_k04_pumps).prog) (w := w) (base := base) (T := tabsT K tn) (funC_of (p := ("Pump", some "work")) (x := "work") (qual := "Pump.work") (s := s_pump_work) F_pump_work) G )⟩
    have c_pump_new_washer : MethOk (PySem.Challenge.rw_pipehall_k04_pumps).prog w K mg base (tabsT K tn) "Pump" "new_washer" 0 f_pump_new_washer 1 := ⟨_, _, _, _, He.glo_ok X G0 (cd.fact 19 (f := .glo "Pump") rfl), He.cls_ok (cd.fact 36 (f := .cls "Pump") rfl), He.meth_ok (cd.fact 47 (f := .meth "Pump" "new_washer") rfl), b_pump_new_washer, (ok_pump_new_washer (P := (PySem.Challenge.rw_pipehall_k04_pumps).prog) (w := w) (base := base) (T := tabsT K tn) (funC_of (p := ("Pump", some "new_washer")) (x := "new_washer") (qual := "Pump.new_washer") (s := s_pump_new_washer) F_pump_new_washer) G )⟩
    have c_pump_strokes_for : MethOk (PySem.Challenge.rw_pipehall_k04_pumps).prog w K mg base (tabsT K tn) "Pump" "strokes_for" 1 f_pump_strokes_for 1 := ⟨_, _, _, _, He.glo_ok X G0 (cd.fact 19 (f := .glo "Pump") rfl), He.cls_ok (cd.fact 36 (f := .cls "Pump") rfl), He.meth_ok (cd.fact 48 (f := .meth "Pump" "strokes_for") rfl), b_pump_strokes_for, (ok_pump_strokes_for (P := (PySem.Challenge.rw_pipehall_k04_pumps).prog) (w := w) (base := base) (T := tabsT K tn) (funC_of (p := ("Pump", some "strokes_for")) (x := "strokes_for") (qual := "Pump.strokes_for") (s := s_pump_strokes_for) F_pump_strokes_for) G )⟩
    have c_pump_shown : MethOk (PySem.Challenge.rw_pipehall_k04_pumps).prog w K mg base (tabsT K tn) "Pump" "shown" 0 f_pump_shown 1 := ⟨_, _, _, _, He.glo_ok X G0 (cd.fact 19 (f := .glo "Pump") rfl), He.cls_ok (cd.fact 36 (f := .cls "Pump") rfl), He.meth_ok (cd.fact 49 (f := .meth "Pump" "shown") rfl), b_pump_shown, (ok_pump_shown (P := (PySem.Challenge.rw_pipehall_k04_pumps).prog) (w := w) (base := base) (T := tabsT K tn) (funC_of (p := ("Pump", some "shown")) (x := "shown") (qual := "Pump.shown") (s := s_pump_shown) F_pump_shown) G )⟩
    have c_stages : CallOk (PySem.Challenge.rw_pipehall_k04_pumps).prog w K mg base (tabsT K tn) "stages" 2 f_stages 1 := ⟨_, _, _, He.glo_ok X G0 (cd.fact 0 (f := .glo "stages") rfl), F_stages.kp, b_stages, (ok_stages (P := (PySem.Challenge.rw_pipehall_k04_pumps).prog) (w := w) (base := base) (T := tabsT K tn) (funC_of (p := ("stages", none)) (x := "stages") (qual := "stages") (s := s_stages) F_stages) G )⟩
    have c_row_gives : CallOk (PySem.Challenge.rw_pipehall_k04_pumps).prog w K mg base (tabsT K tn) "row_gives" 1 f_row_gives 1 := ⟨_, _, _, He.glo_ok X G0 (cd.fact 1 (f := .glo "row_gives") rfl), F_row_gives.kp, b_row_gives, (ok_row_gives (P := (PySem.Challenge.rw_pipehall_k04_pumps).prog) (w := w) (base := base) (T := tabsT K tn) (funC_of (p := ("row_gives", none)) (x := "row_gives") (qual := "row_gives") (s := s_row_gives) F_row_gives) G )⟩
    have c_shifts : CallOk (PySem.Challenge.rw_pipehall_k04_pumps).prog w K mg base (tabsT K tn) "shifts" 3 f_shifts 1 := ⟨_, _, _, He.glo_ok X G0 (cd.fact 2 (f := .glo "shifts") rfl), F_shifts.kp, b_shifts, (ok_shifts (P := (PySem.Challenge.rw_pipehall_k04_pumps).prog) (w := w) (base := base) (T := tabsT K tn) (funC_of (p := ("shifts", none)) (x := "shifts") (qual := "shifts") (s := s_shifts) F_shifts) G )⟩
    have c_law_flat : CallOk (PySem.Challenge.rw_pipehall_k04_pumps).prog w K mg base (tabsT K tn) "_law_flat" 1 f_law_flat 1 := ⟨_, _, _, He.glo_ok X G0 (cd.fact 3 (f := .glo "_law_flat") rfl), F_law_flat.kp, b_law_flat, (ok_law_flat (P := (PySem.Challenge.rw_pipehall_k04_pumps).prog) (w := w) (base := base) (T := tabsT K tn) (funC_of (p := ("_law_flat", none)) (x := "_law_flat") (qual := "_law_flat") (s := s_law_flat) F_law_flat) G )⟩
    have c_law_dice : CallOk (PySem.Challenge.rw_pipehall_k04_pumps).prog w K mg base (tabsT K tn) "_law_dice" 1 f_law_dice 1 := ⟨_, _, _, He.glo_ok X G0 (cd.fact 4 (f := .glo "_law_dice") rfl), F_law_dice.kp, b_law_dice, (ok_law_dice (P := (PySem.Challenge.rw_pipehall_k04_pumps).prog) (w := w) (base := base) (T := tabsT K tn) (funC_of (p := ("_law_dice", none)) (x := "_law_dice") (qual := "_law_dice") (s := s_law_dice) F_law_dice) G )⟩
    have c_law_roll : CallOk (PySem.Challenge.rw_pipehall_k04_pumps).prog w K mg base (tabsT K tn) "_law_roll" 2 f_law_roll 1 := ⟨_, _, _, He.glo_ok X G0 (cd.fact 5 (f := .glo "_law_roll") rfl), F_law_roll.kp, b_law_roll, (ok_law_roll (P := (PySem.Challenge.rw_pipehall_k04_pumps).prog) (w := w) (base := base) (T := tabsT K tn) (funC_of (p := ("_law_roll", none)) (x := "_law_roll") (qual := "_law_roll") (s := s_law_roll) F_law_roll) G )⟩
    have c_shaft_dry : CallOk (PySem.Challenge.rw_pipehall_k04_pumps).prog w K mg base (tabsT K tn) "shaft_dry" 4 f_shaft_dry 2 := ⟨_, _, _, He.glo_ok X G0 (cd.fact 6 (f := .glo "shaft_dry") rfl), F_shaft_dry.kp, b_shaft_dry, (ok_shaft_dry (P := (PySem.Challenge.rw_pipehall_k04_pumps).prog) (w := w) (base := base) (T := tabsT K tn) (funC_of (p := ("shaft_dry", none)) (x := "shaft_dry") (qual := "shaft_dry") (s := s_shaft_dry) F_shaft_dry) G (hh (("shaft_dry", none), nm_shaft_dry) (by simp [tn])) )⟩
    have c_fewest_pumps : CallOk (PySem.Challenge.rw_pipehall_k04_pumps).prog w K mg base (tabsT K tn) "fewest_pumps" 2 f_fewest_pumps 2 := ⟨_, _, _, He.glo_ok X G0 (cd.fact 7 (f := .glo "fewest_pumps") rfl), F_fewest_pumps.kp, b_fewest_pumps, (ok_fewest_pumps (P := (PySem.Challenge.rw_pipehall_k04_pumps).prog) (w := w) (base := base) (T := tabsT K tn) (funC_of (p := ("fewest_pumps", none)) (x := "fewest_pumps") (qual := "fewest_pumps") (s := s_fewest_pumps) F_fewest_pumps) G (hh (("fewest_pumps", none), nm_fewest_pumps) (by simp [tn])) )⟩
    have c_wheel_pumps : CallOk (PySem.Challenge.rw_pipehall_k04_pumps).prog w K mg base (tabsT K tn) "wheel_pumps" 2 f_wheel_pumps 2 := ⟨_, _, _, He.glo_ok X G0 (cd.fact 8 (f := .glo "wheel_pumps") rfl), F_wheel_pumps.kp, b_wheel_pumps, (ok_wheel_pumps (P := (PySem.Challenge.rw_pipehall_k04_pumps).prog) (w := w) (base := base) (T := tabsT K tn) (funC_of (p := ("wheel_pumps", none)) (x := "wheel_pumps") (qual := "wheel_pumps") (s := s_wheel_pumps) F_wheel_pumps) G (hh (("wheel_pumps", none), nm_wheel_pumps) (by simp [tn])) )⟩
    have c_primed : CallOk (PySem.Challenge.rw_pipehall_k04_pumps).prog w K mg base (tabsT K tn) "primed" 3 f_primed 2 := ⟨_, _, _, He.glo_ok X G0 (cd.fact 9 (f := .glo "primed") rfl), F_primed.kp, b_primed, (ok_primed (P := (PySem.Challenge.rw_pipehall_k04_pumps).prog) (w := w) (base := base) (T := tabsT K tn) (funC_of (p := ("primed", none)) (x := "primed") (qual := "primed") (s := s_primed) F_primed) G (hh (("primed", none), nm_primed) (by simp [tn])) )⟩
    have c_law_cases1 : CallOk (PySem.Challenge.rw_pipehall_k04_pumps).prog w K mg base (tabsT K tn) "_law_cases1" 0 f_law_cases1 6 := ⟨_, _, _, He.glo_ok X G0 (cd.fact 10 (f := .glo "_law_cases1") rfl), F_law_cases1.kp, b_law_cases1, (ok_law_cases1 (P := (PySem.Challenge.rw_pipehall_k04_pumps).prog) (w := w) (base := base) (T := tabsT K tn) (funC_of (p := ("_law_cases1", none)) (x := "_law_cases1") (qual := "_law_cases1") (s := s_law_cases1) F_law_cases1) G (hh (("_law_cases1", none), nm_law_cases1) (by simp [tn])) c_primed c_wheel_pumps c_shifts c_fewest_pumps c_shaft_dry)⟩
    have c_law_rest1 : CallOk (PySem.Challenge.rw_pipehall_k04_pumps).prog w K mg base (tabsT K tn) "_law_rest1" 3 f_law_rest1 7 := ⟨_, _, _, He.glo_ok X G0 (cd.fact 11 (f := .glo "_law_rest1") rfl), F_law_rest1.kp, b_law_rest1, (ok_law_rest1 (P := (PySem.Challenge.rw_pipehall_k04_pumps).prog) (w := w) (base := base) (T := tabsT K tn) (funC_of (p := ("_law_rest1", none)) (x := "_law_rest1") (qual := "_law_rest1") (s := s_law_rest1) F_law_rest1) G (hh (("_law_rest1", none), nm_law_rest1) (by simp [tn])) c_law_cases1 c_stages c_pump_strokes_for c_pump_init c_primed c_law_roll c_wheel_pumps c_shifts c_law_flat c_fewest_pumps)⟩
    exact ok_law (P := (PySem.Challenge.rw_pipehall_k04_pumps).prog) (w := w) (base := base) (T := tabsT K tn) (funC_of (p := ("law", none)) (x := "law") (qual := "law") (s := s_law) F_law) G (hh (("law", none), nm_law) (by simp [tn])) c_law_rest1 c_shaft_dry c_law_roll c_row_gives c_stages c_pump_strokes_for c_pump_shown c_pump_rain c_pump_work c_pump_new_washer c_pump_init (He.glo_ok X G0 (cd.fact 13 (f := .glo "_law_rounds") rfl)) F_law_rounds.kp b_law_rounds (ok_law_rounds (P := (PySem.Challenge.rw_pipehall_k04_pumps).prog) (w := w) (base := base) (T := tabsT K tn) (funC_of (p := ("_law_rounds", none)) (x := "_law_rounds") (qual := "_law_rounds") (s := s_law_rounds) F_law_rounds) c_law_dice hD) plain
end K04
end

section
set_option Elab.async false
set_option linter.all false
set_option maxRecDepth 1000000
set_option maxHeartbeats 4000000
set_option autoImplicit false
namespace K04
open PySem L2 TL TY
open Enc (enc)
structure R_Pump where
  lift : Int
  stroke : Int
  washer : Int
  left : Int
  well : Int
  lifted : Int
  strokes : Int
deriving Inhabited
@[reducible] def vc_Pump (o : R_Pump) : VC := .obj "Pump" [("lift", .d (enc o.lift)), ("stroke", .d (enc o.stroke)), ("washer", .d (enc o.washer)), ("left", .d (enc o.left)), ("well", .d (enc o.well)), ("lifted", .d (enc o.lifted)), ("strokes", .d (enc o.strokes))]
def B_pump_init (a1 : Int) (a2 : Int) (a3 : Int) : Stp Unit R_Pump Empty R_Pump :=
  if (decide ((min (min a1 a2) a3) < (1 : Int))) = true then Stp.lift (.exn "BadPlan" ()) else (Stp.nx (a1 : Int)).seq fun v2 => (Stp.nx (a2 : Int)).seq fun v3 => (Stp.nx (a3 : Int)).seq fun v4 => (Stp.nx (a3 : Int)).seq fun v5 => (Stp.nx ((0 : Int) : Int)).seq fun v6 => (Stp.nx ((0 : Int) : Int)).seq fun v7 => (Stp.nx ((0 : Int) : Int)).seq fun v8 => .nx (R_Pump.mk (v2) (v3) (v4) (v5) (v6) (v7) (v8))
def T_pump_init (a1 : Int) (a2 : Int) (a3 : Int) : Out Unit R_Pump := Stp.fin (B_pump_init a1 a2 a3) (fun (s : R_Pump) => s)
theorem C_pump_init (a1 : Int) (a2 : Int) (a3 : Int) : FC f_pump_init [.b (.obj "Pump" []), .d (enc (a1 : Int)), .d (enc (a2 : Int)), .d (enc (a3 : Int))] (T_pump_init a1 a2 a3) (fun _ => [.b (.obj "Pump" []), .j, .j, .j]) (fun r => [.b (vc_Pump r), .j, .j, .j]) (fun _ => PyData.none) :=
  FC_of (t := B_pump_init a1 a2 a3) (fn := (fun (s : R_Pump) => s)) (show 4 ≤ 4 by decide) (fun B A hw => (show SJ _ _ [.p (A 0) (.obj "Pump" []), .d (enc (a1 : Int)), .d (enc (a2 : Int)), .d (enc (a3 : Int))] m_pump_init (B_pump_init a1 a2 a3) (fun s => [.p (A 0) (vc_Pump s), .junk, .junk, .junk]) from by
    unfold m_pump_init B_pump_init
    refine Y_ifE ?hc_16 ?ha_16 ?hd_16; (case hc_16 => exact TJ_e (EJ_p2 (EJ.v (EJ_pn (AV_cons (EJ.v (EJ_var (i := 1) rfl)) (AV_cons (EJ.v (EJ_var (i := 2) rfl)) (AV_cons (EJ.v (EJ_var (i := 3) rfl)) (AV_nil)))) o_min3)) (EJ.v (EJ_C)) rfl)); (case ha_16 => (intro c1; exact Y_raise (wk_k <| wk_o <| wk_o <| wk_o <| wk_n))); intro c1; refine' Y_seq ?h1_15 ?h2_15; (case h1_15 => (exact Y_fld (i := 0) rfl (show 0 < 999 by decide) (EJ_var (i := 1) rfl))); intro v2; refine Y_at [.p (A 0) (.obj "Pump" [("lift", .d (enc (v2 : Int)))]), .d (enc (a1 : Int)), .d (enc (a2 : Int)), .d (enc (a3 : Int))] ?_; refine' Y_seq ?h1_14 ?h2_14; (case h1_14 => (exact Y_fld (i := 0) rfl (show 1 < 999 by decide) (EJ_var (i := 2) rfl))); intro v3; refine Y_at [.p (A 0) (.obj "Pump" [("lift", .d (enc (v2 : Int))), ("stroke", .d (enc (v3 : Int)))]), .d (enc (a1 : Int)), .d (enc (a2 : Int)), .d (enc (a3 : Int))] ?_; refine' Y_seq ?h1_13 ?h2_13; (case h1_13 => (exact Y_fld (i := 0) rfl (show 2 < 999 by decide) (EJ_var (i := 3) rfl))); intro v4; refine Y_at [.p (A 0) (.obj "Pump" [("lift", .d (enc (v2 : Int))), ("stroke", .d (enc (v3 : Int))), ("washer", .d (enc (v4 : Int)))]), .d (enc (a1 : Int)), .d (enc (a2 : Int)), .d (enc (a3 : Int))] ?_; refine' Y_seq ?h1_12 ?h2_12; (case h1_12 => (exact Y_fld (i := 0) rfl (show 3 < 999 by decide) (EJ_var (i := 3) rfl))); intro v5; refine Y_at [.p (A 0) (.obj "Pump" [("lift", .d (enc (v2 : Int))), ("stroke", .d (enc (v3 : Int))), ("washer", .d (enc (v4 : Int))), ("left", .d (enc (v5 : Int)))]), .d (enc (a1 : Int)), .d (enc (a2 : Int)), .d (enc (a3 : Int))] ?_; refine' Y_seq ?h1_11 ?h2_11; (case h1_11 => (exact Y_fld (i := 0) rfl (show 4 < 999 by decide) (EJ_C))); intro v6; refine Y_at [.p (A 0) (.obj "Pump" [("lift", .d (enc (v2 : Int))), ("stroke", .d (enc (v3 : Int))), ("washer", .d (enc (v4 : Int))), ("left", .d (enc (v5 : Int))), ("well", .d (enc (v6 : Int)))]), .d (enc (a1 : Int)), .d (enc (a2 : Int)), .d (enc (a3 : Int))] ?_; refine' Y_seq ?h1_10 ?h2_10; (case h1_10 => (exact Y_fld (i := 0) rfl (show 5 < 999 by decide) (EJ_C))); intro v7; refine Y_at [.p (A 0) (.obj "Pump" [("lift", .d (enc (v2 : Int))), ("stroke", .d (enc (v3 : Int))), ("washer", .d (enc (v4 : Int))), ("left", .d (enc (v5 : Int))), ("well", .d (enc (v6 : Int))), ("lifted", .d (enc (v7 : Int)))]), .d (enc (a1 : Int)), .d (enc (a2 : Int)), .d (enc (a3 : Int))] ?_; refine' Y_last ?h1_9 ?h2_9; (case h1_9 => (exact Y_fld (i := 0) rfl (show 6 < 999 by decide) (EJ_C))); exact fun v8 => (wk_k <| wk_o <| wk_o <| wk_o <| wk_n))) (by intro s; rfl) (fun A s => wk.refl _) (fun _ => rfl) (fun _ => rfl)
def B_pump_rain (a0 : R_Pump) (a1 : Int) : Stp R_Pump (Int × R_Pump) Empty Empty :=
  if (decide (a1 < (1 : Int))) = true then Stp.lift (.exn "BadSize" a0) else (Stp.nx ((a0).well + a1)).seq fun v2 => .rt ((({ a0 with well := v2 } : R_Pump)).well, ({ a0 with well := v2 } : R_Pump))
def T_pump_rain (a0 : R_Pump) (a1 : Int) : Out R_Pump (Int × R_Pump) := Stp.fin (B_pump_rain a0 a1) Empty.elim
theorem C_pump_rain (a0 : R_Pump) (a1 : Int) : FC f_pump_rain [.b (vc_Pump (a0)), .d (enc (a1 : Int))] (T_pump_rain a0 a1) (fun (x : R_Pump) => [.b (vc_Pump (x)), .j]) (fun (r : Int × R_Pump) => [.b (vc_Pump (r.2)), .j]) (fun r => enc r.1) :=
  FC_of (t := B_pump_rain a0 a1) (fn := Empty.elim) (show 2 ≤ 2 by decide) (fun B A hw => (show SJ _ _ [.p (A 0) (vc_Pump (a0)), .d (enc (a1 : Int))] m_pump_rain (B_pump_rain a0 a1) (Empty.elim) from by
    unfold m_pump_rain B_pump_rain
    refine Y_ifE ?hc_4 ?ha_4 ?hd_4; (case hc_4 => exact TJ_e (EJ_p2 (EJ.v (EJ_var (i := 1) rfl)) (EJ.v (EJ_C)) rfl)); (case ha_4 => (intro c1; exact Y_raise (wk_k <| wk_o <| wk_n))); intro c1; refine' Y_seq ?h1_3 ?h2_3; (case h1_3 => (exact Y_augfld (i := 0) rfl (show 7 < 999 by decide) rfl (EJ.v (EJ_var (i := 1) rfl)) rfl)); intro v2; refine Y_at [.p (A 0) (vc_Pump (({ a0 with well := v2 } : R_Pump))), .d (enc (a1 : Int))] ?_; exact Y_ret (q := ((({ a0 with well := v2 } : R_Pump)).well, ({ a0 with well := v2 } : R_Pump))) (EJ_fld (i := 0) rfl rfl) (wk_k <| wk_o <| wk_n))) (by intro s; exact s.elim) (fun A s => s.elim) (fun _ => rfl) (fun _ => rfl)
def B_pump_work (a0 : R_Pump) (a1 : Int) (a2 : Int) : Stp R_Pump (Int × R_Pump) Empty Empty :=
  if ((decide (a1 < (1 : Int))) || (decide (a2 < (0 : Int)))) = true then Stp.lift (.exn "BadSize" a0) else if (decide (a2 > (a0).lift)) = true then Stp.lift (.exn "NoWay" a0) else (Stp.nx ((0 : Int) : Int)).seq fun v4 => grdS ((small a1)) ((forT (fun (y7 : Int) (s6 : R_Pump × Int) => (Stp.nx ((s6.1).strokes + (1 : Int))).seq fun v9 => (if (decide ((({ s6.1 with strokes := v9 } : R_Pump)).left > (0 : Int))) = true then (Stp.nx ((min ((({ s6.1 with strokes := v9 } : R_Pump)).stroke) ((({ s6.1 with strokes := v9 } : R_Pump)).well)) : Int)).seq fun v11 => (Stp.nx ((({ s6.1 with strokes := v9 } : R_Pump)).well - v11)).seq fun v12 => (Stp.nx (s6.2 + v11)).seq fun v13 => (Stp.nx ((({ ({ s6.1 with strokes := v9 } : R_Pump) with well := v12 } : R_Pump)).left - (1 : Int))).seq fun v14 => .nx (({ ({ ({ s6.1 with strokes := v9 } : R_Pump) with well := v12 } : R_Pump) with left := v14 } : R_Pump), v13) else .nx (({ s6.1 with strokes := v9 } : R_Pump), s6.2)).seq fun s21 => .nx (s21.1, s21.2)) (rng a1) (a0, v4)).seq fun s25 => (Stp.nx ((s25.1).lifted + s25.2)).seq fun v26 => .rt (s25.2, ({ s25.1 with lifted := v26 } : R_Pump)))
def T_pump_work (a0 : R_Pump) (a1 : Int) (a2 : Int) : Out R_Pump (Int × R_Pump) := Stp.fin (B_pump_work a0 a1 a2) Empty.elim
theorem C_pump_work (a0 : R_Pump) (a1 : Int) (a2 : Int) : FC f_pump_work [.b (vc_Pump (a0)), .d (enc (a1 : Int)), .d (enc (a2 : Int))] (T_pump_work a0 a1 a2) (fun (x : R_Pump) => [.b (vc_Pump (x)), .j, .j]) (fun (r : Int × R_Pump) => [.b (vc_Pump (r.2)), .j, .j]) (fun r => enc r.1) :=
  FC_of (t := B_pump_work a0 a1 a2) (fn := Empty.elim) (show 3 ≤ 6 by decide) (fun B A hw => (show SJ _ _ [.p (A 0) (vc_Pump (a0)), .d (enc (a1 : Int)), .d (enc (a2 : Int)), .junk, .junk, .junk] m_pump_work (B_pump_work a0 a1 a2) (Empty.elim) from by
    unfold m_pump_work B_pump_work
    refine Y_ifE ?hc_31 ?ha_31 ?hd_31; (case hc_31 => exact TJ_or (TJ_e (EJ_p2 (EJ.v (EJ_var (i := 1) rfl)) (EJ.v (EJ_C)) rfl)) (fun y1 => TJ_e (EJ_p2 (EJ.v (EJ_var (i := 2) rfl)) (EJ.v (EJ_C)) rfl))); (case ha_31 => (intro c2; exact Y_raise (wk_k <| wk_o <| wk_o <| wk_o <| wk_o <| wk_o <| wk_n))); intro c2; refine Y_ifE ?hc_30 ?ha_30 ?hd_30; (case hc_30 => exact TJ_e (EJ_p2 (EJ.v (EJ_var (i := 2) rfl)) (EJ.v (EJ_fld (i := 0) rfl rfl)) rfl)); (case ha_30 => (intro c3; exact Y_raise (wk_k <| wk_o <| wk_o <| wk_o <| wk_o <| wk_o <| wk_n))); intro c3; refine' Y_seq ?h1_29 ?h2_29; (case h1_29 => (exact Y_set (i := 3) (show 3 < 6 by decide) (EJ_C))); intro v4; refine Y_at [.p (A 0) (vc_Pump (a0)), .d (enc (a1 : Int)), .d (enc (a2 : Int)), .d (enc (v4 : Int)), .junk, .junk] ?_; refine Y_grd ?_; rintro h5; refine' Y_seq ?h1_28 ?h2_28; (case h1_28 => (refine Y_for (fun (s6 : R_Pump × Int) => [.p (A 0) (vc_Pump (s6.1)), .d (enc (a1 : Int)), .d (enc (a2 : Int)), .d (enc (s6.2 : Int)), .junk, .junk]) (fun (s6 : R_Pump × Int) (y7 : Int) => [.p (A 0) (vc_Pump (s6.1)), .d (enc (a1 : Int)), .d (enc (a2 : Int)), .d (enc (s6.2 : Int)), .d (enc (y7 : Int)), .junk]) ?hi_24 ?h0_24 ?hp_24 ?hb_24; (case hi_24 => exact IJ_pn (AJ_cons (EJ_var (i := 1) rfl) (AJ_nil)) (p_range1 h5)); (case h0_24 => exact (wk_k <| wk_k <| wk_k <| wk_k <| wk_o <| wk_o <| wk_n)); (case hp_24 => exact fun _ _ => rfl); intro s6 y7 m8; refine' Y_seq ?h1_23 ?h2_23; (case h1_23 => (exact Y_augfld (i := 0) rfl (show 7 < 999 by decide) rfl (EJ.v (EJ_C)) rfl)); intro v9; refine Y_at [.p (A 0) (vc_Pump (({ s6.1 with strokes := v9 } : R_Pump))), .d (enc (a1 : Int)), .d (enc (a2 : Int)), .d (enc (s6.2 : Int)), .d (enc (y7 : Int)), .junk] ?_; refine' Y_last ?h1_22 ?h2_22; (case h1_22 => (refine Y_if (envk := fun (s19 : R_Pump × Int) => [.p (A 0) (vc_Pump (s19.1)), .d (enc (a1 : Int)), .d (enc (a2 : Int)), .d (enc (s19.2 : Int)), .d (enc (y7 : Int)), .junk]) ?hc_20 ?ha_20 ?hd_20; (case hc_20 => exact TJ_e (EJ_p2 (EJ.v (EJ_fld (i := 0) rfl rfl)) (EJ.v (EJ_C)) rfl)); (case ha_20 => (intro c10; refine' Y_seq ?h1_18 ?h2_18; (case h1_18 => (exact Y_set (i := 5) (show 5 < 6 by decide) (EJ_pn (AV_cons (EJ.v (EJ_fld (i := 0) rfl rfl)) (AV_cons (EJ.v (EJ_fld (i := 0) rfl rfl)) (AV_nil))) o_min2))); intro v11; refine Y_at [.p (A 0) (vc_Pump (({ s6.1 with strokes := v9 } : R_Pump))), .d (enc (a1 : Int)), .d (enc (a2 : Int)), .d (enc (s6.2 : Int)), .d (enc (y7 : Int)), .d (enc (v11 : Int))] ?_; refine' Y_seq ?h1_17 ?h2_17; (case h1_17 => (exact Y_augfld (i := 0) rfl (show 7 < 999 by decide) rfl (EJ.v (EJ_var (i := 5) rfl)) rfl)); intro v12; refine Y_at [.p (A 0) (vc_Pump (({ ({ s6.1 with strokes := v9 } : R_Pump) with well := v12 } : R_Pump))), .d (enc (a1 : Int)), .d (enc (a2 : Int)), .d (enc (s6.2 : Int)), .d (enc (y7 : Int)), .d (enc (v11 : Int))] ?_; refine' Y_seq ?h1_16 ?h2_16; (case h1_16 => (exact Y_aug (i := 3) (show 3 < 6 by decide) (EJ_p2 (EJ.v (EJ_var (i := 3) rfl)) (EJ.v (EJ_var (i := 5) rfl)) rfl))); intro v13; refine Y_at [.p (A 0) (vc_Pump (({ ({ s6.1 with strokes := v9 } : R_Pump) with well := v12 } : R_Pump))), .d (enc (a1 : Int)), .d (enc (a2 : Int)), .d (enc (v13 : Int)), .d (enc (y7 : Int)), .d (enc (v11 : Int))] ?_; refine' Y_last ?h1_15 ?h2_15; (case h1_15 => (exact Y_augfld (i := 0) rfl (show 7 < 999 by decide) rfl (EJ.v (EJ_C)) rfl)); exact fun v14 => (wk_k <| wk_k <| wk_k <| wk_k <| wk_k <| wk_o <| wk_n))); intro c10; exact Y_nil (wk_k <| wk_k <| wk_k <| wk_k <| wk_k <| wk_o <| wk_n))); exact fun s21 => (wk_k <| wk_k <| wk_k <| wk_k <| wk_o <| wk_o <| wk_n))); intro s25; refine Y_at [.p (A 0) (vc_Pump (s25.1)), .d (enc (a1 : Int)), .d (enc (a2 : Int)), .d (enc (s25.2 : Int)), .junk, .junk] ?_; refine' Y_seq ?h1_27 ?h2_27; (case h1_27 => (exact Y_augfld (i := 0) rfl (show 7 < 999 by decide) rfl (EJ.v (EJ_var (i := 3) rfl)) rfl)); intro v26; refine Y_at [.p (A 0) (vc_Pump (({ s25.1 with lifted := v26 } : R_Pump))), .d (enc (a1 : Int)), .d (enc (a2 : Int)), .d (enc (s25.2 : Int)), .junk, .junk] ?_; exact Y_ret (q := (s25.2, ({ s25.1 with lifted := v26 } : R_Pump))) (EJ_var (i := 3) rfl) (wk_k <| wk_o <| wk_o <| wk_o <| wk_o <| wk_o <| wk_n))) (by intro s; exact s.elim) (fun A s => s.elim) (fun _ => rfl) (fun _ => rfl)
def B_pump_new_washer (a0 : R_Pump) : Stp R_Pump (Int × R_Pump) Empty Empty :=
  if (decide ((a0).left = (a0).washer)) = true then Stp.lift (.exn "BadDeed" a0) else (Stp.nx ((a0).left : Int)).seq fun v2 => (Stp.nx ((a0).washer : Int)).seq fun v3 => .rt (v2, ({ a0 with left := v3 } : R_Pump))
def T_pump_new_washer (a0 : R_Pump) : Out R_Pump (Int × R_Pump) := Stp.fin (B_pump_new_washer a0) Empty.elim
theorem C_pump_new_washer (a0 : R_Pump) : FC f_pump_new_washer [.b (vc_Pump (a0))] (T_pump_new_washer a0) (fun (x : R_Pump) => [.b (vc_Pump (x))]) (fun (r : Int × R_Pump) => [.b (vc_Pump (r.2))]) (fun r => enc r.1) :=
  FC_of (t := B_pump_new_washer a0) (fn := Empty.elim) (show 1 ≤ 2 by decide) (fun B A hw => (show SJ _ _ [.p (A 0) (vc_Pump (a0)), .junk] m_pump_new_washer (B_pump_new_washer a0) (Empty.elim) from by
    unfold m_pump_new_washer B_pump_new_washer
    refine Y_ifE ?hc_6 ?ha_6 ?hd_6; (case hc_6 => exact TJ_e (EJ_p2 (EJ.v (EJ_fld (i := 0) rfl rfl)) (EJ.v (EJ_fld (i := 0) rfl rfl)) rfl)); (case ha_6 => (intro c1; exact Y_raise (wk_k <| wk_o <| wk_n))); intro c1; refine' Y_seq ?h1_5 ?h2_5; (case h1_5 => (exact Y_set (i := 1) (show 1 < 2 by decide) (EJ_fld (i := 0) rfl rfl))); intro v2; refine Y_at [.p (A 0) (vc_Pump (a0)), .d (enc (v2 : Int))] ?_; refine' Y_seq ?h1_4 ?h2_4; (case h1_4 => (exact Y_fld (i := 0) rfl (show 7 < 999 by decide) (EJ_fld (i := 0) rfl rfl))); intro v3; refine Y_at [.p (A 0) (vc_Pump (({ a0 with left := v3 } : R_Pump))), .d (enc (v2 : Int))] ?_; exact Y_ret (q := (v2, ({ a0 with left := v3 } : R_Pump))) (EJ_var (i := 1) rfl) (wk_k <| wk_o <| wk_n))) (by intro s; exact s.elim) (fun A s => s.elim) (fun _ => rfl) (fun _ => rfl)
def B_pump_shown (a0 : R_Pump) : Stp Unit (T4 Int Int Int Int) Empty Empty :=
  .rt (T4.mk ((a0).well) ((a0).lifted) ((a0).strokes) ((a0).left) : T4 Int Int Int Int)
def T_pump_shown (a0 : R_Pump) : Out Unit (T4 Int Int Int Int) := Stp.fin (B_pump_shown a0) Empty.elim
theorem P_pump_shown (a0 : R_Pump) : FP f_pump_shown [.b (vc_Pump (a0))] (T_pump_shown a0) (fun r => enc (r : T4 Int Int Int Int)) :=
  FP_of (t := B_pump_shown a0) (fn := Empty.elim) (show 1 ≤ 1 by decide) (fun B A hM hB => (show SJ _ _ [.r (A 0) (vc_Pump (a0))] m_pump_shown (B_pump_shown a0) (Empty.elim) from by
    unfold m_pump_shown B_pump_shown
    exact Y_ret (q := (T4.mk ((a0).well) ((a0).lifted) ((a0).strokes) ((a0).left) : T4 Int Int Int Int)) (EJ_as (enc ((T4.mk ((a0).well) ((a0).lifted) ((a0).strokes) ((a0).left) : T4 Int Int Int Int) : T4 Int Int Int Int)) (EJ_disp (AJ_cons (EJ_fld (i := 0) rfl rfl) (AJ_cons (EJ_fld (i := 0) rfl rfl) (AJ_cons (EJ_fld (i := 0) rfl rfl) (AJ_cons (EJ_fld (i := 0) rfl rfl) (AJ_nil))))) (pTn 4 rfl))) (wk_o <| wk_n))) (by intro s; exact s.elim)
def B_pump_strokes_for (a0 : R_Pump) (a1 : Int) : Stp Unit Int Empty Empty :=
  if (decide (a1 < (0 : Int))) = true then Stp.lift (.exn "BadSize" ()) else grdS ((0 < (a0).stroke ∧ (a0).stroke < 1073741824)) (.rt ((0 : Int) - (((0 : Int) - a1) / (a0).stroke)))
def T_pump_strokes_for (a0 : R_Pump) (a1 : Int) : Out Unit Int := Stp.fin (B_pump_strokes_for a0 a1) Empty.elim
theorem P_pump_strokes_for (a0 : R_Pump) (a1 : Int) : FP f_pump_strokes_for [.b (vc_Pump (a0)), .d (enc (a1 : Int))] (T_pump_strokes_for a0 a1) (fun r => enc (r : Int)) :=
  FP_of (t := B_pump_strokes_for a0 a1) (fn := Empty.elim) (show 2 ≤ 2 by decide) (fun B A hM hB => (show SJ _ _ [.r (A 0) (vc_Pump (a0)), .d (enc (a1 : Int))] m_pump_strokes_for (B_pump_strokes_for a0 a1) (Empty.elim) from by
    unfold m_pump_strokes_for B_pump_strokes_for
    refine Y_ifE ?hc_3 ?ha_3 ?hd_3; (case hc_3 => exact TJ_e (EJ_p2 (EJ.v (EJ_var (i := 1) rfl)) (EJ.v (EJ_C)) rfl)); (case ha_3 => (intro c1; exact Y_raise (wk_o <| wk_o <| wk_n))); intro c1; refine Y_grd ?_; rintro h2; exact Y_ret (q := ((0 : Int) - (((0 : Int) - a1) / (a0).stroke))) (EJ_p2 (EJ.v (EJ_C)) (EJ.v (EJ_p2 (EJ.v (EJ_p2 (EJ.v (EJ_C)) (EJ.v (EJ_var (i := 1) rfl)) rfl)) (EJ.v (EJ_fld (i := 0) rfl rfl)) (o_div h2))) rfl) (wk_o <| wk_o <| wk_n))) (by intro s; exact s.elim)
def B_stages (a0 : Int) (a1 : Int) : Stp Unit (Tup Int) Empty Empty :=
  if ((decide (a0 < (0 : Int))) || (decide (a1 < (1 : Int)))) = true then Stp.lift (.exn "BadSize" ()) else grdS ((ok3 (0 : Int) a0 a1 ∧ (Builtin.Range.rangeSize (0 : Int) a0 a1).toNat ≤ lineN)) (.rt (Tup.mk (rng3 (0 : Int) a0 a1)))
def T_stages (a0 : Int) (a1 : Int) : Out Unit (Tup Int) := Stp.fin (B_stages a0 a1) Empty.elim
theorem P_stages (a0 : Int) (a1 : Int) : FP f_stages [.d (enc (a0 : Int)), .d (enc (a1 : Int))] (T_stages a0 a1) (fun r => enc (r : Tup Int)) :=
  FP_of (t := B_stages a0 a1) (fn := Empty.elim) (show 2 ≤ 2 by decide) (fun B A hM hB => (show SJ _ _ [.d (enc (a0 : Int)), .d (enc (a1 : Int))] m_stages (B_stages a0 a1) (Empty.elim) from by
    unfold m_stages B_stages
    refine Y_ifE ?hc_4 ?ha_4 ?hd_4; (case hc_4 => exact TJ_or (TJ_e (EJ_p2 (EJ.v (EJ_var (i := 0) rfl)) (EJ.v (EJ_C)) rfl)) (fun y1 => TJ_e (EJ_p2 (EJ.v (EJ_var (i := 1) rfl)) (EJ.v (EJ_C)) rfl))); (case ha_4 => (intro c2; exact Y_raise (wk_o <| wk_o <| wk_n))); intro c2; refine Y_grd ?_; rintro h3; exact Y_ret (q := (Tup.mk (rng3 (0 : Int) a0 a1))) (EJ_pn (AV_cons (EJ.v (EJ_pn (AV_cons (EJ.v (EJ_C)) (AV_cons (EJ.v (EJ_var (i := 0) rfl)) (AV_cons (EJ.v (EJ_var (i := 1) rfl)) (AV_nil)))) (o_lrg3 h3))) (AV_nil)) rfl) (wk_o <| wk_o <| wk_n))) (by intro s; exact s.elim)
def B_row_gives (a0 : List Int) : Stp Unit Int Empty Empty :=
  grdS (((a0).length ≤ lineN)) (.rt (minD a0 (0 : Int)))
def T_row_gives (a0 : List Int) : Out Unit Int := Stp.fin (B_row_gives a0) Empty.elim
theorem P_row_gives (a0 : List Int) : FP f_row_gives [.d (enc (a0 : List Int))] (T_row_gives a0) (fun r => enc (r : Int)) :=
  FP_of (t := B_row_gives a0) (fn := Empty.elim) (show 1 ≤ 1 by decide) (fun B A hM hB => (show SJ _ _ [.d (enc (a0 : List Int))] m_row_gives (B_row_gives a0) (Empty.elim) from by
    unfold m_row_gives B_row_gives
    refine Y_grd ?_; rintro h1; exact Y_ret (q := (minD a0 (0 : Int))) (EJ_kw (AV_cons (EJ.v (EJ_var (i := 0) rfl)) (AV_nil)) (EJ.v (EJ_C)) (o_minD h1)) (wk_o <| wk_n))) (by intro s; exact s.elim)
def B_shaft_dry (a0 : Int) (a1 : Int) (a2 : List Int) (a3 : Int) : Stp Unit Int Empty Empty :=
  if ((decide ((min (min a0 a1) a3) < (0 : Int))) || (List.any a2 (fun (y1 : Int) => ((decide (y1 < (0 : Int))) : Bool)))) = true then Stp.lift (.exn "BadSize" ()) else (Stp.nx ((0 : Int) : Int)).seq fun v6 => (whileT (fun (s7 : Int × Int) => some (decide (s7.1 > (0 : Int)))) (fun (s7 : Int × Int) => if (decide (s7.2 = a3)) = true then Stp.lift (.exn "NoWay" ()) else (Stp.nx ((max (0 : Int) ((s7.1 + a1) - ((a2 : List Int)).sum)) : Int)).seq fun v9 => (Stp.nx (s7.2 + (1 : Int))).seq fun v10 => .nx (v9, v10)) 1000000 (a0, v6)).seq fun s17 => .rt s17.2
def T_shaft_dry (a0 : Int) (a1 : Int) (a2 : List Int) (a3 : Int) : Out Unit Int := Stp.fin (B_shaft_dry a0 a1 a2 a3) Empty.elim
theorem P_shaft_dry (a0 : Int) (a1 : Int) (a2 : List Int) (a3 : Int) : FP f_shaft_dry [.d (enc (a0 : Int)), .d (enc (a1 : Int)), .d (enc (a2 : List Int)), .d (enc (a3 : Int))] (T_shaft_dry a0 a1 a2 a3) (fun r => enc (r : Int)) :=
  FP_of (t := B_shaft_dry a0 a1 a2 a3) (fn := Empty.elim) (show 4 ≤ 6 by decide) (fun B A hM hB => (show SJ _ _ [.d (enc (a0 : Int)), .d (enc (a1 : Int)), .d (enc (a2 : List Int)), .d (enc (a3 : Int)), .junk, .junk] m_shaft_dry (B_shaft_dry a0 a1 a2 a3) (Empty.elim) from by
    unfold m_shaft_dry B_shaft_dry
    refine Y_ifE ?hc_20 ?ha_20 ?hd_20; (case hc_20 => exact TJ_or (TJ_e (EJ_p2 (EJ.v (EJ_pn (AV_cons (EJ.v (EJ_var (i := 0) rfl)) (AV_cons (EJ.v (EJ_var (i := 1) rfl)) (AV_cons (EJ.v (EJ_var (i := 3) rfl)) (AV_nil)))) o_min3)) (EJ.v (EJ_C)) rfl)) (fun y4 => TJ_e (EJ_any1 (fun (y1 : Int) => [.d (enc (a0 : Int)), .d (enc (a1 : Int)), .d (enc (a2 : List Int)), .d (enc (a3 : Int)), .junk, .d (enc (y1 : Int))]) (fun (y1 : Int) => ((decide (y1 < (0 : Int))) : Bool)) (IJ_seq (EJ_var (i := 2) rfl) rfl) (fun _ => rfl) (fun y1 m2 => EJ_p2 (EJ.v (EJ_var (i := 5) rfl)) (EJ.v (EJ_C)) rfl)))); (case ha_20 => (intro c5; exact Y_raise (wk_o <| wk_o <| wk_o <| wk_o <| wk_o <| wk_o <| wk_n))); intro c5; refine' Y_seq ?h1_19 ?h2_19; (case h1_19 => (exact Y_set (i := 4) (show 4 < 6 by decide) (EJ_C))); intro v6; refine Y_at [.d (enc (a0 : Int)), .d (enc (a1 : Int)), .d (enc (a2 : List Int)), .d (enc (a3 : Int)), .d (enc (v6 : Int)), .junk] ?_; refine' Y_seq ?h1_18 ?h2_18; (case h1_18 => (refine Y_while (fun (s7 : Int × Int) => [.d (enc (s7.1 : Int)), .d (enc (a1 : Int)), .d (enc (a2 : List Int)), .d (enc (a3 : Int)), .d (enc (s7.2 : Int)), .junk]) ?h0_16 ?hc_16 ?hb_16; (case h0_16 => exact (wk_k <| wk_k <| wk_k <| wk_k <| wk_k <| wk_o <| wk_n)); (case hc_16 => exact (fun s7 q14 c15 => while1 c15 (TJ_e (EJ_p2 (EJ.v (EJ_var (i := 0) rfl)) (EJ.v (EJ_C)) rfl)))); intro s7 c15; refine Y_ifE ?hc_13 ?ha_13 ?hd_13; (case hc_13 => exact TJ_e (EJ_p2 (EJ.v (EJ_var (i := 4) rfl)) (EJ.v (EJ_var (i := 3) rfl)) rfl)); (case ha_13 => (intro c8; exact Y_raise (wk_o <| wk_o <| wk_o <| wk_o <| wk_o <| wk_o <| wk_n))); intro c8; refine' Y_seq ?h1_12 ?h2_12; (case h1_12 => (exact Y_set (i := 0) (show 0 < 6 by decide) (EJ_pn (AV_cons (EJ.v (EJ_C)) (AV_cons (EJ.v (EJ_p2 (EJ.v (EJ_p2 (EJ.v (EJ_var (i := 0) rfl)) (EJ.v (EJ_var (i := 1) rfl)) rfl)) (EJ.v (EJ_pn (AV_cons (EJ.v (EJ_var (i := 2) rfl)) (AV_nil)) o_sum)) rfl)) (AV_nil))) o_max2))); intro v9; refine Y_at [.d (enc (v9 : Int)), .d (enc (a1 : Int)), .d (enc (a2 : List Int)), .d (enc (a3 : Int)), .d (enc (s7.2 : Int)), .junk] ?_; refine' Y_last ?h1_11 ?h2_11; (case h1_11 => (exact Y_aug (i := 4) (show 4 < 6 by decide) (EJ_p2 (EJ.v (EJ_var (i := 4) rfl)) (EJ.v (EJ_C)) rfl))); exact fun v10 => (wk_k <| wk_k <| wk_k <| wk_k <| wk_k <| wk_o <| wk_n))); intro s17; refine Y_at [.d (enc (s17.1 : Int)), .d (enc (a1 : Int)), .d (enc (a2 : List Int)), .d (enc (a3 : Int)), .d (enc (s17.2 : Int)), .junk] ?_; exact Y_ret (q := s17.2) (EJ_var (i := 4) rfl) (wk_o <| wk_o <| wk_o <| wk_o <| wk_o <| wk_o <| wk_n))) (by intro s; exact s.elim)
def B_fewest_pumps (a0 : List Int) (a1 : Int) : Stp Unit (Tup Int) Empty Empty :=
  if ((decide (a1 < (0 : Int))) || (List.any a0 (fun (y1 : Int) => ((decide (y1 < (0 : Int))) : Bool)))) = true then Stp.lift (.exn "BadSize" ()) else (Out.stp ((Out.ok true).bind fun s6 => (Out.ok true).bind fun s7 => .ok (s6, s7))).seq fun s8 => grdS ((small ((a0).length : Int) ∧ (((a0).length : Int)).toNat ≤ lineN) ∧ (∀ y10 ∈ (rng ((a0).length : Int)), (inIx (a0).length y10)) ∧ (sortOk (((rng ((a0).length : Int)) : List Int).map fun (y10 : Int) => enc ((((0 : Int) - (pyIx a0 y10)), y10) : (Int × Int))) = true) ∧ (((rng ((a0).length : Int))).length ≤ lineN)) ((forT (fun (y17 : Int) (s16 : (List Int) × Int) => if (decide (s16.2 ≥ a1)) = true then Stp.lift (.bk (s16.1, s16.2)) else ((grd ((s16.1).length < lineN) (Out.ok (s16.1 ++ [y17]))).stp).seq fun s20 => grdS ((inIx (a0).length y17)) ((Stp.nx (s16.2 + (pyIx a0 y17))).seq fun v22 => .nx (s20, v22))) (srtK false (fun (y10 : Int) => ((((0 : Int) - (pyIx a0 y10)), y10) : (Int × Int))) (rng ((a0).length : Int))) (([] : List Int), (0 : Int))).seq fun s27 => if (decide (s27.2 < a1)) = true then Stp.lift (.exn "NoWay" ()) else grdS ((sortOk ((s27.1 : List Int).map enc) = true)) (.rt (Tup.mk (srt s27.1))))
def T_fewest_pumps (a0 : List Int) (a1 : Int) : Out Unit (Tup Int) := Stp.fin (B_fewest_pumps a0 a1) Empty.elim
theorem P_fewest_pumps (a0 : List Int) (a1 : Int) : FP f_fewest_pumps [.d (enc (a0 : List Int)), .d (enc (a1 : Int))] (T_fewest_pumps a0 a1) (fun r => enc (r : Tup Int)) :=
  FP_of (t := B_fewest_pumps a0 a1) (fn := Empty.elim) (show 2 ≤ 7 by decide) (fun B A hM hB => (show SJ _ _ [.d (enc (a0 : List Int)), .d (enc (a1 : Int)), .junk, .junk, .junk, .junk, .junk] m_fewest_pumps (B_fewest_pumps a0 a1) (Empty.elim) from by
    unfold m_fewest_pumps B_fewest_pumps
    refine Y_ifE ?hc_33 ?ha_33 ?hd_33; (case hc_33 => exact TJ_or (TJ_e (EJ_p2 (EJ.v (EJ_var (i := 1) rfl)) (EJ.v (EJ_C)) rfl)) (fun y4 => TJ_e (EJ_any1 (fun (y1 : Int) => [.d (enc (a0 : List Int)), .d (enc (a1 : Int)), .junk, .junk, .junk, .d (enc (y1 : Int)), .junk]) (fun (y1 : Int) => ((decide (y1 < (0 : Int))) : Bool)) (IJ_seq (EJ_var (i := 0) rfl) rfl) (fun _ => rfl) (fun y1 m2 => EJ_p2 (EJ.v (EJ_var (i := 5) rfl)) (EJ.v (EJ_C)) rfl)))); (case ha_33 => (intro c5; exact Y_raise (wk_o <| wk_o <| wk_o <| wk_o <| wk_o <| wk_o <| wk_o <| wk_n))); intro c5; refine' Y_seq ?h1_32 ?h2_32; (case h1_32 => (exact Y_par (is := [2, 3]) 7 (XL_o (XO_lst (XE_p (EJ_as (enc ([] : List Int)) (EJ_disp (AJ_nil) (pLn 0 rfl))))) (fun s6 => XL_d (EJ_C) (XL_nil))) (by decide) (fun _ => rfl) rfl (fun _ => rfl))); intro s8; refine Y_at [.d (enc (a0 : List Int)), .d (enc (a1 : Int)), .c (.lst ((([] : List Int) : List Int).map enc)), .d (enc ((0 : Int) : Int)), .junk, .junk, .junk] ?_; refine Y_grd ?_; rintro ⟨h9, h13, h14, h15⟩; refine' Y_seq ?h1_31 ?h2_31; (case h1_31 => (refine Y_for (fun (s16 : (List Int) × Int) => [.d (enc (a0 : List Int)), .d (enc (a1 : Int)), .c (.lst ((s16.1 : List Int).map enc)), .d (enc (s16.2 : Int)), .junk, .junk, .junk]) (fun (s16 : (List Int) × Int) (y17 : Int) => [.d (enc (a0 : List Int)), .d (enc (a1 : Int)), .c (.lst ((s16.1 : List Int).map enc)), .d (enc (s16.2 : Int)), .d (enc (y17 : Int)), .junk, .junk]) ?hi_26 ?h0_26 ?hp_26 ?hb_26; (case hi_26 => exact IJ_seq (EJ_sortK (ys := (rng ((a0).length : Int))) (fun (y10 : Int) => ((((0 : Int) - (pyIx a0 y10)), y10) : (Int × Int))) (AV_cons (EJ.v (EJ_pn (AV_cons (EJ.v (EJ_pn (AV_cons (EJ.v (EJ_var (i := 0) rfl)) (AV_nil)) o_lenL)) (AV_nil)) (o_lrg1 h9))) (AV_nil)) (show 6 < 7 by decide) (fun y10 m11 => (let h12 := h13 y10 m11; EJ_as (enc ((((0 : Int) - (pyIx a0 y10)), y10) : (Int × Int))) (EJ_disp (AJ_cons (EJ_p2 (EJ.v (EJ_C)) (EJ.v (EJ_p2 (EJ.v (EJ_var (i := 0) rfl)) (EJ.v (EJ_var (i := 6) rfl)) (o_ixL h12))) rfl) (AJ_cons (EJ_var (i := 6) rfl) (AJ_nil))) (pTn 2 rfl)))) h14 h15) rfl); (case h0_26 => exact (wk_k <| wk_k <| wk_k <| wk_k <| wk_o <| wk_o <| wk_o <| wk_n)); (case hp_26 => exact fun _ _ => rfl); intro s16 y17 m18; refine Y_ifE ?hc_25 ?ha_25 ?hd_25; (case hc_25 => exact TJ_e (EJ_p2 (EJ.v (EJ_var (i := 3) rfl)) (EJ.v (EJ_var (i := 1) rfl)) rfl)); (case ha_25 => (intro c19; exact Y_break (wk_k <| wk_k <| wk_k <| wk_k <| wk_o <| wk_o <| wk_o <| wk_n))); intro c19; refine' Y_seq ?h1_24 ?h2_24; (case h1_24 => (exact Y_expr (XE_app (xs := s16.1) (e := y17) rfl (EJ_var (i := 4) rfl)))); intro s20; refine Y_at [.d (enc (a0 : List Int)), .d (enc (a1 : Int)), .c (.lst ((s20 : List Int).map enc)), .d (enc (s16.2 : Int)), .d (enc (y17 : Int)), .junk, .junk] ?_; refine Y_grd ?_; rintro h21; refine' Y_last ?h1_23 ?h2_23; (case h1_23 => (exact Y_aug (i := 3) (show 3 < 7 by decide) (EJ_p2 (EJ.v (EJ_var (i := 3) rfl)) (EJ.v (EJ_p2 (EJ.v (EJ_var (i := 0) rfl)) (EJ.v (EJ_var (i := 4) rfl)) (o_ixL h21))) rfl))); exact fun v22 => (wk_k <| wk_k <| wk_k <| wk_k <| wk_o <| wk_o <| wk_o <| wk_n))); intro s27; refine Y_at [.d (enc (a0 : List Int)), .d (enc (a1 : Int)), .c (.lst ((s27.1 : List Int).map enc)), .d (enc (s27.2 : Int)), .junk, .junk, .junk] ?_; refine Y_ifE ?hc_30 ?ha_30 ?hd_30; (case hc_30 => exact TJ_e (EJ_p2 (EJ.v (EJ_var (i := 3) rfl)) (EJ.v (EJ_var (i := 1) rfl)) rfl)); (case ha_30 => (intro c28; exact Y_raise (wk_o <| wk_o <| wk_o <| wk_o <| wk_o <| wk_o <| wk_o <| wk_n))); intro c28; refine Y_grd ?_; rintro h29; exact Y_ret (q := (Tup.mk (srt s27.1))) (EJ_pn (AV_cons (EJ.v (EJ_pn (AV_cons (EV_lst (i := 2) rfl) (AV_nil)) (oSort_ok h29))) (AV_nil)) rfl) (wk_o <| wk_o <| wk_o <| wk_o <| wk_o <| wk_o <| wk_o <| wk_n))) (by intro s; exact s.elim)
def B_law_flat (a0 : List (List Str)) : Stp Unit (List Str) Empty Empty :=
  (Stp.nx (([] : List Str) : List Str)).seq fun v1 => (forT (fun (y3 : List Str) (s2 : (List Str)) => grdS (((s2).length + (y3).length ≤ lineN)) ((Stp.nx ((s2 ++ y3) : List Str)).seq fun v6 => .nx v6)) a0 v1).seq fun s9 => .rt s9
def T_law_flat (a0 : List (List Str)) : Out Unit (List Str) := Stp.fin (B_law_flat a0) Empty.elim
theorem P_law_flat (a0 : List (List Str)) : FP f_law_flat [.d (enc (a0 : List (List Str)))] (T_law_flat a0) (fun r => enc (r : List Str)) :=
  FP_of (t := B_law_flat a0) (fn := Empty.elim) (show 1 ≤ 3 by decide) (fun B A hM hB => (show SJ _ _ [.d (enc (a0 : List (List Str))), .junk, .junk] m_law_flat (B_law_flat a0) (Empty.elim) from by
    unfold m_law_flat B_law_flat
    refine' Y_seq ?h1_11 ?h2_11; (case h1_11 => (exact Y_set (i := 1) (show 1 < 3 by decide) (EJ_as (enc ([] : List Str)) (EJ_disp (AJ_nil) (pLn 0 rfl))))); intro v1; refine Y_at [.d (enc (a0 : List (List Str))), .d (enc (v1 : List Str)), .junk] ?_; refine' Y_seq ?h1_10 ?h2_10; (case h1_10 => (refine Y_for (fun (s2 : (List Str)) => [.d (enc (a0 : List (List Str))), .d (enc (s2 : List Str)), .junk]) (fun (s2 : (List Str)) (y3 : List Str) => [.d (enc (a0 : List (List Str))), .d (enc (s2 : List Str)), .d (enc (y3 : List Str))]) ?hi_8 ?h0_8 ?hp_8 ?hb_8; (case hi_8 => exact IJ_seq (EJ_var (i := 0) rfl) rfl); (case h0_8 => exact (wk_k <| wk_k <| wk_o <| wk_n)); (case hp_8 => exact fun _ _ => rfl); intro s2 y3 m4; refine Y_grd ?_; rintro h5; refine' Y_last ?h1_7 ?h2_7; (case h1_7 => (exact Y_set (i := 1) (show 1 < 3 by decide) (EJ_p2 (EJ.v (EJ_var (i := 1) rfl)) (EJ.v (EJ_var (i := 2) rfl)) (o_addL h5)))); exact fun v6 => (wk_k <| wk_k <| wk_o <| wk_n))); intro s9; refine Y_at [.d (enc (a0 : List (List Str))), .d (enc (s9 : List Str)), .junk] ?_; exact Y_ret (q := s9) (EJ_var (i := 1) rfl) (wk_o <| wk_o <| wk_o <| wk_n))) (by intro s; exact s.elim)
def B_shifts (a0 : Int) (a1 : List Str) (a2 : Int) : Stp Unit (Tup Str) Empty Empty :=
  if ((decide (a0 < (0 : Int))) || (decide (a2 < (1 : Int)))) = true then Stp.lift (.exn "BadSize" ()) else grdS ((sortOk ((a1 : List Str).map enc) = true)) ((Stp.nx ((srt a1) : List Str)).seq fun v4 => grdS ((layP (v4 : List Str) ∧ layP (([] : List Str) : List Str))) (if (decide ((v4 : List Str) = ([] : List Str))) = true then Stp.lift (.exn "BadPlan" ()) else grdS ((small a0) ∧ (∀ y8 ∈ (rng a0), (0 < a2 ∧ a2 < 1073741824) ∧ (0 < ((v4).length : Int)) ∧ (inIx (v4).length ((y8 / a2) % ((v4).length : Int)))) ∧ (((rng a0)).length ≤ lineN)) (.rt (Tup.mk (List.map (fun (y8 : Int) => ((pyIx v4 ((y8 / a2) % ((v4).length : Int))) : Str)) (rng a0))))))
def T_shifts (a0 : Int) (a1 : List Str) (a2 : Int) : Out Unit (Tup Str) := Stp.fin (B_shifts a0 a1 a2) Empty.elim
theorem P_shifts (a0 : Int) (a1 : List Str) (a2 : Int) : FP f_shifts [.d (enc (a0 : Int)), .d (enc (a1 : List Str)), .d (enc (a2 : Int))] (T_shifts a0 a1 a2) (fun r => enc (r : Tup Str)) :=
  FP_of (t := B_shifts a0 a1 a2) (fn := Empty.elim) (show 3 ≤ 5 by decide) (fun B A hM hB => (show SJ _ _ [.d (enc (a0 : Int)), .d (enc (a1 : List Str)), .d (enc (a2 : Int)), .junk, .junk] m_shifts (B_shifts a0 a1 a2) (Empty.elim) from by
    unfold m_shifts B_shifts
    refine Y_ifE ?hc_18 ?ha_18 ?hd_18; (case hc_18 => exact TJ_or (TJ_e (EJ_p2 (EJ.v (EJ_var (i := 0) rfl)) (EJ.v (EJ_C)) rfl)) (fun y1 => TJ_e (EJ_p2 (EJ.v (EJ_var (i := 2) rfl)) (EJ.v (EJ_C)) rfl))); (case ha_18 => (intro c2; exact Y_raise (wk_o <| wk_o <| wk_o <| wk_o <| wk_o <| wk_n))); intro c2; refine Y_grd ?_; rintro h3; refine' Y_seq ?h1_17 ?h2_17; (case h1_17 => (exact Y_set (i := 3) (show 3 < 5 by decide) (EJ_pn (AV_cons (EJ.v (EJ_var (i := 1) rfl)) (AV_nil)) (oSort_ok h3)))); intro v4; refine Y_at [.d (enc (a0 : Int)), .d (enc (a1 : List Str)), .d (enc (a2 : Int)), .d (enc (v4 : List Str)), .junk] ?_; refine Y_grd ?_; rintro h5; refine Y_ifE ?hc_16 ?ha_16 ?hd_16; (case hc_16 => exact TJ_e (EJ_p2 (EJ.v (EJ_var (i := 3) rfl)) (EJ.v (EJ_as (enc ([] : List Str)) (EJ_disp (AJ_nil) (pLn 0 rfl)))) (o_eq (α := List Str) h5))); (case ha_16 => (intro c6; exact Y_raise (wk_o <| wk_o <| wk_o <| wk_o <| wk_o <| wk_n))); intro c6; refine Y_grd ?_; rintro ⟨h7, h14, h15⟩; exact Y_ret (q := (Tup.mk (List.map (fun (y8 : Int) => ((pyIx v4 ((y8 / a2) % ((v4).length : Int))) : Str)) (rng a0)))) (EJ_pn (AV_cons (EJ.v (EJ_map (fun (y8 : Int) => [.d (enc (a0 : Int)), .d (enc (a1 : List Str)), .d (enc (a2 : Int)), .d (enc (v4 : List Str)), .d (enc (y8 : Int))]) (fun (y8 : Int) => ((pyIx v4 ((y8 / a2) % ((v4).length : Int))) : Str)) (IJ_pn (AJ_cons (EJ_var (i := 0) rfl) (AJ_nil)) (p_range1 h7)) (fun _ => rfl) (fun y8 m9 => (match h14 y8 m9 with | ⟨h10, h11, h12⟩ => EJ_p2 (EJ.v (EJ_var (i := 3) rfl)) (EJ.v (EJ_p2 (EJ.v (EJ_p2 (EJ.v (EJ_var (i := 4) rfl)) (EJ.v (EJ_var (i := 2) rfl)) (o_div h10))) (EJ.v (EJ_pn (AV_cons (EJ.v (EJ_var (i := 3) rfl)) (AV_nil)) o_lenL)) (o_mod h11))) (o_ixL h12))) h15)) (AV_nil)) rfl) (wk_o <| wk_o <| wk_o <| wk_o <| wk_o <| wk_n))) (by intro s; exact s.elim)
def B_wheel_pumps (a0 : (Int × (List Int))) (a1 : Int) : Stp Unit (Tup Int) Empty Empty :=
  (Stp.nx ()).seq fun s1 => if ((decide (a0.1 < (1 : Int))) || ((decide (a1 < (0 : Int))) || (List.any a0.2 (fun (y2 : Int) => ((decide (y2 < (1 : Int))) : Bool))))) = true then Stp.lift (.exn "BadSize" ()) else grdS ((∀ y8 ∈ a0.2, ((wideI a0.1 || wideI a1) = true) ∧ (0 < y8 ∧ y8 < 1073741824)) ∧ ((a0.2).length ≤ lineN)) (.rt (Tup.mk (List.map (fun (y8 : Int) => (((a0.1 * a1) / y8) : Int)) a0.2)))
def T_wheel_pumps (a0 : (Int × (List Int))) (a1 : Int) : Out Unit (Tup Int) := Stp.fin (B_wheel_pumps a0 a1) Empty.elim
theorem P_wheel_pumps (a0 : (Int × (List Int))) (a1 : Int) : FP f_wheel_pumps [.d (enc (a0 : (Int × (List Int)))), .d (enc (a1 : Int))] (T_wheel_pumps a0 a1) (fun r => enc (r : Tup Int)) :=
  FP_of (t := B_wheel_pumps a0 a1) (fn := Empty.elim) (show 2 ≤ 5 by decide) (fun B A hM hB => (show SJ _ _ [.d (enc (a0 : (Int × (List Int)))), .d (enc (a1 : Int)), .junk, .junk, .junk] m_wheel_pumps (B_wheel_pumps a0 a1) (Empty.elim) from by
    unfold m_wheel_pumps B_wheel_pumps
    refine' Y_seq ?h1_16 ?h2_16; (case h1_16 => (exact Y_unp (EJ.v (EJ_var (i := 0) rfl)) rfl)); intro s1; refine Y_at [.d (enc (a0 : (Int × (List Int)))), .d (enc (a1 : Int)), .d (enc (a0.1 : Int)), .d (enc (a0.2 : List Int)), .junk] ?_; refine Y_ifE ?hc_15 ?ha_15 ?hd_15; (case hc_15 => exact TJ_or (TJ_e (EJ_p2 (EJ.v (EJ_var (i := 2) rfl)) (EJ.v (EJ_C)) rfl)) (fun y6 => TJ_or (TJ_e (EJ_p2 (EJ.v (EJ_var (i := 1) rfl)) (EJ.v (EJ_C)) rfl)) (fun y5 => TJ_e (EJ_any1 (fun (y2 : Int) => [.d (enc (a0 : (Int × (List Int)))), .d (enc (a1 : Int)), .d (enc (a0.1 : Int)), .d (enc (a0.2 : List Int)), .d (enc (y2 : Int))]) (fun (y2 : Int) => ((decide (y2 < (1 : Int))) : Bool)) (IJ_seq (EJ_var (i := 3) rfl) rfl) (fun _ => rfl) (fun y2 m3 => EJ_p2 (EJ.v (EJ_var (i := 4) rfl)) (EJ.v (EJ_C)) rfl))))); (case ha_15 => (intro c7; exact Y_raise (wk_o <| wk_o <| wk_o <| wk_o <| wk_o <| wk_n))); intro c7; refine Y_grd ?_; rintro ⟨h13, h14⟩; exact Y_ret (q := (Tup.mk (List.map (fun (y8 : Int) => (((a0.1 * a1) / y8) : Int)) a0.2))) (EJ_pn (AV_cons (EJ.v (EJ_map (fun (y8 : Int) => [.d (enc (a0 : (Int × (List Int)))), .d (enc (a1 : Int)), .d (enc (a0.1 : Int)), .d (enc (a0.2 : List Int)), .d (enc (y8 : Int))]) (fun (y8 : Int) => (((a0.1 * a1) / y8) : Int)) (IJ_seq (EJ_var (i := 3) rfl) rfl) (fun _ => rfl) (fun y8 m9 => (match h13 y8 m9 with | ⟨h10, h11⟩ => EJ_p2 (EJ.v (EJ_p2 (EJ.v (EJ_var (i := 2) rfl)) (EJ.v (EJ_var (i := 1) rfl)) (o_mul h10))) (EJ.v (EJ_var (i := 4) rfl)) (o_div h11))) h14)) (AV_nil)) rfl) (wk_o <| wk_o <| wk_o <| wk_o <| wk_o <| wk_n))) (by intro s; exact s.elim)
def B_primed (a0 : List Int) (a1 : Int) (a2 : Int) : Stp Unit Int Empty Empty :=
  if ((decide (a1 < (0 : Int))) || ((decide (a2 < (1 : Int))) || (List.any a0 (fun (y1 : Int) => ((decide (y1 < (0 : Int))) : Bool))))) = true then Stp.lift (.exn "BadSize" ()) else (Stp.nx ((0 : Int) : Int)).seq fun v7 => (forT (fun (y9 : (Int × Int)) (s8 : Int) => (Stp.nx (((max (0 : Int) (s8 - a1)) + y9.2) : Int)).seq fun v11 => if (decide (v11 ≥ a2)) = true then .rt y9.1 else .nx v11) (enumT 0 a0) v7).seq fun s16 => .exn "NoWay" ()
def T_primed (a0 : List Int) (a1 : Int) (a2 : Int) : Out Unit Int := Stp.fin (B_primed a0 a1 a2) Empty.elim
theorem P_primed (a0 : List Int) (a1 : Int) (a2 : Int) : FP f_primed [.d (enc (a0 : List Int)), .d (enc (a1 : Int)), .d (enc (a2 : Int))] (T_primed a0 a1 a2) (fun r => enc (r : Int)) :=
  FP_of (t := B_primed a0 a1 a2) (fn := Empty.elim) (show 3 ≤ 6 by decide) (fun B A hM hB => (show SJ _ _ [.d (enc (a0 : List Int)), .d (enc (a1 : Int)), .d (enc (a2 : Int)), .junk, .junk, .junk] m_primed (B_primed a0 a1 a2) (Empty.elim) from by
    unfold m_primed B_primed
    refine Y_ifE ?hc_19 ?ha_19 ?hd_19; (case hc_19 => exact TJ_or (TJ_e (EJ_p2 (EJ.v (EJ_var (i := 1) rfl)) (EJ.v (EJ_C)) rfl)) (fun y5 => TJ_or (TJ_e (EJ_p2 (EJ.v (EJ_var (i := 2) rfl)) (EJ.v (EJ_C)) rfl)) (fun y4 => TJ_e (EJ_any1 (fun (y1 : Int) => [.d (enc (a0 : List Int)), .d (enc (a1 : Int)), .d (enc (a2 : Int)), .junk, .junk, .d (enc (y1 : Int))]) (fun (y1 : Int) => ((decide (y1 < (0 : Int))) : Bool)) (IJ_seq (EJ_var (i := 0) rfl) rfl) (fun _ => rfl) (fun y1 m2 => EJ_p2 (EJ.v (EJ_var (i := 5) rfl)) (EJ.v (EJ_C)) rfl))))); (case ha_19 => (intro c6; exact Y_raise (wk_o <| wk_o <| wk_o <| wk_o <| wk_o <| wk_o <| wk_n))); intro c6; refine' Y_seq ?h1_18 ?h2_18; (case h1_18 => (exact Y_set (i := 3) (show 3 < 6 by decide) (EJ_C))); intro v7; refine Y_at [.d (enc (a0 : List Int)), .d (enc (a1 : Int)), .d (enc (a2 : Int)), .d (enc (v7 : Int)), .junk, .junk] ?_; refine' Y_seq ?h1_17 ?h2_17; (case h1_17 => (refine Y_for (fun (s8 : Int) => [.d (enc (a0 : List Int)), .d (enc (a1 : Int)), .d (enc (a2 : Int)), .d (enc (s8 : Int)), .junk, .junk]) (fun (s8 : Int) (y9 : (Int × Int)) => [.d (enc (a0 : List Int)), .d (enc (a1 : Int)), .d (enc (a2 : Int)), .d (enc (s8 : Int)), .d (enc (y9.1 : Int)), .d (enc (y9.2 : Int))]) ?hi_15 ?h0_15 ?hp_15 ?hb_15; (case hi_15 => exact IJ_pn (AJ_cons (EJ_var (i := 0) rfl) (AJ_nil)) p_enum); (case h0_15 => exact (wk_k <| wk_k <| wk_k <| wk_k <| wk_o <| wk_o <| wk_n)); (case hp_15 => exact fun _ _ => rfl); intro s8 y9 m10; refine' Y_seq ?h1_14 ?h2_14; (case h1_14 => (exact Y_set (i := 3) (show 3 < 6 by decide) (EJ_p2 (EJ.v (EJ_pn (AV_cons (EJ.v (EJ_C)) (AV_cons (EJ.v (EJ_p2 (EJ.v (EJ_var (i := 3) rfl)) (EJ.v (EJ_var (i := 1) rfl)) rfl)) (AV_nil))) o_max2)) (EJ.v (EJ_var (i := 5) rfl)) rfl))); intro v11; refine Y_at [.d (enc (a0 : List Int)), .d (enc (a1 : Int)), .d (enc (a2 : Int)), .d (enc (v11 : Int)), .d (enc (y9.1 : Int)), .d (enc (y9.2 : Int))] ?_; refine Y_if ?hc_13 ?ha_13 ?hd_13; (case hc_13 => exact TJ_e (EJ_p2 (EJ.v (EJ_var (i := 3) rfl)) (EJ.v (EJ_var (i := 2) rfl)) rfl)); (case ha_13 => (intro c12; exact Y_ret (q := y9.1) (EJ_var (i := 4) rfl) (wk_o <| wk_o <| wk_o <| wk_o <| wk_o <| wk_o <| wk_n))); intro c12; exact Y_nil (wk_k <| wk_k <| wk_k <| wk_k <| wk_o <| wk_o <| wk_n))); intro s16; refine Y_at [.d (enc (a0 : List Int)), .d (enc (a1 : Int)), .d (enc (a2 : Int)), .d (enc (s16 : Int)), .junk, .junk] ?_; exact Y_raise (wk_o <| wk_o <| wk_o <| wk_o <| wk_o <| wk_o <| wk_n))) (by intro s; exact s.elim)
def B_law_cases1  : Stp Unit Bool Empty Empty :=
  ((toldX toldT ((T_shaft_dry (1 : Int) (1 : Int) ([((0 : Int) - (1 : Int))] : List Int) (1 : Int)).mapx (fun _ => ())) (fun (s2 : Int) => ((enc (s2 : Int)), ())) (fun x => x)).bind fun s1 => grd ((shpD (s1.1) ((enc (("size" : Str) : Str) : PyData)))) (.ok s1)).stp.seq fun s5 => if (!PyData.eqv (s5.1) ((enc (("size" : Str) : Str) : PyData))) = true then Stp.lift (.rt false) else ((toldX toldT ((T_fewest_pumps ([] : List Int) ((0 : Int) - (1 : Int))).mapx (fun _ => ())) (fun (s8 : Tup Int) => ((enc (s8 : Tup Int)), ())) (fun x => x)).bind fun s7 => grd ((shpD (s7.1) ((enc (("size" : Str) : Str) : PyData)))) (.ok s7)).stp.seq fun s11 => if (!PyData.eqv (s11.1) ((enc (("size" : Str) : Str) : PyData))) = true then Stp.lift (.rt false) else ((toldX toldT ((T_shifts (1 : Int) ([] : List Str) (0 : Int)).mapx (fun _ => ())) (fun (s14 : Tup Str) => ((enc (s14 : Tup Str)), ())) (fun x => x)).bind fun s13 => grd ((shpD (s13.1) ((enc (("size" : Str) : Str) : PyData)))) (.ok s13)).stp.seq fun s17 => if (!PyData.eqv (s17.1) ((enc (("size" : Str) : Str) : PyData))) = true then Stp.lift (.rt false) else ((toldX toldT ((T_wheel_pumps ((0 : Int), ([] : List Int)) (1 : Int)).mapx (fun _ => ())) (fun (s20 : Tup Int) => ((enc (s20 : Tup Int)), ())) (fun x => x)).bind fun s19 => grd ((shpD (s19.1) ((enc (("size" : Str) : Str) : PyData)))) (.ok s19)).stp.seq fun s23 => if (!PyData.eqv (s23.1) ((enc (("size" : Str) : Str) : PyData))) = true then Stp.lift (.rt false) else ((toldX toldT ((T_primed ([] : List Int) (0 : Int) (0 : Int)).mapx (fun _ => ())) (fun (s26 : Int) => ((enc (s26 : Int)), ())) (fun x => x)).bind fun s25 => grd ((shpD (s25.1) ((enc (("size" : Str) : Str) : PyData)))) (.ok s25)).stp.seq fun s29 => if (!PyData.eqv (s29.1) ((enc (("size" : Str) : Str) : PyData))) = true then Stp.lift (.rt false) else .rt true
def T_law_cases1  : Out Unit Bool := Stp.fin (B_law_cases1 ) Empty.elim
theorem P_law_cases1  : FP f_law_cases1 [] (T_law_cases1 ) (fun r => enc (r : Bool)) :=
  FP_of (t := B_law_cases1 ) (fn := Empty.elim) (show 0 ≤ 0 by decide) (fun B A hM hB => (show SJ _ _ [] m_law_cases1 (B_law_cases1 ) (Empty.elim) from by
    unfold m_law_cases1 B_law_cases1
    refine' Y_ifXE ?hc_35 ?ha_35 ?hd_35; (case hc_35 => exact XT_e (XE_p2_epG (fun (s1 : (PyData × (Unit))) => (shpD (s1.1) ((enc (("size" : Str) : Str) : PyData)))) (XE_told (envx := fun (d3 : Unit) => []) (envd := fun (d3 : Unit) => []) (fun (s2 : Int) => ((enc (s2 : Int)), ())) (fun x => x) (callP' (ds := [.inl (enc ((1 : Int) : Int)), .inl (enc ((1 : Int) : Int)), .inl (enc (([((0 : Int) - (1 : Int))] : List Int) : List Int)), .inl (enc ((1 : Int) : Int))]) (fun _ => ()) (P_shaft_dry (1 : Int) (1 : Int) ([((0 : Int) - (1 : Int))] : List Int) (1 : Int)) (AC_d (EJ_C) (AC_d (EJ_C) (AC_d (EJ_as (enc ([((0 : Int) - (1 : Int))] : List Int)) (EJ_disp (AJ_cons (EJ_p2 (EJ.v (EJ_C)) (EJ.v (EJ_C)) rfl) (AJ_nil)) (pLn 1 rfl))) (AC_d (EJ_C) (AC_nil))))) rfl (fun _ => wk.refl _)) (fun _ => wk.refl _) (fun _ => rfl) (fun _ => wk.refl _) (fun _ => rfl)) (fun s1 H => (let h4 := H; EJ.v (EJ_C))) (fun s1 H => (let h4 := H; (o_neD h4))))); (case ha_35 => (intro s5 c6; refine Y_at [] ?_; exact Y_ret (q := false) (EJ_C) (wk_n))); intro s5 c6; refine Y_at [] ?_; refine' Y_ifXE ?hc_34 ?ha_34 ?hd_34; (case hc_34 => exact XT_e (XE_p2_epG (fun (s7 : (PyData × (Unit))) => (shpD (s7.1) ((enc (("size" : Str) : Str) : PyData)))) (XE_told (envx := fun (d9 : Unit) => []) (envd := fun (d9 : Unit) => []) (fun (s8 : Tup Int) => ((enc (s8 : Tup Int)), ())) (fun x => x) (callP' (ds := [.inl (enc (([] : List Int) : List Int)), .inl (enc (((0 : Int) - (1 : Int)) : Int))]) (fun _ => ()) (P_fewest_pumps ([] : List Int) ((0 : Int) - (1 : Int))) (AC_d (EJ_as (enc ([] : List Int)) (EJ_disp (AJ_nil) (pLn 0 rfl))) (AC_d (EJ_p2 (EJ.v (EJ_C)) (EJ.v (EJ_C)) rfl) (AC_nil))) rfl (fun _ => wk.refl _)) (fun _ => wk.refl _) (fun _ => rfl) (fun _ => wk.refl _) (fun _ => rfl)) (fun s7 H => (let h10 := H; EJ.v (EJ_C))) (fun s7 H => (let h10 := H; (o_neD h10))))); (case ha_34 => (intro s11 c12; refine Y_at [] ?_; exact Y_ret (q := false) (EJ_C) (wk_n))); intro s11 c12; refine Y_at [] ?_; refine' Y_ifXE ?hc_33 ?ha_33 ?hd_33; (case hc_33 => exact XT_e (XE_p2_epG (fun (s13 : (PyData × (Unit))) => (shpD (s13.1) ((enc (("size" : Str) : Str) : PyData)))) (XE_told (envx := fun (d15 : Unit) => []) (envd := fun (d15 : Unit) => []) (fun (s14 : Tup Str) => ((enc (s14 : Tup Str)), ())) (fun x => x) (callP' (ds := [.inl (enc ((1 : Int) : Int)), .inl (enc (([] : List Str) : List Str)), .inl (enc ((0 : Int) : Int))]) (fun _ => ()) (P_shifts (1 : Int) ([] : List Str) (0 : Int)) (AC_d (EJ_C) (AC_d (EJ_as (enc ([] : List Str)) (EJ_disp (AJ_nil) (pLn 0 rfl))) (AC_d (EJ_C) (AC_nil)))) rfl (fun _ => wk.refl _)) (fun _ => wk.refl _) (fun _ => rfl) (fun _ => wk.refl _) (fun _ => rfl)) (fun s13 H => (let h16 := H; EJ.v (EJ_C))) (fun s13 H => (let h16 := H; (o_neD h16))))); (case ha_33 => (intro s17 c18; refine Y_at [] ?_; exact Y_ret (q := false) (EJ_C) (wk_n))); intro s17 c18; refine Y_at [] ?_; refine' Y_ifXE ?hc_32 ?ha_32 ?hd_32; (case hc_32 => exact XT_e (XE_p2_epG (fun (s19 : (PyData × (Unit))) => (shpD (s19.1) ((enc (("size" : Str) : Str) : PyData)))) (XE_told (envx := fun (d21 : Unit) => []) (envd := fun (d21 : Unit) => []) (fun (s20 : Tup Int) => ((enc (s20 : Tup Int)), ())) (fun x => x) (callP' (ds := [.inl (enc (((0 : Int), ([] : List Int)) : (Int × (List Int)))), .inl (enc ((1 : Int) : Int))]) (fun _ => ()) (P_wheel_pumps ((0 : Int), ([] : List Int)) (1 : Int)) (AC_d (EJ_as (enc (((0 : Int), ([] : List Int)) : (Int × (List Int)))) (EJ_disp (AJ_cons (EJ_C) (AJ_cons (EJ_as (enc ([] : List Int)) (EJ_disp (AJ_nil) (pLn 0 rfl))) (AJ_nil))) (pTn 2 rfl))) (AC_d (EJ_C) (AC_nil))) rfl (fun _ => wk.refl _)) (fun _ => wk.refl _) (fun _ => rfl) (fun _ => wk.refl _) (fun _ => rfl)) (fun s19 H => (let h22 := H; EJ.v (EJ_C))) (fun s19 H => (let h22 := H; (o_neD h22))))); (case ha_32 => (intro s23 c24; refine Y_at [] ?_; exact Y_ret (q := false) (EJ_C) (wk_n))); intro s23 c24; refine Y_at [] ?_; refine' Y_ifXE ?hc_31 ?ha_31 ?hd_31; (case hc_31 => exact XT_e (XE_p2_epG (fun (s25 : (PyData × (Unit))) => (shpD (s25.1) ((enc (("size" : Str) : Str) : PyData)))) (XE_told (envx := fun (d27 : Unit) => []) (envd := fun (d27 : Unit) => []) (fun (s26 : Int) => ((enc (s26 : Int)), ())) (fun x => x) (callP' (ds := [.inl (enc (([] : List Int) : List Int)), .inl (enc ((0 : Int) : Int)), .inl (enc ((0 : Int) : Int))]) (fun _ => ()) (P_primed ([] : List Int) (0 : Int) (0 : Int)) (AC_d (EJ_as (enc ([] : List Int)) (EJ_disp (AJ_nil) (pLn 0 rfl))) (AC_d (EJ_C) (AC_d (EJ_C) (AC_nil)))) rfl (fun _ => wk.refl _)) (fun _ => wk.refl _) (fun _ => rfl) (fun _ => wk.refl _) (fun _ => rfl)) (fun s25 H => (let h28 := H; EJ.v (EJ_C))) (fun s25 H => (let h28 := H; (o_neD h28))))); (case ha_31 => (intro s29 c30; refine Y_at [] ?_; exact Y_ret (q := false) (EJ_C) (wk_n))); intro s29 c30; refine Y_at [] ?_; exact Y_ret (q := true) (EJ_C) (wk_n))) (by intro s; exact s.elim)
def B_law_rest1 (a0 : Dice) (a1 : R_Pump) (a2 : List Int) : Stp Dice (Bool × Dice) Empty Empty :=
  (Out.stp (rollO a0 (30 : Int))).seq fun s1 => grdS ((small ((a2).length : Int)) ∧ (∀ y3 ∈ (rng ((a2).length : Int)), (inIx (a2).length y3)) ∧ (((rng ((a2).length : Int))).length ≤ lineN) ∧ (sortOk (((List.map (fun (y3 : Int) => ((((0 : Int) - (pyIx a2 y3)), y3) : (Int × Int))) (rng ((a2).length : Int))) : List (Int × Int)).map enc) = true) ∧ (((srt (List.map (fun (y3 : Int) => ((((0 : Int) - (pyIx a2 y3)), y3) : (Int × Int))) (rng ((a2).length : Int))))).length ≤ lineN)) ((Stp.nx ((List.map (fun (y10 : (Int × Int)) => (y10.2 : Int)) (srt (List.map (fun (y3 : Int) => ((((0 : Int) - (pyIx a2 y3)), y3) : (Int × Int))) (rng ((a2).length : Int))))) : List Int)).seq fun v14 => grdS ((small (((v14).length : Int) + (1 : Int))) ∧ (∀ y16 ∈ (rng (((v14).length : Int) + (1 : Int))), (∀ y18 ∈ (cutL v14 none (some y16)), (inIx (a2).length y18)) ∧ (((cutL v14 none (some y16))).length ≤ lineN)) ∧ (((rng (((v14).length : Int) + (1 : Int)))).length ≤ lineN)) ((Stp.nx ((List.map (fun (y16 : Int) => (y16 : Int)) (List.filter (fun (y16 : Int) => (decide ((((List.map (fun (y18 : Int) => ((pyIx a2 y18) : Int)) (cutL v14 none (some y16))) : List Int)).sum ≥ s1.1))) (rng (((v14).length : Int) + (1 : Int))))) : List Int)).seq fun v27 => ((toldX toldT ((T_fewest_pumps a2 s1.1).mapx (fun _ => ())) (fun (s31 : Tup Int) => ((enc ((s31).l : List Int)), ())) (fun x => x)).bind fun s28 => grd (((!decide ((v27 : List Int) = ([] : List Int))) = true → (inIx (v27).length (0 : Int)) ∧ (sortOk (((cutL v14 none (some (pyIx v27 (0 : Int)))) : List Int).map enc) = true)) ∧ (shpD (s28.1) ((if (!decide ((v27 : List Int) = ([] : List Int))) = true then ((enc ((srt (cutL v14 none (some (pyIx v27 (0 : Int))))) : List Int) : PyData) : PyData) else (enc (("no way" : Str) : Str) : PyData))))) (.ok s28)).stp.seq fun s38 => if (!PyData.eqv (s38.1) ((if (!decide ((v27 : List Int) = ([] : List Int))) = true then ((enc ((srt (cutL v14 none (some (pyIx v27 (0 : Int))))) : List Int) : PyData) : PyData) else (enc (("no way" : Str) : Str) : PyData)))) = true then Stp.lift (.rt (false, s1.2)) else (Out.stp ((rollO s1.2 (4 : Int)).bind fun s40 => ((rollO s40.2 (12 : Int)).bind fun s41 => ((rollO s41.2 (4 : Int)).bind fun s43 => (Out.ok true).bind fun s44 => .ok (s43, s44)).bind fun s45 => .ok (s41, s45)).bind fun s46 => .ok (s40, s46))).seq fun s47 => (Stp.nx (([] : List Str) : List Str)).seq fun v48 => grdS ((small (12 : Int))) ((forT (fun (y51 : Int) (s50 : (List Str)) => grdS ((sortOk (((cutL ([("bo" : Str), ("ann" : Str), ("cy" : Str)] : List Str) none (some s47.1.1)) : List Str).map enc) = true) ∧ (∀ y54 ∈ (srt (cutL ([("bo" : Str), ("ann" : Str), ("cy" : Str)] : List Str) none (some s47.1.1))), (small ((1 : Int) + s47.2.2.1.1)) ∧ (((rng ((1 : Int) + s47.2.2.1.1))).length ≤ lineN)) ∧ (((srt (cutL ([("bo" : Str), ("ann" : Str), ("cy" : Str)] : List Str) none (some s47.1.1)))).length ≤ lineN) ∧ ((T_law_flat (List.map (fun (y54 : Str) => ((List.map (fun (y57 : Int) => (y54 : Str)) (rng ((1 : Int) + s47.2.2.1.1))) : List Str)) (srt (cutL ([("bo" : Str), ("ann" : Str), ("cy" : Str)] : List Str) none (some s47.1.1))))).isOk = true) ∧ ((s50).length + ((T_law_flat (List.map (fun (y54 : Str) => ((List.map (fun (y57 : Int) => (y54 : Str)) (rng ((1 : Int) + s47.2.2.1.1))) : List Str)) (srt (cutL ([("bo" : Str), ("ann" : Str), ("cy" : Str)] : List Str) none (some s47.1.1))))).get).length ≤ lineN)) ((Stp.nx ((s50 ++ (T_law_flat (List.map (fun (y54 : Str) => ((List.map (fun (y57 : Int) => (y54 : Str)) (rng ((1 : Int) + s47.2.2.1.1))) : List Str)) (srt (cutL ([("bo" : Str), ("ann" : Str), ("cy" : Str)] : List Str) none (some s47.1.1))))).get) : List Str)).seq fun v66 => .nx v66)) (rng (12 : Int)) v48).seq fun s69 => ((toldX toldT ((T_shifts s47.2.1.1 (cutL ([("bo" : Str), ("ann" : Str), ("cy" : Str)] : List Str) none (some s47.1.1)) ((1 : Int) + s47.2.2.1.1)).mapx (fun _ => ())) (fun (s73 : Tup Str) => ((enc ((s73).l : List Str)), ())) (fun x => x)).bind fun s70 => grd ((layP ((cutL ([("bo" : Str), ("ann" : Str), ("cy" : Str)] : List Str) none (some s47.1.1)) : List Str) ∧ layP (([] : List Str) : List Str)) ∧ (shpD (s70.1) ((if (!decide (((cutL ([("bo" : Str), ("ann" : Str), ("cy" : Str)] : List Str) none (some s47.1.1)) : List Str) = ([] : List Str))) = true then ((enc ((cutL s69 none (some s47.2.1.1)) : List Str) : PyData) : PyData) else (enc (("plan" : Str) : Str) : PyData))))) (.ok s70)).stp.seq fun s78 => if (!PyData.eqv (s78.1) ((if (!decide (((cutL ([("bo" : Str), ("ann" : Str), ("cy" : Str)] : List Str) none (some s47.1.1)) : List Str) = ([] : List Str))) = true then ((enc ((cutL s69 none (some s47.2.1.1)) : List Str) : PyData) : PyData) else (enc (("plan" : Str) : Str) : PyData)))) = true then Stp.lift (.rt (false, s47.2.2.1.2)) else (Out.stp ((rollO s47.2.2.1.2 (20 : Int)).bind fun s81 => ((((rollO s81.2 (4 : Int)).bind fun s83 => grd ((small s83.1)) (.ok s83)).bind fun s83 => grd (((rng s83.1)).length ≤ lineN) (noXO (compT (fun (y86 : Int) (d85 : Dice) => ((rollO d85 (12 : Int)).bind fun s88 => Out.ok ((((1 : Int) + s88.1) : Int), s88.2) : Out Unit _)) (rng s83.1) s83.2))).bind fun s90 => ((rollO s90.2 (9 : Int)).bind fun s91 => (Out.ok true).bind fun s92 => .ok (s91, s92)).bind fun s93 => .ok (s90, s93)).bind fun s94 => .ok (s81, s94))).seq fun s95 => (((T_wheel_pumps (((1 : Int) + s95.1.1), s95.2.1.1) s95.2.2.1.1).mapx (fun _ => s95.2.2.1.2)).bind fun s96 => grd ((∀ y99 ∈ s95.2.1.1, ((wideI ((1 : Int) + s95.1.1) || wideI s95.2.2.1.1) = true) ∧ (ok3 y99 ((((1 : Int) + s95.1.1) * s95.2.2.1.1) + (1 : Int)) y99 ∧ (Builtin.Range.rangeSize y99 ((((1 : Int) + s95.1.1) * s95.2.2.1.1) + (1 : Int)) y99).toNat ≤ lineN)) ∧ ((s95.2.1.1).length ≤ lineN)) (.ok s96)).stp.seq fun s106 => if (!decide (((s106).l : List Int) = (List.map (fun (y99 : Int) => ((((rng3 y99 ((((1 : Int) + s95.1.1) * s95.2.2.1.1) + (1 : Int)) y99)).length : Int) : Int)) s95.2.1.1))) = true then Stp.lift (.rt (false, s95.2.2.1.2)) else (Out.stp ((((rollO s95.2.2.1.2 (6 : Int)).bind fun s109 => grd ((small s109.1)) (.ok s109)).bind fun s109 => grd (((rng s109.1)).length ≤ lineN) (noXO (compT (fun (y112 : Int) (d111 : Dice) => ((rollO d111 (9 : Int)).bind fun s113 => Out.ok ((s113.1 : Int), s113.2) : Out Unit _)) (rng s109.1) s109.2))).bind fun s115 => ((rollO s115.2 (6 : Int)).bind fun s116 => ((rollO s116.2 (15 : Int)).bind fun s118 => (Out.ok true).bind fun s119 => .ok (s118, s119)).bind fun s120 => .ok (s116, s120)).bind fun s121 => .ok (s115, s121))).seq fun s122 => grdS ((small ((s122.1.1).length : Int))) ((forT (fun (y125 : Int) (s124 : Int × PyData) => grdS ((inIx (s122.1.1).length y125)) ((Stp.nx (((max (0 : Int) (s124.1 - s122.2.1.1)) + (pyIx s122.1.1 y125)) : Int)).seq fun v128 => grdS ((shpD (s124.2) ((enc (("no way" : Str) : Str) : PyData)))) ((Stp.nx ((if ((PyData.eqv (s124.2) ((enc (("no way" : Str) : Str) : PyData))) && (decide (v128 ≥ ((1 : Int) + s122.2.2.1.1)))) = true then ((enc (y125 : Int) : PyData) : PyData) else s124.2) : PyData)).seq fun v132 => .nx (v128, v132)))) (rng ((s122.1.1).length : Int)) ((0 : Int), (enc (("no way" : Str) : Str) : PyData))).seq fun s136 => ((toldX toldT ((T_primed s122.1.1 s122.2.1.1 ((1 : Int) + s122.2.2.1.1)).mapx (fun _ => ())) (fun (s138 : Int) => ((enc (s138 : Int)), ())) (fun x => x)).bind fun s137 => grd ((shpD (s137.1) (s136.2))) (.ok s137)).stp.seq fun s141 => if (!PyData.eqv (s141.1) (s136.2)) = true then Stp.lift (.rt (false, s122.2.2.1.2)) else ((toldX toldT (((T_pump_init (0 : Int) (1 : Int) (1 : Int)).mapx (fun _ => ())).bind fun _ => (Out.stuck : Out _ Unit)) (fun (s144 : Unit) => (PyData.none, ())) (fun x => x)).bind fun s143 => grd ((shpD (s143.1) ((enc (("plan" : Str) : Str) : PyData)))) (.ok s143)).stp.seq fun s147 => if (!PyData.eqv (s147.1) ((enc (("plan" : Str) : Str) : PyData))) = true then Stp.lift (.rt (false, s122.2.2.1.2)) else ((toldX toldT ((T_pump_strokes_for a1 ((0 : Int) - (1 : Int))).mapx (fun _ => ())) (fun (s150 : Int) => ((enc (s150 : Int)), ())) (fun x => x)).bind fun s149 => grd ((shpD (s149.1) ((enc (("size" : Str) : Str) : PyData)))) (.ok s149)).stp.seq fun s153 => if (!PyData.eqv (s153.1) ((enc (("size" : Str) : Str) : PyData))) = true then Stp.lift (.rt (false, s122.2.2.1.2)) else ((toldX toldT ((T_stages (1 : Int) (0 : Int)).mapx (fun _ => ())) (fun (s156 : Tup Int) => ((enc (s156 : Tup Int)), ())) (fun x => x)).bind fun s155 => grd ((shpD (s155.1) ((enc (("size" : Str) : Str) : PyData)))) (.ok s155)).stp.seq fun s159 => if (!PyData.eqv (s159.1) ((enc (("size" : Str) : Str) : PyData))) = true then Stp.lift (.rt (false, s122.2.2.1.2)) else ((T_law_cases1 ).mapx (fun _ => s122.2.2.1.2)).stp.seq fun s161 => .rt (s161, s122.2.2.1.2)))))
def T_law_rest1 (a0 : Dice) (a1 : R_Pump) (a2 : List Int) : Out Dice (Bool × Dice) := Stp.fin (B_law_rest1 a0 a1 a2) Empty.elim
theorem C_law_rest1 (a0 : Dice) (a1 : R_Pump) (a2 : List Int) : FC f_law_rest1 [.b (dv (a0)), .b (vc_Pump (a1)), .d (enc (a2 : List Int))] (T_law_rest1 a0 a1 a2) (fun (x : Dice) => [.b (dv (x)), .b (vc_Pump (a1)), .j]) (fun (r : Bool × Dice) => [.b (dv (r.2)), .b (vc_Pump (a1)), .j]) (fun r => enc r.1) :=
  FC_of (t := B_law_rest1 a0 a1 a2) (fn := Empty.elim) (show 3 ≤ 25 by decide) (fun B A hw => (show SJ _ _ [.p (A 0) (dv (a0)), .p (A 1) (vc_Pump (a1)), .d (enc (a2 : List Int)), .junk, .junk, .junk, .junk, .junk, .junk, .junk, .junk, .junk, .junk, .junk, .junk, .junk, .junk, .junk, .junk, .junk, .junk, .junk, .junk, .junk, .junk] m_law_rest1 (B_law_rest1 a0 a1 a2) (Empty.elim) from by
    unfold m_law_rest1 B_law_rest1
    refine' Y_seq ?h1_177 ?h2_177; (case h1_177 => (exact Y_setX (i := 19) (XE_roll (i := 0) (d := a0) (many := (30 : Int)) rfl (EJ_C) (by decide)) (fun _ => show 19 < 25 by decide))); intro s1; refine Y_at [.p (A 0) (dv (s1.2)), .p (A 1) (vc_Pump (a1)), .d (enc (a2 : List Int)), .junk, .junk, .junk, .junk, .junk, .junk, .junk, .junk, .junk, .junk, .junk, .junk, .junk, .junk, .junk, .junk, .d (enc (s1.1 : Int)), .junk, .junk, .junk, .junk, .junk] ?_; refine Y_grd ?_; rintro ⟨h2, h7, h8, h9, h13⟩; refine' Y_seq ?h1_176 ?h2_176; (case h1_176 => (exact Y_set (i := 4) (show 4 < 25 by decide) (EJ_map (fun (y10 : (Int × Int)) => [.p (A 0) (dv (s1.2)), .p (A 1) (vc_Pump (a1)), .d (enc (a2 : List Int)), .d (enc (y10.2 : Int)), .junk, .junk, .junk, .junk, .junk, .junk, .junk, .junk, .junk, .junk, .junk, .junk, .junk, .junk, .junk, .d (enc (s1.1 : Int)), .d (enc (y10.1 : Int)), .junk, .junk, .junk, .junk]) (fun (y10 : (Int × Int)) => (y10.2 : Int)) (IJ_seq (EJ_pn (AV_cons (EJ.v (EJ_map (fun (y3 : Int) => [.p (A 0) (dv (s1.2)), .p (A 1) (vc_Pump (a1)), .d (enc (a2 : List Int)), .d (enc (y3 : Int)), .junk, .junk, .junk, .junk, .junk, .junk, .junk, .junk, .junk, .junk, .junk, .junk, .junk, .junk, .junk, .d (enc (s1.1 : Int)), .junk, .junk, .junk, .junk, .junk]) (fun (y3 : Int) => ((((0 : Int) - (pyIx a2 y3)), y3) : (Int × Int))) (IJ_pn (AJ_cons (EJ_pn (AV_cons (EJ.v (EJ_var (i := 2) rfl)) (AV_nil)) o_lenL) (AJ_nil)) (p_range1 h2)) (fun _ => rfl) (fun y3 m4 => (let h5 := h7 y3 m4; EJ_as (enc ((((0 : Int) - (pyIx a2 y3)), y3) : (Int × Int))) (EJ_disp (AJ_cons (EJ_p2 (EJ.v (EJ_C)) (EJ.v (EJ_p2 (EJ.v (EJ_var (i := 2) rfl)) (EJ.v (EJ_var (i := 3) rfl)) (o_ixL h5))) rfl) (AJ_cons (EJ_var (i := 3) rfl) (AJ_nil))) (pTn 2 rfl)))) h8)) (AV_nil)) (oSort_ok h9)) rfl) (fun _ => rfl) (fun y10 m11 => EJ_var (i := 3) rfl) h13))); intro v14; refine Y_at [.p (A 0) (dv (s1.2)), .p (A 1) (vc_Pump (a1)), .d (enc (a2 : List Int)), .junk, .d (enc (v14 : List Int)), .junk, .junk, .junk, .junk, .junk, .junk, .junk, .junk, .junk, .junk, .junk, .junk, .junk, .junk, .d (enc (s1.1 : Int)), .junk, .junk, .junk, .junk, .junk] ?_; refine Y_grd ?_; rintro ⟨h15, h25, h26⟩; refine' Y_seq ?h1_175 ?h2_175; (case h1_175 => (exact Y_set (i := 5) (show 5 < 25 by decide) (EJ_comp (fun (y16 : Int) => [.p (A 0) (dv (s1.2)), .p (A 1) (vc_Pump (a1)), .d (enc (a2 : List Int)), .d (enc (y16 : Int)), .d (enc (v14 : List Int)), .junk, .junk, .junk, .junk, .junk, .junk, .junk, .junk, .junk, .junk, .junk, .junk, .junk, .junk, .d (enc (s1.1 : Int)), .junk, .junk, .junk, .junk, .junk]) (fun (y16 : Int) => (decide ((((List.map (fun (y18 : Int) => ((pyIx a2 y18) : Int)) (cutL v14 none (some y16))) : List Int)).sum ≥ s1.1))) (fun (y16 : Int) => (y16 : Int)) (IJ_pn (AJ_cons (EJ_p2 (EJ.v (EJ_pn (AV_cons (EJ.v (EJ_var (i := 4) rfl)) (AV_nil)) o_lenL)) (EJ.v (EJ_C)) rfl) (AJ_nil)) (p_range1 h15)) (fun _ => rfl) (fun y16 m17 => (match h25 y16 m17 with | ⟨h22, h23⟩ => TJ_e (EJ_p2 (EJ.v (EJ_pn (AV_cons (EJ.v (EJ_map (fun (y18 : Int) => [.p (A 0) (dv (s1.2)), .p (A 1) (vc_Pump (a1)), .d (enc (a2 : List Int)), .d (enc (y16 : Int)), .d (enc (v14 : List Int)), .junk, .junk, .junk, .junk, .junk, .junk, .junk, .junk, .junk, .junk, .junk, .junk, .junk, .junk, .d (enc (s1.1 : Int)), .junk, .d (enc (y18 : Int)), .junk, .junk, .junk]) (fun (y18 : Int) => ((pyIx a2 y18) : Int)) (IJ_seq (EJ_sl (l := none) (h := (some y16)) (EJ.v (EJ_var (i := 4) rfl)) PJ_n (PJ_s (EJ_var (i := 3) rfl)) o_cutL) rfl) (fun _ => rfl) (fun y18 m19 => (let h20 := h22 y18 m19; EJ_p2 (EJ.v (EJ_var (i := 2) rfl)) (EJ.v (EJ_var (i := 21) rfl)) (o_ixL h20))) h23)) (AV_nil)) o_sum)) (EJ.v (EJ_var (i := 19) rfl)) rfl))) (fun y16 m17 y24 => EJ_var (i := 3) rfl) h26))); intro v27; refine Y_at [.p (A 0) (dv (s1.2)), .p (A 1) (vc_Pump (a1)), .d (enc (a2 : List Int)), .junk, .d (enc (v14 : List Int)), .d (enc (v27 : List Int)), .junk, .junk, .junk, .junk, .junk, .junk, .junk, .junk, .junk, .junk, .junk, .junk, .junk, .d (enc (s1.1 : Int)), .junk, .junk, .junk, .junk, .junk] ?_; refine' Y_ifXE ?hc_174 ?ha_174 ?hd_174; (case hc_174 => exact XT_e (XE_p2_epG (fun (s28 : (PyData × (Unit))) => ((!decide ((v27 : List Int) = ([] : List Int))) = true → (inIx (v27).length (0 : Int)) ∧ (sortOk (((cutL v14 none (some (pyIx v27 (0 : Int)))) : List Int).map enc) = true)) ∧ (shpD (s28.1) ((if (!decide ((v27 : List Int) = ([] : List Int))) = true then ((enc ((srt (cutL v14 none (some (pyIx v27 (0 : Int))))) : List Int) : PyData) : PyData) else (enc (("no way" : Str) : Str) : PyData))))) (XE_told (envx := fun (d32 : Unit) => [.p (A 0) (dv (s1.2)), .p (A 1) (vc_Pump (a1)), .d (enc (a2 : List Int)), .junk, .d (enc (v14 : List Int)), .d (enc (v27 : List Int)), .junk, .junk, .junk, .junk, .junk, .junk, .junk, .junk, .junk, .junk, .junk, .junk, .junk, .d (enc (s1.1 : Int)), .junk, .junk, .junk, .junk, .junk]) (envd := fun (d32 : Unit) => [.p (A 0) (dv (s1.2)), .p (A 1) (vc_Pump (a1)), .d (enc (a2 : List Int)), .junk, .d (enc (v14 : List Int)), .d (enc (v27 : List Int)), .junk, .junk, .junk, .junk, .junk, .junk, .junk, .junk, .junk, .junk, .junk, .junk, .junk, .d (enc (s1.1 : Int)), .junk, .junk, .junk, .junk, .junk]) (fun (s31 : Tup Int) => ((enc ((s31).l : List Int)), ())) (fun x => x) (XE_pn (XA_ep (callP' (ds := [.inl (enc (a2 : List Int)), .inl (enc (s1.1 : Int))]) (fun _ => ()) (P_fewest_pumps a2 s1.1) (AC_d (EJ_var (i := 2) rfl) (AC_d (EJ_var (i := 19) rfl) (AC_nil))) rfl (fun _ => wk.refl _)) (fun s29 => AJ_nil)) (fun s30 => rfl)) (fun _ => wk.refl _) (fun _ => rfl) (fun _ => wk.refl _) (fun _ => rfl)) (fun s28 H => (match H with | ⟨h36, h37⟩ => EJ.v (EJ_if (TJ_e (EJ_p2 (EJ.v (EJ_var (i := 5) rfl)) (EJ.v (EJ_as (enc ([] : List Int)) (EJ_disp (AJ_nil) (pLn 0 rfl)))) (o_ne (α := List Int) lay2))) (fun y35 => (match h36 y35 with | ⟨h33, h34⟩ => EJ_pn (AV_cons (EJ.v (EJ_sl (l := none) (h := (some (pyIx v27 (0 : Int)))) (EJ.v (EJ_var (i := 4) rfl)) PJ_n (PJ_s (EJ_p2 (EJ.v (EJ_var (i := 5) rfl)) (EJ.v (EJ_C)) (o_ixL h33))) o_cutL)) (AV_nil)) (oSort_ok h34))) (fun y35 => EJ_C) (ite_enc (α := PyData))))) (fun s28 H => (match H with | ⟨h36, h37⟩ => (o_neD h37))))); (case ha_174 => (intro s38 c39; refine Y_at [.p (A 0) (dv (s1.2)), .p (A 1) (vc_Pump (a1)), .d (enc (a2 : List Int)), .junk, .d (enc (v14 : List Int)), .d (enc (v27 : List Int)), .junk, .junk, .junk, .junk, .junk, .junk, .junk, .junk, .junk, .junk, .junk, .junk, .junk, .d (enc (s1.1 : Int)), .junk, .junk, .junk, .junk, .junk] ?_; exact Y_ret (q := (false, s1.2)) (EJ_C) (wk_k <| wk_k <| wk_o <| wk_o <| wk_o <| wk_o <| wk_o <| wk_o <| wk_o <| wk_o <| wk_o <| wk_o <| wk_o <| wk_o <| wk_o <| wk_o <| wk_o <| wk_o <| wk_o <| wk_o <| wk_o <| wk_o <| wk_o <| wk_o <| wk_o <| wk_n))); intro s38 c39; refine Y_at [.p (A 0) (dv (s1.2)), .p (A 1) (vc_Pump (a1)), .d (enc (a2 : List Int)), .junk, .d (enc (v14 : List Int)), .d (enc (v27 : List Int)), .junk, .junk, .junk, .junk, .junk, .junk, .junk, .junk, .junk, .junk, .junk, .junk, .junk, .d (enc (s1.1 : Int)), .junk, .junk, .junk, .junk, .junk] ?_; refine' Y_seq ?h1_173 ?h2_173; (case h1_173 => (exact Y_par (is := [15, 16, 13]) 25 (XL_o (XO_d (XE_slH (EJ_as (enc ([("bo" : Str), ("ann" : Str), ("cy" : Str)] : List Str)) (EJ_disp (AJ_cons (EJ_C) (AJ_cons (EJ_C) (AJ_cons (EJ_C) (AJ_nil)))) (pLn 3 rfl))) (XE_roll (i := 0) (d := s1.2) (many := (4 : Int)) rfl (EJ_C) (by decide)) (fun _ => o_cutL))) (fun s40 => XL_o (XO_d (XE_roll (i := 0) (d := s40.2) (many := (12 : Int)) rfl (EJ_C) (by decide))) (fun s41 => XL_o (XO_d (XE_p2_pe (EJ_C) (XE_roll (i := 0) (d := s41.2) (many := (4 : Int)) rfl (EJ_C) (by decide)) (fun s42 => rfl))) (fun s43 => XL_nil)))) (by decide) (fun _ => rfl) rfl (fun _ => rfl))); intro s47; refine Y_at [.p (A 0) (dv (s47.2.2.1.2)), .p (A 1) (vc_Pump (a1)), .d (enc (a2 : List Int)), .junk, .d (enc (v14 : List Int)), .d (enc (v27 : List Int)), .junk, .junk, .junk, .junk, .junk, .junk, .junk, .d (enc (((1 : Int) + s47.2.2.1.1) : Int)), .junk, .d (enc ((cutL ([("bo" : Str), ("ann" : Str), ("cy" : Str)] : List Str) none (some s47.1.1)) : List Str)), .d (enc (s47.2.1.1 : Int)), .junk, .junk, .d (enc (s1.1 : Int)), .junk, .junk, .junk, .junk, .junk] ?_; refine' Y_seq ?h1_172 ?h2_172; (case h1_172 => (exact Y_set (i := 6) (show 6 < 25 by decide) (EJ_as (enc ([] : List Str)) (EJ_disp (AJ_nil) (pLn 0 rfl))))); intro v48; refine Y_at [.p (A 0) (dv (s47.2.2.1.2)), .p (A 1) (vc_Pump (a1)), .d (enc (a2 : List Int)), .junk, .d (enc (v14 : List Int)), .d (enc (v27 : List Int)), .d (enc (v48 : List Str)), .junk, .junk, .junk, .junk, .junk, .junk, .d (enc (((1 : Int) + s47.2.2.1.1) : Int)), .junk, .d (enc ((cutL ([("bo" : Str), ("ann" : Str), ("cy" : Str)] : List Str) none (some s47.1.1)) : List Str)), .d (enc (s47.2.1.1 : Int)), .junk, .junk, .d (enc (s1.1 : Int)), .junk, .junk, .junk, .junk, .junk] ?_; refine Y_grd ?_; rintro h49; refine' Y_seq ?h1_171 ?h2_171; (case h1_171 => (refine Y_for (fun (s50 : (List Str)) => [.p (A 0) (dv (s47.2.2.1.2)), .p (A 1) (vc_Pump (a1)), .d (enc (a2 : List Int)), .junk, .d (enc (v14 : List Int)), .d (enc (v27 : List Int)), .d (enc (s50 : List Str)), .junk, .junk, .junk, .junk, .junk, .junk, .d (enc (((1 : Int) + s47.2.2.1.1) : Int)), .junk, .d (enc ((cutL ([("bo" : Str), ("ann" : Str), ("cy" : Str)] : List Str) none (some s47.1.1)) : List Str)), .d (enc (s47.2.1.1 : Int)), .junk, .junk, .d (enc (s1.1 : Int)), .junk, .junk, .junk, .junk, .junk]) (fun (s50 : (List Str)) (y51 : Int) => [.p (A 0) (dv (s47.2.2.1.2)), .p (A 1) (vc_Pump (a1)), .d (enc (a2 : List Int)), .junk, .d (enc (v14 : List Int)), .d (enc (v27 : List Int)), .d (enc (s50 : List Str)), .d (enc (y51 : Int)), .junk, .junk, .junk, .junk, .junk, .d (enc (((1 : Int) + s47.2.2.1.1) : Int)), .junk, .d (enc ((cutL ([("bo" : Str), ("ann" : Str), ("cy" : Str)] : List Str) none (some s47.1.1)) : List Str)), .d (enc (s47.2.1.1 : Int)), .junk, .junk, .d (enc (s1.1 : Int)), .junk, .junk, .junk, .junk, .junk]) ?hi_68 ?h0_68 ?hp_68 ?hb_68; (case hi_68 => exact IJ_pn (AJ_cons (EJ_C) (AJ_nil)) (p_range1 h49)); (case h0_68 => exact (wk_k <| wk_k <| wk_k <| wk_o <| wk_k <| wk_k <| wk_k <| wk_o <| wk_o <| wk_o <| wk_o <| wk_o <| wk_o <| wk_k <| wk_o <| wk_k <| wk_k <| wk_o <| wk_o <| wk_k <| wk_o <| wk_o <| wk_o <| wk_o <| wk_o <| wk_n)); (case hp_68 => exact fun _ _ => rfl); intro s50 y51 m52; refine Y_grd ?_; rintro ⟨h53, h62, h63, h64, h65⟩; refine' Y_last ?h1_67 ?h2_67; (case h1_67 => (exact Y_set (i := 6) (show 6 < 25 by decide) (EJ_p2 (EJ.v (EJ_var (i := 6) rfl)) (EJ.v (callG (ds := [.inl (enc ((List.map (fun (y54 : Str) => ((List.map (fun (y57 : Int) => (y54 : Str)) (rng ((1 : Int) + s47.2.2.1.1))) : List Str)) (srt (cutL ([("bo" : Str), ("ann" : Str), ("cy" : Str)] : List Str) none (some s47.1.1)))) : List (List Str)))]) h64 (P_law_flat (List.map (fun (y54 : Str) => ((List.map (fun (y57 : Int) => (y54 : Str)) (rng ((1 : Int) + s47.2.2.1.1))) : List Str)) (srt (cutL ([("bo" : Str), ("ann" : Str), ("cy" : Str)] : List Str) none (some s47.1.1))))) (AC_d (EJ_map (fun (y54 : Str) => [.p (A 0) (dv (s47.2.2.1.2)), .p (A 1) (vc_Pump (a1)), .d (enc (a2 : List Int)), .junk, .d (enc (v14 : List Int)), .d (enc (v27 : List Int)), .d (enc (s50 : List Str)), .d (enc (y51 : Int)), .junk, .junk, .junk, .junk, .junk, .d (enc (((1 : Int) + s47.2.2.1.1) : Int)), .junk, .d (enc ((cutL ([("bo" : Str), ("ann" : Str), ("cy" : Str)] : List Str) none (some s47.1.1)) : List Str)), .d (enc (s47.2.1.1 : Int)), .junk, .junk, .d (enc (s1.1 : Int)), .junk, .junk, .d (enc (y54 : Str)), .junk, .junk]) (fun (y54 : Str) => ((List.map (fun (y57 : Int) => (y54 : Str)) (rng ((1 : Int) + s47.2.2.1.1))) : List Str)) (IJ_seq (EJ_pn (AV_cons (EJ.v (EJ_var (i := 15) rfl)) (AV_nil)) (oSort_ok h53)) rfl) (fun _ => rfl) (fun y54 m55 => (match h62 y54 m55 with | ⟨h56, h60⟩ => EJ_map (fun (y57 : Int) => [.p (A 0) (dv (s47.2.2.1.2)), .p (A 1) (vc_Pump (a1)), .d (enc (a2 : List Int)), .junk, .d (enc (v14 : List Int)), .d (enc (v27 : List Int)), .d (enc (s50 : List Str)), .d (enc (y51 : Int)), .junk, .junk, .junk, .junk, .junk, .d (enc (((1 : Int) + s47.2.2.1.1) : Int)), .junk, .d (enc ((cutL ([("bo" : Str), ("ann" : Str), ("cy" : Str)] : List Str) none (some s47.1.1)) : List Str)), .d (enc (s47.2.1.1 : Int)), .junk, .junk, .d (enc (s1.1 : Int)), .junk, .junk, .d (enc (y54 : Str)), .d (enc (y57 : Int)), .junk]) (fun (y57 : Int) => (y54 : Str)) (IJ_pn (AJ_cons (EJ_var (i := 13) rfl) (AJ_nil)) (p_range1 h56)) (fun _ => rfl) (fun y57 m58 => EJ_var (i := 22) rfl) h60)) h63) (AC_nil)) rfl)) (o_addL h65)))); exact fun v66 => (wk_k <| wk_k <| wk_k <| wk_o <| wk_k <| wk_k <| wk_k <| wk_o <| wk_o <| wk_o <| wk_o <| wk_o <| wk_o <| wk_k <| wk_o <| wk_k <| wk_k <| wk_o <| wk_o <| wk_k <| wk_o <| wk_o <| wk_o <| wk_o <| wk_o <| wk_n))); intro s69; refine Y_at [.p (A 0) (dv (s47.2.2.1.2)), .p (A 1) (vc_Pump (a1)), .d (enc (a2 : List Int)), .junk, .d (enc (v14 : List Int)), .d (enc (v27 : List Int)), .d (enc (s69 : List Str)), .junk, .junk, .junk, .junk, .junk, .junk, .d (enc (((1 : Int) + s47.2.2.1.1) : Int)), .junk, .d (enc ((cutL ([("bo" : Str), ("ann" : Str), ("cy" : Str)] : List Str) none (some s47.1.1)) : List Str)), .d (enc (s47.2.1.1 : Int)), .junk, .junk, .d (enc (s1.1 : Int)), .junk, .junk, .junk, .junk, .junk] ?_; refine' Y_ifXE ?hc_170 ?ha_170 ?hd_170; (case hc_170 => exact XT_e (XE_p2_epG (fun (s70 : (PyData × (Unit))) => (layP ((cutL ([("bo" : Str), ("ann" : Str), ("cy" : Str)] : List Str) none (some s47.1.1)) : List Str) ∧ layP (([] : List Str) : List Str)) ∧ (shpD (s70.1) ((if (!decide (((cutL ([("bo" : Str), ("ann" : Str), ("cy" : Str)] : List Str) none (some s47.1.1)) : List Str) = ([] : List Str))) = true then ((enc ((cutL s69 none (some s47.2.1.1)) : List Str) : PyData) : PyData) else (enc (("plan" : Str) : Str) : PyData))))) (XE_told (envx := fun (d74 : Unit) => [.p (A 0) (dv (s47.2.2.1.2)), .p (A 1) (vc_Pump (a1)), .d (enc (a2 : List Int)), .junk, .d (enc (v14 : List Int)), .d (enc (v27 : List Int)), .d (enc (s69 : List Str)), .junk, .junk, .junk, .junk, .junk, .junk, .d (enc (((1 : Int) + s47.2.2.1.1) : Int)), .junk, .d (enc ((cutL ([("bo" : Str), ("ann" : Str), ("cy" : Str)] : List Str) none (some s47.1.1)) : List Str)), .d (enc (s47.2.1.1 : Int)), .junk, .junk, .d (enc (s1.1 : Int)), .junk, .junk, .junk, .junk, .junk]) (envd := fun (d74 : Unit) => [.p (A 0) (dv (s47.2.2.1.2)), .p (A 1) (vc_Pump (a1)), .d (enc (a2 : List Int)), .junk, .d (enc (v14 : List Int)), .d (enc (v27 : List Int)), .d (enc (s69 : List Str)), .junk, .junk, .junk, .junk, .junk, .junk, .d (enc (((1 : Int) + s47.2.2.1.1) : Int)), .junk, .d (enc ((cutL ([("bo" : Str), ("ann" : Str), ("cy" : Str)] : List Str) none (some s47.1.1)) : List Str)), .d (enc (s47.2.1.1 : Int)), .junk, .junk, .d (enc (s1.1 : Int)), .junk, .junk, .junk, .junk, .junk]) (fun (s73 : Tup Str) => ((enc ((s73).l : List Str)), ())) (fun x => x) (XE_pn (XA_ep (callP' (ds := [.inl (enc (s47.2.1.1 : Int)), .inl (enc ((cutL ([("bo" : Str), ("ann" : Str), ("cy" : Str)] : List Str) none (some s47.1.1)) : List Str)), .inl (enc (((1 : Int) + s47.2.2.1.1) : Int))]) (fun _ => ()) (P_shifts s47.2.1.1 (cutL ([("bo" : Str), ("ann" : Str), ("cy" : Str)] : List Str) none (some s47.1.1)) ((1 : Int) + s47.2.2.1.1)) (AC_d (EJ_var (i := 16) rfl) (AC_d (EJ_var (i := 15) rfl) (AC_d (EJ_var (i := 13) rfl) (AC_nil)))) rfl (fun _ => wk.refl _)) (fun s71 => AJ_nil)) (fun s72 => rfl)) (fun _ => wk.refl _) (fun _ => rfl) (fun _ => wk.refl _) (fun _ => rfl)) (fun s70 H => (match H with | ⟨h75, h77⟩ => EJ.v (EJ_if (TJ_e (EJ_p2 (EJ.v (EJ_var (i := 15) rfl)) (EJ.v (EJ_as (enc ([] : List Str)) (EJ_disp (AJ_nil) (pLn 0 rfl)))) (o_ne (α := List Str) h75))) (fun y76 => EJ_sl (l := none) (h := (some s47.2.1.1)) (EJ.v (EJ_var (i := 6) rfl)) PJ_n (PJ_s (EJ_var (i := 16) rfl)) o_cutL) (fun y76 => EJ_C) (ite_enc (α := PyData))))) (fun s70 H => (match H with | ⟨h75, h77⟩ => (o_neD h77))))); (case ha_170 => (intro s78 c79; refine Y_at [.p (A 0) (dv (s47.2.2.1.2)), .p (A 1) (vc_Pump (a1)), .d (enc (a2 : List Int)), .junk, .d (enc (v14 : List Int)), .d (enc (v27 : List Int)), .d (enc (s69 : List Str)), .junk, .junk, .junk, .junk, .junk, .junk, .d (enc (((1 : Int) + s47.2.2.1.1) : Int)), .junk, .d (enc ((cutL ([("bo" : Str), ("ann" : Str), ("cy" : Str)] : List Str) none (some s47.1.1)) : List Str)), .d (enc (s47.2.1.1 : Int)), .junk, .junk, .d (enc (s1.1 : Int)), .junk, .junk, .junk, .junk, .junk] ?_; exact Y_ret (q := (false, s47.2.2.1.2)) (EJ_C) (wk_k <| wk_k <| wk_o <| wk_o <| wk_o <| wk_o <| wk_o <| wk_o <| wk_o <| wk_o <| wk_o <| wk_o <| wk_o <| wk_o <| wk_o <| wk_o <| wk_o <| wk_o <| wk_o <| wk_o <| wk_o <| wk_o <| wk_o <| wk_o <| wk_o <| wk_n))); intro s78 c79; refine Y_at [.p (A 0) (dv (s47.2.2.1.2)), .p (A 1) (vc_Pump (a1)), .d (enc (a2 : List Int)), .junk, .d (enc (v14 : List Int)), .d (enc (v27 : List Int)), .d (enc (s69 : List Str)), .junk, .junk, .junk, .junk, .junk, .junk, .d (enc (((1 : Int) + s47.2.2.1.1) : Int)), .junk, .d (enc ((cutL ([("bo" : Str), ("ann" : Str), ("cy" : Str)] : List Str) none (some s47.1.1)) : List Str)), .d (enc (s47.2.1.1 : Int)), .junk, .junk, .d (enc (s1.1 : Int)), .junk, .junk, .junk, .junk, .junk] ?_; refine' Y_seq ?h1_169 ?h2_169; (case h1_169 => (exact Y_par (is := [8, 9, 10]) 25 (XL_o (XO_d (XE_p2_pe (EJ_C) (XE_roll (i := 0) (d := s47.2.2.1.2) (many := (20 : Int)) rfl (EJ_C) (by decide)) (fun s80 => rfl))) (fun s81 => XL_o (XO_d (XE_comp (ξ2 := Unit) (envx2 := fun _ => junks 25) (own := [3]) (d0 := fun (s83 : (Int × Dice)) => s83.2) (ys := (fun (s83 : (Int × Dice)) => (rng s83.1))) (f := (fun (y86 : Int) (d85 : Dice) => ((rollO d85 (12 : Int)).bind fun s88 => Out.ok ((((1 : Int) + s88.1) : Int), s88.2) : Out Unit _))) (fun (d85 : Dice) => [.p (A 0) (dv (d85)), .p (A 1) (vc_Pump (a1)), .d (enc (a2 : List Int)), .junk, .d (enc (v14 : List Int)), .d (enc (v27 : List Int)), .d (enc (s69 : List Str)), .junk, .junk, .junk, .junk, .junk, .junk, .d (enc (((1 : Int) + s47.2.2.1.1) : Int)), .junk, .d (enc ((cutL ([("bo" : Str), ("ann" : Str), ("cy" : Str)] : List Str) none (some s47.1.1)) : List Str)), .d (enc (s47.2.1.1 : Int)), .junk, .junk, .d (enc (s1.1 : Int)), .junk, .junk, .junk, .junk, .junk]) (fun (d85 : Dice) (y86 : Int) => [.p (A 0) (dv (d85)), .p (A 1) (vc_Pump (a1)), .d (enc (a2 : List Int)), .d (enc (y86 : Int)), .d (enc (v14 : List Int)), .d (enc (v27 : List Int)), .d (enc (s69 : List Str)), .junk, .junk, .junk, .junk, .junk, .junk, .d (enc (((1 : Int) + s47.2.2.1.1) : Int)), .junk, .d (enc ((cutL ([("bo" : Str), ("ann" : Str), ("cy" : Str)] : List Str) none (some s47.1.1)) : List Str)), .d (enc (s47.2.1.1 : Int)), .junk, .junk, .d (enc (s1.1 : Int)), .junk, .junk, .junk, .junk, .junk]) (fun (d85 : Dice) (y86 : Int) => [.p (A 0) (dv (d85)), .p (A 1) (vc_Pump (a1)), .d (enc (a2 : List Int)), .d (enc (y86 : Int)), .d (enc (v14 : List Int)), .d (enc (v27 : List Int)), .d (enc (s69 : List Str)), .junk, .junk, .junk, .junk, .junk, .junk, .d (enc (((1 : Int) + s47.2.2.1.1) : Int)), .junk, .d (enc ((cutL ([("bo" : Str), ("ann" : Str), ("cy" : Str)] : List Str) none (some s47.1.1)) : List Str)), .d (enc (s47.2.1.1 : Int)), .junk, .junk, .d (enc (s1.1 : Int)), .junk, .junk, .junk, .junk, .junk]) (XI_pn (fun (s83 : (Int × Dice)) => (small s83.1)) (XA_ep (XE_roll (i := 0) (d := s81.2) (many := (4 : Int)) rfl (EJ_C) (by decide)) (fun s82 => AJ_nil)) (fun s83 H => (let h84 := H; p_range1 h84))) (fun s83 => (wk_k <| wk_k <| wk_k <| wk_o <| wk_k <| wk_k <| wk_k <| wk_o <| wk_o <| wk_o <| wk_o <| wk_o <| wk_o <| wk_k <| wk_o <| wk_k <| wk_k <| wk_o <| wk_o <| wk_k <| wk_o <| wk_o <| wk_o <| wk_o <| wk_o <| wk_n)) (fun _ => rfl) (fun _ _ => rfl) (by decide) (fun s83 d85 y86 m89 => XE.to (XE_p2_pe (EJ_C) (XE_roll (i := 0) (d := d85) (many := (12 : Int)) rfl (EJ_C) (by decide)) (fun s87 => rfl)) (fun (s88 : (Int × Dice)) => ((((1 : Int) + s88.1) : Int), s88.2)) (fun _ => wk.refl _) (fun _ => rfl)) (fun _ _ => (wk_k <| wk_k <| wk_k <| wk_o <| wk_k <| wk_k <| wk_k <| wk_o <| wk_o <| wk_o <| wk_o <| wk_o <| wk_o <| wk_k <| wk_o <| wk_k <| wk_k <| wk_o <| wk_o <| wk_k <| wk_o <| wk_o <| wk_o <| wk_o <| wk_o <| wk_n)))) (fun s90 => XL_o (XO_d (XE_roll (i := 0) (d := s90.2) (many := (9 : Int)) rfl (EJ_C) (by decide))) (fun s91 => XL_nil)))) (by decide) (fun _ => rfl) rfl (fun _ => rfl))); intro s95; refine Y_at [.p (A 0) (dv (s95.2.2.1.2)), .p (A 1) (vc_Pump (a1)), .d (enc (a2 : List Int)), .junk, .d (enc (v14 : List Int)), .d (enc (v27 : List Int)), .d (enc (s69 : List Str)), .junk, .d (enc (((1 : Int) + s95.1.1) : Int)), .d (enc (s95.2.1.1 : List Int)), .d (enc (s95.2.2.1.1 : Int)), .junk, .junk, .d (enc (((1 : Int) + s47.2.2.1.1) : Int)), .junk, .d (enc ((cutL ([("bo" : Str), ("ann" : Str), ("cy" : Str)] : List Str) none (some s47.1.1)) : List Str)), .d (enc (s47.2.1.1 : Int)), .junk, .junk, .d (enc (s1.1 : Int)), .junk, .junk, .junk, .junk, .junk] ?_; refine' Y_ifXE ?hc_168 ?ha_168 ?hd_168; (case hc_168 => exact XT_e (XE_p2_epG (fun (s96 : Tup Int) => (∀ y99 ∈ s95.2.1.1, ((wideI ((1 : Int) + s95.1.1) || wideI s95.2.2.1.1) = true) ∧ (ok3 y99 ((((1 : Int) + s95.1.1) * s95.2.2.1.1) + (1 : Int)) y99 ∧ (Builtin.Range.rangeSize y99 ((((1 : Int) + s95.1.1) * s95.2.2.1.1) + (1 : Int)) y99).toNat ≤ lineN)) ∧ ((s95.2.1.1).length ≤ lineN)) (XE_pn (XA_ep (callP' (ds := [.inl (enc ((((1 : Int) + s95.1.1), s95.2.1.1) : (Int × (List Int)))), .inl (enc (s95.2.2.1.1 : Int))]) (fun _ => s95.2.2.1.2) (P_wheel_pumps (((1 : Int) + s95.1.1), s95.2.1.1) s95.2.2.1.1) (AC_d (EJ_as (enc ((((1 : Int) + s95.1.1), s95.2.1.1) : (Int × (List Int)))) (EJ_disp (AJ_cons (EJ_var (i := 8) rfl) (AJ_cons (EJ_var (i := 9) rfl) (AJ_nil))) (pTn 2 rfl))) (AC_d (EJ_var (i := 10) rfl) (AC_nil))) rfl (fun _ => (wk_k <| wk_k <| wk_o <| wk_o <| wk_o <| wk_o <| wk_o <| wk_o <| wk_o <| wk_o <| wk_o <| wk_o <| wk_o <| wk_o <| wk_o <| wk_o <| wk_o <| wk_o <| wk_o <| wk_o <| wk_o <| wk_o <| wk_o <| wk_o <| wk_o <| wk_n))) (fun s97 => AJ_nil)) (fun s98 => rfl)) (fun s96 H => (match H with | ⟨h104, h105⟩ => EJ.v (EJ_map (fun (y99 : Int) => [.p (A 0) (dv (s95.2.2.1.2)), .p (A 1) (vc_Pump (a1)), .d (enc (a2 : List Int)), .junk, .d (enc (v14 : List Int)), .d (enc (v27 : List Int)), .d (enc (s69 : List Str)), .junk, .d (enc (((1 : Int) + s95.1.1) : Int)), .d (enc (s95.2.1.1 : List Int)), .d (enc (s95.2.2.1.1 : Int)), .junk, .junk, .d (enc (((1 : Int) + s47.2.2.1.1) : Int)), .junk, .d (enc ((cutL ([("bo" : Str), ("ann" : Str), ("cy" : Str)] : List Str) none (some s47.1.1)) : List Str)), .d (enc (s47.2.1.1 : Int)), .junk, .junk, .d (enc (s1.1 : Int)), .junk, .junk, .junk, .junk, .d (enc (y99 : Int))]) (fun (y99 : Int) => ((((rng3 y99 ((((1 : Int) + s95.1.1) * s95.2.2.1.1) + (1 : Int)) y99)).length : Int) : Int)) (IJ_seq (EJ_var (i := 9) rfl) rfl) (fun _ => rfl) (fun y99 m100 => (match h104 y99 m100 with | ⟨h101, h102⟩ => EJ_pn (AV_cons (EJ.v (EJ_pn (AV_cons (EJ.v (EJ_var (i := 24) rfl)) (AV_cons (EJ.v (EJ_p2 (EJ.v (EJ_p2 (EJ.v (EJ_var (i := 8) rfl)) (EJ.v (EJ_var (i := 10) rfl)) (o_mul h101))) (EJ.v (EJ_C)) rfl)) (AV_cons (EJ.v (EJ_var (i := 24) rfl)) (AV_nil)))) (o_lrg3 h102))) (AV_nil)) o_lenL)) h105))) (fun s96 H => (match H with | ⟨h104, h105⟩ => (o_ne (α := List Int) lay2))))); (case ha_168 => (intro s106 c107; refine Y_at [.p (A 0) (dv (s95.2.2.1.2)), .p (A 1) (vc_Pump (a1)), .d (enc (a2 : List Int)), .junk, .d (enc (v14 : List Int)), .d (enc (v27 : List Int)), .d (enc (s69 : List Str)), .junk, .d (enc (((1 : Int) + s95.1.1) : Int)), .d (enc (s95.2.1.1 : List Int)), .d (enc (s95.2.2.1.1 : Int)), .junk, .junk, .d (enc (((1 : Int) + s47.2.2.1.1) : Int)), .junk, .d (enc ((cutL ([("bo" : Str), ("ann" : Str), ("cy" : Str)] : List Str) none (some s47.1.1)) : List Str)), .d (enc (s47.2.1.1 : Int)), .junk, .junk, .d (enc (s1.1 : Int)), .junk, .junk, .junk, .junk, .junk] ?_; exact Y_ret (q := (false, s95.2.2.1.2)) (EJ_C) (wk_k <| wk_k <| wk_o <| wk_o <| wk_o <| wk_o <| wk_o <| wk_o <| wk_o <| wk_o <| wk_o <| wk_o <| wk_o <| wk_o <| wk_o <| wk_o <| wk_o <| wk_o <| wk_o <| wk_o <| wk_o <| wk_o <| wk_o <| wk_o <| wk_o <| wk_n))); intro s106 c107; refine Y_at [.p (A 0) (dv (s95.2.2.1.2)), .p (A 1) (vc_Pump (a1)), .d (enc (a2 : List Int)), .junk, .d (enc (v14 : List Int)), .d (enc (v27 : List Int)), .d (enc (s69 : List Str)), .junk, .d (enc (((1 : Int) + s95.1.1) : Int)), .d (enc (s95.2.1.1 : List Int)), .d (enc (s95.2.2.1.1 : Int)), .junk, .junk, .d (enc (((1 : Int) + s47.2.2.1.1) : Int)), .junk, .d (enc ((cutL ([("bo" : Str), ("ann" : Str), ("cy" : Str)] : List Str) none (some s47.1.1)) : List Str)), .d (enc (s47.2.1.1 : Int)), .junk, .junk, .d (enc (s1.1 : Int)), .junk, .junk, .junk, .junk, .junk] ?_; refine' Y_seq ?h1_167 ?h2_167; (case h1_167 => (exact Y_par (is := [18, 17, 14, 11, 12]) 25 (XL_o (XO_d (XE_comp (ξ2 := Unit) (envx2 := fun _ => junks 25) (own := [3]) (d0 := fun (s109 : (Int × Dice)) => s109.2) (ys := (fun (s109 : (Int × Dice)) => (rng s109.1))) (f := (fun (y112 : Int) (d111 : Dice) => ((rollO d111 (9 : Int)).bind fun s113 => Out.ok ((s113.1 : Int), s113.2) : Out Unit _))) (fun (d111 : Dice) => [.p (A 0) (dv (d111)), .p (A 1) (vc_Pump (a1)), .d (enc (a2 : List Int)), .junk, .d (enc (v14 : List Int)), .d (enc (v27 : List Int)), .d (enc (s69 : List Str)), .junk, .d (enc (((1 : Int) + s95.1.1) : Int)), .d (enc (s95.2.1.1 : List Int)), .d (enc (s95.2.2.1.1 : Int)), .junk, .junk, .d (enc (((1 : Int) + s47.2.2.1.1) : Int)), .junk, .d (enc ((cutL ([("bo" : Str), ("ann" : Str), ("cy" : Str)] : List Str) none (some s47.1.1)) : List Str)), .d (enc (s47.2.1.1 : Int)), .junk, .junk, .d (enc (s1.1 : Int)), .junk, .junk, .junk, .junk, .junk]) (fun (d111 : Dice) (y112 : Int) => [.p (A 0) (dv (d111)), .p (A 1) (vc_Pump (a1)), .d (enc (a2 : List Int)), .d (enc (y112 : Int)), .d (enc (v14 : List Int)), .d (enc (v27 : List Int)), .d (enc (s69 : List Str)), .junk, .d (enc (((1 : Int) + s95.1.1) : Int)), .d (enc (s95.2.1.1 : List Int)), .d (enc (s95.2.2.1.1 : Int)), .junk, .junk, .d (enc (((1 : Int) + s47.2.2.1.1) : Int)), .junk, .d (enc ((cutL ([("bo" : Str), ("ann" : Str), ("cy" : Str)] : List Str) none (some s47.1.1)) : List Str)), .d (enc (s47.2.1.1 : Int)), .junk, .junk, .d (enc (s1.1 : Int)), .junk, .junk, .junk, .junk, .junk]) (fun (d111 : Dice) (y112 : Int) => [.p (A 0) (dv (d111)), .p (A 1) (vc_Pump (a1)), .d (enc (a2 : List Int)), .d (enc (y112 : Int)), .d (enc (v14 : List Int)), .d (enc (v27 : List Int)), .d (enc (s69 : List Str)), .junk, .d (enc (((1 : Int) + s95.1.1) : Int)), .d (enc (s95.2.1.1 : List Int)), .d (enc (s95.2.2.1.1 : Int)), .junk, .junk, .d (enc (((1 : Int) + s47.2.2.1.1) : Int)), .junk, .d (enc ((cutL ([("bo" : Str), ("ann" : Str), ("cy" : Str)] : List Str) none (some s47.1.1)) : List Str)), .d (enc (s47.2.1.1 : Int)), .junk, .junk, .d (enc (s1.1 : Int)), .junk, .junk, .junk, .junk, .junk]) (XI_pn (fun (s109 : (Int × Dice)) => (small s109.1)) (XA_ep (XE_roll (i := 0) (d := s95.2.2.1.2) (many := (6 : Int)) rfl (EJ_C) (by decide)) (fun s108 => AJ_nil)) (fun s109 H => (let h110 := H; p_range1 h110))) (fun s109 => (wk_k <| wk_k <| wk_k <| wk_o <| wk_k <| wk_k <| wk_k <| wk_o <| wk_k <| wk_k <| wk_k <| wk_o <| wk_o <| wk_k <| wk_o <| wk_k <| wk_k <| wk_o <| wk_o <| wk_k <| wk_o <| wk_o <| wk_o <| wk_o <| wk_o <| wk_n)) (fun _ => rfl) (fun _ _ => rfl) (by decide) (fun s109 d111 y112 m114 => XE.to (XE_roll (i := 0) (d := d111) (many := (9 : Int)) rfl (EJ_C) (by decide)) (fun (s113 : (Int × Dice)) => ((s113.1 : Int), s113.2)) (fun _ => wk.refl _) (fun _ => rfl)) (fun _ _ => (wk_k <| wk_k <| wk_k <| wk_o <| wk_k <| wk_k <| wk_k <| wk_o <| wk_k <| wk_k <| wk_k <| wk_o <| wk_o <| wk_k <| wk_o <| wk_k <| wk_k <| wk_o <| wk_o <| wk_k <| wk_o <| wk_o <| wk_o <| wk_o <| wk_o <| wk_n)))) (fun s115 => XL_o (XO_d (XE_roll (i := 0) (d := s115.2) (many := (6 : Int)) rfl (EJ_C) (by decide))) (fun s116 => XL_o (XO_d (XE_p2_pe (EJ_C) (XE_roll (i := 0) (d := s116.2) (many := (15 : Int)) rfl (EJ_C) (by decide)) (fun s117 => rfl))) (fun s118 => XL_d (EJ_C) (XL_d (EJ_C) (XL_nil)))))) (by decide) (fun _ => rfl) rfl (fun _ => rfl))); intro s122; refine Y_at [.p (A 0) (dv (s122.2.2.1.2)), .p (A 1) (vc_Pump (a1)), .d (enc (a2 : List Int)), .junk, .d (enc (v14 : List Int)), .d (enc (v27 : List Int)), .d (enc (s69 : List Str)), .junk, .d (enc (((1 : Int) + s95.1.1) : Int)), .d (enc (s95.2.1.1 : List Int)), .d (enc (s95.2.2.1.1 : Int)), .d (enc ((0 : Int) : Int)), .d (enc ((enc (("no way" : Str) : Str) : PyData) : PyData)), .d (enc (((1 : Int) + s47.2.2.1.1) : Int)), .d (enc (((1 : Int) + s122.2.2.1.1) : Int)), .d (enc ((cutL ([("bo" : Str), ("ann" : Str), ("cy" : Str)] : List Str) none (some s47.1.1)) : List Str)), .d (enc (s47.2.1.1 : Int)), .d (enc (s122.2.1.1 : Int)), .d (enc (s122.1.1 : List Int)), .d (enc (s1.1 : Int)), .junk, .junk, .junk, .junk, .junk] ?_; refine Y_grd ?_; rintro h123; refine' Y_seq ?h1_166 ?h2_166; (case h1_166 => (refine Y_for (fun (s124 : Int × PyData) => [.p (A 0) (dv (s122.2.2.1.2)), .p (A 1) (vc_Pump (a1)), .d (enc (a2 : List Int)), .junk, .d (enc (v14 : List Int)), .d (enc (v27 : List Int)), .d (enc (s69 : List Str)), .junk, .d (enc (((1 : Int) + s95.1.1) : Int)), .d (enc (s95.2.1.1 : List Int)), .d (enc (s95.2.2.1.1 : Int)), .d (enc (s124.1 : Int)), .d (enc (s124.2 : PyData)), .d (enc (((1 : Int) + s47.2.2.1.1) : Int)), .d (enc (((1 : Int) + s122.2.2.1.1) : Int)), .d (enc ((cutL ([("bo" : Str), ("ann" : Str), ("cy" : Str)] : List Str) none (some s47.1.1)) : List Str)), .d (enc (s47.2.1.1 : Int)), .d (enc (s122.2.1.1 : Int)), .d (enc (s122.1.1 : List Int)), .d (enc (s1.1 : Int)), .junk, .junk, .junk, .junk, .junk]) (fun (s124 : Int × PyData) (y125 : Int) => [.p (A 0) (dv (s122.2.2.1.2)), .p (A 1) (vc_Pump (a1)), .d (enc (a2 : List Int)), .d (enc (y125 : Int)), .d (enc (v14 : List Int)), .d (enc (v27 : List Int)), .d (enc (s69 : List Str)), .junk, .d (enc (((1 : Int) + s95.1.1) : Int)), .d (enc (s95.2.1.1 : List Int)), .d (enc (s95.2.2.1.1 : Int)), .d (enc (s124.1 : Int)), .d (enc (s124.2 : PyData)), .d (enc (((1 : Int) + s47.2.2.1.1) : Int)), .d (enc (((1 : Int) + s122.2.2.1.1) : Int)), .d (enc ((cutL ([("bo" : Str), ("ann" : Str), ("cy" : Str)] : List Str) none (some s47.1.1)) : List Str)), .d (enc (s47.2.1.1 : Int)), .d (enc (s122.2.1.1 : Int)), .d (enc (s122.1.1 : List Int)), .d (enc (s1.1 : Int)), .junk, .junk, .junk, .junk, .junk]) ?hi_135 ?h0_135 ?hp_135 ?hb_135; (case hi_135 => exact IJ_pn (AJ_cons (EJ_pn (AV_cons (EJ.v (EJ_var (i := 18) rfl)) (AV_nil)) o_lenL) (AJ_nil)) (p_range1 h123)); (case h0_135 => exact (wk_k <| wk_k <| wk_k <| wk_o <| wk_k <| wk_k <| wk_k <| wk_o <| wk_k <| wk_k <| wk_k <| wk_k <| wk_k <| wk_k <| wk_k <| wk_k <| wk_k <| wk_k <| wk_k <| wk_k <| wk_o <| wk_o <| wk_o <| wk_o <| wk_o <| wk_n)); (case hp_135 => exact fun _ _ => rfl); intro s124 y125 m126; refine Y_grd ?_; rintro h127; refine' Y_seq ?h1_134 ?h2_134; (case h1_134 => (exact Y_set (i := 11) (show 11 < 25 by decide) (EJ_p2 (EJ.v (EJ_pn (AV_cons (EJ.v (EJ_C)) (AV_cons (EJ.v (EJ_p2 (EJ.v (EJ_var (i := 11) rfl)) (EJ.v (EJ_var (i := 17) rfl)) rfl)) (AV_nil))) o_max2)) (EJ.v (EJ_p2 (EJ.v (EJ_var (i := 18) rfl)) (EJ.v (EJ_var (i := 3) rfl)) (o_ixL h127))) rfl))); intro v128; refine Y_at [.p (A 0) (dv (s122.2.2.1.2)), .p (A 1) (vc_Pump (a1)), .d (enc (a2 : List Int)), .d (enc (y125 : Int)), .d (enc (v14 : List Int)), .d (enc (v27 : List Int)), .d (enc (s69 : List Str)), .junk, .d (enc (((1 : Int) + s95.1.1) : Int)), .d (enc (s95.2.1.1 : List Int)), .d (enc (s95.2.2.1.1 : Int)), .d (enc (v128 : Int)), .d (enc (s124.2 : PyData)), .d (enc (((1 : Int) + s47.2.2.1.1) : Int)), .d (enc (((1 : Int) + s122.2.2.1.1) : Int)), .d (enc ((cutL ([("bo" : Str), ("ann" : Str), ("cy" : Str)] : List Str) none (some s47.1.1)) : List Str)), .d (enc (s47.2.1.1 : Int)), .d (enc (s122.2.1.1 : Int)), .d (enc (s122.1.1 : List Int)), .d (enc (s1.1 : Int)), .junk, .junk, .junk, .junk, .junk] ?_; refine Y_grd ?_; rintro h129; refine' Y_last ?h1_133 ?h2_133; (case h1_133 => (exact Y_set (i := 12) (show 12 < 25 by decide) (EJ_if (TJ_and (TJ_e (EJ_p2 (EJ.v (EJ_var (i := 12) rfl)) (EJ.v (EJ_C)) (o_eqD h129))) (fun y130 => TJ_e (EJ_p2 (EJ.v (EJ_var (i := 11) rfl)) (EJ.v (EJ_var (i := 14) rfl)) rfl))) (fun y131 => EJ_var (i := 3) rfl) (fun y131 => EJ_var (i := 12) rfl) (ite_enc (α := PyData))))); exact fun v132 => (wk_k <| wk_k <| wk_k <| wk_o <| wk_k <| wk_k <| wk_k <| wk_o <| wk_k <| wk_k <| wk_k <| wk_k <| wk_k <| wk_k <| wk_k <| wk_k <| wk_k <| wk_k <| wk_k <| wk_k <| wk_o <| wk_o <| wk_o <| wk_o <| wk_o <| wk_n))); intro s136; refine Y_at [.p (A 0) (dv (s122.2.2.1.2)), .p (A 1) (vc_Pump (a1)), .d (enc (a2 : List Int)), .junk, .d (enc (v14 : List Int)), .d (enc (v27 : List Int)), .d (enc (s69 : List Str)), .junk, .d (enc (((1 : Int) + s95.1.1) : Int)), .d (enc (s95.2.1.1 : List Int)), .d (enc (s95.2.2.1.1 : Int)), .d (enc (s136.1 : Int)), .d (enc (s136.2 : PyData)), .d (enc (((1 : Int) + s47.2.2.1.1) : Int)), .d (enc (((1 : Int) + s122.2.2.1.1) : Int)), .d (enc ((cutL ([("bo" : Str), ("ann" : Str), ("cy" : Str)] : List Str) none (some s47.1.1)) : List Str)), .d (enc (s47.2.1.1 : Int)), .d (enc (s122.2.1.1 : Int)), .d (enc (s122.1.1 : List Int)), .d (enc (s1.1 : Int)), .junk, .junk, .junk, .junk, .junk] ?_; refine' Y_ifXE ?hc_165 ?ha_165 ?hd_165; (case hc_165 => exact XT_e (XE_p2_epG (fun (s137 : (PyData × (Unit))) => (shpD (s137.1) (s136.2))) (XE_told (envx := fun (d139 : Unit) => [.p (A 0) (dv (s122.2.2.1.2)), .p (A 1) (vc_Pump (a1)), .d (enc (a2 : List Int)), .junk, .d (enc (v14 : List Int)), .d (enc (v27 : List Int)), .d (enc (s69 : List Str)), .junk, .d (enc (((1 : Int) + s95.1.1) : Int)), .d (enc (s95.2.1.1 : List Int)), .d (enc (s95.2.2.1.1 : Int)), .d (enc (s136.1 : Int)), .d (enc (s136.2 : PyData)), .d (enc (((1 : Int) + s47.2.2.1.1) : Int)), .d (enc (((1 : Int) + s122.2.2.1.1) : Int)), .d (enc ((cutL ([("bo" : Str), ("ann" : Str), ("cy" : Str)] : List Str) none (some s47.1.1)) : List Str)), .d (enc (s47.2.1.1 : Int)), .d (enc (s122.2.1.1 : Int)), .d (enc (s122.1.1 : List Int)), .d (enc (s1.1 : Int)), .junk, .junk, .junk, .junk, .junk]) (envd := fun (d139 : Unit) => [.p (A 0) (dv (s122.2.2.1.2)), .p (A 1) (vc_Pump (a1)), .d (enc (a2 : List Int)), .junk, .d (enc (v14 : List Int)), .d (enc (v27 : List Int)), .d (enc (s69 : List Str)), .junk, .d (enc (((1 : Int) + s95.1.1) : Int)), .d (enc (s95.2.1.1 : List Int)), .d (enc (s95.2.2.1.1 : Int)), .d (enc (s136.1 : Int)), .d (enc (s136.2 : PyData)), .d (enc (((1 : Int) + s47.2.2.1.1) : Int)), .d (enc (((1 : Int) + s122.2.2.1.1) : Int)), .d (enc ((cutL ([("bo" : Str), ("ann" : Str), ("cy" : Str)] : List Str) none (some s47.1.1)) : List Str)), .d (enc (s47.2.1.1 : Int)), .d (enc (s122.2.1.1 : Int)), .d (enc (s122.1.1 : List Int)), .d (enc (s1.1 : Int)), .junk, .junk, .junk, .junk, .junk]) (fun (s138 : Int) => ((enc (s138 : Int)), ())) (fun x => x) (callP' (ds := [.inl (enc (s122.1.1 : List Int)), .inl (enc (s122.2.1.1 : Int)), .inl (enc (((1 : Int) + s122.2.2.1.1) : Int))]) (fun _ => ()) (P_primed s122.1.1 s122.2.1.1 ((1 : Int) + s122.2.2.1.1)) (AC_d (EJ_var (i := 18) rfl) (AC_d (EJ_var (i := 17) rfl) (AC_d (EJ_var (i := 14) rfl) (AC_nil)))) rfl (fun _ => wk.refl _)) (fun _ => wk.refl _) (fun _ => rfl) (fun _ => wk.refl _) (fun _ => rfl)) (fun s137 H => (let h140 := H; EJ.v (EJ_var (i := 12) rfl))) (fun s137 H => (let h140 := H; (o_neD h140))))); (case ha_165 => (intro s141 c142; refine Y_at [.p (A 0) (dv (s122.2.2.1.2)), .p (A 1) (vc_Pump (a1)), .d (enc (a2 : List Int)), .junk, .d (enc (v14 : List Int)), .d (enc (v27 : List Int)), .d (enc (s69 : List Str)), .junk, .d (enc (((1 : Int) + s95.1.1) : Int)), .d (enc (s95.2.1.1 : List Int)), .d (enc (s95.2.2.1.1 : Int)), .d (enc (s136.1 : Int)), .d (enc (s136.2 : PyData)), .d (enc (((1 : Int) + s47.2.2.1.1) : Int)), .d (enc (((1 : Int) + s122.2.2.1.1) : Int)), .d (enc ((cutL ([("bo" : Str), ("ann" : Str), ("cy" : Str)] : List Str) none (some s47.1.1)) : List Str)), .d (enc (s47.2.1.1 : Int)), .d (enc (s122.2.1.1 : Int)), .d (enc (s122.1.1 : List Int)), .d (enc (s1.1 : Int)), .junk, .junk, .junk, .junk, .junk] ?_; exact Y_ret (q := (false, s122.2.2.1.2)) (EJ_C) (wk_k <| wk_k <| wk_o <| wk_o <| wk_o <| wk_o <| wk_o <| wk_o <| wk_o <| wk_o <| wk_o <| wk_o <| wk_o <| wk_o <| wk_o <| wk_o <| wk_o <| wk_o <| wk_o <| wk_o <| wk_o <| wk_o <| wk_o <| wk_o <| wk_o <| wk_n))); intro s141 c142; refine Y_at [.p (A 0) (dv (s122.2.2.1.2)), .p (A 1) (vc_Pump (a1)), .d (enc (a2 : List Int)), .junk, .d (enc (v14 : List Int)), .d (enc (v27 : List Int)), .d (enc (s69 : List Str)), .junk, .d (enc (((1 : Int) + s95.1.1) : Int)), .d (enc (s95.2.1.1 : List Int)), .d (enc (s95.2.2.1.1 : Int)), .d (enc (s136.1 : Int)), .d (enc (s136.2 : PyData)), .d (enc (((1 : Int) + s47.2.2.1.1) : Int)), .d (enc (((1 : Int) + s122.2.2.1.1) : Int)), .d (enc ((cutL ([("bo" : Str), ("ann" : Str), ("cy" : Str)] : List Str) none (some s47.1.1)) : List Str)), .d (enc (s47.2.1.1 : Int)), .d (enc (s122.2.1.1 : Int)), .d (enc (s122.1.1 : List Int)), .d (enc (s1.1 : Int)), .junk, .junk, .junk, .junk, .junk] ?_; refine' Y_ifXE ?hc_164 ?ha_164 ?hd_164; (case hc_164 => exact XT_e (XE_p2_epG (fun (s143 : (PyData × (Unit))) => (shpD (s143.1) ((enc (("plan" : Str) : Str) : PyData)))) (XE_told (envx := fun (d145 : Unit) => [.p (A 0) (dv (s122.2.2.1.2)), .p (A 1) (vc_Pump (a1)), .d (enc (a2 : List Int)), .junk, .d (enc (v14 : List Int)), .d (enc (v27 : List Int)), .d (enc (s69 : List Str)), .junk, .d (enc (((1 : Int) + s95.1.1) : Int)), .d (enc (s95.2.1.1 : List Int)), .d (enc (s95.2.2.1.1 : Int)), .d (enc (s136.1 : Int)), .d (enc (s136.2 : PyData)), .d (enc (((1 : Int) + s47.2.2.1.1) : Int)), .d (enc (((1 : Int) + s122.2.2.1.1) : Int)), .d (enc ((cutL ([("bo" : Str), ("ann" : Str), ("cy" : Str)] : List Str) none (some s47.1.1)) : List Str)), .d (enc (s47.2.1.1 : Int)), .d (enc (s122.2.1.1 : Int)), .d (enc (s122.1.1 : List Int)), .d (enc (s1.1 : Int)), .junk, .junk, .junk, .junk, .junk]) (envd := fun (d145 : Unit) => [.p (A 0) (dv (s122.2.2.1.2)), .p (A 1) (vc_Pump (a1)), .d (enc (a2 : List Int)), .junk, .d (enc (v14 : List Int)), .d (enc (v27 : List Int)), .d (enc (s69 : List Str)), .junk, .d (enc (((1 : Int) + s95.1.1) : Int)), .d (enc (s95.2.1.1 : List Int)), .d (enc (s95.2.2.1.1 : Int)), .d (enc (s136.1 : Int)), .d (enc (s136.2 : PyData)), .d (enc (((1 : Int) + s47.2.2.1.1) : Int)), .d (enc (((1 : Int) + s122.2.2.1.1) : Int)), .d (enc ((cutL ([("bo" : Str), ("ann" : Str), ("cy" : Str)] : List Str) none (some s47.1.1)) : List Str)), .d (enc (s47.2.1.1 : Int)), .d (enc (s122.2.1.1 : Int)), .d (enc (s122.1.1 : List Int)), .d (enc (s1.1 : Int)), .junk, .junk, .junk, .junk, .junk]) (fun (s144 : Unit) => (PyData.none, ())) (fun x => x) (XE_ofO (make' (ds := [.inl (enc ((0 : Int) : Int)), .inl (enc ((1 : Int) : Int)), .inl (enc ((1 : Int) : Int))]) (psk' := fun _ => [.j, .j, .j]) (psx' := fun _ => [.j, .j, .j]) (obj := fun q => vc_Pump q) (fun _ => ()) hw (C_pump_init (0 : Int) (1 : Int) (1 : Int)) (AC_d (EJ_C) (AC_d (EJ_C) (AC_d (EJ_C) (AC_nil)))) List.nodup_nil rfl (fun _ => ⟨_, rfl, True.intro⟩) (fun _ => ⟨rfl, True.intro⟩) (fun _ => rfl) (fun _ => wk.refl _))) (fun _ => wk.refl _) (fun _ => rfl) (fun _ => wk.refl _) (fun _ => rfl)) (fun s143 H => (let h146 := H; EJ.v (EJ_C))) (fun s143 H => (let h146 := H; (o_neD h146))))); (case ha_164 => (intro s147 c148; refine Y_at [.p (A 0) (dv (s122.2.2.1.2)), .p (A 1) (vc_Pump (a1)), .d (enc (a2 : List Int)), .junk, .d (enc (v14 : List Int)), .d (enc (v27 : List Int)), .d (enc (s69 : List Str)), .junk, .d (enc (((1 : Int) + s95.1.1) : Int)), .d (enc (s95.2.1.1 : List Int)), .d (enc (s95.2.2.1.1 : Int)), .d (enc (s136.1 : Int)), .d (enc (s136.2 : PyData)), .d (enc (((1 : Int) + s47.2.2.1.1) : Int)), .d (enc (((1 : Int) + s122.2.2.1.1) : Int)), .d (enc ((cutL ([("bo" : Str), ("ann" : Str), ("cy" : Str)] : List Str) none (some s47.1.1)) : List Str)), .d (enc (s47.2.1.1 : Int)), .d (enc (s122.2.1.1 : Int)), .d (enc (s122.1.1 : List Int)), .d (enc (s1.1 : Int)), .junk, .junk, .junk, .junk, .junk] ?_; exact Y_ret (q := (false, s122.2.2.1.2)) (EJ_C) (wk_k <| wk_k <| wk_o <| wk_o <| wk_o <| wk_o <| wk_o <| wk_o <| wk_o <| wk_o <| wk_o <| wk_o <| wk_o <| wk_o <| wk_o <| wk_o <| wk_o <| wk_o <| wk_o <| wk_o <| wk_o <| wk_o <| wk_o <| wk_o <| wk_o <| wk_n))); intro s147 c148; refine Y_at [.p (A 0) (dv (s122.2.2.1.2)), .p (A 1) (vc_Pump (a1)), .d (enc (a2 : List Int)), .junk, .d (enc (v14 : List Int)), .d (enc (v27 : List Int)), .d (enc (s69 : List Str)), .junk, .d (enc (((1 : Int) + s95.1.1) : Int)), .d (enc (s95.2.1.1 : List Int)), .d (enc (s95.2.2.1.1 : Int)), .d (enc (s136.1 : Int)), .d (enc (s136.2 : PyData)), .d (enc (((1 : Int) + s47.2.2.1.1) : Int)), .d (enc (((1 : Int) + s122.2.2.1.1) : Int)), .d (enc ((cutL ([("bo" : Str), ("ann" : Str), ("cy" : Str)] : List Str) none (some s47.1.1)) : List Str)), .d (enc (s47.2.1.1 : Int)), .d (enc (s122.2.1.1 : Int)), .d (enc (s122.1.1 : List Int)), .d (enc (s1.1 : Int)), .junk, .junk, .junk, .junk, .junk] ?_; refine' Y_ifXE ?hc_163 ?ha_163 ?hd_163; (case hc_163 => exact XT_e (XE_p2_epG (fun (s149 : (PyData × (Unit))) => (shpD (s149.1) ((enc (("size" : Str) : Str) : PyData)))) (XE_told (envx := fun (d151 : Unit) => [.p (A 0) (dv (s122.2.2.1.2)), .p (A 1) (vc_Pump (a1)), .d (enc (a2 : List Int)), .junk, .d (enc (v14 : List Int)), .d (enc (v27 : List Int)), .d (enc (s69 : List Str)), .junk, .d (enc (((1 : Int) + s95.1.1) : Int)), .d (enc (s95.2.1.1 : List Int)), .d (enc (s95.2.2.1.1 : Int)), .d (enc (s136.1 : Int)), .d (enc (s136.2 : PyData)), .d (enc (((1 : Int) + s47.2.2.1.1) : Int)), .d (enc (((1 : Int) + s122.2.2.1.1) : Int)), .d (enc ((cutL ([("bo" : Str), ("ann" : Str), ("cy" : Str)] : List Str) none (some s47.1.1)) : List Str)), .d (enc (s47.2.1.1 : Int)), .d (enc (s122.2.1.1 : Int)), .d (enc (s122.1.1 : List Int)), .d (enc (s1.1 : Int)), .junk, .junk, .junk, .junk, .junk]) (envd := fun (d151 : Unit) => [.p (A 0) (dv (s122.2.2.1.2)), .p (A 1) (vc_Pump (a1)), .d (enc (a2 : List Int)), .junk, .d (enc (v14 : List Int)), .d (enc (v27 : List Int)), .d (enc (s69 : List Str)), .junk, .d (enc (((1 : Int) + s95.1.1) : Int)), .d (enc (s95.2.1.1 : List Int)), .d (enc (s95.2.2.1.1 : Int)), .d (enc (s136.1 : Int)), .d (enc (s136.2 : PyData)), .d (enc (((1 : Int) + s47.2.2.1.1) : Int)), .d (enc (((1 : Int) + s122.2.2.1.1) : Int)), .d (enc ((cutL ([("bo" : Str), ("ann" : Str), ("cy" : Str)] : List Str) none (some s47.1.1)) : List Str)), .d (enc (s47.2.1.1 : Int)), .d (enc (s122.2.1.1 : Int)), .d (enc (s122.1.1 : List Int)), .d (enc (s1.1 : Int)), .junk, .junk, .junk, .junk, .junk]) (fun (s150 : Int) => ((enc (s150 : Int)), ())) (fun x => x) (methP' (ds := [.inl (enc (((0 : Int) - (1 : Int)) : Int))]) (fun _ => ()) rfl rfl (P_pump_strokes_for a1 ((0 : Int) - (1 : Int))) (AC_d (EJ_p2 (EJ.v (EJ_C)) (EJ.v (EJ_C)) rfl) (AC_nil)) rfl (fun _ => wk.refl _)) (fun _ => wk.refl _) (fun _ => rfl) (fun _ => wk.refl _) (fun _ => rfl)) (fun s149 H => (let h152 := H; EJ.v (EJ_C))) (fun s149 H => (let h152 := H; (o_neD h152))))); (case ha_163 => (intro s153 c154; refine Y_at [.p (A 0) (dv (s122.2.2.1.2)), .p (A 1) (vc_Pump (a1)), .d (enc (a2 : List Int)), .junk, .d (enc (v14 : List Int)), .d (enc (v27 : List Int)), .d (enc (s69 : List Str)), .junk, .d (enc (((1 : Int) + s95.1.1) : Int)), .d (enc (s95.2.1.1 : List Int)), .d (enc (s95.2.2.1.1 : Int)), .d (enc (s136.1 : Int)), .d (enc (s136.2 : PyData)), .d (enc (((1 : Int) + s47.2.2.1.1) : Int)), .d (enc (((1 : Int) + s122.2.2.1.1) : Int)), .d (enc ((cutL ([("bo" : Str), ("ann" : Str), ("cy" : Str)] : List Str) none (some s47.1.1)) : List Str)), .d (enc (s47.2.1.1 : Int)), .d (enc (s122.2.1.1 : Int)), .d (enc (s122.1.1 : List Int)), .d (enc (s1.1 : Int)), .junk, .junk, .junk, .junk, .junk] ?_; exact Y_ret (q := (false, s122.2.2.1.2)) (EJ_C) (wk_k <| wk_k <| wk_o <| wk_o <| wk_o <| wk_o <| wk_o <| wk_o <| wk_o <| wk_o <| wk_o <| wk_o <| wk_o <| wk_o <| wk_o <| wk_o <| wk_o <| wk_o <| wk_o <| wk_o <| wk_o <| wk_o <| wk_o <| wk_o <| wk_o <| wk_n))); intro s153 c154; refine Y_at [.p (A 0) (dv (s122.2.2.1.2)), .p (A 1) (vc_Pump (a1)), .d (enc (a2 : List Int)), .junk, .d (enc (v14 : List Int)), .d (enc (v27 : List Int)), .d (enc (s69 : List Str)), .junk, .d (enc (((1 : Int) + s95.1.1) : Int)), .d (enc (s95.2.1.1 : List Int)), .d (enc (s95.2.2.1.1 : Int)), .d (enc (s136.1 : Int)), .d (enc (s136.2 : PyData)), .d (enc (((1 : Int) + s47.2.2.1.1) : Int)), .d (enc (((1 : Int) + s122.2.2.1.1) : Int)), .d (enc ((cutL ([("bo" : Str), ("ann" : Str), ("cy" : Str)] : List Str) none (some s47.1.1)) : List Str)), .d (enc (s47.2.1.1 : Int)), .d (enc (s122.2.1.1 : Int)), .d (enc (s122.1.1 : List Int)), .d (enc (s1.1 : Int)), .junk, .junk, .junk, .junk, .junk] ?_; refine' Y_ifXE ?hc_162 ?ha_162 ?hd_162; (case hc_162 => exact XT_e (XE_p2_epG (fun (s155 : (PyData × (Unit))) => (shpD (s155.1) ((enc (("size" : Str) : Str) : PyData)))) (XE_told (envx := fun (d157 : Unit) => [.p (A 0) (dv (s122.2.2.1.2)), .p (A 1) (vc_Pump (a1)), .d (enc (a2 : List Int)), .junk, .d (enc (v14 : List Int)), .d (enc (v27 : List Int)), .d (enc (s69 : List Str)), .junk, .d (enc (((1 : Int) + s95.1.1) : Int)), .d (enc (s95.2.1.1 : List Int)), .d (enc (s95.2.2.1.1 : Int)), .d (enc (s136.1 : Int)), .d (enc (s136.2 : PyData)), .d (enc (((1 : Int) + s47.2.2.1.1) : Int)), .d (enc (((1 : Int) + s122.2.2.1.1) : Int)), .d (enc ((cutL ([("bo" : Str), ("ann" : Str), ("cy" : Str)] : List Str) none (some s47.1.1)) : List Str)), .d (enc (s47.2.1.1 : Int)), .d (enc (s122.2.1.1 : Int)), .d (enc (s122.1.1 : List Int)), .d (enc (s1.1 : Int)), .junk, .junk, .junk, .junk, .junk]) (envd := fun (d157 : Unit) => [.p (A 0) (dv (s122.2.2.1.2)), .p (A 1) (vc_Pump (a1)), .d (enc (a2 : List Int)), .junk, .d (enc (v14 : List Int)), .d (enc (v27 : List Int)), .d (enc (s69 : List Str)), .junk, .d (enc (((1 : Int) + s95.1.1) : Int)), .d (enc (s95.2.1.1 : List Int)), .d (enc (s95.2.2.1.1 : Int)), .d (enc (s136.1 : Int)), .d (enc (s136.2 : PyData)), .d (enc (((1 : Int) + s47.2.2.1.1) : Int)), .d (enc (((1 : Int) + s122.2.2.1.1) : Int)), .d (enc ((cutL ([("bo" : Str), ("ann" : Str), ("cy" : Str)] : List Str) none (some s47.1.1)) : List Str)), .d (enc (s47.2.1.1 : Int)), .d (enc (s122.2.1.1 : Int)), .d (enc (s122.1.1 : List Int)), .d (enc (s1.1 : Int)), .junk, .junk, .junk, .junk, .junk]) (fun (s156 : Tup Int) => ((enc (s156 : Tup Int)), ())) (fun x => x) (callP' (ds := [.inl (enc ((1 : Int) : Int)), .inl (enc ((0 : Int) : Int))]) (fun _ => ()) (P_stages (1 : Int) (0 : Int)) (AC_d (EJ_C) (AC_d (EJ_C) (AC_nil))) rfl (fun _ => wk.refl _)) (fun _ => wk.refl _) (fun _ => rfl) (fun _ => wk.refl _) (fun _ => rfl)) (fun s155 H => (let h158 := H; EJ.v (EJ_C))) (fun s155 H => (let h158 := H; (o_neD h158))))); (case ha_162 => (intro s159 c160; refine Y_at [.p (A 0) (dv (s122.2.2.1.2)), .p (A 1) (vc_Pump (a1)), .d (enc (a2 : List Int)), .junk, .d (enc (v14 : List Int)), .d (enc (v27 : List Int)), .d (enc (s69 : List Str)), .junk, .d (enc (((1 : Int) + s95.1.1) : Int)), .d (enc (s95.2.1.1 : List Int)), .d (enc (s95.2.2.1.1 : Int)), .d (enc (s136.1 : Int)), .d (enc (s136.2 : PyData)), .d (enc (((1 : Int) + s47.2.2.1.1) : Int)), .d (enc (((1 : Int) + s122.2.2.1.1) : Int)), .d (enc ((cutL ([("bo" : Str), ("ann" : Str), ("cy" : Str)] : List Str) none (some s47.1.1)) : List Str)), .d (enc (s47.2.1.1 : Int)), .d (enc (s122.2.1.1 : Int)), .d (enc (s122.1.1 : List Int)), .d (enc (s1.1 : Int)), .junk, .junk, .junk, .junk, .junk] ?_; exact Y_ret (q := (false, s122.2.2.1.2)) (EJ_C) (wk_k <| wk_k <| wk_o <| wk_o <| wk_o <| wk_o <| wk_o <| wk_o <| wk_o <| wk_o <| wk_o <| wk_o <| wk_o <| wk_o <| wk_o <| wk_o <| wk_o <| wk_o <| wk_o <| wk_o <| wk_o <| wk_o <| wk_o <| wk_o <| wk_o <| wk_n))); intro s159 c160; refine Y_at [.p (A 0) (dv (s122.2.2.1.2)), .p (A 1) (vc_Pump (a1)), .d (enc (a2 : List Int)), .junk, .d (enc (v14 : List Int)), .d (enc (v27 : List Int)), .d (enc (s69 : List Str)), .junk, .d (enc (((1 : Int) + s95.1.1) : Int)), .d (enc (s95.2.1.1 : List Int)), .d (enc (s95.2.2.1.1 : Int)), .d (enc (s136.1 : Int)), .d (enc (s136.2 : PyData)), .d (enc (((1 : Int) + s47.2.2.1.1) : Int)), .d (enc (((1 : Int) + s122.2.2.1.1) : Int)), .d (enc ((cutL ([("bo" : Str), ("ann" : Str), ("cy" : Str)] : List Str) none (some s47.1.1)) : List Str)), .d (enc (s47.2.1.1 : Int)), .d (enc (s122.2.1.1 : Int)), .d (enc (s122.1.1 : List Int)), .d (enc (s1.1 : Int)), .junk, .junk, .junk, .junk, .junk] ?_; exact Y_retX (f := fun (s161 : Bool) => (s161, s122.2.2.1.2)) (callP' (ds := []) (fun _ => s122.2.2.1.2) (P_law_cases1 ) (AC_nil) rfl (fun _ => (wk_k <| wk_k <| wk_o <| wk_o <| wk_o <| wk_o <| wk_o <| wk_o <| wk_o <| wk_o <| wk_o <| wk_o <| wk_o <| wk_o <| wk_o <| wk_o <| wk_o <| wk_o <| wk_o <| wk_o <| wk_o <| wk_o <| wk_o <| wk_o <| wk_o <| wk_n))) (fun _ => rfl) (fun _ => (wk_k <| wk_k <| wk_o <| wk_o <| wk_o <| wk_o <| wk_o <| wk_o <| wk_o <| wk_o <| wk_o <| wk_o <| wk_o <| wk_o <| wk_o <| wk_o <| wk_o <| wk_o <| wk_o <| wk_o <| wk_o <| wk_o <| wk_o <| wk_o <| wk_o <| wk_n)))) (by intro s; exact s.elim) (fun A s => s.elim) (fun _ => rfl) (fun _ => rfl)
def T_law (a b c : Int) : Stp Unit Bool Empty Unit :=
  (Out.stp ((rollO (a, b, c) (9 : Int)).bind fun s2 => ((rollO s2.2 (4 : Int)).bind fun s4 => ((rollO s4.2 (9 : Int)).bind fun s6 => (Out.ok true).bind fun s7 => .ok (s6, s7)).bind fun s8 => .ok (s4, s8)).bind fun s9 => .ok (s2, s9))).seq fun s10 => (Out.stp (((T_pump_init ((1 : Int) + s10.1.1) ((1 : Int) + s10.2.1.1) ((1 : Int) + s10.2.2.1.1)).mapx (fun _ => ())).bind fun s11 => (Out.ok true).bind fun s12 => .ok (s11, s12))).seq fun s13 => (((rollO s10.2.2.1.2 (11 : Int)).bind fun s15 => grd ((small s15.1)) (.ok s15)).stp.seq fun s15 => forT (fun (y18 : Int) (s17 : Dice × Int × Int × Int × Int × R_Pump) => (Out.stp ((rollO s17.1 (6 : Int)).bind fun s20 => ((rollO s20.2 (12 : Int)).bind fun s21 => ((rollO s21.2 (12 : Int)).bind fun s22 => (Out.ok true).bind fun s23 => .ok (s22, s23)).bind fun s24 => .ok (s21, s24)).bind fun s25 => .ok (s20, s25))).seq fun s26 => (if (decide (s26.1.1 < (2 : Int))) = true then (Out.stp ((toldX toldT ((T_pump_rain s17.2.2.2.2.2 s26.2.1.1).mapx (fun x29 => x29)) (fun (s30 : (Int × (R_Pump))) => ((enc (s30.1 : Int)), s30.2)) (fun x => x)).bind fun s32 => (Out.ok true).bind fun s33 => .ok (s32, s33))).seq fun s34 => .nx ((s17.2.1 + s26.2.1.1), (s17.2.2.1, (s17.2.2.2.1, (s17.2.2.2.2.1, ((if (decide (s26.2.1.1 > (0 : Int))) = true then ((enc ((s17.2.1 + s26.2.1.1) : Int) : PyData) : PyData) else (enc (("size" : Str) : Str) : PyData)), (s34.1.1, s34.1.2)))))) else (if (decide (s26.1.1 < (5 : Int))) = true then (Out.stp ((toldX toldT ((T_pump_work s17.2.2.2.2.2 s26.2.1.1 s26.2.2.1.1).mapx (fun x38 => x38)) (fun (s39 : (Int × (R_Pump))) => ((enc (s39.1 : Int)), s39.2)) (fun x => x)).bind fun s41 => (Out.ok true).bind fun s42 => .ok (s41, s42))).seq fun s43 => (if ((decide (s26.2.1.1 > (0 : Int))) && (decide (s26.2.2.1.1 ≤ ((1 : Int) + s10.1.1)))) = true then grdS (((wideI ((1 : Int) + s10.2.1.1) || wideI (min s26.2.1.1 s17.2.2.2.2.1)) = true)) ((Stp.nx ((enc ((min s17.2.1 (((1 : Int) + s10.2.1.1) * (min s26.2.1.1 s17.2.2.2.2.1))) : Int) : PyData) : PyData)).seq fun v47 => grdS ((isI (v47) = true) ∧ (isI (v47) = true)) ((Out.stp (Out.ok true)).seq fun s50 => .nx ((s17.2.1 - (asI (v47))), ((s17.2.2.1 + (asI (v47))), ((s17.2.2.2.1 + s26.2.1.1), ((s17.2.2.2.2.1 - (min s26.2.1.1 s17.2.2.2.2.1)), v47)))))) else .nx (s17.2.1, (s17.2.2.1, (s17.2.2.2.1, (s17.2.2.2.2.1, (enc ((if (decide (s26.2.1.1 < (1 : Int))) = true then (("size" : Str) : Str) else ("no way" : Str)) : Str) : PyData)))))).seq fun s55 => .nx (s55.1, (s55.2.1, (s55.2.2.1, (s55.2.2.2.1, (s55.2.2.2.2, (s43.1.1, s43.1.2)))))) else (Out.stp ((toldX toldT ((T_pump_new_washer s17.2.2.2.2.2).mapx (fun x59 => x59)) (fun (s60 : (Int × (R_Pump))) => ((enc (s60.1 : Int)), s60.2)) (fun x => x)).bind fun s62 => (Out.ok true).bind fun s63 => .ok (s62, s63))).seq fun s64 => .nx (s17.2.1, (s17.2.2.1, (s17.2.2.2.1, (((1 : Int) + s10.2.2.1.1), ((if (decide (s17.2.2.2.2.1 < ((1 : Int) + s10.2.2.1.1))) = true then ((enc (s17.2.2.2.2.1 : Int) : PyData) : PyData) else (enc (("deed" : Str) : Str) : PyData)), (s64.1.1, s64.1.2))))))).seq fun s68 => .nx (s68.1, (s68.2.1, (s68.2.2.1, (s68.2.2.2.1, (s68.2.2.2.2.1, (s68.2.2.2.2.2.1, s68.2.2.2.2.2.2))))))).seq fun s72 => grdS ((shpD (s72.2.2.2.2.2.1) (s72.2.2.2.2.1)) ∧ ((!PyData.eqv (s72.2.2.2.2.2.1) (s72.2.2.2.2.1)) = false → ((T_pump_shown s72.2.2.2.2.2.2).isOk = true))) (if ((!PyData.eqv (s72.2.2.2.2.2.1) (s72.2.2.2.2.1)) || (!decide (((T_pump_shown s72.2.2.2.2.2.2).get : T4 Int Int Int Int) = (T4.mk (s72.1) (s72.2.1) (s72.2.2.1) (s72.2.2.2.1) : T4 Int Int Int Int)))) = true then .rt false else .nx (s26.2.2.1.2, (s72.1, (s72.2.1, (s72.2.2.1, (s72.2.2.2.1, s72.2.2.2.2.2.2))))))) (rng s15.1) (s15.2, ((0 : Int), ((0 : Int), ((0 : Int), (((1 : Int) + s10.2.2.1.1), s13.1)))))).seq fun s82 => (Out.stp (rollO s82.1 (60 : Int))).seq fun s83 => (((T_pump_strokes_for s82.2.2.2.2.2 s83.1).mapx (fun _ => ())).bind fun s84 => grd ((ok3 (0 : Int) s83.1 ((1 : Int) + s10.2.1.1) ∧ (Builtin.Range.rangeSize (0 : Int) s83.1 ((1 : Int) + s10.2.1.1)).toNat ≤ lineN)) (.ok s84)).stp.seq fun s86 => if (!decide (s86 = (((rng3 (0 : Int) s83.1 ((1 : Int) + s10.2.1.1))).length : Int))) = true then Stp.lift (.rt false) else (Out.stp (rollO s83.2 (40 : Int))).seq fun s88 => (((T_stages s88.1 ((1 : Int) + s10.1.1)).mapx (fun _ => ())).bind fun s89 => grd ((small s88.1) ∧ (∀ y93 ∈ (rng s88.1), (0 < ((1 : Int) + s10.1.1))) ∧ (((rng s88.1)).length ≤ lineN)) (.ok s89)).stp.seq fun s99 => if (!decide (((s99).l : List Int) = (List.map (fun (y93 : Int) => (y93 : Int)) (List.filter (fun (y93 : Int) => (decide ((y93 % ((1 : Int) + s10.1.1)) = (0 : Int)))) (rng s88.1))))) = true then Stp.lift (.rt false) else (Out.stp (((rollO s88.2 (5 : Int)).bind fun s102 => grd ((small s102.1)) (.ok s102)).bind fun s102 => grd (((rng s102.1)).length ≤ lineN) (noXO (compT (fun (y105 : Int) (d104 : Dice) => ((rollO d104 (9 : Int)).bind fun s106 => Out.ok ((s106.1 : Int), s106.2) : Out Unit _)) (rng s102.1) s102.2)))).seq fun s108 => grdS (((T_row_gives s108.1).isOk = true) ∧ ((!decide ((s108.1 : List Int) = ([] : List Int))) = true → (sortOk ((s108.1 : List Int).map enc) = true) ∧ (inIx ((srt s108.1)).length (0 : Int)))) (if (!decide ((T_row_gives s108.1).get = (if (!decide ((s108.1 : List Int) = ([] : List Int))) = true then ((pyIx (srt s108.1) (0 : Int)) : Int) else (0 : Int)))) = true then Stp.lift (.rt false) else (Out.stp ((rollO s108.2 (40 : Int)).bind fun s115 => ((rollO s115.2 (6 : Int)).bind fun s116 => ((rollO s116.2 (15 : Int)).bind fun s117 => (Out.ok true).bind fun s118 => .ok (s117, s118)).bind fun s119 => .ok (s116, s119)).bind fun s120 => .ok (s115, s120))).seq fun s121 => (Stp.nx (s121.1.1 : Int)).seq fun v122 => (whileT (fun (s123 : Int × Int) => some ((decide (s123.2 > (0 : Int))) && (decide (s123.1 < s121.2.2.1.1)))) (fun (s123 : Int × Int) => (Out.stp (Out.ok true)).seq fun s125 => .nx ((s123.1 + (1 : Int)), (max (0 : Int) ((s123.2 + s121.2.1.1) - ((s108.1 : List Int)).sum)))) 1000000 ((0 : Int), v122)).seq fun s130 => ((toldX toldT ((T_shaft_dry s121.1.1 s121.2.1.1 s108.1 s121.2.2.1.1).mapx (fun _ => ())) (fun (s132 : Int) => ((enc (s132 : Int)), ())) (fun x => x)).bind fun s131 => grd ((shpD (s131.1) ((if (decide (s130.2 = (0 : Int))) = true then ((enc (s130.1 : Int) : PyData) : PyData) else (enc (("no way" : Str) : Str) : PyData))))) (.ok s131)).stp.seq fun s136 => if (!PyData.eqv (s136.1) ((if (decide (s130.2 = (0 : Int))) = true then ((enc (s130.1 : Int) : PyData) : PyData) else (enc (("no way" : Str) : Str) : PyData)))) = true then Stp.lift (.rt false) else ((T_law_rest1 s121.2.2.1.2 s82.2.2.2.2.2 s108.1).mapx (fun x138 => ())).stp.seq fun s139 => if (!s139.1) = true then .rt false else .nx ())
theorem P_law (a b c : Int) (h : good (T_law a b c)) : TL.lawGood (m_law (none :: some (.box 0) :: List.replicate 23 none) [.lst [.int a, .int b, .int c]]) :=
  law_plain (n := 23) (t := T_law a b c) (fun B hw => (show SJ _ _ [.junk, .c (dv ((a, b, c))), .junk, .junk, .junk, .junk, .junk, .junk, .junk, .junk, .junk, .junk, .junk, .junk, .junk, .junk, .junk, .junk, .junk, .junk, .junk, .junk, .junk, .junk, .junk] m_law (T_law a b c) (fun _ => junks 25) from by
    unfold m_law T_law
    refine' Y_seq ?h1_154 ?h2_154; (case h1_154 => (exact Y_par (is := [2, 3, 4]) 25 (XL_o (XO_d (XE_p2_pe (EJ_C) (XE_roll (i := 1) (d := (a, b, c)) (many := (9 : Int)) rfl (EJ_C) (by decide)) (fun s1 => rfl))) (fun s2 => XL_o (XO_d (XE_p2_pe (EJ_C) (XE_roll (i := 1) (d := s2.2) (many := (4 : Int)) rfl (EJ_C) (by decide)) (fun s3 => rfl))) (fun s4 => XL_o (XO_d (XE_p2_pe (EJ_C) (XE_roll (i := 1) (d := s4.2) (many := (9 : Int)) rfl (EJ_C) (by decide)) (fun s5 => rfl))) (fun s6 => XL_nil)))) (by decide) (fun _ => rfl) rfl (fun _ => rfl))); intro s10; refine Y_at [.junk, .c (dv (s10.2.2.1.2)), .d (enc (((1 : Int) + s10.1.1) : Int)), .d (enc (((1 : Int) + s10.2.1.1) : Int)), .d (enc (((1 : Int) + s10.2.2.1.1) : Int)), .junk, .junk, .junk, .junk, .junk, .junk, .junk, .junk, .junk, .junk, .junk, .junk, .junk, .junk, .junk, .junk, .junk, .junk, .junk, .junk] ?_; refine' Y_seq ?h1_153 ?h2_153; (case h1_153 => (exact Y_par (is := [21, 5, 6, 7, 8]) 25 (XL_o (make' (ds := [.inl (enc (((1 : Int) + s10.1.1) : Int)), .inl (enc (((1 : Int) + s10.2.1.1) : Int)), .inl (enc (((1 : Int) + s10.2.2.1.1) : Int))]) (psk' := fun _ => [.j, .j, .j]) (psx' := fun _ => [.j, .j, .j]) (obj := fun q => vc_Pump q) (fun _ => ()) hw (C_pump_init ((1 : Int) + s10.1.1) ((1 : Int) + s10.2.1.1) ((1 : Int) + s10.2.2.1.1)) (AC_d (EJ_var (i := 2) rfl) (AC_d (EJ_var (i := 3) rfl) (AC_d (EJ_var (i := 4) rfl) (AC_nil)))) List.nodup_nil rfl (fun _ => ⟨_, rfl, True.intro⟩) (fun _ => ⟨rfl, True.intro⟩) (fun _ => rfl) (fun _ => (wk_o <| wk_o <| wk_o <| wk_o <| wk_o <| wk_o <| wk_o <| wk_o <| wk_o <| wk_o <| wk_o <| wk_o <| wk_o <| wk_o <| wk_o <| wk_o <| wk_o <| wk_o <| wk_o <| wk_o <| wk_o <| wk_o <| wk_o <| wk_o <| wk_o <| wk_n))) (fun s11 => XL_d (EJ_C) (XL_d (EJ_C) (XL_d (EJ_C) (XL_d (EJ_var (i := 4) rfl) (XL_nil)))))) (by decide) (fun _ => rfl) rfl (fun _ => rfl))); intro s13; refine Y_at [.junk, .c (dv (s10.2.2.1.2)), .d (enc (((1 : Int) + s10.1.1) : Int)), .d (enc (((1 : Int) + s10.2.1.1) : Int)), .d (enc (((1 : Int) + s10.2.2.1.1) : Int)), .d (enc ((0 : Int) : Int)), .d (enc ((0 : Int) : Int)), .d (enc ((0 : Int) : Int)), .d (enc (((1 : Int) + s10.2.2.1.1) : Int)), .junk, .junk, .junk, .junk, .junk, .junk, .junk, .junk, .junk, .junk, .junk, .junk, .c (vc_Pump (s13.1)), .junk, .junk, .junk] ?_; refine' Y_seq ?h1_152 ?h2_152; (case h1_152 => (refine' Y_forX (ys := fun (s15 : (Int × Dice)) => (rng s15.1)) (s0 := fun (s15 : (Int × Dice)) => (s15.2, ((0 : Int), ((0 : Int), ((0 : Int), (((1 : Int) + s10.2.2.1.1), s13.1)))))) (fun (s17 : Dice × Int × Int × Int × Int × R_Pump) => [.junk, .c (dv (s17.1)), .d (enc (((1 : Int) + s10.1.1) : Int)), .d (enc (((1 : Int) + s10.2.1.1) : Int)), .d (enc (((1 : Int) + s10.2.2.1.1) : Int)), .d (enc (s17.2.1 : Int)), .d (enc (s17.2.2.1 : Int)), .d (enc (s17.2.2.2.1 : Int)), .d (enc (s17.2.2.2.2.1 : Int)), .junk, .junk, .junk, .junk, .junk, .junk, .junk, .junk, .junk, .junk, .junk, .junk, .c (vc_Pump (s17.2.2.2.2.2)), .junk, .junk, .junk]) (fun (s17 : Dice × Int × Int × Int × Int × R_Pump) (y18 : Int) => [.junk, .c (dv (s17.1)), .d (enc (((1 : Int) + s10.1.1) : Int)), .d (enc (((1 : Int) + s10.2.1.1) : Int)), .d (enc (((1 : Int) + s10.2.2.1.1) : Int)), .d (enc (s17.2.1 : Int)), .d (enc (s17.2.2.1 : Int)), .d (enc (s17.2.2.2.1 : Int)), .d (enc (s17.2.2.2.2.1 : Int)), .d (enc (y18 : Int)), .junk, .junk, .junk, .junk, .junk, .junk, .junk, .junk, .junk, .junk, .junk, .c (vc_Pump (s17.2.2.2.2.2)), .junk, .junk, .junk]) ?hi_81 ?h0_81 ?hp_81 ?hb_81; (case hi_81 => exact XI_pn (fun (s15 : (Int × Dice)) => (small s15.1)) (XA_ep (XE_roll (i := 1) (d := s10.2.2.1.2) (many := (11 : Int)) rfl (EJ_C) (by decide)) (fun s14 => AJ_nil)) (fun s15 H => (let h16 := H; p_range1 h16))); (case h0_81 => exact fun s15 => (wk_o <| wk_k <| wk_k <| wk_k <| wk_k <| wk_k <| wk_k <| wk_k <| wk_k <| wk_o <| wk_o <| wk_o <| wk_o <| wk_o <| wk_o <| wk_o <| wk_o <| wk_o <| wk_o <| wk_o <| wk_o <| wk_k <| wk_o <| wk_o <| wk_o <| wk_n)); (case hp_81 => exact fun _ _ => rfl); intro s15 s17 y18 m19; refine' Y_seq ?h1_80 ?h2_80; (case h1_80 => (exact Y_par (is := [10, 20, 17]) 25 (XL_o (XO_d (XE_roll (i := 1) (d := s17.1) (many := (6 : Int)) rfl (EJ_C) (by decide))) (fun s20 => XL_o (XO_d (XE_roll (i := 1) (d := s20.2) (many := (12 : Int)) rfl (EJ_C) (by decide))) (fun s21 => XL_o (XO_d (XE_roll (i := 1) (d := s21.2) (many := (12 : Int)) rfl (EJ_C) (by decide))) (fun s22 => XL_nil)))) (by decide) (fun _ => rfl) rfl (fun _ => rfl))); intro s26; refine Y_at [.junk, .c (dv (s26.2.2.1.2)), .d (enc (((1 : Int) + s10.1.1) : Int)), .d (enc (((1 : Int) + s10.2.1.1) : Int)), .d (enc (((1 : Int) + s10.2.2.1.1) : Int)), .d (enc (s17.2.1 : Int)), .d (enc (s17.2.2.1 : Int)), .d (enc (s17.2.2.2.1 : Int)), .d (enc (s17.2.2.2.2.1 : Int)), .d (enc (y18 : Int)), .d (enc (s26.1.1 : Int)), .junk, .junk, .junk, .junk, .junk, .junk, .d (enc (s26.2.2.1.1 : Int)), .junk, .junk, .d (enc (s26.2.1.1 : Int)), .c (vc_Pump (s17.2.2.2.2.2)), .junk, .junk, .junk] ?_; refine' Y_seq ?h1_79 ?h2_79; (case h1_79 => (refine Y_if (envk := fun (s70 : Int × Int × Int × Int × PyData × PyData × R_Pump) => [.junk, .c (dv (s26.2.2.1.2)), .d (enc (((1 : Int) + s10.1.1) : Int)), .d (enc (((1 : Int) + s10.2.1.1) : Int)), .d (enc (((1 : Int) + s10.2.2.1.1) : Int)), .d (enc (s70.1 : Int)), .d (enc (s70.2.1 : Int)), .d (enc (s70.2.2.1 : Int)), .d (enc (s70.2.2.2.1 : Int)), .d (enc (y18 : Int)), .d (enc (s26.1.1 : Int)), .d (enc (s70.2.2.2.2.1 : PyData)), .d (enc (s70.2.2.2.2.2.1 : PyData)), .junk, .junk, .junk, .junk, .d (enc (s26.2.2.1.1 : Int)), .junk, .junk, .d (enc (s26.2.1.1 : Int)), .c (vc_Pump (s70.2.2.2.2.2.2)), .junk, .junk, .junk]) ?hc_71 ?ha_71 ?hd_71; (case hc_71 => exact TJ_e (EJ_p2 (EJ.v (EJ_var (i := 10) rfl)) (EJ.v (EJ_C)) rfl)); (case ha_71 => (intro c27; refine' Y_last ?h1_35 ?h2_35; (case h1_35 => (exact Y_par (is := [11, 12, 5]) 25 (XL_d (EJ_if (TJ_e (EJ_p2 (EJ.v (EJ_var (i := 20) rfl)) (EJ.v (EJ_C)) rfl)) (fun y28 => EJ_p2 (EJ.v (EJ_var (i := 5) rfl)) (EJ.v (EJ_var (i := 20) rfl)) rfl) (fun y28 => EJ_C) (ite_enc (α := PyData))) (XL_o (XO_d (XE_told (envx := fun (d31 : R_Pump) => [.junk, .c (dv (s26.2.2.1.2)), .d (enc (((1 : Int) + s10.1.1) : Int)), .d (enc (((1 : Int) + s10.2.1.1) : Int)), .d (enc (((1 : Int) + s10.2.2.1.1) : Int)), .d (enc (s17.2.1 : Int)), .d (enc (s17.2.2.1 : Int)), .d (enc (s17.2.2.2.1 : Int)), .d (enc (s17.2.2.2.2.1 : Int)), .d (enc (y18 : Int)), .d (enc (s26.1.1 : Int)), .junk, .junk, .junk, .junk, .junk, .junk, .d (enc (s26.2.2.1.1 : Int)), .junk, .junk, .d (enc (s26.2.1.1 : Int)), .c (vc_Pump (d31)), .junk, .junk, .junk]) (envd := fun (d31 : R_Pump) => [.junk, .c (dv (s26.2.2.1.2)), .d (enc (((1 : Int) + s10.1.1) : Int)), .d (enc (((1 : Int) + s10.2.1.1) : Int)), .d (enc (((1 : Int) + s10.2.2.1.1) : Int)), .d (enc (s17.2.1 : Int)), .d (enc (s17.2.2.1 : Int)), .d (enc (s17.2.2.2.1 : Int)), .d (enc (s17.2.2.2.2.1 : Int)), .d (enc (y18 : Int)), .d (enc (s26.1.1 : Int)), .junk, .junk, .junk, .junk, .junk, .junk, .d (enc (s26.2.2.1.1 : Int)), .junk, .junk, .d (enc (s26.2.1.1 : Int)), .c (vc_Pump (d31)), .junk, .junk, .junk]) (fun (s30 : (Int × (R_Pump))) => ((enc (s30.1 : Int)), s30.2)) (fun x => x) (meth' (ds := [.inl (enc (s26.2.1.1 : Int))]) (fun x29 => x29) hw rfl rfl (C_pump_rain s17.2.2.2.2.2 s26.2.1.1) (AC_d (EJ_var (i := 20) rfl) (AC_nil)) (show List.Nodup [21] by decide) rfl (fun _ => True.intro) (fun _ => True.intro) (fun x29 => wk.refl _)) (fun _ => wk.refl _) (fun _ => rfl) (fun _ => wk.refl _) (fun _ => rfl))) (fun s32 => XL_d (EJ_p2 (EJ.v (EJ_var (i := 5) rfl)) (EJ.v (EJ_var (i := 20) rfl)) rfl) (XL_nil)))) (by decide) (fun _ => rfl) rfl (fun _ => rfl))); exact fun s34 => (wk_o <| wk_k <| wk_k <| wk_k <| wk_k <| wk_k <| wk_k <| wk_k <| wk_k <| wk_k <| wk_k <| wk_k <| wk_k <| wk_o <| wk_o <| wk_o <| wk_o <| wk_k <| wk_o <| wk_o <| wk_k <| wk_k <| wk_o <| wk_o <| wk_o <| wk_n))); intro c27; refine' Y_last ?h1_69 ?h2_69; (case h1_69 => (refine Y_if (envk := fun (s66 : Int × Int × Int × Int × PyData × PyData × R_Pump) => [.junk, .c (dv (s26.2.2.1.2)), .d (enc (((1 : Int) + s10.1.1) : Int)), .d (enc (((1 : Int) + s10.2.1.1) : Int)), .d (enc (((1 : Int) + s10.2.2.1.1) : Int)), .d (enc (s66.1 : Int)), .d (enc (s66.2.1 : Int)), .d (enc (s66.2.2.1 : Int)), .d (enc (s66.2.2.2.1 : Int)), .d (enc (y18 : Int)), .d (enc (s26.1.1 : Int)), .d (enc (s66.2.2.2.2.1 : PyData)), .d (enc (s66.2.2.2.2.2.1 : PyData)), .junk, .junk, .junk, .junk, .d (enc (s26.2.2.1.1 : Int)), .junk, .junk, .d (enc (s26.2.1.1 : Int)), .c (vc_Pump (s66.2.2.2.2.2.2)), .junk, .junk, .junk]) ?hc_67 ?ha_67 ?hd_67; (case hc_67 => exact TJ_e (EJ_p2 (EJ.v (EJ_var (i := 10) rfl)) (EJ.v (EJ_C)) rfl)); (case ha_67 => (intro c36; refine' Y_seq ?h1_57 ?h2_57; (case h1_57 => (exact Y_par (is := [11, 12]) 25 (XL_d (EJ_if (TJ_e (EJ_p2 (EJ.v (EJ_var (i := 20) rfl)) (EJ.v (EJ_C)) rfl)) (fun y37 => EJ_C) (fun y37 => EJ_C) (ite_enc (α := Str))) (XL_o (XO_d (XE_told (envx := fun (d40 : R_Pump) => [.junk, .c (dv (s26.2.2.1.2)), .d (enc (((1 : Int) + s10.1.1) : Int)), .d (enc (((1 : Int) + s10.2.1.1) : Int)), .d (enc (((1 : Int) + s10.2.2.1.1) : Int)), .d (enc (s17.2.1 : Int)), .d (enc (s17.2.2.1 : Int)), .d (enc (s17.2.2.2.1 : Int)), .d (enc (s17.2.2.2.2.1 : Int)), .d (enc (y18 : Int)), .d (enc (s26.1.1 : Int)), .junk, .junk, .junk, .junk, .junk, .junk, .d (enc (s26.2.2.1.1 : Int)), .junk, .junk, .d (enc (s26.2.1.1 : Int)), .c (vc_Pump (d40)), .junk, .junk, .junk]) (envd := fun (d40 : R_Pump) => [.junk, .c (dv (s26.2.2.1.2)), .d (enc (((1 : Int) + s10.1.1) : Int)), .d (enc (((1 : Int) + s10.2.1.1) : Int)), .d (enc (((1 : Int) + s10.2.2.1.1) : Int)), .d (enc (s17.2.1 : Int)), .d (enc (s17.2.2.1 : Int)), .d (enc (s17.2.2.2.1 : Int)), .d (enc (s17.2.2.2.2.1 : Int)), .d (enc (y18 : Int)), .d (enc (s26.1.1 : Int)), .junk, .junk, .junk, .junk, .junk, .junk, .d (enc (s26.2.2.1.1 : Int)), .junk, .junk, .d (enc (s26.2.1.1 : Int)), .c (vc_Pump (d40)), .junk, .junk, .junk]) (fun (s39 : (Int × (R_Pump))) => ((enc (s39.1 : Int)), s39.2)) (fun x => x) (meth' (ds := [.inl (enc (s26.2.1.1 : Int)), .inl (enc (s26.2.2.1.1 : Int))]) (fun x38 => x38) hw rfl rfl (C_pump_work s17.2.2.2.2.2 s26.2.1.1 s26.2.2.1.1) (AC_d (EJ_var (i := 20) rfl) (AC_d (EJ_var (i := 17) rfl) (AC_nil))) (show List.Nodup [21] by decide) rfl (fun _ => True.intro) (fun _ => True.intro) (fun x38 => wk.refl _)) (fun _ => wk.refl _) (fun _ => rfl) (fun _ => wk.refl _) (fun _ => rfl))) (fun s41 => XL_nil))) (by decide) (fun _ => rfl) rfl (fun _ => rfl))); intro s43; refine Y_at [.junk, .c (dv (s26.2.2.1.2)), .d (enc (((1 : Int) + s10.1.1) : Int)), .d (enc (((1 : Int) + s10.2.1.1) : Int)), .d (enc (((1 : Int) + s10.2.2.1.1) : Int)), .d (enc (s17.2.1 : Int)), .d (enc (s17.2.2.1 : Int)), .d (enc (s17.2.2.2.1 : Int)), .d (enc (s17.2.2.2.2.1 : Int)), .d (enc (y18 : Int)), .d (enc (s26.1.1 : Int)), .d (enc ((enc ((if (decide (s26.2.1.1 < (1 : Int))) = true then (("size" : Str) : Str) else ("no way" : Str)) : Str) : PyData) : PyData)), .d (enc (s43.1.1 : PyData)), .junk, .junk, .junk, .junk, .d (enc (s26.2.2.1.1 : Int)), .junk, .junk, .d (enc (s26.2.1.1 : Int)), .c (vc_Pump (s43.1.2)), .junk, .junk, .junk] ?_; refine' Y_last ?h1_56 ?h2_56; (case h1_56 => (refine Y_if (envk := fun (s53 : Int × Int × Int × Int × PyData) => [.junk, .c (dv (s26.2.2.1.2)), .d (enc (((1 : Int) + s10.1.1) : Int)), .d (enc (((1 : Int) + s10.2.1.1) : Int)), .d (enc (((1 : Int) + s10.2.2.1.1) : Int)), .d (enc (s53.1 : Int)), .d (enc (s53.2.1 : Int)), .d (enc (s53.2.2.1 : Int)), .d (enc (s53.2.2.2.1 : Int)), .d (enc (y18 : Int)), .d (enc (s26.1.1 : Int)), .d (enc (s53.2.2.2.2 : PyData)), .d (enc (s43.1.1 : PyData)), .junk, .junk, .junk, .junk, .d (enc (s26.2.2.1.1 : Int)), .junk, .junk, .d (enc (s26.2.1.1 : Int)), .c (vc_Pump (s43.1.2)), .junk, .junk, .junk]) ?hc_54 ?ha_54 ?hd_54; (case hc_54 => exact TJ_and (TJ_e (EJ_p2 (EJ.v (EJ_var (i := 20) rfl)) (EJ.v (EJ_C)) rfl)) (fun y44 => TJ_e (EJ_p2 (EJ.v (EJ_var (i := 17) rfl)) (EJ.v (EJ_var (i := 2) rfl)) rfl))); (case ha_54 => (intro c45; refine Y_grd ?_; rintro h46; refine' Y_seq ?h1_52 ?h2_52; (case h1_52 => (exact Y_set (i := 11) (show 11 < 25 by decide) (EJ_pn (AV_cons (EJ.v (EJ_var (i := 5) rfl)) (AV_cons (EJ.v (EJ_p2 (EJ.v (EJ_var (i := 3) rfl)) (EJ.v (EJ_pn (AV_cons (EJ.v (EJ_var (i := 20) rfl)) (AV_cons (EJ.v (EJ_var (i := 8) rfl)) (AV_nil))) o_min2)) (o_mul h46))) (AV_nil))) o_min2))); intro v47; refine Y_at [.junk, .c (dv (s26.2.2.1.2)), .d (enc (((1 : Int) + s10.1.1) : Int)), .d (enc (((1 : Int) + s10.2.1.1) : Int)), .d (enc (((1 : Int) + s10.2.2.1.1) : Int)), .d (enc (s17.2.1 : Int)), .d (enc (s17.2.2.1 : Int)), .d (enc (s17.2.2.2.1 : Int)), .d (enc (s17.2.2.2.2.1 : Int)), .d (enc (y18 : Int)), .d (enc (s26.1.1 : Int)), .d (enc (v47 : PyData)), .d (enc (s43.1.1 : PyData)), .junk, .junk, .junk, .junk, .d (enc (s26.2.2.1.1 : Int)), .junk, .junk, .d (enc (s26.2.1.1 : Int)), .c (vc_Pump (s43.1.2)), .junk, .junk, .junk] ?_; refine Y_grd ?_; rintro ⟨h48, h49⟩; refine' Y_last ?h1_51 ?h2_51; (case h1_51 => (exact Y_par (is := [5, 6, 7, 8]) 25 (XL_d (EJ_p2 (EJ.v (EJ_var (i := 5) rfl)) (EJ.v (EJ_asI (EJ_var (i := 11) rfl) h48)) rfl) (XL_d (EJ_p2 (EJ.v (EJ_var (i := 6) rfl)) (EJ.v (EJ_asI (EJ_var (i := 11) rfl) h49)) rfl) (XL_d (EJ_p2 (EJ.v (EJ_var (i := 7) rfl)) (EJ.v (EJ_var (i := 20) rfl)) rfl) (XL_d (EJ_p2 (EJ.v (EJ_var (i := 8) rfl)) (EJ.v (EJ_pn (AV_cons (EJ.v (EJ_var (i := 20) rfl)) (AV_cons (EJ.v (EJ_var (i := 8) rfl)) (AV_nil))) o_min2)) rfl) (XL_nil))))) (by decide) (fun _ => rfl) rfl (fun _ => rfl))); exact fun s50 => (wk_o <| wk_k <| wk_k <| wk_k <| wk_k <| wk_k <| wk_k <| wk_k <| wk_k <| wk_k <| wk_k <| wk_k <| wk_k <| wk_o <| wk_o <| wk_o <| wk_o <| wk_k <| wk_o <| wk_o <| wk_k <| wk_k <| wk_o <| wk_o <| wk_o <| wk_n))); intro c45; exact Y_nil (wk_o <| wk_k <| wk_k <| wk_k <| wk_k <| wk_k <| wk_k <| wk_k <| wk_k <| wk_k <| wk_k <| wk_k <| wk_k <| wk_o <| wk_o <| wk_o <| wk_o <| wk_k <| wk_o <| wk_o <| wk_k <| wk_k <| wk_o <| wk_o <| wk_o <| wk_n))); exact fun s55 => (wk_o <| wk_k <| wk_k <| wk_k <| wk_k <| wk_k <| wk_k <| wk_k <| wk_k <| wk_k <| wk_k <| wk_k <| wk_k <| wk_o <| wk_o <| wk_o <| wk_o <| wk_k <| wk_o <| wk_o <| wk_k <| wk_k <| wk_o <| wk_o <| wk_o <| wk_n))); intro c36; refine' Y_last ?h1_65 ?h2_65; (case h1_65 => (exact Y_par (is := [11, 12, 8]) 25 (XL_d (EJ_if (TJ_e (EJ_p2 (EJ.v (EJ_var (i := 8) rfl)) (EJ.v (EJ_var (i := 4) rfl)) rfl)) (fun y58 => EJ_var (i := 8) rfl) (fun y58 => EJ_C) (ite_enc (α := PyData))) (XL_o (XO_d (XE_told (envx := fun (d61 : R_Pump) => [.junk, .c (dv (s26.2.2.1.2)), .d (enc (((1 : Int) + s10.1.1) : Int)), .d (enc (((1 : Int) + s10.2.1.1) : Int)), .d (enc (((1 : Int) + s10.2.2.1.1) : Int)), .d (enc (s17.2.1 : Int)), .d (enc (s17.2.2.1 : Int)), .d (enc (s17.2.2.2.1 : Int)), .d (enc (s17.2.2.2.2.1 : Int)), .d (enc (y18 : Int)), .d (enc (s26.1.1 : Int)), .junk, .junk, .junk, .junk, .junk, .junk, .d (enc (s26.2.2.1.1 : Int)), .junk, .junk, .d (enc (s26.2.1.1 : Int)), .c (vc_Pump (d61)), .junk, .junk, .junk]) (envd := fun (d61 : R_Pump) => [.junk, .c (dv (s26.2.2.1.2)), .d (enc (((1 : Int) + s10.1.1) : Int)), .d (enc (((1 : Int) + s10.2.1.1) : Int)), .d (enc (((1 : Int) + s10.2.2.1.1) : Int)), .d (enc (s17.2.1 : Int)), .d (enc (s17.2.2.1 : Int)), .d (enc (s17.2.2.2.1 : Int)), .d (enc (s17.2.2.2.2.1 : Int)), .d (enc (y18 : Int)), .d (enc (s26.1.1 : Int)), .junk, .junk, .junk, .junk, .junk, .junk, .d (enc (s26.2.2.1.1 : Int)), .junk, .junk, .d (enc (s26.2.1.1 : Int)), .c (vc_Pump (d61)), .junk, .junk, .junk]) (fun (s60 : (Int × (R_Pump))) => ((enc (s60.1 : Int)), s60.2)) (fun x => x) (meth' (ds := []) (fun x59 => x59) hw rfl rfl (C_pump_new_washer s17.2.2.2.2.2) (AC_nil) (show List.Nodup [21] by decide) rfl (fun _ => True.intro) (fun _ => True.intro) (fun x59 => wk.refl _)) (fun _ => wk.refl _) (fun _ => rfl) (fun _ => wk.refl _) (fun _ => rfl))) (fun s62 => XL_d (EJ_var (i := 4) rfl) (XL_nil)))) (by decide) (fun _ => rfl) rfl (fun _ => rfl))); exact fun s64 => (wk_o <| wk_k <| wk_k <| wk_k <| wk_k <| wk_k <| wk_k <| wk_k <| wk_k <| wk_k <| wk_k <| wk_k <| wk_k <| wk_o <| wk_o <| wk_o <| wk_o <| wk_k <| wk_o <| wk_o <| wk_k <| wk_k <| wk_o <| wk_o <| wk_o <| wk_n))); exact fun s68 => (wk_o <| wk_k <| wk_k <| wk_k <| wk_k <| wk_k <| wk_k <| wk_k <| wk_k <| wk_k <| wk_k <| wk_k <| wk_k <| wk_o <| wk_o <| wk_o <| wk_o <| wk_k <| wk_o <| wk_o <| wk_k <| wk_k <| wk_o <| wk_o <| wk_o <| wk_n))); intro s72; refine Y_at [.junk, .c (dv (s26.2.2.1.2)), .d (enc (((1 : Int) + s10.1.1) : Int)), .d (enc (((1 : Int) + s10.2.1.1) : Int)), .d (enc (((1 : Int) + s10.2.2.1.1) : Int)), .d (enc (s72.1 : Int)), .d (enc (s72.2.1 : Int)), .d (enc (s72.2.2.1 : Int)), .d (enc (s72.2.2.2.1 : Int)), .d (enc (y18 : Int)), .d (enc (s26.1.1 : Int)), .d (enc (s72.2.2.2.2.1 : PyData)), .d (enc (s72.2.2.2.2.2.1 : PyData)), .junk, .junk, .junk, .junk, .d (enc (s26.2.2.1.1 : Int)), .junk, .junk, .d (enc (s26.2.1.1 : Int)), .c (vc_Pump (s72.2.2.2.2.2.2)), .junk, .junk, .junk] ?_; refine Y_grd ?_; rintro ⟨h73, h76⟩; refine Y_if ?hc_78 ?ha_78 ?hd_78; (case hc_78 => exact TJ_or (TJ_e (EJ_p2 (EJ.v (EJ_var (i := 12) rfl)) (EJ.v (EJ_var (i := 11) rfl)) (o_neD h73))) (fun y75 => (let h74 := h76 y75; TJ_e (EJ_p2 (EJ.v (methG (ds := []) h74 rfl rfl (P_pump_shown s72.2.2.2.2.2.2) (AC_nil) rfl)) (EJ.v (EJ_as (enc ((T4.mk (s72.1) (s72.2.1) (s72.2.2.1) (s72.2.2.2.1) : T4 Int Int Int Int) : T4 Int Int Int Int)) (EJ_disp (AJ_cons (EJ_var (i := 5) rfl) (AJ_cons (EJ_var (i := 6) rfl) (AJ_cons (EJ_var (i := 7) rfl) (AJ_cons (EJ_var (i := 8) rfl) (AJ_nil))))) (pTn 4 rfl)))) (o_ne (α := T4 Int Int Int Int) lay2))))); (case ha_78 => (intro c77; exact Y_ret (q := false) (EJ_C) (wk_o <| wk_o <| wk_o <| wk_o <| wk_o <| wk_o <| wk_o <| wk_o <| wk_o <| wk_o <| wk_o <| wk_o <| wk_o <| wk_o <| wk_o <| wk_o <| wk_o <| wk_o <| wk_o <| wk_o <| wk_o <| wk_o <| wk_o <| wk_o <| wk_o <| wk_n))); intro c77; exact Y_nil (wk_o <| wk_k <| wk_k <| wk_k <| wk_k <| wk_k <| wk_k <| wk_k <| wk_k <| wk_o <| wk_o <| wk_o <| wk_o <| wk_o <| wk_o <| wk_o <| wk_o <| wk_o <| wk_o <| wk_o <| wk_o <| wk_k <| wk_o <| wk_o <| wk_o <| wk_n))); intro s82; refine Y_at [.junk, .c (dv (s82.1)), .d (enc (((1 : Int) + s10.1.1) : Int)), .d (enc (((1 : Int) + s10.2.1.1) : Int)), .d (enc (((1 : Int) + s10.2.2.1.1) : Int)), .d (enc (s82.2.1 : Int)), .d (enc (s82.2.2.1 : Int)), .d (enc (s82.2.2.2.1 : Int)), .d (enc (s82.2.2.2.2.1 : Int)), .junk, .junk, .junk, .junk, .junk, .junk, .junk, .junk, .junk, .junk, .junk, .junk, .c (vc_Pump (s82.2.2.2.2.2)), .junk, .junk, .junk] ?_; refine' Y_seq ?h1_151 ?h2_151; (case h1_151 => (exact Y_setX (i := 13) (XE_roll (i := 1) (d := s82.1) (many := (60 : Int)) rfl (EJ_C) (by decide)) (fun _ => show 13 < 25 by decide))); intro s83; refine Y_at [.junk, .c (dv (s83.2)), .d (enc (((1 : Int) + s10.1.1) : Int)), .d (enc (((1 : Int) + s10.2.1.1) : Int)), .d (enc (((1 : Int) + s10.2.2.1.1) : Int)), .d (enc (s82.2.1 : Int)), .d (enc (s82.2.2.1 : Int)), .d (enc (s82.2.2.2.1 : Int)), .d (enc (s82.2.2.2.2.1 : Int)), .junk, .junk, .junk, .junk, .d (enc (s83.1 : Int)), .junk, .junk, .junk, .junk, .junk, .junk, .junk, .c (vc_Pump (s82.2.2.2.2.2)), .junk, .junk, .junk] ?_; refine' Y_ifXE ?hc_150 ?ha_150 ?hd_150; (case hc_150 => exact XT_e (XE_p2_epG (fun (s84 : Int) => (ok3 (0 : Int) s83.1 ((1 : Int) + s10.2.1.1) ∧ (Builtin.Range.rangeSize (0 : Int) s83.1 ((1 : Int) + s10.2.1.1)).toNat ≤ lineN)) (methP' (ds := [.inl (enc (s83.1 : Int))]) (fun _ => ()) rfl rfl (P_pump_strokes_for s82.2.2.2.2.2 s83.1) (AC_d (EJ_var (i := 13) rfl) (AC_nil)) rfl (fun _ => (wk_o <| wk_o <| wk_o <| wk_o <| wk_o <| wk_o <| wk_o <| wk_o <| wk_o <| wk_o <| wk_o <| wk_o <| wk_o <| wk_o <| wk_o <| wk_o <| wk_o <| wk_o <| wk_o <| wk_o <| wk_o <| wk_o <| wk_o <| wk_o <| wk_o <| wk_n))) (fun s84 H => (let h85 := H; EJ.v (EJ_pn (AV_cons (EJ.v (EJ_pn (AV_cons (EJ.v (EJ_C)) (AV_cons (EJ.v (EJ_var (i := 13) rfl)) (AV_cons (EJ.v (EJ_var (i := 3) rfl)) (AV_nil)))) (o_lrg3 h85))) (AV_nil)) o_lenL))) (fun s84 H => (let h85 := H; rfl)))); (case ha_150 => (intro s86 c87; refine Y_at [.junk, .c (dv (s83.2)), .d (enc (((1 : Int) + s10.1.1) : Int)), .d (enc (((1 : Int) + s10.2.1.1) : Int)), .d (enc (((1 : Int) + s10.2.2.1.1) : Int)), .d (enc (s82.2.1 : Int)), .d (enc (s82.2.2.1 : Int)), .d (enc (s82.2.2.2.1 : Int)), .d (enc (s82.2.2.2.2.1 : Int)), .junk, .junk, .junk, .junk, .d (enc (s83.1 : Int)), .junk, .junk, .junk, .junk, .junk, .junk, .junk, .c (vc_Pump (s82.2.2.2.2.2)), .junk, .junk, .junk] ?_; exact Y_ret (q := false) (EJ_C) (wk_o <| wk_o <| wk_o <| wk_o <| wk_o <| wk_o <| wk_o <| wk_o <| wk_o <| wk_o <| wk_o <| wk_o <| wk_o <| wk_o <| wk_o <| wk_o <| wk_o <| wk_o <| wk_o <| wk_o <| wk_o <| wk_o <| wk_o <| wk_o <| wk_o <| wk_n))); intro s86 c87; refine Y_at [.junk, .c (dv (s83.2)), .d (enc (((1 : Int) + s10.1.1) : Int)), .d (enc (((1 : Int) + s10.2.1.1) : Int)), .d (enc (((1 : Int) + s10.2.2.1.1) : Int)), .d (enc (s82.2.1 : Int)), .d (enc (s82.2.2.1 : Int)), .d (enc (s82.2.2.2.1 : Int)), .d (enc (s82.2.2.2.2.1 : Int)), .junk, .junk, .junk, .junk, .d (enc (s83.1 : Int)), .junk, .junk, .junk, .junk, .junk, .junk, .junk, .c (vc_Pump (s82.2.2.2.2.2)), .junk, .junk, .junk] ?_; refine' Y_seq ?h1_149 ?h2_149; (case h1_149 => (exact Y_setX (i := 14) (XE_roll (i := 1) (d := s83.2) (many := (40 : Int)) rfl (EJ_C) (by decide)) (fun _ => show 14 < 25 by decide))); intro s88; refine Y_at [.junk, .c (dv (s88.2)), .d (enc (((1 : Int) + s10.1.1) : Int)), .d (enc (((1 : Int) + s10.2.1.1) : Int)), .d (enc (((1 : Int) + s10.2.2.1.1) : Int)), .d (enc (s82.2.1 : Int)), .d (enc (s82.2.2.1 : Int)), .d (enc (s82.2.2.2.1 : Int)), .d (enc (s82.2.2.2.2.1 : Int)), .junk, .junk, .junk, .junk, .d (enc (s83.1 : Int)), .d (enc (s88.1 : Int)), .junk, .junk, .junk, .junk, .junk, .junk, .c (vc_Pump (s82.2.2.2.2.2)), .junk, .junk, .junk] ?_; refine' Y_ifXE ?hc_148 ?ha_148 ?hd_148; (case hc_148 => exact XT_e (XE_p2_epG (fun (s89 : Tup Int) => (small s88.1) ∧ (∀ y93 ∈ (rng s88.1), (0 < ((1 : Int) + s10.1.1))) ∧ (((rng s88.1)).length ≤ lineN)) (XE_pn (XA_ep (callP' (ds := [.inl (enc (s88.1 : Int)), .inl (enc (((1 : Int) + s10.1.1) : Int))]) (fun _ => ()) (P_stages s88.1 ((1 : Int) + s10.1.1)) (AC_d (EJ_var (i := 14) rfl) (AC_d (EJ_var (i := 2) rfl) (AC_nil))) rfl (fun _ => (wk_o <| wk_o <| wk_o <| wk_o <| wk_o <| wk_o <| wk_o <| wk_o <| wk_o <| wk_o <| wk_o <| wk_o <| wk_o <| wk_o <| wk_o <| wk_o <| wk_o <| wk_o <| wk_o <| wk_o <| wk_o <| wk_o <| wk_o <| wk_o <| wk_o <| wk_n))) (fun s90 => AJ_nil)) (fun s91 => rfl)) (fun s89 H => (match H with | ⟨h92, h97, h98⟩ => EJ.v (EJ_comp (fun (y93 : Int) => [.junk, .c (dv (s88.2)), .d (enc (((1 : Int) + s10.1.1) : Int)), .d (enc (((1 : Int) + s10.2.1.1) : Int)), .d (enc (((1 : Int) + s10.2.2.1.1) : Int)), .d (enc (s82.2.1 : Int)), .d (enc (s82.2.2.1 : Int)), .d (enc (s82.2.2.2.1 : Int)), .d (enc (s82.2.2.2.2.1 : Int)), .junk, .junk, .junk, .junk, .d (enc (s83.1 : Int)), .d (enc (s88.1 : Int)), .junk, .junk, .junk, .junk, .junk, .junk, .c (vc_Pump (s82.2.2.2.2.2)), .junk, .junk, .d (enc (y93 : Int))]) (fun (y93 : Int) => (decide ((y93 % ((1 : Int) + s10.1.1)) = (0 : Int)))) (fun (y93 : Int) => (y93 : Int)) (IJ_pn (AJ_cons (EJ_var (i := 14) rfl) (AJ_nil)) (p_range1 h92)) (fun _ => rfl) (fun y93 m94 => (let h95 := h97 y93 m94; TJ_e (EJ_p2 (EJ.v (EJ_p2 (EJ.v (EJ_var (i := 24) rfl)) (EJ.v (EJ_var (i := 2) rfl)) (o_mod h95))) (EJ.v (EJ_C)) rfl))) (fun y93 m94 y96 => EJ_var (i := 24) rfl) h98))) (fun s89 H => (match H with | ⟨h92, h97, h98⟩ => (o_ne (α := List Int) lay2))))); (case ha_148 => (intro s99 c100; refine Y_at [.junk, .c (dv (s88.2)), .d (enc (((1 : Int) + s10.1.1) : Int)), .d (enc (((1 : Int) + s10.2.1.1) : Int)), .d (enc (((1 : Int) + s10.2.2.1.1) : Int)), .d (enc (s82.2.1 : Int)), .d (enc (s82.2.2.1 : Int)), .d (enc (s82.2.2.2.1 : Int)), .d (enc (s82.2.2.2.2.1 : Int)), .junk, .junk, .junk, .junk, .d (enc (s83.1 : Int)), .d (enc (s88.1 : Int)), .junk, .junk, .junk, .junk, .junk, .junk, .c (vc_Pump (s82.2.2.2.2.2)), .junk, .junk, .junk] ?_; exact Y_ret (q := false) (EJ_C) (wk_o <| wk_o <| wk_o <| wk_o <| wk_o <| wk_o <| wk_o <| wk_o <| wk_o <| wk_o <| wk_o <| wk_o <| wk_o <| wk_o <| wk_o <| wk_o <| wk_o <| wk_o <| wk_o <| wk_o <| wk_o <| wk_o <| wk_o <| wk_o <| wk_o <| wk_n))); intro s99 c100; refine Y_at [.junk, .c (dv (s88.2)), .d (enc (((1 : Int) + s10.1.1) : Int)), .d (enc (((1 : Int) + s10.2.1.1) : Int)), .d (enc (((1 : Int) + s10.2.2.1.1) : Int)), .d (enc (s82.2.1 : Int)), .d (enc (s82.2.2.1 : Int)), .d (enc (s82.2.2.2.1 : Int)), .d (enc (s82.2.2.2.2.1 : Int)), .junk, .junk, .junk, .junk, .d (enc (s83.1 : Int)), .d (enc (s88.1 : Int)), .junk, .junk, .junk, .junk, .junk, .junk, .c (vc_Pump (s82.2.2.2.2.2)), .junk, .junk, .junk] ?_; refine' Y_seq ?h1_147 ?h2_147; (case h1_147 => (exact Y_setX (i := 22) (XE_comp (ξ2 := Unit) (envx2 := fun _ => junks 25) (own := [24]) (d0 := fun (s102 : (Int × Dice)) => s102.2) (ys := (fun (s102 : (Int × Dice)) => (rng s102.1))) (f := (fun (y105 : Int) (d104 : Dice) => ((rollO d104 (9 : Int)).bind fun s106 => Out.ok ((s106.1 : Int), s106.2) : Out Unit _))) (fun (d104 : Dice) => [.junk, .c (dv (d104)), .d (enc (((1 : Int) + s10.1.1) : Int)), .d (enc (((1 : Int) + s10.2.1.1) : Int)), .d (enc (((1 : Int) + s10.2.2.1.1) : Int)), .d (enc (s82.2.1 : Int)), .d (enc (s82.2.2.1 : Int)), .d (enc (s82.2.2.2.1 : Int)), .d (enc (s82.2.2.2.2.1 : Int)), .junk, .junk, .junk, .junk, .d (enc (s83.1 : Int)), .d (enc (s88.1 : Int)), .junk, .junk, .junk, .junk, .junk, .junk, .c (vc_Pump (s82.2.2.2.2.2)), .junk, .junk, .junk]) (fun (d104 : Dice) (y105 : Int) => [.junk, .c (dv (d104)), .d (enc (((1 : Int) + s10.1.1) : Int)), .d (enc (((1 : Int) + s10.2.1.1) : Int)), .d (enc (((1 : Int) + s10.2.2.1.1) : Int)), .d (enc (s82.2.1 : Int)), .d (enc (s82.2.2.1 : Int)), .d (enc (s82.2.2.2.1 : Int)), .d (enc (s82.2.2.2.2.1 : Int)), .junk, .junk, .junk, .junk, .d (enc (s83.1 : Int)), .d (enc (s88.1 : Int)), .junk, .junk, .junk, .junk, .junk, .junk, .c (vc_Pump (s82.2.2.2.2.2)), .junk, .junk, .d (enc (y105 : Int))]) (fun (d104 : Dice) (y105 : Int) => [.junk, .c (dv (d104)), .d (enc (((1 : Int) + s10.1.1) : Int)), .d (enc (((1 : Int) + s10.2.1.1) : Int)), .d (enc (((1 : Int) + s10.2.2.1.1) : Int)), .d (enc (s82.2.1 : Int)), .d (enc (s82.2.2.1 : Int)), .d (enc (s82.2.2.2.1 : Int)), .d (enc (s82.2.2.2.2.1 : Int)), .junk, .junk, .junk, .junk, .d (enc (s83.1 : Int)), .d (enc (s88.1 : Int)), .junk, .junk, .junk, .junk, .junk, .junk, .c (vc_Pump (s82.2.2.2.2.2)), .junk, .junk, .d (enc (y105 : Int))]) (XI_pn (fun (s102 : (Int × Dice)) => (small s102.1)) (XA_ep (XE_roll (i := 1) (d := s88.2) (many := (5 : Int)) rfl (EJ_C) (by decide)) (fun s101 => AJ_nil)) (fun s102 H => (let h103 := H; p_range1 h103))) (fun s102 => (wk_o <| wk_k <| wk_k <| wk_k <| wk_k <| wk_k <| wk_k <| wk_k <| wk_k <| wk_o <| wk_o <| wk_o <| wk_o <| wk_k <| wk_k <| wk_o <| wk_o <| wk_o <| wk_o <| wk_o <| wk_o <| wk_k <| wk_o <| wk_o <| wk_o <| wk_n)) (fun _ => rfl) (fun _ _ => rfl) (by decide) (fun s102 d104 y105 m107 => XE.to (XE_roll (i := 1) (d := d104) (many := (9 : Int)) rfl (EJ_C) (by decide)) (fun (s106 : (Int × Dice)) => ((s106.1 : Int), s106.2)) (fun _ => wk.refl _) (fun _ => rfl)) (fun _ _ => (wk_o <| wk_k <| wk_k <| wk_k <| wk_k <| wk_k <| wk_k <| wk_k <| wk_k <| wk_o <| wk_o <| wk_o <| wk_o <| wk_k <| wk_k <| wk_o <| wk_o <| wk_o <| wk_o <| wk_o <| wk_o <| wk_k <| wk_o <| wk_o <| wk_o <| wk_n))) (fun _ => show 22 < 25 by decide))); intro s108; refine Y_at [.junk, .c (dv (s108.2)), .d (enc (((1 : Int) + s10.1.1) : Int)), .d (enc (((1 : Int) + s10.2.1.1) : Int)), .d (enc (((1 : Int) + s10.2.2.1.1) : Int)), .d (enc (s82.2.1 : Int)), .d (enc (s82.2.2.1 : Int)), .d (enc (s82.2.2.2.1 : Int)), .d (enc (s82.2.2.2.2.1 : Int)), .junk, .junk, .junk, .junk, .d (enc (s83.1 : Int)), .d (enc (s88.1 : Int)), .junk, .junk, .junk, .junk, .junk, .junk, .c (vc_Pump (s82.2.2.2.2.2)), .d (enc (s108.1 : List Int)), .junk, .junk] ?_; refine Y_grd ?_; rintro ⟨h109, h113⟩; refine Y_ifE ?hc_146 ?ha_146 ?hd_146; (case hc_146 => exact TJ_e (EJ_p2 (EJ.v (callG (ds := [.inl (enc (s108.1 : List Int))]) h109 (P_row_gives s108.1) (AC_d (EJ_var (i := 22) rfl) (AC_nil)) rfl)) (EJ.v (EJ_if (TJ_e (EJ_p2 (EJ.v (EJ_var (i := 22) rfl)) (EJ.v (EJ_as (enc ([] : List Int)) (EJ_disp (AJ_nil) (pLn 0 rfl)))) (o_ne (α := List Int) lay2))) (fun y112 => (match h113 y112 with | ⟨h110, h111⟩ => EJ_p2 (EJ.v (EJ_pn (AV_cons (EJ.v (EJ_var (i := 22) rfl)) (AV_nil)) (oSort_ok h110))) (EJ.v (EJ_C)) (o_ixL h111))) (fun y112 => EJ_C) (ite_enc (α := Int)))) rfl)); (case ha_146 => (intro c114; exact Y_ret (q := false) (EJ_C) (wk_o <| wk_o <| wk_o <| wk_o <| wk_o <| wk_o <| wk_o <| wk_o <| wk_o <| wk_o <| wk_o <| wk_o <| wk_o <| wk_o <| wk_o <| wk_o <| wk_o <| wk_o <| wk_o <| wk_o <| wk_o <| wk_o <| wk_o <| wk_o <| wk_o <| wk_n))); intro c114; refine' Y_seq ?h1_145 ?h2_145; (case h1_145 => (exact Y_par (is := [23, 18, 19, 15]) 25 (XL_o (XO_d (XE_roll (i := 1) (d := s108.2) (many := (40 : Int)) rfl (EJ_C) (by decide))) (fun s115 => XL_o (XO_d (XE_roll (i := 1) (d := s115.2) (many := (6 : Int)) rfl (EJ_C) (by decide))) (fun s116 => XL_o (XO_d (XE_roll (i := 1) (d := s116.2) (many := (15 : Int)) rfl (EJ_C) (by decide))) (fun s117 => XL_d (EJ_C) (XL_nil))))) (by decide) (fun _ => rfl) rfl (fun _ => rfl))); intro s121; refine Y_at [.junk, .c (dv (s121.2.2.1.2)), .d (enc (((1 : Int) + s10.1.1) : Int)), .d (enc (((1 : Int) + s10.2.1.1) : Int)), .d (enc (((1 : Int) + s10.2.2.1.1) : Int)), .d (enc (s82.2.1 : Int)), .d (enc (s82.2.2.1 : Int)), .d (enc (s82.2.2.2.1 : Int)), .d (enc (s82.2.2.2.2.1 : Int)), .junk, .junk, .junk, .junk, .d (enc (s83.1 : Int)), .d (enc (s88.1 : Int)), .d (enc ((0 : Int) : Int)), .junk, .junk, .d (enc (s121.2.1.1 : Int)), .d (enc (s121.2.2.1.1 : Int)), .junk, .c (vc_Pump (s82.2.2.2.2.2)), .d (enc (s108.1 : List Int)), .d (enc (s121.1.1 : Int)), .junk] ?_; refine' Y_seq ?h1_144 ?h2_144; (case h1_144 => (exact Y_set (i := 16) (show 16 < 25 by decide) (EJ_var (i := 23) rfl))); intro v122; refine Y_at [.junk, .c (dv (s121.2.2.1.2)), .d (enc (((1 : Int) + s10.1.1) : Int)), .d (enc (((1 : Int) + s10.2.1.1) : Int)), .d (enc (((1 : Int) + s10.2.2.1.1) : Int)), .d (enc (s82.2.1 : Int)), .d (enc (s82.2.2.1 : Int)), .d (enc (s82.2.2.2.1 : Int)), .d (enc (s82.2.2.2.2.1 : Int)), .junk, .junk, .junk, .junk, .d (enc (s83.1 : Int)), .d (enc (s88.1 : Int)), .d (enc ((0 : Int) : Int)), .d (enc (v122 : Int)), .junk, .d (enc (s121.2.1.1 : Int)), .d (enc (s121.2.2.1.1 : Int)), .junk, .c (vc_Pump (s82.2.2.2.2.2)), .d (enc (s108.1 : List Int)), .d (enc (s121.1.1 : Int)), .junk] ?_; refine' Y_seq ?h1_143 ?h2_143; (case h1_143 => (refine Y_while (fun (s123 : Int × Int) => [.junk, .c (dv (s121.2.2.1.2)), .d (enc (((1 : Int) + s10.1.1) : Int)), .d (enc (((1 : Int) + s10.2.1.1) : Int)), .d (enc (((1 : Int) + s10.2.2.1.1) : Int)), .d (enc (s82.2.1 : Int)), .d (enc (s82.2.2.1 : Int)), .d (enc (s82.2.2.2.1 : Int)), .d (enc (s82.2.2.2.2.1 : Int)), .junk, .junk, .junk, .junk, .d (enc (s83.1 : Int)), .d (enc (s88.1 : Int)), .d (enc (s123.1 : Int)), .d (enc (s123.2 : Int)), .junk, .d (enc (s121.2.1.1 : Int)), .d (enc (s121.2.2.1.1 : Int)), .junk, .c (vc_Pump (s82.2.2.2.2.2)), .d (enc (s108.1 : List Int)), .d (enc (s121.1.1 : Int)), .junk]) ?h0_129 ?hc_129 ?hb_129; (case h0_129 => exact (wk_o <| wk_k <| wk_k <| wk_k <| wk_k <| wk_k <| wk_k <| wk_k <| wk_k <| wk_o <| wk_o <| wk_o <| wk_o <| wk_k <| wk_k <| wk_k <| wk_k <| wk_o <| wk_k <| wk_k <| wk_o <| wk_k <| wk_k <| wk_k <| wk_o <| wk_n)); (case hc_129 => exact (fun s123 q127 c128 => while1 c128 (TJ_and (TJ_e (EJ_p2 (EJ.v (EJ_var (i := 16) rfl)) (EJ.v (EJ_C)) rfl)) (fun y124 => TJ_e (EJ_p2 (EJ.v (EJ_var (i := 15) rfl)) (EJ.v (EJ_var (i := 19) rfl)) rfl))))); intro s123 c128; refine' Y_last ?h1_126 ?h2_126; (case h1_126 => (exact Y_par (is := [16, 15]) 25 (XL_d (EJ_pn (AV_cons (EJ.v (EJ_C)) (AV_cons (EJ.v (EJ_p2 (EJ.v (EJ_p2 (EJ.v (EJ_var (i := 16) rfl)) (EJ.v (EJ_var (i := 18) rfl)) rfl)) (EJ.v (EJ_pn (AV_cons (EJ.v (EJ_var (i := 22) rfl)) (AV_nil)) o_sum)) rfl)) (AV_nil))) o_max2) (XL_d (EJ_p2 (EJ.v (EJ_var (i := 15) rfl)) (EJ.v (EJ_C)) rfl) (XL_nil))) (by decide) (fun _ => rfl) rfl (fun _ => rfl))); exact fun s125 => (wk_o <| wk_k <| wk_k <| wk_k <| wk_k <| wk_k <| wk_k <| wk_k <| wk_k <| wk_o <| wk_o <| wk_o <| wk_o <| wk_k <| wk_k <| wk_k <| wk_k <| wk_o <| wk_k <| wk_k <| wk_o <| wk_k <| wk_k <| wk_k <| wk_o <| wk_n))); intro s130; refine Y_at [.junk, .c (dv (s121.2.2.1.2)), .d (enc (((1 : Int) + s10.1.1) : Int)), .d (enc (((1 : Int) + s10.2.1.1) : Int)), .d (enc (((1 : Int) + s10.2.2.1.1) : Int)), .d (enc (s82.2.1 : Int)), .d (enc (s82.2.2.1 : Int)), .d (enc (s82.2.2.2.1 : Int)), .d (enc (s82.2.2.2.2.1 : Int)), .junk, .junk, .junk, .junk, .d (enc (s83.1 : Int)), .d (enc (s88.1 : Int)), .d (enc (s130.1 : Int)), .d (enc (s130.2 : Int)), .junk, .d (enc (s121.2.1.1 : Int)), .d (enc (s121.2.2.1.1 : Int)), .junk, .c (vc_Pump (s82.2.2.2.2.2)), .d (enc (s108.1 : List Int)), .d (enc (s121.1.1 : Int)), .junk] ?_; refine' Y_ifXE ?hc_142 ?ha_142 ?hd_142; (case hc_142 => exact XT_e (XE_p2_epG (fun (s131 : (PyData × (Unit))) => (shpD (s131.1) ((if (decide (s130.2 = (0 : Int))) = true then ((enc (s130.1 : Int) : PyData) : PyData) else (enc (("no way" : Str) : Str) : PyData))))) (XE_told (envx := fun (d133 : Unit) => [.junk, .c (dv (s121.2.2.1.2)), .d (enc (((1 : Int) + s10.1.1) : Int)), .d (enc (((1 : Int) + s10.2.1.1) : Int)), .d (enc (((1 : Int) + s10.2.2.1.1) : Int)), .d (enc (s82.2.1 : Int)), .d (enc (s82.2.2.1 : Int)), .d (enc (s82.2.2.2.1 : Int)), .d (enc (s82.2.2.2.2.1 : Int)), .junk, .junk, .junk, .junk, .d (enc (s83.1 : Int)), .d (enc (s88.1 : Int)), .d (enc (s130.1 : Int)), .d (enc (s130.2 : Int)), .junk, .d (enc (s121.2.1.1 : Int)), .d (enc (s121.2.2.1.1 : Int)), .junk, .c (vc_Pump (s82.2.2.2.2.2)), .d (enc (s108.1 : List Int)), .d (enc (s121.1.1 : Int)), .junk]) (envd := fun (d133 : Unit) => [.junk, .c (dv (s121.2.2.1.2)), .d (enc (((1 : Int) + s10.1.1) : Int)), .d (enc (((1 : Int) + s10.2.1.1) : Int)), .d (enc (((1 : Int) + s10.2.2.1.1) : Int)), .d (enc (s82.2.1 : Int)), .d (enc (s82.2.2.1 : Int)), .d (enc (s82.2.2.2.1 : Int)), .d (enc (s82.2.2.2.2.1 : Int)), .junk, .junk, .junk, .junk, .d (enc (s83.1 : Int)), .d (enc (s88.1 : Int)), .d (enc (s130.1 : Int)), .d (enc (s130.2 : Int)), .junk, .d (enc (s121.2.1.1 : Int)), .d (enc (s121.2.2.1.1 : Int)), .junk, .c (vc_Pump (s82.2.2.2.2.2)), .d (enc (s108.1 : List Int)), .d (enc (s121.1.1 : Int)), .junk]) (fun (s132 : Int) => ((enc (s132 : Int)), ())) (fun x => x) (callP' (ds := [.inl (enc (s121.1.1 : Int)), .inl (enc (s121.2.1.1 : Int)), .inl (enc (s108.1 : List Int)), .inl (enc (s121.2.2.1.1 : Int))]) (fun _ => ()) (P_shaft_dry s121.1.1 s121.2.1.1 s108.1 s121.2.2.1.1) (AC_d (EJ_var (i := 23) rfl) (AC_d (EJ_var (i := 18) rfl) (AC_d (EJ_var (i := 22) rfl) (AC_d (EJ_var (i := 19) rfl) (AC_nil))))) rfl (fun _ => wk.refl _)) (fun _ => wk.refl _) (fun _ => rfl) (fun _ => wk.refl _) (fun _ => rfl)) (fun s131 H => (let h135 := H; EJ.v (EJ_if (TJ_e (EJ_p2 (EJ.v (EJ_var (i := 16) rfl)) (EJ.v (EJ_C)) rfl)) (fun y134 => EJ_var (i := 15) rfl) (fun y134 => EJ_C) (ite_enc (α := PyData))))) (fun s131 H => (let h135 := H; (o_neD h135))))); (case ha_142 => (intro s136 c137; refine Y_at [.junk, .c (dv (s121.2.2.1.2)), .d (enc (((1 : Int) + s10.1.1) : Int)), .d (enc (((1 : Int) + s10.2.1.1) : Int)), .d (enc (((1 : Int) + s10.2.2.1.1) : Int)), .d (enc (s82.2.1 : Int)), .d (enc (s82.2.2.1 : Int)), .d (enc (s82.2.2.2.1 : Int)), .d (enc (s82.2.2.2.2.1 : Int)), .junk, .junk, .junk, .junk, .d (enc (s83.1 : Int)), .d (enc (s88.1 : Int)), .d (enc (s130.1 : Int)), .d (enc (s130.2 : Int)), .junk, .d (enc (s121.2.1.1 : Int)), .d (enc (s121.2.2.1.1 : Int)), .junk, .c (vc_Pump (s82.2.2.2.2.2)), .d (enc (s108.1 : List Int)), .d (enc (s121.1.1 : Int)), .junk] ?_; exact Y_ret (q := false) (EJ_C) (wk_o <| wk_o <| wk_o <| wk_o <| wk_o <| wk_o <| wk_o <| wk_o <| wk_o <| wk_o <| wk_o <| wk_o <| wk_o <| wk_o <| wk_o <| wk_o <| wk_o <| wk_o <| wk_o <| wk_o <| wk_o <| wk_o <| wk_o <| wk_o <| wk_o <| wk_n))); intro s136 c137; refine Y_at [.junk, .c (dv (s121.2.2.1.2)), .d (enc (((1 : Int) + s10.1.1) : Int)), .d (enc (((1 : Int) + s10.2.1.1) : Int)), .d (enc (((1 : Int) + s10.2.2.1.1) : Int)), .d (enc (s82.2.1 : Int)), .d (enc (s82.2.2.1 : Int)), .d (enc (s82.2.2.2.1 : Int)), .d (enc (s82.2.2.2.2.1 : Int)), .junk, .junk, .junk, .junk, .d (enc (s83.1 : Int)), .d (enc (s88.1 : Int)), .d (enc (s130.1 : Int)), .d (enc (s130.2 : Int)), .junk, .d (enc (s121.2.1.1 : Int)), .d (enc (s121.2.2.1.1 : Int)), .junk, .c (vc_Pump (s82.2.2.2.2.2)), .d (enc (s108.1 : List Int)), .d (enc (s121.1.1 : Int)), .junk] ?_; refine' Y_ifX ?hc_141 ?ha_141 ?hd_141; (case hc_141 => exact XT_not (XT_e (call' (ds := [.inr 1, .inr 21, .inl (enc (s108.1 : List Int))]) (fun x138 => ()) hw (C_law_rest1 s121.2.2.1.2 s82.2.2.2.2.2 s108.1) (AC_b rfl (AC_b rfl (AC_d (EJ_var (i := 22) rfl) (AC_nil)))) (show List.Nodup [1, 21] by decide) rfl (fun _ => True.intro) (fun _ => True.intro) (fun x138 => (wk_o <| wk_o <| wk_o <| wk_o <| wk_o <| wk_o <| wk_o <| wk_o <| wk_o <| wk_o <| wk_o <| wk_o <| wk_o <| wk_o <| wk_o <| wk_o <| wk_o <| wk_o <| wk_o <| wk_o <| wk_o <| wk_o <| wk_o <| wk_o <| wk_o <| wk_n))))); (case ha_141 => (intro s139 c140; refine Y_at [.junk, .c (dv (s139.2)), .d (enc (((1 : Int) + s10.1.1) : Int)), .d (enc (((1 : Int) + s10.2.1.1) : Int)), .d (enc (((1 : Int) + s10.2.2.1.1) : Int)), .d (enc (s82.2.1 : Int)), .d (enc (s82.2.2.1 : Int)), .d (enc (s82.2.2.2.1 : Int)), .d (enc (s82.2.2.2.2.1 : Int)), .junk, .junk, .junk, .junk, .d (enc (s83.1 : Int)), .d (enc (s88.1 : Int)), .d (enc (s130.1 : Int)), .d (enc (s130.2 : Int)), .junk, .d (enc (s121.2.1.1 : Int)), .d (enc (s121.2.2.1.1 : Int)), .junk, .c (vc_Pump (s82.2.2.2.2.2)), .d (enc (s108.1 : List Int)), .d (enc (s121.1.1 : Int)), .junk] ?_; exact Y_ret (q := false) (EJ_C) (wk_o <| wk_o <| wk_o <| wk_o <| wk_o <| wk_o <| wk_o <| wk_o <| wk_o <| wk_o <| wk_o <| wk_o <| wk_o <| wk_o <| wk_o <| wk_o <| wk_o <| wk_o <| wk_o <| wk_o <| wk_o <| wk_o <| wk_o <| wk_o <| wk_o <| wk_n))); intro s139 c140; exact Y_nil (wk_o <| wk_o <| wk_o <| wk_o <| wk_o <| wk_o <| wk_o <| wk_o <| wk_o <| wk_o <| wk_o <| wk_o <| wk_o <| wk_o <| wk_o <| wk_o <| wk_o <| wk_o <| wk_o <| wk_o <| wk_o <| wk_o <| wk_o <| wk_o <| wk_o <| wk_n))) h
end K04
end

section
set_option linter.all false
set_option maxRecDepth 100000
set_option maxHeartbeats 2000000
set_option autoImplicit false
namespace K04
open PySem L2 TL TY
open Enc (enc)
theorem init_ok {a b c : Int} (h1 : 0 < a) (h2 : 0 < b) (h3 : 0 < c) : T_pump_init a b c = .ok ⟨a, b, c, c, 0, 0, 0⟩ := by
  have : decide (min (min a b) c < 1) = false := by simp; omega
  simp only [T_pump_init, B_pump_init, this, Bool.false_eq_true, if_false, Stp.seq_nx, Stp.fin_nx]
theorem rain_eq (p : R_Pump) (m : Int) : T_pump_rain p m = if m < 1 then .exn "BadSize" p else .ok (p.well + m, { p with well := p.well + m }) := by
  by_cases h : m < 1 <;> simp [T_pump_rain, B_pump_rain, h]
theorem washer_eq (p : R_Pump) : T_pump_new_washer p = if p.left = p.washer then .exn "BadDeed" p else .ok (p.left, { p with left := p.washer }) := by
  by_cases h : p.left = p.washer <;> simp [T_pump_new_washer, B_pump_new_washer, h]
theorem shown_eq (p : R_Pump) : T_pump_shown p = .ok ⟨p.well, p.lifted, p.strokes, p.left⟩ := by
  simp [T_pump_shown, B_pump_shown]
theorem strokes_eq {p : R_Pump} {m : Int} (h1 : 0 < p.stroke) (h2 : p.stroke < 1000) (h : 0 ≤ m) : T_pump_strokes_for p m = .ok (0 - (0 - m) / p.stroke) := by
  have h3 : ¬ m < 0 := by omega
  have h4 : 0 < p.stroke ∧ p.stroke < 1073741824 := by omega
  simp [T_pump_strokes_for, B_pump_strokes_for, h3, grdS_pos h4]
/-- what a pump's strokes lift -/
def due (well stroke j lf : Int) : Int := min well (stroke * min j lf)
theorem due_step {well stroke lf j : Int} (hw : 0 ≤ well) (hs : 0 < stroke) (hj : 0 ≤ j) (h : j < lf) : due well stroke (j + 1) lf = due well stroke j lf + min stroke (well - due well stroke j lf) := by
  unfold due
  rw [show min (j + 1) lf = j + 1 from by omega, show min j lf = j from by omega, Int.mul_add, Int.mul_one]
  have : 0 ≤ stroke * j := Int.mul_nonneg (by omega) hj
  generalize stroke * j = p at *
  omega
theorem due_stay {well stroke lf j : Int} (h : ¬ j < lf) : due well stroke (j + 1) lf = due well stroke j lf := by
  unfold due; rw [show min (j + 1) lf = lf from by omega, show min j lf = lf from by omega]
theorem due_0 {well stroke lf : Int} (hw : 0 ≤ well) (hl : 0 ≤ lf) : due well stroke 0 lf = 0 := by
  unfold due; rw [show min (0 : Int) lf = 0 from by omega]; simp; omega
theorem rng_eq (n : Nat) : rng (n : Int) = (List.range n).map fun (k : Nat) => (k : Int) := by simp [rng]
theorem rng_succ (n : Nat) : rng ((n + 1 : Nat) : Int) = rng (n : Int) ++ [(n : Int)] := by simp [rng, List.range_succ]
/-- a loop over range(n) that says what each turn does -/
theorem for_range {ξ ρ β σ : Type} {body : Int → σ → Stp ξ ρ σ σ} (f : Nat → σ) : ∀ n : Nat, (∀ j, j < n → body (j : Int) (f j) = .nx (f (j + 1))) → (forT body (rng (n : Int)) (f 0) : Stp ξ ρ β σ) = .nx (f n) := by
  have key : ∀ (m : Nat) (k : Nat), (∀ j, j < m → body ((k + j : Nat) : Int) (f (k + j)) = .nx (f (k + j + 1))) → (forT body ((List.range' k m).map fun (q : Nat) => (q : Int)) (f k) : Stp ξ ρ β σ) = .nx (f (k + m)) := by
    intro m
    induction m with
    | zero => intro k _; rfl
    | succ m ih =>
      intro k h
      have h0 := h 0 (by omega)
      simp only [Nat.add_zero] at h0
      simp only [List.range'_succ, List.map_cons, forT, h0]
      rw [ih (k + 1) fun j hj => by have := h (j + 1) (by omega); rw [show k + 1 + j = k + (j + 1) from by omega]; exact this]
      rw [show k + 1 + m = k + (m + 1) from by omega]
  intro n h
  have := key n 0 (fun j hj => by simpa using h j hj)
  rw [rng_eq, List.range_eq_range']
  simpa using this
theorem work_eq {p : R_Pump} {n deep : Int} (hn : n ≤ 1000) (h1 : 1 ≤ n) (h2 : 0 ≤ deep) (h3 : deep ≤ p.lift) (hw : 0 ≤ p.well) (hs : 0 < p.stroke) (hl : 0 ≤ p.left) :
    T_pump_work p n deep = .ok (due p.well p.stroke n p.left, { p with left := p.left - min n p.left, well := p.well - due p.well p.stroke n p.left, strokes := p.strokes + n, lifted := p.lifted + due p.well p.stroke n p.left }) := by
  obtain ⟨m, rfl⟩ : ∃ m : Nat, n = m := ⟨n.toNat, by omega⟩
  have g1 : (decide ((m : Int) < 1) || decide (deep < 0)) = false := by simp; omega
  have g2 : decide (deep > p.lift) = false := by simp; omega
  have g3 : small (m : Int) := small_of (by omega) (by omega)
  unfold T_pump_work B_pump_work
  simp only [g1, g2, Bool.false_eq_true, if_false, Stp.seq_nx, grdS_pos g3]
  let f : Nat → R_Pump × Int := fun j => (({ p with left := p.left - min (j : Int) p.left, well := p.well - due p.well p.stroke j p.left, strokes := p.strokes + j } : R_Pump), due p.well p.stroke j p.left)
  have f0 : f 0 = (p, 0) := by
    simp only [f, show ((0 : Nat) : Int) = 0 from rfl, due_0 hw hl]
    rw [show min (0 : Int) p.left = 0 from by omega]
    simp
  rw [← f0, for_range f m]
  · simp only [Stp.seq_nx, Stp.fin_rt, f]
  · intro j hj
    simp only [f, Stp.seq_nx]
    have hd : 0 ≤ p.well - due p.well p.stroke j p.left := by unfold due; omega
    by_cases hc : (j : Int) < p.left
    · have c1 : decide (p.left - min (j : Int) p.left > 0) = true := by simp; omega
      have h5 := due_step (j := (j : Int)) hw hs (by omega) hc
      simp only [c1, if_true, Stp.seq_nx]
      rw [show ((j + 1 : Nat) : Int) = (j : Int) + 1 from by omega, h5]
      congr 1
      simp only [Prod.mk.injEq, R_Pump.mk.injEq, true_and]
      refine ⟨⟨by omega, by omega, by omega⟩, trivial⟩
    · have c1 : decide (p.left - min (j : Int) p.left > 0) = false := by simp; omega
      have h5 := due_stay (well := p.well) (stroke := p.stroke) (j := (j : Int)) hc
      simp only [c1, Bool.false_eq_true, if_false, Stp.seq_nx]
      rw [show ((j + 1 : Nat) : Int) = (j : Int) + 1 from by omega, h5]
      congr 1
      simp only [Prod.mk.injEq, R_Pump.mk.injEq, true_and]
      refine ⟨⟨by omega, by omega⟩, trivial⟩
theorem work_bad (p : R_Pump) {n deep : Int} (h1 : n < 1) : T_pump_work p n deep = .exn "BadSize" p := by
  have g1 : (decide (n < 1) || decide (deep < 0)) = true := by simp; omega
  simp [T_pump_work, B_pump_work, g1, h1]
theorem work_deep (p : R_Pump) {n deep : Int} (h1 : 1 ≤ n) (h2 : 0 ≤ deep) (h3 : p.lift < deep) : T_pump_work p n deep = .exn "NoWay" p := by
  have g1 : ¬ n < 1 := by omega
  have g2 : ¬ deep < 0 := by omega
  simp [T_pump_work, B_pump_work, g1, g2, h3]
end K04
end

section
set_option linter.all false
set_option maxRecDepth 100000
set_option maxHeartbeats 2000000
set_option autoImplicit false
namespace K04
open PySem L2 TL TY
open Enc (enc)
def shaftB (a1 : Int) (a2 : List Int) (a3 : Int) : Int × Int → Stp Unit Int (Int × Int) (Int × Int) := fun s7 =>
  if decide (s7.2 = a3) = true then (Stp.exn "NoWay" ()).lift
  else (Stp.nx (max 0 (s7.1 + a1 - a2.sum))).seq fun v9 => (Stp.nx (s7.2 + 1)).seq fun v10 => Stp.nx (v9, v10)
def shaftL (a1 : Int) (a2 : List Int) : Int × Int → Stp Unit Bool (Int × Int) (Int × Int) := fun s123 =>
  (Out.ok true).stp.seq fun s125 => Stp.nx (s123.1 + 1, max 0 (s123.2 + a1 - a2.sum))
theorem shaft_sim (a1 : Int) (a2 : List Int) (a3 : Int) : ∀ (n : Nat) (lv k : Int), 0 ≤ lv → k ≤ a3 → a3 - k < n →
    ∃ lv' k', (whileT (fun s => some (decide (s.2 > 0) && decide (s.1 < a3))) (shaftL a1 a2) n (k, lv) : Stp Unit Bool Empty (Int × Int)) = .nx (k', lv') ∧ 0 ≤ lv' ∧
      (whileT (fun s => some (decide (s.1 > 0))) (shaftB a1 a2 a3) n (lv, k) : Stp Unit Int Empty (Int × Int)) = if lv' = 0 then .nx (0, k') else .exn "NoWay" ()
  | 0, lv, k, h1, h2, h3 => by omega
  | n + 1, lv, k, h1, h2, h3 => by
    by_cases hl : 0 < lv
    · by_cases hk : k < a3
      · obtain ⟨lv', k', e1, e2, e3⟩ := shaft_sim a1 a2 a3 n (max 0 (lv + a1 - a2.sum)) (k + 1) (by omega) (by omega) (by omega)
        refine ⟨lv', k', ?_, e2, ?_⟩
        · have c1 : (decide (lv > 0) && decide (k < a3)) = true := by simp [hl, hk]
          simp only [whileT, c1]
          simpa [shaftL] using e1
        · have c1 : decide (lv > 0) = true := by simp [hl]
          have c2 : ¬ k = a3 := by omega
          simp only [whileT, c1]
          simpa [shaftB, c2] using e3
      · have hk2 : k = a3 := by omega
        refine ⟨lv, k, ?_, h1, ?_⟩
        · have c1 : (decide (lv > 0) && decide (k < a3)) = false := by simp [hk]
          simp only [whileT, c1]
        · have c1 : decide (lv > 0) = true := by simp [hl]
          rw [if_neg (by omega)]
          simp only [whileT, c1]
          simp [shaftB, hk2]
    · have hz : lv = 0 := by omega
      subst hz
      refine ⟨0, k, ?_, h1, ?_⟩
      · simp [whileT]
      · simp [whileT]
theorem any_neg {ns : List Int} {c : Int} (h : ∀ m ∈ ns, c ≤ m) : (ns.any fun m => decide (m < c)) = false := by
  rw [List.any_eq_false]; intro m hm; have := h m hm; simp; omega
theorem shaft_eq {w a1 : Int} {a2 : List Int} {a3 : Int} (h1 : 0 ≤ w) (h2 : 0 ≤ a1) (h3 : 0 ≤ a3) (h4 : a3 < 100000) (hn : ∀ m ∈ a2, 0 ≤ m) :
    ∃ lv' k', (whileT (fun s => some (decide (s.2 > 0) && decide (s.1 < a3))) (shaftL a1 a2) 1000000 (0, w) : Stp Unit Bool Empty (Int × Int)) = .nx (k', lv') ∧ 0 ≤ lv' ∧
      T_shaft_dry w a1 a2 a3 = if lv' = 0 then .ok k' else .exn "NoWay" () := by
  obtain ⟨lv', k', e1, e2, e3⟩ := shaft_sim a1 a2 a3 1000000 w 0 h1 h3 (by omega)
  refine ⟨lv', k', e1, e2, ?_⟩
  have g1 : (decide (min (min w a1) a3 < 0) || a2.any fun y1 => decide (y1 < 0)) = false := by
    rw [any_neg hn, Bool.or_false]; simp; omega
  unfold T_shaft_dry B_shaft_dry
  simp only [g1, Bool.false_eq_true, if_false, Stp.seq_nx]
  have e4 : (whileT (fun s7 => some (decide (s7.1 > 0))) (fun s7 => if decide (s7.2 = a3) = true then (Stp.exn "NoWay" ()).lift else (Stp.nx (max 0 (s7.1 + a1 - a2.sum))).seq fun v9 => (Stp.nx (s7.2 + 1)).seq fun v10 => Stp.nx (v9, v10)) 1000000 (w, 0) : Stp Unit Int Empty (Int × Int)) = if lv' = 0 then .nx (0, k') else .exn "NoWay" () := e3
  simp only [Stp.seq_nx] at e4
  rw [e4]
  split <;> simp
/-! ### primed -/
theorem enumT_rng {α : Type} [Inhabited α] : ∀ (xs : List α) (k : Nat), enumT k xs = (List.range xs.length).map fun (j : Nat) => (((k + j : Nat) : Int), xs.getD j default)
  | [], k => rfl
  | x :: xs, k => by
    rw [enumT, enumT_rng xs (k + 1), List.length_cons, List.range_succ_eq_map, List.map_cons, List.map_map]
    congr 1
    apply List.map_congr_left
    intro j _
    show (((k + 1 + j : Nat) : Int), xs.getD j default) = (((k + (j + 1) : Nat) : Int), (x :: xs).getD (j + 1) default)
    rw [show k + 1 + j = k + (j + 1) from by omega]; simp
theorem pyIx_nat {α : Type} [Inhabited α] (xs : List α) (j : Nat) : pyIx xs (j : Int) = xs.getD j default := by
  unfold pyIx ixAt
  rw [if_neg (by omega)]; simp
theorem enum_rng {α : Type} [Inhabited α] (xs : List α) : enumT 0 xs = (rng (xs.length : Int)).map fun k => (k, pyIx xs k) := by
  rw [enumT_rng, rng_eq, List.map_map]
  apply List.map_congr_left
  intro j _
  simp [pyIx_nat]
theorem forT_map {α γ ξ ρ β σ : Type} (g : γ → α) (body : α → σ → Stp ξ ρ σ σ) : ∀ (xs : List γ) (s : σ), (forT body (xs.map g) s : Stp ξ ρ β σ) = forT (fun x => body (g x)) xs s
  | [], s => rfl
  | x :: xs, s => by
    simp only [List.map_cons, forT]
    cases body (g x) s <;> simp only [] <;> first | exact forT_map g body xs _ | rfl
def noway : PyData := enc ("no way" : Str)
def primeL {ξ ρ : Type} (ps : List Int) (leaks goal : Int) : Int → Int × PyData → Stp ξ ρ (Int × PyData) (Int × PyData) := fun y s =>
  grdS (inIx ps.length y) ((Stp.nx (max 0 (s.1 - leaks) + pyIx ps y)).seq fun v128 =>
    grdS (shpD s.2 noway) ((Stp.nx (if (s.2.eqv noway && decide (v128 ≥ goal)) = true then enc y else s.2)).seq fun v132 => Stp.nx (v128, v132)))
theorem shp_noway : SeqAt.shaped noway = true := shp_enc (α := Str) (by decide +kernel)
theorem shp_int (i : Int) : SeqAt.shaped (.int i) = true := shp_enc (α := Int) (lay_of i)
/-- once due is told, it stays -/
theorem prime_stay {ξ ρ : Type} (ps : List Int) (leaks goal : Int) (d : Int) : ∀ (xs : List Int) (l : Int), (∀ y ∈ xs, inIx ps.length y) → ∃ l', (forT (primeL ps leaks goal) xs (l, .int d) : Stp ξ ρ Empty (Int × PyData)) = .nx (l', .int d)
  | [], l, _ => ⟨l, rfl⟩
  | y :: ys, l, h => by
    obtain ⟨l', e⟩ := prime_stay (ξ := ξ) (ρ := ρ) ps leaks goal d ys (max 0 (l - leaks) + pyIx ps y) fun z hz => h z (by simp [hz])
    refine ⟨l', ?_⟩
    have g1 : shpD (.int d) noway := shpD_of (shp_int d) shp_noway
    have g2 : PyData.eqv (.int d) noway = false := rfl
    simp only [forT, primeL, grdS_pos (h y (by simp)), Stp.seq_nx, grdS_pos g1, g2, Bool.false_and, Bool.false_eq_true, if_false]
    exact e
theorem prime_sim {ξ ρ : Type} (ps : List Int) (leaks goal : Int) : ∀ (xs : List Int) (l : Int), (∀ y ∈ xs, inIx ps.length y) →
    ∃ l' due, (forT (primeL ps leaks goal) xs (l, noway) : Stp ξ ρ Empty (Int × PyData)) = .nx (l', due) ∧
      ((due = noway ∧ ∃ w, (forT (fun y s8 => (Stp.nx (max 0 (s8 - leaks) + pyIx ps y)).seq fun v11 => if decide (v11 ≥ goal) = true then Stp.rt y else Stp.nx v11) xs l : Stp Unit Int Empty Int) = .nx w) ∨
       ∃ k, due = .int k ∧ (forT (fun y s8 => (Stp.nx (max 0 (s8 - leaks) + pyIx ps y)).seq fun v11 => if decide (v11 ≥ goal) = true then Stp.rt y else Stp.nx v11) xs l : Stp Unit Int Empty Int) = .rt k)
  | [], l, _ => ⟨l, noway, rfl, .inl ⟨rfl, l, rfl⟩⟩
  | y :: ys, l, h => by
    have g1 : shpD noway noway := shpD_of shp_noway shp_noway
    have g2 : PyData.eqv noway noway = true := eqv_self ("no way" : Str)
    by_cases hc : goal ≤ max 0 (l - leaks) + pyIx ps y
    · obtain ⟨l', e⟩ := prime_stay (ξ := ξ) (ρ := ρ) ps leaks goal y ys (max 0 (l - leaks) + pyIx ps y) fun z hz => h z (by simp [hz])
      refine ⟨l', .int y, ?_, .inr ⟨y, rfl, ?_⟩⟩
      · have c : decide (max 0 (l - leaks) + pyIx ps y ≥ goal) = true := by simpa using hc
        simp only [forT, primeL, grdS_pos (h y (by simp)), Stp.seq_nx, grdS_pos g1, g2, Bool.true_and, c, if_true]
        exact e
      · have c : decide (max 0 (l - leaks) + pyIx ps y ≥ goal) = true := by simpa using hc
        simp only [forT, Stp.seq_nx, c, if_true]
    · obtain ⟨l', due, e1, e2⟩ := prime_sim (ξ := ξ) (ρ := ρ) ps leaks goal ys (max 0 (l - leaks) + pyIx ps y) fun z hz => h z (by simp [hz])
      have c : decide (max 0 (l - leaks) + pyIx ps y ≥ goal) = false := by simpa using hc
      refine ⟨l', due, ?_, ?_⟩
      · simp only [forT, primeL, grdS_pos (h y (by simp)), Stp.seq_nx, grdS_pos g1, g2, Bool.true_and, c, Bool.false_eq_true, if_false]
        exact e1
      · simp only [forT, Stp.seq_nx, c, Bool.false_eq_true, if_false]
        exact e2
theorem in_rng {n : Nat} {y : Int} (h : y ∈ rng (n : Int)) : inIx n y := by
  rw [mem_rng] at h
  unfold inIx; omega
theorem primed_eq {ξ ρ : Type} {ps : List Int} {leaks goal : Int} (h1 : 0 ≤ leaks) (h2 : 0 < goal) (hp : ∀ m ∈ ps, 0 ≤ m) :
    ∃ l' due, (forT (primeL ps leaks goal) (rng (ps.length : Int)) (0, noway) : Stp ξ ρ Empty (Int × PyData)) = .nx (l', due) ∧
      ((due = noway ∧ T_primed ps leaks goal = .exn "NoWay" ()) ∨ ∃ k, due = .int k ∧ T_primed ps leaks goal = .ok k) := by
  obtain ⟨l', due, e1, e2⟩ := prime_sim (ξ := ξ) (ρ := ρ) ps leaks goal (rng (ps.length : Int)) 0 fun y hy => in_rng hy
  refine ⟨l', due, e1, ?_⟩
  have g1 : (decide (leaks < 0) || (decide (goal < 1) || ps.any fun y1 => decide (y1 < 0))) = false := by
    rw [any_neg hp, Bool.or_false]; simp; omega
  unfold T_primed B_primed
  simp only [g1, Bool.false_eq_true, if_false]
  rw [Stp.seq_nx, enum_rng, forT_map]
  rcases e2 with ⟨d, w, e⟩ | ⟨k, d, e⟩
  · refine .inl ⟨d, ?_⟩
    simp only [Stp.seq_nx] at e ⊢
    rw [e]; rfl
  · refine .inr ⟨k, d, ?_⟩
    simp only [Stp.seq_nx] at e ⊢
    rw [e]; rfl
end K04
end

section
set_option linter.all false
set_option maxRecDepth 100000
set_option maxHeartbeats 2000000
set_option autoImplicit false
namespace K04
open PySem L2 TL TY
open Enc (enc)
/-! ### ranges -/
theorem divmod {a b q r : Int} (hb : 0 < b) (h : r + b * q = a) (h0 : 0 ≤ r) (h1 : r < b) : a / b = q ∧ a % b = r := (Int.ediv_emod_unique hb).mpr ⟨h, h0, h1⟩
theorem size_eq {h l q r : Int} (hl : 0 < l) (hh : 0 ≤ h) (e : r + l * q = h) (h0 : 0 ≤ r) (h1 : r < l) : Builtin.Range.rangeSize 0 h l = q + if r = 0 then 0 else 1 := by
  unfold Builtin.Range.rangeSize
  rw [if_pos hl]
  by_cases hr : r = 0
  · subst hr
    by_cases hz : 0 < h
    · rw [if_pos hz]
      have := (divmod (a := h - 0 - 1) (q := q - 1) (r := l - 1) hl (by rw [Int.mul_sub]; omega) (by omega) (by omega)).1
      rw [this]; simp
    · rw [if_neg hz]
      have h2 : l * q = 0 := by omega
      have h3 : q = 0 := by
        rcases Int.mul_eq_zero.mp h2 with h3 | h3
        · omega
        · exact h3
      simp [h3]
  · have hq : 0 ≤ q := by
      rcases (show q < 0 ∨ 0 ≤ q from by omega) with h5 | h5
      · have : l * q ≤ l * (-1) := Int.mul_le_mul_of_nonneg_left (by omega) (by omega)
        omega
      · exact h5
    have : 0 ≤ l * q := Int.mul_nonneg (by omega) hq
    rw [if_pos (by omega), if_neg hr]
    have := (divmod (a := h - 0 - 1) (q := q) (r := r - 1) hl (by omega) (by omega) (by omega)).1
    rw [this]
theorem dm (h l : Int) (hl : 0 < l) : h % l + l * (h / l) = h ∧ 0 ≤ h % l ∧ h % l < l := ⟨Int.emod_add_mul_ediv h l, Int.emod_nonneg _ (by omega), Int.emod_lt_of_pos _ hl⟩
theorem strokes_size {need s : Int} (hs : 0 < s) (hn : 0 ≤ need) : 0 - (0 - need) / s = Builtin.Range.rangeSize 0 need s := by
  obtain ⟨e, h0, h1⟩ := dm need s hs
  rw [size_eq hs hn e h0 h1]
  generalize need % s = r at *
  generalize need / s = q at *
  by_cases hr : r = 0
  · have := (divmod (a := 0 - need) (q := -q) (r := 0) hs (by rw [Int.mul_neg]; omega) (by omega) (by omega)).1
    rw [this, if_pos hr]; omega
  · have := (divmod (a := 0 - need) (q := -q - 1) (r := s - r) hs (by rw [Int.mul_sub, Int.mul_neg]; omega) (by omega) (by omega)).1
    rw [this, if_neg hr]; omega
theorem size_le {h l : Int} (hl : 0 < l) (hh : 0 ≤ h) : 0 ≤ Builtin.Range.rangeSize 0 h l ∧ Builtin.Range.rangeSize 0 h l ≤ h := by
  obtain ⟨e, h0, h1⟩ := dm h l hl
  rw [size_eq hl hh e h0 h1]
  have hq : 0 ≤ h / l := Int.ediv_nonneg hh (by omega)
  have h3 : 1 * (h / l) ≤ l * (h / l) := Int.mul_le_mul_of_nonneg_right (by omega) hq
  split <;> omega
theorem rng3_len {i j k : Int} : (rng3 i j k).length = (Builtin.Range.rangeSize i j k).toNat := by simp [rng3]
theorem strokes_len {need s : Int} (hs : 0 < s) (hn : 0 ≤ need) : 0 - (0 - need) / s = ((rng3 0 need s).length : Int) := by
  have := (size_le hs hn).1
  rw [rng3_len, strokes_size hs hn]; omega
theorem small3 {i j k : Int} (h1 : 0 ≤ i ∧ i < 100000) (h2 : 0 ≤ j ∧ j < 100000) (h3 : 0 < k ∧ k < 100000) : ok3 i j k := by
  refine ⟨by omega, by omega, ?_⟩
  unfold Builtin.Range.small
  simp only [Builtin.Range.rangeFitsLong, Bool.and_eq_true, decide_eq_true_eq, Bool.or_eq_true]
  have h4 : 0 ≤ Builtin.Range.rangeSize i j k ∧ Builtin.Range.rangeSize i j k ≤ 200000 := by
    unfold Builtin.Range.rangeSize
    rw [if_pos h3.1]
    split
    · have := Int.ediv_le_self (a := j - i - 1) k (by omega)
      have := Int.ediv_nonneg (a := j - i - 1) (b := k) (by omega) (by omega)
      omega
    · omega
  refine ⟨⟨⟨⟨?_, ?_⟩, ?_⟩, ?_⟩, .inr ?_⟩
  all_goals first | (rw [if_pos (by omega)]; simp; omega) | omega | (constructor <;> omega)
theorem rng3_succ (lo c : Int) (n : Nat) : (List.range (n + 1)).map (fun (q : Nat) => lo + (q : Int) * c) = (List.range n).map (fun (q : Nat) => lo + (q : Int) * c) ++ [lo + (n : Int) * c] := by simp [List.range_succ]
/-- the stages are the heights that the lift divides -/
theorem stages_law {l : Int} (hl : 0 < l) : ∀ h : Nat, rng3 0 (h : Int) l = (rng (h : Int)).filter fun k => decide (k % l = 0)
  | 0 => by simp [rng3, rng, Builtin.Range.rangeSize]
  | h + 1 => by
    obtain ⟨e, h0, h1⟩ := dm h l hl
    have ih := stages_law hl h
    unfold rng3 at ih ⊢
    rw [size_eq hl (by omega) e h0 h1] at ih
    have hq : 0 ≤ (h : Int) / l := Int.ediv_nonneg (by omega) (by omega)
    rw [rng_succ, List.filter_append, ← ih]
    by_cases hr : (h : Int) % l = 0
    · have e2 : Builtin.Range.rangeSize 0 ((h + 1 : Nat) : Int) l = (h : Int) / l + 1 := by
        by_cases h2 : l = 1
        · rw [size_eq (q := (h : Int) / l + 1) (r := 0) hl (by omega) (by rw [Int.mul_add]; omega) (by omega) (by omega)]; simp
        · rw [size_eq (q := (h : Int) / l) (r := 1) hl (by omega) (by omega) (by omega) (by omega)]; simp
      rw [e2, show ((h : Int) / l + 1).toNat = ((h : Int) / l).toNat + 1 from by omega, rng3_succ]
      simp [hr]
      rw [show max ((h : Int) / l) 0 = (h : Int) / l from by omega, Int.mul_comm]; omega
    · have e2 : Builtin.Range.rangeSize 0 ((h + 1 : Nat) : Int) l = (h : Int) / l + 1 := by
        by_cases h2 : (h : Int) % l + 1 = l
        · rw [size_eq (q := (h : Int) / l + 1) (r := 0) hl (by omega) (by rw [Int.mul_add]; omega) (by omega) (by omega)]; simp
        · rw [size_eq (q := (h : Int) / l) (r := (h : Int) % l + 1) hl (by omega) (by omega) (by omega) (by omega), if_neg (by omega)]
      rw [e2]
      simp [hr]
theorem stages_ok {high lift : Int} (hl : 0 < lift ∧ lift < 1000) (hh : 0 ≤ high ∧ high < 1000) : T_stages high lift = .ok ⟨(rng high).filter fun k => decide (k % lift = 0)⟩ := by
  obtain ⟨n, rfl⟩ : ∃ n : Nat, high = n := ⟨high.toNat, by omega⟩
  have g1 : (decide ((n : Int) < 0) || decide (lift < 1)) = false := by simp; omega
  have g2 : ok3 0 (n : Int) lift ∧ (Builtin.Range.rangeSize 0 (n : Int) lift).toNat ≤ lineN := ⟨small3 (by omega) (by omega) (by omega), le_line (by have := (size_le hl.1 hh.1).2; omega)⟩
  rw [← stages_law hl.1 n]
  unfold T_stages B_stages
  simp only [g1, Bool.false_eq_true, if_false, grdS_pos g2, Stp.fin_rt]
theorem wheel_size {w c : Int} (hc : 0 < c) (hw : 0 ≤ w) : Builtin.Range.rangeSize c (w + 1) c = w / c := by
  unfold Builtin.Range.rangeSize
  rw [if_pos hc]
  obtain ⟨e, h0, h1⟩ := dm w c hc
  split
  · rename_i h
    have := (divmod (a := w + 1 - c - 1) (q := w / c - 1) (r := w % c) hc (by rw [Int.mul_sub]; omega) h0 h1).1
    rw [this]; omega
  · rename_i h
    have := (divmod (a := w) (q := 0) (r := w) hc (by simp) hw (by omega)).1
    rw [this]
theorem wheel_eq {wheel turns : Int} {ns : List Int} (h1 : 0 < wheel ∧ wheel < 1000) (h2 : 0 ≤ turns ∧ turns < 1000) (hn : ∀ m ∈ ns, 1 ≤ m ∧ m < 1000) (hl : ns.length ≤ 1000) :
    T_wheel_pumps (wheel, ns) turns = .ok ⟨ns.map fun t => ((rng3 t (wheel * turns + 1) t).length : Int)⟩ := by
  have g1 : (decide (wheel < 1) || (decide (turns < 0) || ns.any fun y2 => decide (y2 < 1))) = false := by
    rw [any_neg fun m hm => (hn m hm).1, Bool.or_false]; simp; omega
  have g2 : (∀ y8 ∈ ns, (wideI wheel || wideI turns) = true ∧ 0 < y8 ∧ y8 < 1073741824) ∧ ns.length ≤ lineN := by
    refine ⟨fun y hy => ⟨?_, by have := hn y hy; omega⟩, le_line (by omega)⟩
    have : wideI wheel = true := by simp [wideI]; omega
    rw [this]; rfl
  unfold T_wheel_pumps B_wheel_pumps
  simp only [Stp.seq_nx, g1, Bool.false_eq_true, if_false]
  rw [grdS_pos g2]
  simp only [Stp.fin_rt]
  congr 2
  apply List.map_congr_left
  intro t ht
  have h3 := hn t ht
  have hw : 0 ≤ wheel * turns := Int.mul_nonneg (by omega) (by omega)
  rw [rng3_len, wheel_size (by omega) hw]
  have := Int.ediv_nonneg hw (show 0 ≤ t by omega)
  omega
end K04
end

section
set_option linter.all false
set_option maxRecDepth 100000
set_option maxHeartbeats 2000000
set_option autoImplicit false
namespace K04
open PySem L2 TL TY
open Enc (enc)
def kf (ns : List Int) : Int → Int × Int := fun k => (0 - pyIx ns k, k)
def ord (ns : List Int) : List Int := srtK false (kf ns) (rng (ns.length : Int))
def PS (ns : List Int) (k : Nat) : Int := (((ord ns).take k).map fun i => pyIx ns i).sum
theorem ord_len (ns : List Int) : (ord ns).length = ns.length := by simp [ord, srtK_len, rng_len]
theorem ord_in {ns : List Int} {i : Int} (h : i ∈ ord ns) : inIx ns.length i := in_rng (mem_srtK.mp h)
/-- the least count that meets a need -/
def Least (ns : List Int) (want : Int) (k : Nat) : Prop := k ≤ ns.length ∧ (∀ i, i < k → PS ns i < want) ∧ (want ≤ PS ns k ∨ k = ns.length)
theorem PS_succ {ns : List Int} {k : Nat} {i : Int} (h : (ord ns)[k]? = some i) : PS ns (k + 1) = PS ns k + pyIx ns i := by
  unfold PS; rw [List.take_succ, h]; simp
def fewB (a0 : List Int) (a1 : Int) : Int → List Int × Int → Stp Unit (Tup Int) (List Int × Int) (List Int × Int) := fun y17 s16 =>
  if decide (s16.2 ≥ a1) = true then (Stp.bk (s16.1, s16.2)).lift
  else (grd (s16.1.length < lineN) (Out.ok (s16.1 ++ [y17]))).stp.seq fun s20 => grdS (inIx a0.length y17) ((Stp.nx (s16.2 + pyIx a0 y17)).seq fun v22 => Stp.nx (s20, v22))
theorem few_loop {ns : List Int} {want : Int} (hl : ns.length ≤ 1000) : ∀ (suf : List Int) (j : Nat), (ord ns).drop j = suf → j ≤ ns.length → (∀ i, i < j → PS ns i < want) →
    ∃ k, Least ns want k ∧ (forT (fewB ns want) suf ((ord ns).take j, PS ns j) : Stp Unit (Tup Int) Empty (List Int × Int)) = .nx ((ord ns).take k, PS ns k)
  | [], j, hd, hj, hp => by
    have : (ord ns).length ≤ j := by simpa using hd
    rw [ord_len] at this
    exact ⟨j, ⟨hj, hp, .inr (by omega)⟩, rfl⟩
  | y :: suf, j, hd, hj, hp => by
    have hjl : j < (ord ns).length := by
      rcases Nat.lt_or_ge j (ord ns).length with q | q
      · exact q
      · rw [List.drop_eq_nil_of_le q] at hd; cases hd
    have hy : (ord ns)[j]? = some y := by
      have := congrArg List.head? hd
      rw [List.head?_drop] at this
      exact this
    by_cases hc : want ≤ PS ns j
    · refine ⟨j, ⟨hj, hp, .inl hc⟩, ?_⟩
      have c : decide (PS ns j ≥ want) = true := by simpa using hc
      simp only [forT, fewB, c, if_true, Stp.lift_bk]
    · have hd2 : (ord ns).drop (j + 1) = suf := by
        rw [← List.drop_drop, hd]; rfl
      obtain ⟨k, h1, h2⟩ := few_loop (want := want) hl suf (j + 1) hd2 (by rw [ord_len] at hjl; omega) fun i hi => by
        rcases Nat.lt_succ_iff_lt_or_eq.mp hi with q | rfl
        · exact hp i q
        · omega
      refine ⟨k, h1, ?_⟩
      rw [← h2]
      have c : decide (PS ns j ≥ want) = false := by simpa using hc
      have g1 : ((ord ns).take j).length < lineN := by
        have : (100000 : Nat) < lineN := by unfold lineN; omega
        rw [List.length_take, ord_len]; omega
      have g2 := ord_in (List.mem_of_getElem? hy)
      simp only [forT, fewB, c, Bool.false_eq_true, if_false, grd_pos g1, Out.stp_ok, Stp.seq_nx, grdS_pos g2, PS_succ hy]
      rw [List.take_succ, hy]; rfl
theorem PS_0 (ns : List Int) : PS ns 0 = 0 := by simp [PS]
theorem few_eq {ns : List Int} {want : Int} (hl : ns.length ≤ 1000) (hn : ∀ m ∈ ns, 0 ≤ m) (hw : 0 ≤ want) :
    ∃ k, Least ns want k ∧ T_fewest_pumps ns want = if PS ns k < want then .exn "NoWay" () else .ok ⟨srt ((ord ns).take k)⟩ := by
  obtain ⟨k, h1, h2⟩ := few_loop (want := want) hl (ord ns) 0 rfl (Nat.zero_le _) (fun i h => absurd h (Nat.not_lt_zero i))
  refine ⟨k, h1, ?_⟩
  rw [PS_0, List.take_zero] at h2
  have g1 : (decide (want < 0) || ns.any fun y1 => decide (y1 < 0)) = false := by
    rw [any_neg hn, Bool.or_false]; simp; omega
  have g2 : (small (ns.length : Int) ∧ ((ns.length : Int)).toNat ≤ lineN) ∧ (∀ y10 ∈ rng (ns.length : Int), inIx ns.length y10) ∧ sortOk (List.map (fun y10 => enc ((0 - pyIx ns y10, y10) : Int × Int)) (rng (ns.length : Int))) = true ∧ (rng (ns.length : Int)).length ≤ lineN := by
    refine ⟨⟨small_of (by omega) (by omega), le_line (by omega)⟩, fun y hy => in_rng hy, ?_, le_line (by rw [rng_len]; omega)⟩
    have := sort_ok (α := Int × Int) (xs := (rng (ns.length : Int)).map (kf ns)) (le_line (by rw [List.length_map, rng_len]; omega))
    rw [List.map_map] at this
    exact this
  have g3 : sortOk (((ord ns).take k).map enc) = true := sort_ok (le_line (by rw [List.length_take, ord_len]; omega))
  unfold T_fewest_pumps B_fewest_pumps
  rw [if_neg (by rw [g1]; decide)]
  rw [Out.bind_ok, Out.bind_ok, Out.stp_ok, Stp.seq_nx]
  rw [grdS_pos g2]
  have e : ∀ f : List Int × Int → Stp Unit (Tup Int) Empty Empty, ((forT (fewB ns want) (srtK false (fun y10 => (0 - pyIx ns y10, y10)) (rng (ns.length : Int))) ([], 0) : Stp Unit (Tup Int) Empty (List Int × Int)).seq f) = f ((ord ns).take k, PS ns k) := fun f => by
    rw [show (forT (fewB ns want) (srtK false (fun y10 => (0 - pyIx ns y10, y10)) (rng (ns.length : Int))) ([], 0) : Stp Unit (Tup Int) Empty (List Int × Int)) = .nx ((ord ns).take k, PS ns k) from h2]
    rfl
  refine Eq.trans (congrArg (fun t => Stp.fin t Empty.elim) (e _)) ?_
  by_cases hc : PS ns k < want
  · rw [if_pos hc]
    simp only [hc, decide_true, if_true]; rfl
  · rw [if_neg hc]
    simp only [hc, decide_false, Bool.false_eq_true, if_false]
    rw [grdS_pos g3]; rfl
/-- the law's order -/
theorem ord_law (ns : List Int) : (srt ((rng (ns.length : Int)).map fun y3 => ((0 - pyIx ns y3, y3) : Int × Int))).map (fun y10 => y10.2) = ord ns := by
  have : (fun y3 => ((0 - pyIx ns y3, y3) : Int × Int)) = kf ns := rfl
  rw [this, srt_map, List.map_map]
  have e : ((fun y10 : Int × Int => y10.2) ∘ kf ns) = id := by funext k; rfl
  rw [e, List.map_id]; rfl
/-- the counts that fit -/
def fits (ns : List Int) (want : Int) : List Int := (rng ((ord ns).length + 1 : Int)).filter fun y16 => decide (((cutL (ord ns) none (some y16)).map fun y18 => pyIx ns y18).sum ≥ want)
theorem fits_least {ns : List Int} {want : Int} {k : Nat} (h : Least ns want k) : (PS ns k < want → fits ns want = []) ∧ (¬ PS ns k < want → ∃ r, fits ns want = (k : Int) :: r) := by
  obtain ⟨h1, h2, h3⟩ := h
  have e : ∀ i : Nat, (decide (((cutL (ord ns) none (some (i : Int))).map fun y18 => pyIx ns y18).sum ≥ want)) = decide (want ≤ PS ns i) := fun i => by
    rw [cut_take _ (by omega), Int.toNat_natCast]; rfl
  unfold fits
  rw [ord_len, show ((ns.length : Int) + 1) = ((ns.length + 1 : Nat) : Int) from by omega]
  constructor
  · intro hlt
    have hk : k = ns.length := by rcases h3 with q | q <;> omega
    refine filter_none fun i hi => ?_
    rw [e]
    rcases Nat.lt_or_ge i k with q | q
    · have := h2 i q; simp; omega
    · have : i = k := by omega
      subst this; simp; omega
  · intro hge
    refine filter_first (by omega) ?_ fun i hi => ?_
    · rw [e]; simp; omega
    · rw [e]; have := h2 i hi; simp; omega
/-! ### rows -/
theorem row_eq {ns : List Int} (hl : ns.length ≤ 1000) : T_row_gives ns = .ok (minD ns 0) := by
  have g : ns.length ≤ lineN := le_line (by omega)
  simp [T_row_gives, B_row_gives, grdS_pos g]
theorem foldl_min : ∀ (ns : List Int) (a : Int), (∀ m ∈ ns, ns.foldl min a ≤ m) ∧ ns.foldl min a ≤ a ∧ (ns.foldl min a = a ∨ ns.foldl min a ∈ ns)
  | [], a => ⟨by simp, by simp, .inl rfl⟩
  | n :: ns, a => by
    obtain ⟨h1, h2, h3⟩ := foldl_min ns (min a n)
    simp only [List.foldl_cons]
    refine ⟨fun m hm => ?_, by omega, ?_⟩
    · rcases List.mem_cons.mp hm with rfl | q
      · omega
      · exact h1 m q
    · rcases h3 with q | q
      · rcases (show min a n = a ∨ min a n = n from by omega) with z | z
        · exact .inl (q.trans z)
        · exact .inr (by rw [q, z]; simp)
      · exact .inr (by simp [q])
theorem minD_of {ns : List Int} {a : Int} (h1 : a ∈ ns) (h2 : ∀ m ∈ ns, a ≤ m) : minD ns 0 = a := by
  cases ns with
  | nil => cases h1
  | cons n ns =>
    obtain ⟨g1, g2, g3⟩ := foldl_min ns n
    show ns.foldl min n = a
    have ha : a ≤ ns.foldl min n := by
      rcases g3 with q | q
      · rw [q]; exact h2 n (by simp)
      · exact h2 _ (by simp [q])
    have hb : ns.foldl min n ≤ a := by
      rcases List.mem_cons.mp h1 with rfl | q
      · exact g2
      · exact g1 a q
    omega
theorem srt_int_le (ns : List Int) : (srt ns).Pairwise fun a b => a ≤ b := by
  have e : ∀ a b : Int, PySem.W.dataLe false id (enc (id a)) (enc (id b)) = decide (a ≤ b) := fun a b => congrFun (congrFun (PySem.W.dataLe_int (β := Int) fun k => k) a) b
  have := List.pairwise_mergeSort (le := fun a b : Int => decide (a ≤ b)) (fun a b c h1 h2 => by simp at *; omega) (fun a b => by simp; omega) ns
  unfold srt srtK
  simp only [e]
  exact this.imp fun h => by simpa using h
theorem row_law {ns : List Int} (h : ns ≠ []) : minD ns 0 = pyIx (srt ns) 0 := by
  cases hs : srt ns with
  | nil => have := srt_len ns; rw [hs] at this; cases ns with
    | nil => exact absurd rfl h
    | cons _ _ => cases this
  | cons a r =>
    rw [pyIx0]
    have hp := srt_int_le ns
    rw [hs, List.pairwise_cons] at hp
    refine minD_of (mem_srt.mp (by rw [hs]; simp)) fun m hm => ?_
    have : m ∈ srt ns := mem_srt.mpr hm
    rw [hs] at this
    rcases List.mem_cons.mp this with rfl | q
    · exact Int.le_refl _
    · exact hp.1 m q
end K04
end

section
set_option linter.all false
set_option maxRecDepth 100000
set_option maxHeartbeats 2000000
set_option autoImplicit false
namespace K04
open PySem L2 TL TY
open Enc (enc)
theorem lay_list {α : Type} [Enc α] {xs : List α} (h : ∀ x ∈ xs, layP x) : layP xs := by
  have key : ∀ xs : List α, (∀ x ∈ xs, layP x) → PyData.canLayAll0 (xs.map enc) = true := by
    intro xs
    induction xs with
    | nil => intro _; rfl
    | cons x xs ih =>
      intro h
      have h1 : (enc x).canLay0 = true := h x (by simp)
      simp [PyData.canLayAll0, h1, ih fun y hy => h y (by simp [hy])]
  show (PyData.list (xs.map enc)).canLay0 = true
  simp only [PyData.canLay0]; exact key xs h
theorem flat_eq {rows : List (List Str)} (h : rows.flatten.length ≤ 100000) : T_law_flat rows = .ok rows.flatten := by
  have key : ∀ (xs : List (List Str)) (s : List Str), s.length + xs.flatten.length ≤ 100000 → (forT (fun (y : List Str) (s : List Str) => grdS (s.length + y.length ≤ lineN) ((Stp.nx (s ++ y)).seq fun v => Stp.nx v)) xs s : Stp Unit (List Str) Empty (List Str)) = .nx (s ++ xs.flatten) := by
    intro xs
    induction xs with
    | nil => intro s _; simp [forT]
    | cons x xs ih =>
      intro s hs
      simp only [List.flatten_cons, List.length_append] at hs
      have g : s.length + x.length ≤ lineN := le_line (by omega)
      simp only [forT, grdS_pos g, Stp.seq_nx]
      have := ih (s ++ x) (by rw [List.length_append]; omega)
      simp only [Stp.seq_nx] at this
      rw [this, List.flatten_cons, List.append_assoc]
  have := key rows [] (by simpa using h)
  simp only [Stp.seq_nx] at this
  unfold T_law_flat B_law_flat
  simp only [Stp.seq_nx]
  simp only [this, Stp.seq_nx, Stp.fin_rt, List.nil_append]
theorem shifts_eq {hours each : Int} {hands : List Str} (h1 : 0 ≤ hours ∧ hours ≤ 1000) (h2 : 1 ≤ each ∧ each ≤ 1000) (hl : hands.length ≤ 100) (hy : ∀ x ∈ hands, layP x) :
    T_shifts hours hands each = if srt hands = [] then .exn "BadPlan" () else .ok ⟨(rng hours).map fun h => pyIx (srt hands) (h / each % ((srt hands).length : Int))⟩ := by
  have g1 : (decide (hours < 0) || decide (each < 1)) = false := by simp; omega
  have g2 : sortOk (hands.map enc) = true := sort_ok (le_line (by omega))
  have g3 : layP (srt hands) ∧ layP ([] : List Str) := ⟨lay_list fun x hx => hy x (mem_srt.mp hx), lay_list (by simp)⟩
  unfold T_shifts B_shifts
  rw [if_neg (by rw [g1]; decide), grdS_pos g2, Stp.seq_nx, grdS_pos g3]
  by_cases hz : srt hands = []
  · simp [hz]
  · have g4 : small hours ∧ (∀ y8 ∈ rng hours, (0 < each ∧ each < 1073741824) ∧ 0 < ((srt hands).length : Int) ∧ inIx (srt hands).length (y8 / each % ((srt hands).length : Int))) ∧ (rng hours).length ≤ lineN := by
      have hp : 0 < (srt hands).length := List.length_pos_iff.mpr hz
      refine ⟨small_of (by omega) (by omega), fun y _ => ⟨by omega, by omega, ?_⟩, le_line (by rw [rng_len]; omega)⟩
      have a := Int.emod_nonneg (y / each) (show ((srt hands).length : Int) ≠ 0 by omega)
      have b := Int.emod_lt_of_pos (y / each) (show 0 < ((srt hands).length : Int) by omega)
      unfold inIx; omega
    rw [if_neg hz, if_neg (by simp [hz]), grdS_pos g4]; rfl
def blk (names : List Str) (each : Int) : List Str := (names.map fun y54 => (rng each).map fun _ => y54).flatten
theorem line_12 {names : List Str} {each : Int} (h1 : 0 < names.length ∧ names.length ≤ 3) (h2 : 1 ≤ each ∧ each ≤ 4) : ((List.replicate 12 (blk names each)).flatten).take 12 = (rng 12).map fun h => pyIx names (h / each % (names.length : Int)) := by
  have he : each = 1 ∨ each = 2 ∨ each = 3 ∨ each = 4 := by omega
  match names, h1 with
  | [a], _ => rcases he with rfl | rfl | rfl | rfl <;> simp [blk, rng, pyIx, ixAt, List.range, List.range.loop, List.replicate]
  | [a, b], _ => rcases he with rfl | rfl | rfl | rfl <;> simp [blk, rng, pyIx, ixAt, List.range, List.range.loop, List.replicate]
  | [a, b, c], _ => rcases he with rfl | rfl | rfl | rfl <;> simp [blk, rng, pyIx, ixAt, List.range, List.range.loop, List.replicate]
theorem line_eq {names : List Str} {each hours : Int} (h1 : 0 < names.length ∧ names.length ≤ 3) (h2 : 1 ≤ each ∧ each ≤ 4) (h3 : 0 ≤ hours ∧ hours < 12) :
    cutL ((List.replicate 12 (blk names each)).flatten) none (some hours) = (rng hours).map fun h => pyIx names (h / each % (names.length : Int)) := by
  rw [cut_take _ h3.1]
  have := congrArg (List.take hours.toNat) (line_12 h1 h2)
  rw [List.take_take, show min hours.toNat 12 = hours.toNat from by omega, ← List.map_take] at this
  rw [this]
  congr 1
  unfold rng
  rw [← List.map_take, List.take_range, show min hours.toNat (12 : Int).toNat = hours.toNat from by omega]
theorem forT_app {ξ ρ β α γ : Type} {bl : List α} : ∀ (xs : List γ) (s : List α) (P : List α → Prop) (body : γ → List α → Stp ξ ρ (List α) (List α)), (∀ x s, s.length ≤ 1000000 → body x s = .nx (s ++ bl)) → s.length + xs.length * bl.length ≤ 1000000 →
    (forT body xs s : Stp ξ ρ β (List α)) = .nx (s ++ (List.replicate xs.length bl).flatten)
  | [], s, P, body, h, hl => by simp [forT]
  | x :: xs, s, P, body, h, hl => by
    rw [List.length_cons, Nat.add_mul, Nat.one_mul] at hl
    simp only [forT, h x s (by omega)]
    rw [forT_app xs (s ++ bl) P body h (by rw [List.length_append]; omega)]
    simp [List.replicate_succ, List.append_assoc]
theorem blk_len (names : List Str) (each : Int) : (blk names each).length = names.length * each.toNat := by
  unfold blk
  induction names with
  | nil => simp
  | cons n ns ih => simp only [List.map_cons, List.flatten_cons, List.length_append, List.length_map, rng_len, List.length_cons, Nat.add_mul, Nat.one_mul]; omega
/-! ### refusals -/
theorem c_shaft : T_shaft_dry 1 1 [0 - 1] 1 = .exn "BadSize" () := by rfl
theorem c_few : T_fewest_pumps [] (0 - 1) = .exn "BadSize" () := by rfl
theorem c_shifts : T_shifts 1 [] 0 = .exn "BadSize" () := by rfl
theorem c_wheel : T_wheel_pumps (0, []) 1 = .exn "BadSize" () := by rfl
theorem c_primed : T_primed [] 0 0 = .exn "BadSize" () := by rfl
theorem c_init : T_pump_init 0 1 1 = .exn "BadPlan" () := by rfl
theorem c_stages : T_stages 1 0 = .exn "BadSize" () := by rfl
theorem c_strokes (p : R_Pump) : T_pump_strokes_for p (0 - 1) = .exn "BadSize" () := by rfl
theorem shp_str {s : Str} (h : layP s) : SeqAt.shaped (.str s) = true := shp_enc (α := Str) h
theorem chkS {s : Str} (h : layP s) : shpD (.str s) (enc s) ∧ PyData.eqv (.str s) (enc s) = true := chk (α := Str) (a := s) rfl rfl h
theorem l_size : layP ("size" : Str) := by decide +kernel
theorem l_plan : layP ("plan" : Str) := by decide +kernel
theorem l_noway : layP ("no way" : Str) := by decide +kernel
theorem l_deed : layP ("deed" : Str) := by decide +kernel
theorem t_size : toldT.lookup ("BadSize" : Str) = some ("size" : Str) := by decide +kernel
theorem t_plan : toldT.lookup ("BadPlan" : Str) = some ("plan" : Str) := by decide +kernel
theorem t_noway : toldT.lookup ("NoWay" : Str) = some ("no way" : Str) := by decide +kernel
theorem t_deed : toldT.lookup ("BadDeed" : Str) = some ("deed" : Str) := by decide +kernel
theorem cases1 : T_law_cases1 = .ok true := by
  have a := (chkS l_size).1
  have b := (chkS l_size).2
  simp only [T_law_cases1, B_law_cases1, c_shaft, c_few, c_shifts, c_wheel, c_primed, Out.mapx_exn, toldX_exn, t_size, Out.bind_ok, grd_pos a, Out.stp_ok, Stp.seq_nx, b, Bool.not_true, Bool.false_eq_true, if_false, Stp.fin_rt]
end K04
end

section
set_option linter.all false
set_option maxRecDepth 100000
set_option maxHeartbeats 2000000
set_option autoImplicit false
namespace K04
open PySem L2 TL TY
open Enc (enc)
theorem rest1 (d : Dice) (p : R_Pump) (ns : List Int) (hn : ∀ m ∈ ns, 0 ≤ m) (hl : ns.length ≤ 10) : wpO (T_law_rest1 d p ns) (fun r => r.1 = true) := by
  unfold T_law_rest1
  refine wpO_fin ?_
  unfold B_law_rest1
  simp only [ord_law, wpS_seq, wpS_stp, wpS_nx, wpS_rt, wpS_lift, wpS_ite, wpS_grd, wpO_ok, wpO_bind, wpO_grd, wpO_mapx]
  refine wpO_roll (by decide) fun want d1 hw1 hw2 => ?_
  dsimp only
  have hlen : (rng (ns.length : Int)).length = ns.length := by rw [rng_len]; omega
  refine ⟨⟨small_of (by omega) (by omega), fun y hy => in_rng hy, le_line (by omega), ?_, ?_⟩, ⟨small_of (by rw [ord_len]; omega) (by rw [ord_len]; omega), fun y hy => ⟨fun z hz => ?_, le_line ?_⟩, le_line ?_⟩, ?_⟩
  · exact sort_ok (α := Int × Int) (le_line (by rw [List.length_map]; omega))
  · rw [srt_len, List.length_map]; exact le_line (by omega)
  · have := (mem_rng.mp hy).1
    rw [cut_take _ this] at hz
    exact ord_in (List.mem_of_mem_take hz)
  · have := (mem_rng.mp hy).1
    rw [cut_take _ this, List.length_take, ord_len]; omega
  · rw [rng_len, ord_len]; omega
  have ef : (List.map (fun y16 => y16) (List.filter (fun y16 => decide ((List.map (fun y18 => pyIx ns y18) (cutL (ord ns) none (some y16))).sum ≥ want)) (rng ((ord ns).length + 1 : Int)))) = fits ns want := by
    rw [List.map_id']; rfl
  simp only [ef]
  obtain ⟨k, hk, e⟩ := few_eq (want := want) (by omega : ns.length ≤ 1000) hn hw1
  obtain ⟨f1, f2⟩ := fits_least hk
  -- what is told of the fewest
  refine wpO_mono (P := fun s28 => s28 = (if PS ns k < want then (enc ("no way" : Str), ()) else (enc (srt ((ord ns).take k)), ()))) ?_ ?_
  · rw [e]
    by_cases hc : PS ns k < want
    · simp only [if_pos hc, Out.mapx_exn, toldX_exn, t_noway, wpO_ok]; rfl
    · simp only [if_neg hc, Out.mapx_ok, toldX_ok, wpO_ok]
  rintro s28 rfl
  have hdue : (if (!decide (fits ns want = [])) = true then (enc (srt (cutL (ord ns) none (some (pyIx (fits ns want) 0)))) : PyData) else enc ("no way" : Str)) = (if PS ns k < want then enc ("no way" : Str) else enc (srt ((ord ns).take k))) := by
    by_cases hc : PS ns k < want
    · rw [f1 hc, if_pos hc]; rfl
    · obtain ⟨r, er⟩ := f2 hc
      rw [er, if_neg hc, pyIx0, cut_take _ (by omega)]; rfl
  have hfst : (if PS ns k < want then ((enc ("no way" : Str) : PyData), ()) else (enc (srt ((ord ns).take k)), ())).1 = (if PS ns k < want then enc ("no way" : Str) else enc (srt ((ord ns).take k))) := by split <;> rfl
  rw [hdue, hfst]
  have hchk : shpD (if PS ns k < want then (enc ("no way" : Str) : PyData) else enc (srt ((ord ns).take k))) (if PS ns k < want then enc ("no way" : Str) else enc (srt ((ord ns).take k))) ∧ PyData.eqv (if PS ns k < want then (enc ("no way" : Str) : PyData) else enc (srt ((ord ns).take k))) (if PS ns k < want then enc ("no way" : Str) else enc (srt ((ord ns).take k))) = true := by
    split
    · exact chk (α := Str) rfl rfl l_noway
    · exact chk (α := List Int) rfl rfl (lay_of _)
  refine ⟨⟨fun hne => ?_, hchk.1⟩, fun hx => absurd hx (by rw [hchk.2]; decide), fun _ => ?_⟩
  · have hc : ¬ PS ns k < want := fun hc => by rw [f1 hc] at hne; simp at hne
    obtain ⟨r, er⟩ := f2 hc
    refine ⟨by rw [er]; unfold inIx; simp; omega, ?_⟩
    rw [er, pyIx0, cut_take _ (by omega)]
    exact sort_ok (le_line (by rw [List.length_take, ord_len]; omega))
  refine wpO_roll (by decide) fun h d2 hh1 hh2 => ?_
  refine wpO_roll (by decide) fun hours d3 ho1 ho2 => ?_
  refine wpO_roll (by decide) fun each d4 he1 he2 => ?_
  dsimp only
  have hln : (cutL [("bo" : Str), "ann", "cy"] none (some h)).length = h.toNat := by
    rw [cut_take _ hh1, List.length_take]; simp; omega
  have hly : ∀ x ∈ cutL [("bo" : Str), "ann", "cy"] none (some h), layP x := by
    intro x hx
    rw [cut_take _ hh1] at hx
    have := List.mem_of_mem_take hx
    simp only [List.mem_cons, List.not_mem_nil, or_false] at this
    rcases this with rfl | rfl | rfl <;> decide +kernel
  generalize cutL [("bo" : Str), "ann", "cy"] none (some h) = hands at *
  have hns : (srt hands).length = h.toNat := by rw [srt_len, hln]
  have hbl : (blk (srt hands) (1 + each)).length ≤ 12 := by
    rw [blk_len, hns]
    have : h.toNat ≤ 3 := by omega
    have : (1 + each).toNat ≤ 4 := by omega
    exact Nat.le_trans (Nat.mul_le_mul ‹h.toNat ≤ 3› this) (by omega)
  have hfl : T_law_flat (List.map (fun y54 => List.map (fun y57 => y54) (rng (1 + each))) (srt hands)) = .ok (blk (srt hands) (1 + each)) := flat_eq (by show (blk (srt hands) (1 + each)).length ≤ _; omega)
  simp only [hfl, Out.isOk_ok, Out.get_ok]
  refine ⟨small_of (by omega) (by omega), wpS_eq (forT_app (bl := blk (srt hands) (1 + each)) (rng 12) [] (fun _ => True) _ (fun x s hs => ?_) ?_) ?_⟩
  · have g : sortOk (hands.map enc) = true ∧ (∀ y54 ∈ srt hands, small (1 + each) ∧ (rng (1 + each)).length ≤ lineN) ∧ (srt hands).length ≤ lineN ∧ True ∧ s.length + (blk (srt hands) (1 + each)).length ≤ lineN := by
      refine ⟨sort_ok (le_line (by omega)), fun _ _ => ⟨small_of (by omega) (by omega), le_line (by rw [rng_len]; omega)⟩, le_line (by omega), trivial, ?_⟩
      have : (2000000 : Nat) ≤ lineN := by unfold lineN; omega
      omega
    rw [grdS_pos g]; rfl
  · rw [rng_len]; simp; omega
  rw [show (rng 12).length = 12 from by rw [rng_len]; rfl, List.nil_append]
  have hsh := shifts_eq (hours := hours) (each := 1 + each) (hands := hands) (by omega) (by omega) (by omega) hly
  refine told_on ?_ ⟨lay_list hly, lay_list (by simp)⟩ ?_
  · by_cases hz : srt hands = []
    · have hz2 : hands = [] := by
        have := hns; rw [hz] at this
        exact List.length_eq_zero_iff.mp (by rw [hln, ← this]; rfl)
      rw [hsh, if_pos hz]
      simp only [Out.mapx_exn, toldX_exn, t_plan]
      exact ⟨_, rfl, chk (α := Str) (a := "plan") rfl (by rw [hz2]; rfl) l_plan⟩
    · have hz2 : ¬ hands = [] := fun q => hz (by rw [q]; simp [srt, srtK])
      rw [hsh, if_neg hz]
      simp only [Out.mapx_ok, toldX_ok]
      have hp : 0 < (srt hands).length := List.length_pos_iff.mpr hz
      refine ⟨_, rfl, chk (α := List Str) (a := (rng hours).map fun h => pyIx (srt hands) (h / (1 + each) % ((srt hands).length : Int))) rfl ?_ (lay_list fun x hx => ?_)⟩
      · rw [if_pos (by simp [hz2]), line_eq ⟨hp, by omega⟩ (by omega) ⟨ho1, ho2⟩]
      · obtain ⟨y, hy, rfl⟩ := List.mem_map.mp hx
        refine hly _ (mem_srt.mp ?_)
        have a := Int.emod_nonneg (y / (1 + each)) (show ((srt hands).length : Int) ≠ 0 by omega)
        have b := Int.emod_lt_of_pos (y / (1 + each)) (show 0 < ((srt hands).length : Int) by omega)
        unfold pyIx ixAt
        rw [if_neg (by omega), List.getD_eq_getElem?_getD, List.getElem?_eq_getElem (by omega), Option.getD_some]
        exact List.getElem_mem _
  -- wheels
  refine wpO_roll (by decide) fun wheel d5 wh1 wh2 => ?_
  refine wpO_roll (by decide) fun many d6 ma1 ma2 => ?_
  dsimp only
  refine ⟨small_of (by omega) (by omega), le_line (by rw [rng_len]; omega), ?_⟩
  rw [wpO_noX]
  refine wpO_comp (fun x => 1 ≤ x ∧ x < 13) (fun y _ d => ?_) fun teeth d7 tl tq => ?_
  · rw [wpO_bind]
    refine wpO_roll (by decide) fun r d' h1 h2 => ?_
    show 1 ≤ 1 + r ∧ 1 + r < 13
    omega
  rw [rng_len] at tl
  refine wpO_roll (by decide) fun turns d8 tu1 tu2 => ?_
  dsimp only
  have hwt : (1 + wheel) * turns ≤ 200 := by
    have : (1 + wheel) * turns ≤ 20 * turns := Int.mul_le_mul_of_nonneg_right (by omega) tu1
    omega
  have hwt0 : 0 ≤ (1 + wheel) * turns := Int.mul_nonneg (by omega) tu1
  refine wpO_eq (wheel_eq (by omega) (by omega) (fun m hm => by have := tq m hm; omega) (by omega)) ?_
  refine ⟨⟨fun y hy => ⟨?_, ?_, ?_⟩, le_line (by omega)⟩, ?_⟩
  · have : wideI turns = true := by simp [wideI]; omega
    rw [this, Bool.or_true]
  · have := tq y hy
    exact small3 (by omega) (by omega) (by omega)
  · have := tq y hy
    rw [wheel_size (by omega) hwt0]
    have := Int.ediv_le_self (a := (1 + wheel) * turns) y hwt0
    have := Int.ediv_nonneg (b := y) hwt0 (by omega)
    exact le_line (by omega)
  refine eq_on rfl ?_
  -- priming
  refine wpO_roll (by decide) fun many2 d9 mb1 mb2 => ?_
  dsimp only
  refine ⟨small_of (by omega) (by omega), le_line (by rw [rng_len]; omega), ?_⟩
  rw [wpO_noX]
  refine wpO_comp (fun x => 0 ≤ x) (fun y _ d => ?_) fun pours d10 pl pq => ?_
  · rw [wpO_bind]
    refine wpO_roll (by decide) fun r d' h1 h2 => ?_
    exact h1
  rw [rng_len] at pl
  refine wpO_roll (by decide) fun leaks d11 le1 le2 => ?_
  refine wpO_roll (by decide) fun goal d12 go1 go2 => ?_
  dsimp only
  refine ⟨small_of (by omega) (by omega), ?_⟩
  obtain ⟨l', du, e1, e2⟩ := primed_eq (ξ := Dice) (ρ := Bool × Dice) (ps := pours) (leaks := leaks) (goal := 1 + goal) le1 (by omega) pq
  refine wpS_eq e1 ?_
  dsimp only
  refine told_on1 ?_ ?_
  · rcases e2 with ⟨rfl, e2⟩ | ⟨k2, rfl, e2⟩
    · rw [e2]
      simp only [Out.mapx_exn, toldX_exn, t_noway]
      exact ⟨_, rfl, chk (α := Str) (a := "no way") rfl rfl l_noway⟩
    · rw [e2]
      simp only [Out.mapx_ok, toldX_ok]
      exact ⟨_, rfl, chk (α := Int) (a := k2) rfl rfl (lay_of _)⟩
  refine told_on1 ?_ ?_
  · rw [c_init]
    simp only [Out.mapx_exn, Out.bind_exn, toldX_exn, t_plan]
    exact ⟨_, rfl, chk (α := Str) (a := "plan") rfl rfl l_plan⟩
  refine told_on1 ?_ ?_
  · rw [c_strokes]
    simp only [Out.mapx_exn, Out.bind_exn, toldX_exn, t_size]
    exact ⟨_, rfl, chk (α := Str) (a := "size") rfl rfl l_size⟩
  refine told_on1 ?_ ?_
  · rw [c_stages]
    simp only [Out.mapx_exn, Out.bind_exn, toldX_exn, t_size]
    exact ⟨_, rfl, chk (α := Str) (a := "size") rfl rfl l_size⟩
  rw [cases1]
  rfl
end K04
end

section
set_option linter.all false
set_option maxRecDepth 100000
set_option maxHeartbeats 2000000
set_option autoImplicit false
namespace K04
open PySem L2 TL TY
open Enc (enc)
abbrev St := Dice × Int × Int × Int × Int × R_Pump
/-- the pump is what the law reckons -/
def Inv (lift stroke washer : Int) (s : St) : Prop :=
  s.2.2.2.2.2 = ⟨lift, stroke, washer, s.2.2.2.2.1, s.2.1, s.2.2.1, s.2.2.2.1⟩ ∧ 0 ≤ s.2.1 ∧ 0 ≤ s.2.2.2.2.1 ∧ s.2.2.2.2.1 ≤ washer
theorem fin_on {told due : PyData} {p : R_Pump} {t : T4 Int Int Int Int} {Q R : Prop} (h : shpD told due ∧ PyData.eqv told due = true) (hp : (⟨p.well, p.lifted, p.strokes, p.left⟩ : T4 Int Int Int Int) = t) (r : R) :
    (shpD told due ∧ ((!PyData.eqv told due) = false → (T_pump_shown p).isOk = true)) ∧ ((!PyData.eqv told due || !decide ((T_pump_shown p).get = t)) = true → Q) ∧ ((!PyData.eqv told due || !decide ((T_pump_shown p).get = t)) = false → R) := by
  have e : (T_pump_shown p).get = t := by rw [shown_eq]; exact hp
  refine ⟨⟨h.1, fun _ => by rw [shown_eq]; rfl⟩, fun z => ?_, fun _ => r⟩
  rw [h.2, e] at z; simp at z
theorem law_good (a b c : Int) : good (T_law a b c) := by
  refine good_wp ?_
  unfold T_law
  simp only [wpS_seq, wpS_stp, wpS_nx, wpS_rt, wpS_lift, wpS_ite, wpS_grd, wpO_ok, wpO_bind, wpO_grd, wpO_mapx]
  refine wpO_roll (by decide) fun lift d1 l1 l2 => ?_
  refine wpO_roll (by decide) fun stroke d2 s1 s2 => ?_
  refine wpO_roll (by decide) fun washer d3 w1 w2 => ?_
  dsimp only
  refine wpO_eq (init_ok (by omega) (by omega) (by omega)) ?_
  refine wpO_roll (by decide) fun steps d4 st1 st2 => ?_
  dsimp only
  refine ⟨small_of (by omega) (by omega), ?_⟩
  refine wpS_forI (Inv (1 + lift) (1 + stroke) (1 + washer)) ⟨rfl, by simp, by simp; omega, by simp⟩ ?_ ?_
  rotate_left
  · rintro y hy ⟨d, well, lifted, strokes, left, p⟩ ⟨ip, i1, i2, i3⟩
    dsimp only at ip i1 i2 i3
    subst ip
    simp only [wpS_seq, wpS_stp, wpS_nx, wpS_rt, wpS_lift, wpS_ite, wpS_grd, wpO_ok, wpO_bind, wpO_grd, wpO_mapx]
    refine wpO_roll (by decide) fun sort e1 so1 so2 => ?_
    refine wpO_roll (by decide) fun much e2 mu1 mu2 => ?_
    refine wpO_roll (by decide) fun deep e3 de1 de2 => ?_
    dsimp only
    refine ⟨fun _ => ?_, fun _ => ⟨fun _ => ?_, fun _ => ?_⟩⟩
    · rw [rain_eq]
      by_cases hm : much < 1
      · have : much = 0 := by omega
        subst this
        rw [if_pos hm]
        simp only [Out.mapx_exn, toldX_exn, t_size, wpO_ok]
        refine fin_on (chk (α := Str) (a := "size") rfl rfl l_size) (by simp) ⟨by simp, ?_⟩
        dsimp only; omega
      · rw [if_neg hm]
        simp only [Out.mapx_ok, toldX_ok, wpO_ok]
        refine fin_on (chk (α := Int) (a := well + much) rfl (by rw [if_pos (by simp; omega)]) (lay_of _)) rfl ⟨rfl, ?_⟩
        dsimp only; omega
    · by_cases hm : much < 1
      · rw [work_bad _ hm]
        simp only [Out.mapx_exn, toldX_exn, t_size, wpO_ok]
        refine ⟨fun z => ?_, fun _ => ?_⟩
        · simp at z; omega
        · refine fin_on (chk (α := Str) (a := "size") rfl (by rw [if_pos (by simpa using hm)]) l_size) rfl ⟨rfl, ?_⟩
          dsimp only; omega
      · by_cases hd : 1 + lift < deep
        · rw [work_deep _ (by omega) de1 hd]
          simp only [Out.mapx_exn, toldX_exn, t_noway, wpO_ok]
          refine ⟨fun z => ?_, fun _ => ?_⟩
          · simp at z; omega
          · refine fin_on (chk (α := Str) (a := "no way") rfl (by rw [if_neg (by simpa using hm)]) l_noway) rfl ⟨rfl, ?_⟩
            dsimp only; omega
        · rw [work_eq (by omega) (by omega) de1 (show deep ≤ 1 + lift by omega) (show 0 ≤ well from i1) (show 0 < 1 + stroke by omega) (show 0 ≤ left from i2)]
          simp only [Out.mapx_ok, toldX_ok, wpO_ok]
          refine ⟨fun _ => ⟨?_, ⟨rfl, rfl⟩, ?_⟩, fun z => ?_⟩
          · have : wideI (1 + stroke) = true := by simp [wideI]; omega
            rw [this]; rfl
          · refine fin_on (chk (α := Int) (a := due well (1 + stroke) much left) rfl rfl (lay_of _)) rfl ⟨rfl, ?_⟩
            dsimp only
            have : 0 ≤ well - min well ((1 + stroke) * min much left) := by omega
            exact ⟨this, by omega, by omega⟩
          · simp at z; omega
    · rw [washer_eq]
      by_cases hl : left = 1 + washer
      · rw [if_pos hl]
        simp only [Out.mapx_exn, toldX_exn, t_deed, wpO_ok]
        refine fin_on (chk (α := Str) (a := "deed") rfl (by rw [if_neg (by simp; omega)]) l_deed) (by simp [hl]) ⟨by simp [hl], ?_⟩
        dsimp only; omega
      · rw [if_neg hl]
        simp only [Out.mapx_ok, toldX_ok, wpO_ok]
        refine fin_on (chk (α := Int) (a := left) rfl (by rw [if_pos (by simp; omega)]) (lay_of _)) rfl ⟨rfl, ?_⟩
        dsimp only; omega
  · rintro ⟨d, well, lifted, strokes, left, p⟩ ⟨ip, i1, i2, i3⟩
    dsimp only at ip i1 i2 i3
    subst ip
    dsimp only
    refine wpO_roll (by decide) fun need e1 n1 n2 => ?_
    dsimp only
    refine wpO_eq (strokes_eq (show 0 < 1 + stroke by omega) (show 1 + stroke < 1000 by omega) n1) ?_
    dsimp only
    refine ⟨⟨small3 (by omega) (by omega) (by omega), le_line (by have := size_le (h := need) (l := 1 + stroke) (by omega) n1; omega)⟩, eq_on (strokes_len (by omega) n1) ?_⟩
    refine wpO_roll (by decide) fun high e2 h1 h2 => ?_
    dsimp only
    refine wpO_eq (stages_ok (by omega) (by omega)) ?_
    refine ⟨⟨small_of (by omega) (by omega), fun _ _ => by omega, le_line (by rw [rng_len]; omega)⟩, eq_on (by rw [List.map_id']) ?_⟩
    refine wpO_roll (by decide) fun many e3 m1 m2 => ?_
    dsimp only
    refine ⟨small_of (by omega) (by omega), le_line (by rw [rng_len]; omega), ?_⟩
    rw [wpO_noX]
    refine wpO_comp (fun x => 0 ≤ x) (fun y _ d => ?_) fun ns e4 nl nq => ?_
    · rw [wpO_bind]
      refine wpO_roll (by decide) fun r d' h1 h2 => ?_
      exact h1
    rw [rng_len] at nl
    dsimp only
    rw [row_eq (by omega)]
    refine ⟨⟨rfl, fun hne => ?_⟩, eq_on ?_ ?_⟩
    · have hne2 : ns ≠ [] := by simpa using hne
      refine ⟨sort_ok (le_line (by omega)), ?_⟩
      rw [srt_len]
      have := List.length_pos_iff.mpr hne2
      unfold inIx; omega
    · by_cases hz : ns = []
      · subst hz; rfl
      · rw [if_pos (by simp [hz])]
        exact row_law hz
    refine wpO_roll (by decide) fun water e5 wa1 wa2 => ?_
    refine wpO_roll (by decide) fun inflow e6 in1 in2 => ?_
    refine wpO_roll (by decide) fun most e7 mo1 mo2 => ?_
    dsimp only
    obtain ⟨lv, k, f1, f2, f3⟩ := shaft_eq (w := water) (a1 := inflow) (a2 := ns) (a3 := most) wa1 in1 mo1 (by omega) nq
    refine wpS_eq f1 ?_
    dsimp only
    refine told_on1 ?_ ?_
    · rw [f3]
      by_cases hz : lv = 0
      · rw [if_pos hz]
        simp only [Out.mapx_ok, toldX_ok]
        exact ⟨_, rfl, chk (α := Int) (a := k) rfl (by rw [if_pos (by simpa using hz)]) (lay_of _)⟩
      · rw [if_neg hz]
        simp only [Out.mapx_exn, toldX_exn, t_noway]
        exact ⟨_, rfl, chk (α := Str) (a := "no way") rfl (by rw [if_neg (by simpa using hz)]) l_noway⟩
    refine wpO_mono (rest1 _ _ _ nq (by omega)) fun s hs => ?_
    rw [hs]
    exact ⟨(fun z => by cases z), fun _ => trivial⟩
end K04
end

section
set_option maxHeartbeats 4000000
namespace K04
open PySem L2 TL TY
def goodD (z a b c : Int) : Prop := True
theorem dice_ok : DiceOk f_law_dice goodD := by
  intro z st
  by_cases h : (-10:Int) < z
  · by_cases h2 : z < 10
    · refine ⟨if z < 0 then -z else z, 0, 2, trivial, ?_⟩
      simp [f_law_dice, fnOfB, m_law_dice, sSeq, sIf, sRet, tOfE, mChain, mP2, mC, mVar, oSub, oLt, h, h2, aS, mOwn, mDisp, pLst, aCons, aNil, mPn, oAbs, derefs, datas, sNil, lineN]
    · refine ⟨z, 1 + z % 1009, if (10:Int)^18 ≤ z then 1 else 0, trivial, ?_⟩
      simp [f_law_dice, fnOfB, m_law_dice, sSeq, sIf, sRet, tOfE, mChain, mP2, mC, mVar, oSub, oLt, h, h2, aS, mOwn, mDisp, pLst, aCons, aNil, mPn, oAbs, derefs, datas, sNil, lineN, oInt, oAdd, oMod, oGe, oPow]
  · refine ⟨z, 1 + z % 1009, if (10:Int)^18 ≤ z then 1 else 0, trivial, ?_⟩
    simp [f_law_dice, fnOfB, m_law_dice, sSeq, sIf, sRet, tOfE, mChain, mP2, mC, mVar, oSub, oLt, h, aS, mOwn, mDisp, pLst, aCons, aNil, mPn, oAbs, derefs, datas, sNil, lineN, oInt, oAdd, oMod, oGe, oPow]
theorem plain (z a b c : Int) (_ : goodD z a b c) : TL.lawGood (m_law (none :: some (.box 0) :: List.replicate 23 none) [.lst [.int a, .int b, .int c]]) := P_law a b c (law_good a b c)
end K04
end
namespace K04
open PySem L2 TL
abbrev R : PySem.W.OpenRow := PySem.W.OpenLaw.row PySem.Challenge.rw_pipehall_k04_pumps
abbrev hk : PySem.W.Hook := He.hookX 6 fa fn [] tf ex
def ob (s : PySem.W.SharedT) : He.AlX := He.obsX 6 fa fn [] tf ex (HandSHeadRun.getT s)
theorem ob_eq (s : PySem.W.SharedT) : ob s = hk.obs s.abs := He.obsX_eq (HandSHeadRun.getT_eq s)
theorem run (w : World) : HandSHeadRun.RunEq R (PySem.W.view R.prog [26]) hk ob 6000 ["PipeFault", "BadPipe", "BadPlan", "BadSize", "NoSuch", "NoRoom", "NoWay", "BadDeed", "Pump", "stages", "row_gives", "shaft_dry", "fewest_pumps", "shifts", "wheel_pumps", "primed", "_law_flat", "_law_dice", "_law_roll", "_law_rounds", "_law_told", "_law_cases1", "_law_rest1"] w := by
  intro os
  kernel_rfl
end K04
open PySem PySem.W PySem.Calls PyProof.Rows
theorem PySem.Challenge.cw_pipehall_k04_pumps_holds : PySem.Challenge.rw_pipehall_k04_pumps.Holds := by
  w_on; o_law
  refine HandSHeadRun.head_any (r := OpenLaw.row PySem.Challenge.rw_pipehall_k04_pumps) (q := view (OpenLaw.row PySem.Challenge.rw_pipehall_k04_pumps).prog [26]) (H := K04.hk) (ob := K04.ob) (M := 6000) (loose := ["PipeFault", "BadPipe", "BadPlan", "BadSize", "NoSuch", "NoRoom", "NoWay", "BadDeed", "Pump", "stages", "row_gives", "shaft_dry", "fewest_pumps", "shifts", "wheel_pumps", "primed", "_law_flat", "_law_dice", "_law_roll", "_law_rounds", "_law_told", "_law_cases1", "_law_rest1"]) (d := HandSHeadRun.topDef (OpenLaw.row PySem.Challenge.rw_pipehall_k04_pumps).prog 26) (kwd := []) K04.ob_eq
    (by kernel_rfl) (fun s => by kernel_rfl) K04.run (by kernel_rfl) (by kernel_rfl) (by kernel_rfl) (by rfl) (by first | assumption | decide +kernel) (by decide +kernel) ⟨rfl, rfl, rfl, rfl, rfl, by decide +kernel⟩ ?hw ?hc
  case hw => w_witness2
  case hc =>
    refine LamX.walk_ofTsE (l := PySem.Challenge.rw_pipehall_k04_pumps) (n := 63) (k := 8) (x := "script") (CX := fun w => L2.CX (PySem.Challenge.rw_pipehall_k04_pumps).prog w) rfl (by decide) (by kernel_rfl) ⟨rfl, by decide, by decide⟩ ?F (fun _ _ _ _ _ ⟨_, _, _, _, _, _, _, _, _, _, _, _, z⟩ => z)
    intro w mg fa h Y G hmg0
    obtain ⟨K, KX, c⟩ := Y
    have hmg : mg ("law" : PySem.Str) = some (.ref fa) := by
      have e : (HandSHeadRun.topDef (OpenLaw.row PySem.Challenge.rw_pipehall_k04_pumps).prog 26).name = ("law" : PySem.Str) := by kernel_rfl
      rw [← e]
      exact hmg0
    exact ⟨K, KX, K04.facts KX G hmg c K04.dice_ok K04.plain⟩
