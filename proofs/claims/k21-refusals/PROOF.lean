import PyProof.Rows.All
import Wide.All
import OpenK.AllK
import Wide.FinOn
import HandS.ForMost
import HandS.TryMany
import HandS.Lambda
import HandS.EndTab
import HandS.Conv
import HandS.Style
import HandS.TupAny
import HandS.ExcOwn
import KE.SortData
import KE.SortKeyHeap
import KE.GoesEnum
import HandS.SortInts
import KE.DataCmp
import KE.DataMinMax
import HandS.SortKw
import HandS.GenOver
import PyProof.GenComp
import PyProof.GenQ
import HandS.AnyAll
import HandS.HeadHook4
import HandS.HeadWalk
import HandS.Deep
import HandS.Dict
import HandS.Small
import HandS.More
import KE.DataMinKey
import HandS.DictTup
import KE.GoesRev
import HandS.SetFor
import HandS.Remove
import HandS.Flow
import PyProof.MaxThree
import HandS.StrMore
import KE.KTupSum
import KE.KDictWalk
import HandS.DictComp
import PyProof.TupleOfGen
import KE.DataFind
import HandS.WordsDict
import HandS.NoneIn
import PyProof.ListStr
import KE.KEqNest
import PyProof.NeKinds
import KE.KDictCopyH
import HandS.TupLen
import KE.KDictDisplayH
import KE.KAssignIn
import HandS.ExcIs
import HandS.Head0
import HandS.Head1
import HandS.Head2
import HandS.HeadEnd
import HandS.HeadHook1
import HandS.HeadHook2
import Lean
import KE.KStateDown
import PySem.Challenge.RW_pipehall_k21_refusals_apart
set_option Elab.async false
set_option linter.all false
set_option maxRecDepth 100000
section
set_option Elab.async false
set_option linter.all false
set_option maxRecDepth 100000
namespace TL
open PySem
inductive Val where
  | d (x : PyData)
  | box (n : Nat)
inductive Cell where
  | lst (xs : List PyData)
  | dic (kvs : List (PyData × PyData))
  | ldic (kvs : List (PyData × PyData))
  | obj (c : Str) (fs : List (Str × Val))
  | lbs (ns : List Nat)
  | dbs (ks : List PyData) (ns : List Nat)
  | dead
abbrev Store := List Cell
abbrev Slots := List (Option Val)
inductive R (α : Type) where
  | ok (a : α) (st : Store)
  | exn (c : Str) (st : Store)
  | stuck
inductive SR where
  | nx (sl : Slots) (st : Store)
  | rt (v : Val) (st : Store)
  | bk (sl : Slots) (st : Store)
  | ct (sl : Slots) (st : Store)
  | exn (c : Str) (sl : Slots) (st : Store)
  | stuck
abbrev EM := Slots → Store → R Val
abbrev TM := Slots → Store → R Bool
abbrev AM := Slots → Store → R (List Val)
abbrev SM := Slots → Store → SR
abbrev FM := List Val → Store → R Val
def R.bind {α β : Type} (r : R α) (f : α → Store → R β) : R β :=
  match r with
  | .ok a st => f a st
  | .exn c st => .exn c st
  | .stuck => .stuck
@[simp] theorem R.bind_ok {α β : Type} (a : α) (st : Store) (f : α → Store → R β) : (R.ok a st).bind f = f a st := rfl
@[simp] theorem R.bind_exn {α β : Type} (c : Str) (st : Store) (f : α → Store → R β) : (R.exn c st : R α).bind f = .exn c st := rfl
@[simp] theorem R.bind_stuck {α β : Type} (f : α → Store → R β) : (R.stuck : R α).bind f = .stuck := rfl
def R.opt {α : Type} (o : Option α) (st : Store) : R α :=
  match o with
  | some a => .ok a st
  | none => .stuck
@[simp] theorem R.opt_some {α : Type} (a : α) (st : Store) : R.opt (some a) st = .ok a st := rfl
@[simp] theorem R.opt_none {α : Type} (st : Store) : R.opt (none : Option α) st = .stuck := rfl
def deref (v : Val) (st : Store) : Option PyData :=
  match v with
  | .d x => some x
  | .box n =>
    match st[n]? with
    | some (.lst xs) => some (.list xs)
    | some (.dic kvs) => some (.dict kvs)
    | some (.ldic kvs) => some (.dict kvs)
    | _ => none
@[simp] theorem deref_d (x : PyData) (st : Store) : deref (.d x) st = some x := rfl
def dataOf : Val → Option PyData
  | .d x => some x
  | .box _ => none
def datas : List Val → Option (List PyData)
  | [] => some []
  | .d x :: r => (datas r).map (x :: ·)
  | .box _ :: _ => none
def derefs : List Val → Store → Option (List PyData)
  | [], _ => some []
  | v :: r, st =>
    match deref v st, derefs r st with
    | some x, some xs => some (x :: xs)
    | _, _ => none
def mVar (i : Nat) : EM := fun sl st =>
  match sl[i]? with
  | some (some v) => .ok v st
  | _ => .stuck
def mC (x : PyData) : EM := fun _ st => .ok (.d x) st
def mP1 (f : PyData → Option PyData) (m : EM) : EM := fun sl st =>
  (m sl st).bind fun v st1 => R.opt (((deref v st1).bind f).map .d) st1
def mP2 (f : PyData → PyData → Option PyData) (a b : EM) : EM := fun sl st =>
  (a sl st).bind fun v st1 => (b sl st1).bind fun u st2 =>
    R.opt (((deref v st2).bind fun x => (deref u st2).bind fun y => f x y).map .d) st2
def aNil : AM := fun _ st => .ok [] st
def aCons (m : EM) (a : AM) : AM := fun sl st =>
  (m sl st).bind fun v st1 => (a sl st1).bind fun vs st2 => .ok (v :: vs) st2
def mPn (f : List PyData → Option PyData) (a : AM) : EM := fun sl st =>
  (a sl st).bind fun vs st1 => R.opt (((derefs vs st1).bind f).map .d) st1
def lineN : Nat := 16777216
def pTup (xs : List PyData) : Option PyData := if xs.length ≤ lineN then some (.tuple xs) else none
def pLst (xs : List PyData) : Option PyData := if xs.length ≤ lineN then some (.list xs) else none
def mDisp (f : List PyData → Option PyData) (a : AM) : EM := fun sl st =>
  (a sl st).bind fun vs st1 => R.opt (((datas vs).bind f).map .d) st1
def tOfE (m : EM) : TM := fun sl st =>
  (m sl st).bind fun v st1 =>
    match v with
    | .d (.bool b) => .ok b st1
    | _ => .stuck
def tAnd (a b : TM) : TM := fun sl st => (a sl st).bind fun t st1 => bif t then b sl st1 else .ok false st1
def tOr (a b : TM) : TM := fun sl st => (a sl st).bind fun t st1 => bif t then .ok true st1 else b sl st1
def tNot (a : TM) : TM := fun sl st => (a sl st).bind fun t st1 => .ok (!t) st1
def isNon : Val → Bool
  | .d .none => true
  | _ => false
def getF : List (Str × Val) → Str → Option Val
  | [], _ => none
  | (g, v) :: r, f => if f = g then some v else getF r f
def setF (f : Str) (v : Val) : List (Str × Val) → List (Str × Val)
  | [] => [(f, v)]
  | (g, u) :: r => if g = f then (g, v) :: r else (g, u) :: setF f v r
def fldOf (c : Str) (v : Val) (f : Str) (st : Store) : Option Val :=
  match v with
  | .box n =>
    match st[n]? with
    | some (.obj c' fs) => if c' = c then getF fs f else none
    | _ => none
  | .d _ => none
def mFld (c : Str) (m : EM) (f : Str) : EM := fun sl st =>
  (m sl st).bind fun v st1 => R.opt (fldOf c v f st1) st1
def isObj (c m : Str) (v : Val) (st : Store) : Bool :=
  match v with
  | .box n =>
    match st[n]? with
    | some (.obj c' fs) => decide (c' = c) && (getF fs m).isNone
    | _ => false
  | .d _ => false
def mCall (F : FM) (a : AM) : EM := fun sl st => (a sl st).bind F
def mMeth (c g : Str) (F : FM) (m : EM) (a : AM) : EM := fun sl st =>
  (m sl st).bind fun v st1 => bif isObj c g v st1 then (a sl st1).bind fun vs st2 => F (v :: vs) st2 else .stuck
def mMake (c : Str) (F : FM) (a : AM) : EM := fun sl st =>
  (a sl st).bind fun vs st1 =>
    (F (.box st1.length :: vs) (st1 ++ [.obj c []])).bind fun v st2 =>
      match v with
      | .d .none => .ok (.box st1.length) st2
      | _ => .stuck
def boxBelow (k : Nat) : Val → Bool
  | .d _ => true
  | .box n => decide (n < k)
def cellBelow (k : Nat) : Cell → Bool
  | .obj _ fs => fs.all fun p => boxBelow k p.2
  | .lbs ns => ns.all fun n => decide (n < k)
  | .dbs _ ns => ns.all fun n => decide (n < k)
  | _ => true
def frozen (k : Nat) (v : Val) (st : Store) : Val :=
  match v with
  | .box n =>
    if n < k then v else
      match st[n]? with
      | some (.lst xs) => .d (.list xs)
      | some (.dic kvs) => .d (.dict kvs)
      | _ => v
  | .d _ => v
def leave (k : Nat) (v : Val) (st : Store) : R Val :=
  if st.length = k then .ok v st else
    if boxBelow k (frozen k v st) && (st.take k).all (cellBelow k) then .ok (frozen k v st) (st.take k) else .ok v st
def leaveX (k : Nat) (c : Str) (st : Store) : R Val :=
  if st.length = k then .exn c st else if (st.take k).all (cellBelow k) then .exn c (st.take k) else .exn c st
def left (k : Nat) : R Val → R Val
  | .ok v st => leave k v st
  | .exn c st => leaveX k c st
  | .stuck => .stuck
def fnOf (N : Nat) (b : SM) : FM := fun vs st =>
  left st.length <|
    match b (vs.map some ++ List.replicate (N - vs.length) none) st with
    | .nx _ st1 => .ok (.d .none) st1
    | .rt v st1 => .ok v st1
    | .exn c _ st1 => .exn c st1
    | _ => .stuck
inductive Tg where
  | name (i : Nat)
  | tup (ts : List Tg)
mutual
def Tg.put : Tg → PyData → Slots → Option Slots
  | .name i, x, sl => some (sl.set i (some (.d x)))
  | .tup ts, x, sl =>
    match x with
    | .tuple xs => Tg.puts ts xs sl
    | _ => none
def Tg.puts : List Tg → List PyData → Slots → Option Slots
  | [], [], sl => some sl
  | t :: ts, x :: xs, sl => (Tg.put t x sl).bind fun sl1 => Tg.puts ts xs sl1
  | _, _, _ => none
end
abbrev IM := Slots → Store → R (List PyData)
def seqD : PyData → Option (List PyData)
  | .list xs => some xs
  | .tuple xs => some xs
  | .str s => some (s.cps.toList.map fun c => .str ⟨#[c]⟩)
  | _ => none
def iSeq (m : EM) : IM := fun sl st => (m sl st).bind fun v st1 => R.opt ((dataOf v).bind seqD) st1
def iPn (f : List PyData → Option (List PyData)) (a : AM) : IM := fun sl st => (a sl st).bind fun vs st1 => R.opt ((datas vs).bind f) st1
def rangeN (lo step : Int) (n : Nat) : List PyData := (List.range n).map fun (k : Nat) => .int (lo + (k : Int) * step)
def smallI (i : Int) : Bool := decide (-(2 ^ 62) ≤ i) && decide (i < 2 ^ 62)
def pRange1 : List PyData → Option (List PyData)
  | [.int j] => if smallI j then some (rangeN 0 1 j.toNat) else none
  | _ => none
def compL (tg : Tg) (c : TM) (e : EM) (sl : Slots) : List PyData → Store → R (List PyData)
  | [], st => .ok [] st
  | x :: xs, st =>
    match tg.put x sl with
    | none => .stuck
    | some sl1 =>
      (c sl1 st).bind fun b st1 =>
        bif b then
          (e sl1 st1).bind fun v st2 =>
            match v with
            | .d y => (compL tg c e sl xs st2).bind fun ys st3 => .ok (y :: ys) st3
            | .box _ => .stuck
        else compL tg c e sl xs st1
def wipeS (sl : Slots) : List Nat → Slots
  | [] => sl
  | i :: is => (wipeS sl is).set i none
def tYes : TM := fun _ st => .ok true st
def noX {α : Type} : R α → R α
  | .exn _ _ => .stuck
  | r => r
def compR (own : List Nat) (tg : Tg) (c : TM) (e : EM) (sl : Slots) (xs : List PyData) (st : Store) : R Val :=
  (noX (compL tg c e (wipeS sl own) xs st)).bind fun ys st2 => R.opt ((pLst ys).map .d) st2
def mComp (own : List Nat) (tg : Tg) (it : IM) (c : TM) (e : EM) : EM := fun sl st =>
  (it sl st).bind fun xs st1 => compR own tg c e sl xs st1
def mOwn (m : EM) : EM := fun sl st =>
  (m sl st).bind fun v st1 =>
    match v with
    | .d (.list xs) => .ok (.box st1.length) (st1 ++ [.lst xs])
    | .d (.dict kvs) => .ok (.box st1.length) (st1 ++ [.dic kvs])
    | _ => .stuck
def aS {α : Type} (r : R α) (sl : Slots) (f : α → Store → SR) : SR :=
  match r with
  | .ok v st => f v st
  | .exn c st => .exn c sl st
  | .stuck => .stuck
@[simp] theorem aS_ok {α : Type} (a : α) (st : Store) (sl : Slots) (f : α → Store → SR) : aS (.ok a st) sl f = f a st := rfl
@[simp] theorem aS_exn {α : Type} (c : Str) (st : Store) (sl : Slots) (f : α → Store → SR) : aS (.exn c st : R α) sl f = .exn c sl st := rfl
@[simp] theorem aS_stuck {α : Type} (sl : Slots) (f : α → Store → SR) : aS (.stuck : R α) sl f = .stuck := rfl
def SR.opt {α : Type} (o : Option α) (f : α → SR) : SR :=
  match o with
  | some a => f a
  | none => .stuck
def SR.then (r : SR) (f : Slots → Store → SR) : SR :=
  match r with
  | .nx sl st => f sl st
  | r => r
@[simp] theorem SR.then_nx (sl : Slots) (st : Store) (f : Slots → Store → SR) : (SR.nx sl st).then f = f sl st := rfl
@[simp] theorem SR.then_rt (v : Val) (st : Store) (f : Slots → Store → SR) : (SR.rt v st).then f = .rt v st := rfl
@[simp] theorem SR.then_bk (sl : Slots) (st : Store) (f : Slots → Store → SR) : (SR.bk sl st).then f = .bk sl st := rfl
@[simp] theorem SR.then_ct (sl : Slots) (st : Store) (f : Slots → Store → SR) : (SR.ct sl st).then f = .ct sl st := rfl
@[simp] theorem SR.then_exn (c : Str) (sl : Slots) (st : Store) (f : Slots → Store → SR) : (SR.exn c sl st).then f = .exn c sl st := rfl
@[simp] theorem SR.then_stuck (f : Slots → Store → SR) : (SR.stuck).then f = .stuck := rfl
def sNil : SM := fun sl st => .nx sl st
def sSeq (a b : SM) : SM := fun sl st => (a sl st).then b
def sRet (m : EM) : SM := fun sl st => aS (m sl st) sl fun v st1 => .rt v st1
def sIf (c : TM) (a b : SM) : SM := fun sl st => aS (c sl st) sl fun t st1 => bif t then a sl st1 else b sl st1
def sRaise (c : Str) : SM := fun sl st => .exn c sl st
def sSet (i : Nat) (m : EM) : SM := fun sl st => aS (m sl st) sl fun v st1 => .nx (sl.set i (some v)) st1
def putFld (c : Str) (u : Val) (f : Str) (v : Val) (st : Store) : Option Store :=
  match u with
  | .box n =>
    match st[n]? with
    | some (.obj c' fs) => if c' = c ∧ fs.length < 999 then some (st.set n (.obj c (setF f v fs))) else none
    | _ => none
  | .d _ => none
def sFld (c : Str) (o : EM) (f : Str) (m : EM) : SM := fun sl st =>
  aS (m sl st) sl fun v st1 => aS (o sl st1) sl fun u st2 => SR.opt (putFld c u f v st2) fun st3 => .nx sl st3
def sAug (i : Nat) (f : PyData → PyData → Option PyData) (m : EM) : SM := fun sl st =>
  aS (mP2 f (mVar i) m sl st) sl fun v st1 => .nx (sl.set i (some v)) st1
def sAugFld (c : Str) (o : EM) (g : Str) (f : PyData → PyData → Option PyData) (m : EM) : SM := fun sl st =>
  aS (o sl st) sl fun u st1 => SR.opt (fldOf c u g st1) fun x => aS (m sl st1) sl fun y st2 =>
    SR.opt ((deref x st2).bind fun x' => (deref y st2).bind fun y' => f x' y') fun z => SR.opt (putFld c u g (.d z) st2) fun st3 => .nx sl st3
def forL (tg : Tg) (b : SM) : List PyData → SM
  | [], sl, st => .nx sl st
  | x :: xs, sl, st =>
    match tg.put x sl with
    | none => .stuck
    | some sl1 =>
      match b sl1 st with
      | .nx sl2 st2 => forL tg b xs sl2 st2
      | .ct sl2 st2 => forL tg b xs sl2 st2
      | .bk sl2 st2 => .nx sl2 st2
      | r => r
def sFor (tg : Tg) (it : IM) (b : SM) : SM := fun sl st => aS (it sl st) sl fun xs st1 => forL tg b xs sl st1
end TL
end

section
set_option Elab.async false
set_option linter.all false
set_option maxRecDepth 100000
set_option autoImplicit false
namespace TL
open PySem L2
def core : HO → HO
  | .frz _ u => u
  | o => o
def isDic : HO → Bool
  | .dK _ => true
  | .dT _ => true
  | _ => false
def isTbl : HO → Bool
  | .tbl _ => true
  | _ => false
def isFrz : HO → Bool
  | .frz _ _ => true
  | _ => false
def keyD : Key → PyData
  | .inl i => .int i
  | .inr x => .str x
def tupD (l : List Key) : PyData := .tuple (l.map keyD)
def DkO (ks : List PyData) (vs : List V) (o : HO) : Prop :=
  vs.length = ks.length ∧ ((∃ kk : List Key, ks = kk.map keyD ∧ o = .dK (kk.zip vs)) ∨ (∃ kk : List (List Key), kk ≠ [] ∧ ks = kk.map tupD ∧ o = .dT (kk.zip vs)))
theorem DkO.dic {ks : List PyData} {vs : List V} {o : HO} (h : DkO ks vs o) : isDic o = true := by
  obtain ⟨_, ⟨_, _, rfl⟩ | ⟨_, _, _, rfl⟩⟩ := h <;> rfl
theorem core_is {u o : HO} (h : core u = o) (hf : isFrz o = false) : u = o ∨ ∃ ob, u = .frz ob o := by
  cases u with
  | frz ob w => exact .inr ⟨ob, by rw [show w = o from h]⟩
  | _ => exact .inl h
def KL (K : PySem.W.Frag) (a : Addr) (xs : List V) : Prop :=
  ∃ (its : List Value) (n : Nat), K.lookup a = some { cls := .type "list", data := .seq its.toArray n } ∧ its.length ≤ sizeLine ∧ Vals xs its
def RdX (H : Hp) (a : Addr) (o : HO) : Prop := H a = some o ∨ False
theorem RdX.at {H : Hp} {a : Addr} {o : HO} (h : RdX H a o) : H a = some o := h.elim id False.elim
theorem RdX.rd {H : Hp} {a : Addr} {o : HO} (h : RdX H a o) : Rd H a o := .inl h.at
section
variable (K : PySem.W.Frag) (O : Addr → Prop) (H : Hp)
def LsAt (K : PySem.W.Frag) (H : Hp) (a : Addr) (vs : List V) : Prop := Rd H a (.lst vs) ∨ KL K a vs
theorem LsAt.sq {K : PySem.W.Frag} {H : Hp} {a : Addr} {vs : List V} (h : LsAt K H a vs) : SqL K H a vs := by
  rcases h with h | ⟨its, n, h1, h2, h3⟩
  · exact .inl h
  · exact .inr ⟨_, its.toArray, n, h1, rfl, rfl, rfl, by simpa using h2, by simpa using h3⟩
def ListAt (a : Addr) (vs : List V) : Prop := (Rd H a (.lst vs) ∧ ¬ O a) ∨ KL K a vs
def TupAt (K : PySem.W.Frag) (O : Addr → Prop) (H : Hp) (a : Addr) (vs : List V) : Prop := (RdX H a (.tup vs) ∧ ¬ O a) ∨ False
mutual
def DR : PyData → V → Prop
  | .none, v => v = .non
  | .bool b, v => v = .bl b
  | .int i, v => v = .int i
  | .str x, v => v = .str x
  | .list xs, v => ∃ a vs, v = .ref a ∧ ListAt K O H a vs ∧ DRs xs vs
  | .tuple xs, v => ∃ a vs, v = .ref a ∧ TupAt K O H a vs ∧ DRs xs vs
  | .dict kvs, v => ∃ a o vs, v = .ref a ∧ (Rd H a o ∧ ¬ O a) ∧ DkO (kvs.map (·.1)) vs o ∧ DRv kvs vs
def DRs : List PyData → List V → Prop
  | [], vs => vs = []
  | x :: xs, vs => ∃ v r, vs = v :: r ∧ DR x v ∧ DRs xs r
def DRv : List (PyData × PyData) → List V → Prop
  | [], vs => vs = []
  | (_, x) :: xs, vs => ∃ v r, vs = v :: r ∧ DR x v ∧ DRv xs r
end
end
theorem ListAt.ls {K : PySem.W.Frag} {O : Addr → Prop} {H : Hp} {a : Addr} {vs : List V} (h : ListAt K O H a vs) : LsAt K H a vs := h.imp (·.1) id
theorem ListAt.sq {K : PySem.W.Frag} {O : Addr → Prop} {H : Hp} {a : Addr} {vs : List V} (h : ListAt K O H a vs) : SqL K H a vs := h.ls.sq
theorem LsAt.at {X : Cx} {H : Hp} {a : Addr} {vs : List V} {pins : List (Addr × Obj)} {σ : L2.St} {s : Shared} (I : Inv X pins σ H s) (h : LsAt X.K H a vs) :
    vs.length ≤ sizeLine ∧ ∃ (its : List Value) (n : Nat), Vals vs its ∧ vs.length = its.length ∧ s.heap.get? a = some { cls := .type "list", data := .seq its.toArray n } := by
  rcases h with h | ⟨its, n, h1, h2, h3⟩
  · obtain ⟨z, its, n, r, e⟩ := h.ok I.hok
    exact ⟨z, its, n, r, r.length, e⟩
  · exact ⟨by rw [h3.length]; exact h2, its, n, h3, h3.length, I.kIn a _ h1⟩
theorem TupAt.sq {K : PySem.W.Frag} {O : Addr → Prop} {H : Hp} {a : Addr} {vs : List V} (h : TupAt K O H a vs) : SqT K H a vs := by
  rcases h with ⟨h, _⟩ | h
  · exact .inl h.rd
  · exact h.elim
structure Mon (O : Addr → Prop) (H : Hp) (O' : Addr → Prop) (H' : Hp) : Prop where
  keep : ∀ a u, H a = some u → ¬ O a → isTbl u = false → H' a = some u ∨ (isDic (core u) = true ∧ ∃ u', H' a = some u' ∧ core u' = core u)
  out : ∀ a, H a ≠ none → ¬ O a → ¬ O' a
theorem rd_at {H : Hp} {a : Addr} {o : HO} (h : Rd H a o) : ∃ u, H a = some u ∧ (u = o ∨ ∃ ob, u = .frz ob o) := by
  rcases h with h | ⟨ob, h⟩
  · exact ⟨o, h, .inl rfl⟩
  · exact ⟨_, h, .inr ⟨ob, rfl⟩⟩
theorem rd_ne {H : Hp} {a : Addr} {o : HO} (h : Rd H a o) : H a ≠ none := by
  obtain ⟨u, e, _⟩ := rd_at h
  rw [e]
  exact fun z => nomatch z
theorem dic_not {o : HO} (h : isDic o = true) : isTbl o = false ∧ isFrz o = false := by
  cases o <;> first | exact ⟨rfl, rfl⟩ | (exact absurd h (by decide)) | cases h
section
variable {K : PySem.W.Frag} {O O' : Addr → Prop} {H H' : Hp}
theorem Mon.rd (m : Mon O H O' H') {a : Addr} {o : HO} (h : Rd H a o) (n : ¬ O a) (ht : isTbl o = false) (hf : isFrz o = false) : Rd H' a o := by
  obtain ⟨u, e, hu⟩ := rd_at h
  have hc : core u = o := by
    rcases hu with rfl | ⟨ob, rfl⟩
    · cases u with
      | frz ob w => cases hf
      | _ => rfl
    · rfl
  have nt : isTbl u = false := by
    rcases hu with rfl | ⟨ob, rfl⟩
    · exact ht
    · rfl
  rcases m.keep a u e n nt with q | ⟨_, u', q2, q3⟩
  · rcases hu with rfl | ⟨ob, rfl⟩
    · exact .inl q
    · exact .inr ⟨ob, q⟩
  · rcases core_is (q3.trans hc) hf with rfl | ⟨ob, rfl⟩
    · exact .inl q2
    · exact .inr ⟨ob, q2⟩
theorem Mon.list (m : Mon O H O' H') {a : Addr} {vs : List V} (h : ListAt K O H a vs) : ListAt K O' H' a vs := by
  rcases h with ⟨h, n⟩ | h
  · exact .inl ⟨m.rd h n rfl rfl, m.out a (rd_ne h) n⟩
  · exact .inr h
theorem Mon.tup (m : Mon O H O' H') {a : Addr} {vs : List V} (h : TupAt K O H a vs) : TupAt K O' H' a vs := by
  rcases h with ⟨h, n⟩ | h
  · refine .inl ⟨.inl ?_, m.out a (rd_ne h.rd) n⟩
    rcases m.keep a _ h.at n rfl with q | ⟨q, _⟩
    · exact q
    · cases q
  · exact h.elim
mutual
theorem DR.mon (m : Mon O H O' H') : ∀ (x : PyData) (v : V), DR K O H x v → DR K O' H' x v
  | .none, v, h => h
  | .bool _, v, h => h
  | .int _, v, h => h
  | .str _, v, h => h
  | .list xs, v, ⟨a, vs, e, h1, h2⟩ => ⟨a, vs, e, m.list h1, DRs.mon m xs vs h2⟩
  | .tuple xs, v, ⟨a, vs, e, h1, h2⟩ => ⟨a, vs, e, m.tup h1, DRs.mon m xs vs h2⟩
  | .dict kvs, v, ⟨a, o, vs, e, ⟨h1, n⟩, h2, h3⟩ => ⟨a, o, vs, e, ⟨m.rd h1 n (dic_not h2.dic).1 (dic_not h2.dic).2, m.out a (rd_ne h1) n⟩, h2, DRv.mon m kvs vs h3⟩
theorem DRs.mon (m : Mon O H O' H') : ∀ (xs : List PyData) (vs : List V), DRs K O H xs vs → DRs K O' H' xs vs
  | [], vs, h => h
  | x :: xs, vs, ⟨v, r, e, h1, h2⟩ => ⟨v, r, e, DR.mon m x v h1, DRs.mon m xs r h2⟩
theorem DRv.mon (m : Mon O H O' H') : ∀ (xs : List (PyData × PyData)) (vs : List V), DRv K O H xs vs → DRv K O' H' xs vs
  | [], vs, h => h
  | (_, x) :: xs, vs, ⟨v, r, e, h1, h2⟩ => ⟨v, r, e, DR.mon m x v h1, DRv.mon m xs r h2⟩
end
theorem DRs.length : ∀ {xs : List PyData} {vs : List V}, DRs K O H xs vs → vs.length = xs.length
  | [], _, h => by rw [show _ = _ from h]; rfl
  | x :: xs, _, ⟨v, r, e, _, h2⟩ => by rw [e, List.length_cons, List.length_cons, DRs.length h2]
theorem DRs.at : ∀ {xs : List PyData} {vs : List V} {i : Nat} {x : PyData}, DRs K O H xs vs → xs[i]? = some x → ∃ v, vs[i]? = some v ∧ DR K O H x v
  | [], _, _, _, _, e => by simp at e
  | y :: xs, _, 0, x, ⟨v, r, e, h1, h2⟩, ex => by
    simp at ex; subst ex; rw [e]; exact ⟨v, rfl, h1⟩
  | y :: xs, _, i + 1, x, ⟨v, r, e, h1, h2⟩, ex => by
    rw [e]; simp at ex ⊢; exact DRs.at h2 ex
theorem DRs.at' : ∀ {xs : List PyData} {vs : List V} {i : Nat} {v : V}, DRs K O H xs vs → vs[i]? = some v → ∃ x, xs[i]? = some x ∧ DR K O H x v
  | [], _, _, _, h, e => by rw [show _ = _ from h] at e; simp at e
  | y :: xs, _, 0, x, ⟨v, r, e, h1, h2⟩, ex => by
    rw [e] at ex; simp at ex; subst ex; exact ⟨y, rfl, h1⟩
  | y :: xs, _, i + 1, x, ⟨v, r, e, h1, h2⟩, ex => by
    rw [e] at ex; simp at ex ⊢; exact DRs.at' h2 ex
theorem DRs.append : ∀ {xs ys : List PyData} {vs us : List V}, DRs K O H xs vs → DRs K O H ys us → DRs K O H (xs ++ ys) (vs ++ us)
  | [], _, _, _, h, h' => by rw [show _ = _ from h]; exact h'
  | x :: xs, _, _, _, ⟨v, r, e, h1, h2⟩, h' => by rw [e]; exact ⟨v, _, rfl, h1, DRs.append h2 h'⟩
theorem DRs.one {x : PyData} {v : V} (h : DR K O H x v) : DRs K O H [x] [v] := ⟨v, [], rfl, h, rfl⟩
theorem DRs.set : ∀ {xs : List PyData} {vs : List V} {x : PyData} {v : V} (i : Nat), DRs K O H xs vs → DR K O H x v → DRs K O H (xs.set i x) (vs.set i v)
  | [], _, _, _, _, h, _ => by rw [show _ = _ from h]; exact rfl
  | y :: xs, _, x, v, 0, ⟨w, r, e, h1, h2⟩, hx => by rw [e]; exact ⟨v, r, rfl, hx, h2⟩
  | y :: xs, _, x, v, i + 1, ⟨w, r, e, h1, h2⟩, hx => by rw [e]; exact ⟨w, _, rfl, h1, DRs.set i h2 hx⟩
theorem DRs.take : ∀ {xs : List PyData} {vs : List V} (n : Nat), DRs K O H xs vs → DRs K O H (xs.take n) (vs.take n)
  | _, _, 0, _ => by rw [List.take_zero, List.take_zero]; rfl
  | [], _, _ + 1, h => by rw [show _ = _ from h]; rfl
  | y :: xs, _, n + 1, ⟨w, r, e, h1, h2⟩ => by rw [e]; exact ⟨w, _, rfl, h1, DRs.take n h2⟩
theorem DRs.drop : ∀ {xs : List PyData} {vs : List V} (n : Nat), DRs K O H xs vs → DRs K O H (xs.drop n) (vs.drop n)
  | _, _, 0, h => h
  | [], _, _ + 1, h => by rw [show _ = _ from h]; rfl
  | y :: xs, _, n + 1, ⟨w, r, e, h1, h2⟩ => by rw [e]; exact DRs.drop n h2
theorem DRv.drs : ∀ {xs : List (PyData × PyData)} {vs : List V}, DRv K O H xs vs ↔ DRs K O H (xs.map (·.2)) vs
  | [], vs => Iff.rfl
  | (k, x) :: xs, vs => by
    constructor
    · rintro ⟨v, r, e, h1, h2⟩
      exact ⟨v, r, e, h1, DRv.drs.mp h2⟩
    · rintro ⟨v, r, e, h1, h2⟩
      exact ⟨v, r, e, h1, DRv.drs.mpr h2⟩
end
def isLive : Cell → Bool
  | .dead => false
  | _ => true
structure Num where
  ids : List Addr
  av : Addr → Prop
def Num.push (φ : Num) (p : Addr) : Num := { φ with ids := φ.ids ++ [p] }
def Live (φ : Num) (st : Store) (a : Addr) : Prop := ∃ (n : Nat) (c : Cell), st[n]? = some c ∧ isLive c = true ∧ φ.ids[n]? = some a
def Av (φ : Num) (st : Store) (a : Addr) : Prop := Live φ st a ∨ φ.av a
section
variable (K : PySem.W.Frag) (φ : Num) (st : Store) (H : Hp)
def VR : Val → V → Prop
  | .d x, v => DR K (Av φ st) H x v
  | .box n, v => ∃ a, φ.ids[n]? = some a ∧ v = .ref a
def FR : List (Str × Val) → List (Str × V) → Prop
  | [], fs => fs = []
  | (f, v) :: r, fs => ∃ u s, fs = (f, u) :: s ∧ VR K φ st H v u ∧ FR r s
def BR : List Nat → List V → Prop
  | [], vs => vs = []
  | n :: ns, vs => ∃ a r, vs = .ref a :: r ∧ φ.ids[n]? = some a ∧ BR ns r
def CR (mg : Str → Option Value) (a : Addr) : Cell → Prop
  | .lst xs => ∃ vs, H a = some (.lst vs) ∧ DRs K (Av φ st) H xs vs
  | .dic kvs => ∃ o vs, H a = some o ∧ DkO (kvs.map (·.1)) vs o ∧ DRs K (Av φ st) H (kvs.map (·.2)) vs
  | .ldic kvs => ∃ ob o vs, H a = some (.frz ob o) ∧ DkO (kvs.map (·.1)) vs o ∧ DRs K (Av φ st) H (kvs.map (·.2)) vs
  | .obj c fs => ∃ C dx us, mg c = some (.ref C) ∧ H a = some (.ins C dx us) ∧ FR K φ st H fs us
  | .lbs ns => ∃ vs, H a = some (.lst vs) ∧ BR φ ns vs
  | .dbs ks ns => ∃ o vs, H a = some o ∧ DkO ks vs o ∧ BR φ ns vs
  | .dead => H a ≠ none
end
theorem BR.mon {φ φ' : Num} (p : φ.ids <+: φ'.ids) : ∀ {ns : List Nat} {vs : List V}, BR φ ns vs → BR φ' ns vs
  | [], _, h => h
  | n :: ns, _, ⟨a, r, e, h1, h2⟩ => ⟨a, r, e, by
      obtain ⟨l, hl⟩ := p
      have hn := (List.getElem?_eq_some_iff.mp h1).1
      rw [← hl, List.getElem?_append_left hn]; exact h1, BR.mon p h2⟩
theorem BR.ids {φ φ' : Num} (p : φ'.ids = φ.ids) : ∀ {ns : List Nat} {vs : List V}, BR φ ns vs → BR φ' ns vs
  | [], _, h => h
  | n :: ns, _, ⟨a, r, e, h1, h2⟩ => ⟨a, r, e, by rw [p]; exact h1, BR.ids p h2⟩
structure Tb where
  P : Addr
  nm : Nat → Nat → Option Str
def TabN (H : Hp) (t : Tb) : Prop :=
  ∃ ps : Array Value, H t.P = some (.tbl ps) ∧ TriplesOk ps.toList ∧ ∀ (pos : Pos) (cv : Value) (q : Str), codeAmong pos ps.toList = some cv → t.nm pos.line pos.col = some q → ∃ c, cv = .ref c ∧ H c = some (LamX.CodeO c q)
def avO : HO → Bool
  | .lst _ => true
  | .dK _ => true
  | .dT _ => true
  | _ => false
theorem avO_tbl {o : HO} (h : avO o = true) : isTbl o = false := by
  cases o <;> first | rfl | (simp [avO] at h)
structure StR (K : PySem.W.Frag) (mg : Str → Option Value) (T : List Tb) (φ : Num) (st : Store) (H : Hp) : Prop where
  len : φ.ids.length = st.length
  nd : φ.ids.Nodup
  av : ∀ a, φ.av a → (∃ o : HO, H a = some o ∧ avO o = true) ∧ a ∉ φ.ids
  cell : ∀ (n : Nat) (c : Cell) (a : Addr), st[n]? = some c → φ.ids[n]? = some a → CR K φ st H mg a c
  tabs : ∀ t ∈ T, TabN H t
structure Stp (φ : Num) (st : Store) (H : Hp) (φ' : Num) (st' : Store) (H' : Hp) : Prop where
  pre : φ.ids <+: φ'.ids
  av : (∀ a, φ.av a → φ'.av a) ∧ ∀ a, φ'.av a → φ.av a ∨ H a = none
  keep : ∀ (a : Addr) (u : HO), H a = some u → ¬ Live φ st a → isTbl u = false → H' a = some u ∨ (isDic (core u) = true ∧ ∃ u', H' a = some u' ∧ core u' = core u)
  live : ∀ a, Live φ' st' a → Live φ st a ∨ H a = none
  sm : ∀ a, H a ≠ none → H' a ≠ none
  frz : ∀ (a : Addr) (ob : Obj) (u : HO), H a = some (HO.frz ob u) → H' a = some (HO.frz ob u)
def Gr (H H' : Hp) : Prop := ∀ a o, H a = some o → H' a = some o
section
variable {K : PySem.W.Frag} {mg : Str → Option Value} {T : List Tb} {φ φ' φ2 : Num} {st st' st2 : Store} {H H' H2 : Hp}
theorem Stp.mon (s : Stp φ st H φ' st' H') : Mon (Av φ st) H (Av φ' st') H' :=
  ⟨fun a u h n t => s.keep a u h (fun l => n (.inl l)) t, fun a h n l => l.elim (fun l => (s.live a l).elim (fun l => n (.inl l)) h) fun l => (s.av.2 a l).elim (fun l => n (.inr l)) h⟩
theorem Gr.refl (H : Hp) : Gr H H := fun _ _ h => h
theorem Gr.trans (a : Gr H H') (b : Gr H' H2) : Gr H H2 := fun c o h => b c o (a c o h)
theorem Gr.upd {p : Addr} {o : HO} (h : H p = none) : Gr H (upd H p o) := fun a u e => by
  rw [upd_ne (ne_of_none e h)]
  exact e
theorem Gr.step (g : Gr H H') : Stp φ st H φ st H' :=
  ⟨List.prefix_rfl, ⟨fun _ h => h, fun _ h => .inl h⟩, fun a u h _ _ => .inl (g a u h), fun a l => .inl l, fun a h => (by
    cases e : H a with
    | none => exact absurd e h
    | some o => rw [g a o e]; exact fun z => (nomatch z)), fun a ob u h => g a _ h⟩
theorem Stp.refl : Stp φ st H φ st H := (Gr.refl H).step
theorem Stp.trans (a : Stp φ st H φ' st' H') (b : Stp φ' st' H' φ2 st2 H2) : Stp φ st H φ2 st2 H2 := by
  have back : ∀ x, H' x = none → H x = none := fun x q => by
    cases e : H x with
    | none => rfl
    | some o => exact absurd q (a.sm x (by rw [e]; exact fun z => nomatch z))
  refine ⟨a.pre.trans b.pre, ⟨fun x q => b.av.1 x (a.av.1 x q), fun x q => (b.av.2 x q).elim (a.av.2 x) fun q => .inr (back x q)⟩, fun x u h n t => ?_, fun x l => ?_, fun x h => b.sm x (a.sm x h), fun x ob u h => b.frz x ob u (a.frz x ob u h)⟩
  · have n' : ¬ Live φ' st' x := fun l => (a.live x l).elim n fun z => by rw [h] at z; cases z
    rcases a.keep x u h n t with q | ⟨q1, u', q2, q3⟩
    · exact b.keep x u q n' t
    · have t' : isTbl u' = false := by
        cases u' with
        | tbl ps => rw [show core (HO.tbl ps) = HO.tbl ps from rfl] at q3; rw [← q3] at q1; cases q1
        | _ => rfl
      rcases b.keep x u' q2 n' t' with r | ⟨_, u2, r2, r3⟩
      · exact .inr ⟨q1, u', r, q3⟩
      · exact .inr ⟨q1, u2, r2, r3.trans q3⟩
  · rcases b.live x l with q | q
    · exact a.live x q
    · cases e : H x with
      | none => exact .inr rfl
      | some o => exact absurd q (a.sm x (by rw [e]; exact fun z => nomatch z))
theorem VR.mon (s : Stp φ st H φ' st' H') : ∀ {v : Val} {u : V}, VR K φ st H v u → VR K φ' st' H' v u
  | .d x, u, h => DR.mon s.mon x u h
  | .box n, u, ⟨a, h, e⟩ => ⟨a, by
      obtain ⟨l, hl⟩ := s.pre
      have hn := (List.getElem?_eq_some_iff.mp h).1
      rw [← hl, List.getElem?_append_left hn]; exact h, e⟩
theorem FR.mon (s : Stp φ st H φ' st' H') : ∀ {fs : List (Str × Val)} {us : List (Str × V)}, FR K φ st H fs us → FR K φ' st' H' fs us
  | [], _, h => h
  | (f, v) :: r, _, ⟨u, t, e, h1, h2⟩ => ⟨u, t, e, VR.mon s h1, FR.mon s h2⟩
theorem VR.mon' (m : Mon (Av φ st) H (Av φ' st') H') (p : φ.ids <+: φ'.ids) : ∀ {v : Val} {u : V}, VR K φ st H v u → VR K φ' st' H' v u
  | .d x, u, h => DR.mon m x u h
  | .box n, u, ⟨a, h, e⟩ => ⟨a, by
      obtain ⟨l, hl⟩ := p
      have hn := (List.getElem?_eq_some_iff.mp h).1
      rw [← hl, List.getElem?_append_left hn]; exact h, e⟩
theorem FR.mon' (m : Mon (Av φ st) H (Av φ' st') H') (p : φ.ids <+: φ'.ids) : ∀ {fs : List (Str × Val)} {us : List (Str × V)}, FR K φ st H fs us → FR K φ' st' H' fs us
  | [], _, h => h
  | (f, v) :: r, _, ⟨u, t, e, h1, h2⟩ => ⟨u, t, e, VR.mon' m p h1, FR.mon' m p h2⟩
theorem CR.mon' {a : Addr} (m : Mon (Av φ st) H (Av φ' st') H') (p : φ.ids <+: φ'.ids) (he : H' a = H a) : ∀ {c : Cell}, CR K φ st H mg a c → CR K φ' st' H' mg a c
  | .lst xs, ⟨vs, h1, h2⟩ => ⟨vs, he.trans h1, DRs.mon m _ _ h2⟩
  | .dic kvs, ⟨o, vs, h1, h2, h3⟩ => ⟨o, vs, he.trans h1, h2, DRs.mon m _ _ h3⟩
  | .ldic kvs, ⟨ob, o, vs, h1, h2, h3⟩ => ⟨ob, o, vs, he.trans h1, h2, DRs.mon m _ _ h3⟩
  | .obj c fs, ⟨C, dx, us, h0, h1, h2⟩ => ⟨C, dx, us, h0, he.trans h1, FR.mon' m p h2⟩
  | .lbs ns, ⟨vs, h1, h2⟩ => ⟨vs, he.trans h1, BR.mon p h2⟩
  | .dbs ks ns, ⟨o, vs, h1, h2, h3⟩ => ⟨o, vs, he.trans h1, h2, BR.mon p h3⟩
  | .dead, h => by
    show H' a ≠ none
    rw [he]; exact h
theorem TabN.gr {t : Tb} (g : Gr H H') (h : TabN H t) : TabN H' t := by
  obtain ⟨ps, h1, h2, h3⟩ := h
  refine ⟨ps, g _ _ h1, h2, fun pos cv q e1 e2 => ?_⟩
  obtain ⟨c, rfl, e⟩ := h3 pos cv q e1 e2
  exact ⟨c, rfl, g _ _ e⟩
theorem CR.gr {a : Addr} (g : Gr H H') : ∀ {c : Cell}, CR K φ st H mg a c → CR K φ st H' mg a c
  | .lst xs, ⟨vs, h1, h2⟩ => ⟨vs, g _ _ h1, DRs.mon (g.step (φ := φ) (st := st)).mon _ _ h2⟩
  | .dic kvs, ⟨o, vs, h1, h2, h3⟩ => ⟨o, vs, g _ _ h1, h2, DRs.mon (g.step (φ := φ) (st := st)).mon _ _ h3⟩
  | .ldic kvs, ⟨ob, o, vs, h1, h2, h3⟩ => ⟨ob, o, vs, g _ _ h1, h2, DRs.mon (g.step (φ := φ) (st := st)).mon _ _ h3⟩
  | .obj c fs, ⟨C, dx, us, h0, h1, h2⟩ => ⟨C, dx, us, h0, g _ _ h1, FR.mon g.step h2⟩
  | .lbs ns, ⟨vs, h1, h2⟩ => ⟨vs, g _ _ h1, h2⟩
  | .dbs ks ns, ⟨o, vs, h1, h2, h3⟩ => ⟨o, vs, g _ _ h1, h2, h3⟩
  | .dead, h => by
    cases e : H a with
    | none => exact absurd e h
    | some o => rw [show CR K φ st H' mg a .dead = (H' a ≠ none) from rfl, g a o e]; exact fun z => nomatch z
theorem StR.gr (g : Gr H H') (s : StR K mg T φ st H) : StR K mg T φ st H' :=
  ⟨s.len, s.nd, fun a h => ⟨let ⟨o, e, w⟩ := (s.av a h).1; ⟨o, g _ _ e, w⟩, (s.av a h).2⟩, fun n c a e1 e2 => (s.cell n c a e1 e2).gr g, fun t ht => (s.tabs t ht).gr g⟩
theorem StR.ne (s : StR K mg T φ st H) {a : Addr} (h : a ∈ φ.ids) : H a ≠ none := by
  obtain ⟨n, hn, e⟩ := List.mem_iff_getElem.mp h
  have hs : n < st.length := by rw [← s.len]; exact hn
  have := s.cell n st[n] a (List.getElem?_eq_getElem hs) (by rw [List.getElem?_eq_getElem hn, e])
  generalize st[n] = c at this
  cases c with
  | lst xs => obtain ⟨vs, h1, _⟩ := this; rw [h1]; exact fun z => nomatch z
  | dic kvs => obtain ⟨o, vs, h1, _⟩ := this; rw [h1]; exact fun z => nomatch z
  | ldic kvs => obtain ⟨ob, o, vs, h1, _⟩ := this; rw [h1]; exact fun z => nomatch z
  | obj c fs => obtain ⟨C, dx, us, _, h1, _⟩ := this; rw [h1]; exact fun z => nomatch z
  | lbs ns => obtain ⟨vs, h1, _⟩ := this; rw [h1]; exact fun z => nomatch z
  | dbs ks ns => obtain ⟨o, vs, h1, _⟩ := this; rw [h1]; exact fun z => nomatch z
  | dead => exact this
theorem StR.avne (s : StR K mg T φ st H) {a : Addr} (h : φ.av a) : H a ≠ none := by
  obtain ⟨⟨o, e, _⟩, _⟩ := s.av a h
  rw [e]; exact fun z => nomatch z
theorem Live.mem {a : Addr} (h : Live φ st a) : a ∈ φ.ids := by
  obtain ⟨n, c, _, _, e⟩ := h
  exact List.mem_of_getElem? e
theorem StR.fresh (s : StR K mg T φ st H) {p : Addr} (h : H p = none) : p ∉ φ.ids := fun z => s.ne z h
theorem StR.box {n : Nat} {a : Addr} {c : Cell} (s : StR K mg T φ st H) (e : φ.ids[n]? = some a) (ec : st[n]? = some c) : CR K φ st H mg a c := s.cell n c a ec e
theorem StR.at {n : Nat} {c : Cell} (s : StR K mg T φ st H) (ec : st[n]? = some c) : ∃ a, φ.ids[n]? = some a := by
  have h := (List.getElem?_eq_some_iff.mp ec).1
  exact ⟨φ.ids[n]'(by rw [s.len]; exact h), List.getElem?_eq_getElem _⟩
def Num.with (φ : Num) (av : Addr → Prop) : Num := { φ with av := av }
def Num.hide (φ : Num) (p : Addr) : Num := φ.with fun a => φ.av a ∨ a = p
def Num.bare (φ : Num) (p : Addr) : Num := φ.with fun a => φ.av a ∧ a ≠ p
theorem Stp.bare (s : Stp φ st H φ' st' H') {p : Addr} (hp : H p = none) (np : ¬ φ.av p) : Stp φ st H (φ'.bare p) st' H' :=
  ⟨s.pre, ⟨fun a q => ⟨s.av.1 a q, fun z => np (by rw [← z]; exact q)⟩, fun a q => s.av.2 a q.1⟩, s.keep, s.live, s.sm, s.frz⟩
theorem Stp.hide {p : Addr} {o : HO} (hp : H p = none) : Stp φ st H (φ.hide p) st (upd H p o) :=
  ⟨List.prefix_rfl, ⟨fun a q => .inl q, fun a q => q.imp id fun z => by rw [z]; exact hp⟩, fun a u e _ _ => .inl (Gr.upd hp a u e), fun a l => .inl l, fun a h => ((Gr.upd hp).step (φ := φ) (st := st)).sm a h, fun a ob u h => Gr.upd hp a _ h⟩
theorem Stp.poke (s : Stp φ st H φ' st' H') {p : Addr} {o : HO} (hp : H p = none) : Stp φ st H φ' st' (upd H' p o) := by
  have ne : ∀ a u, H a = some u → a ≠ p := fun a u e z => by rw [z, hp] at e; cases e
  refine ⟨s.pre, s.av, fun a u e n t => by rw [upd_ne (ne a u e)]; exact s.keep a u e n t, s.live, fun a h => ?_, fun a ob u h => by rw [upd_ne (ne a _ h)]; exact s.frz a ob u h⟩
  by_cases z : a = p
  · rw [z, upd_same]; exact fun z => nomatch z
  · rw [upd_ne z]; exact s.sm a h
theorem mon_less {av : Addr → Prop} (h : ∀ a, av a → φ.av a) : Mon (Av φ st) H (Av (φ.with av) st) H := ⟨fun a u e _ _ => .inl e, fun a _ n l => n (l.imp id (h a))⟩
theorem StR.less (s : StR K mg T φ st H) {av : Addr → Prop} (h : ∀ a, av a → φ.av a) : StR K mg T (φ.with av) st H :=
  ⟨s.len, s.nd, fun a q => s.av a (h a q), fun n c a e1 e2 => (s.cell n c a e1 e2).mon' (mon_less h) List.prefix_rfl rfl, s.tabs⟩
theorem mon_hide {p : Addr} {o : HO} (hp : H p = none) : Mon (Av φ st) H (Av (φ.hide p) st) (upd H p o) :=
  ⟨fun a u e _ _ => .inl (Gr.upd hp a u e), fun a h n l => l.elim (fun l => n (.inl l)) fun l => l.elim (fun l => n (.inr l)) fun z => h (by rw [z]; exact hp)⟩
theorem StR.hideO (s : StR K mg T φ st H) {p : Addr} {o : HO} (hp : H p = none) (ho : avO o = true) : StR K mg T (φ.hide p) st (upd H p o) := by
  have ne : ∀ a ∈ φ.ids, a ≠ p := fun a h z => s.ne h (by rw [z]; exact hp)
  refine ⟨s.len, s.nd, fun a q => ?_, fun n c a e1 e2 => (s.cell n c a e1 e2).mon' (mon_hide hp) List.prefix_rfl (upd_ne (ne a (List.mem_of_getElem? e2))), fun t ht => (s.tabs t ht).gr (Gr.upd hp)⟩
  rcases q with q | q
  · exact ⟨let ⟨u, e, w⟩ := (s.av a q).1; ⟨u, Gr.upd hp _ _ e, w⟩, (s.av a q).2⟩
  · rw [q]
    exact ⟨⟨o, upd_same, ho⟩, fun z => ne p z rfl⟩
theorem StR.hide (s : StR K mg T φ st H) {p : Addr} {l : List V} (hp : H p = none) : StR K mg T (φ.hide p) st (upd H p (.lst l)) := s.hideO hp rfl
theorem mon_poke {p : Addr} {o : HO} (hp : φ.av p) : Mon (Av φ st) H (Av φ st) (upd H p o) :=
  ⟨fun a u e n _ => .inl (by rw [upd_ne (fun z => n (.inr (by rw [z]; exact hp)))]; exact e), fun a _ n => n⟩
theorem StR.pokeO (s : StR K mg T φ st H) {p : Addr} {o o' : HO} (hp : φ.av p) (hx : H p = some o) (ho : avO o = true) (ho' : avO o' = true) : StR K mg T φ st (upd H p o') := by
  have ne : ∀ a ∈ φ.ids, a ≠ p := fun a h z => (s.av p hp).2 (by rw [← z]; exact h)
  refine ⟨s.len, s.nd, fun a q => ⟨?_, (s.av a q).2⟩, fun n c a e1 e2 => (s.cell n c a e1 e2).mon' (mon_poke hp) List.prefix_rfl (upd_ne (ne a (List.mem_of_getElem? e2))), fun t ht => ?_⟩
  · by_cases h : a = p
    · exact ⟨o', by rw [h, upd_same], ho'⟩
    · rw [upd_ne h]; exact (s.av a q).1
  · obtain ⟨ps, q1, q2, q3⟩ := s.tabs t ht
    have n1 : t.P ≠ p := fun z => by rw [z, hx] at q1; cases q1; simp [avO] at ho
    refine ⟨ps, by rw [upd_ne n1]; exact q1, q2, fun pos cv q e1 e2 => ?_⟩
    obtain ⟨c, r1, r2⟩ := q3 pos cv q e1 e2
    have n2 : c ≠ p := fun z => by
      rw [z, hx] at r2
      have r2 := Option.some.inj r2
      rw [r2] at ho
      exact absurd ho (by simp [LamX.CodeO, avO])
    exact ⟨c, r1, by rw [upd_ne n2]; exact r2⟩
theorem StR.poke (s : StR K mg T φ st H) {p : Addr} {xs ys : List V} (hp : φ.av p) (hx : H p = some (.lst xs)) : StR K mg T φ st (upd H p (.lst ys)) := s.pokeO hp hx rfl rfl
def SlR (K : PySem.W.Frag) (φ : Num) (st : Store) (H : Hp) (sl : Slots) (σ : L2.St) : Prop :=
  sl.length = σ.length ∧ ∀ (i : Nat) (v : Val), sl[i]? = some (some v) → ∃ u, σ[i]? = some (some u) ∧ VR K φ st H v u
theorem SlR.mon (s : Stp φ st H φ' st' H') {sl : Slots} {σ : L2.St} (h : SlR K φ st H sl σ) : SlR K φ' st' H' sl σ :=
  ⟨h.1, fun i v e => let ⟨u, e1, r⟩ := h.2 i v e; ⟨u, e1, r.mon s⟩⟩
theorem SlR.set {sl : Slots} {σ : L2.St} {i : Nat} {v : Val} {u : V} (h : SlR K φ st H sl σ) (r : VR K φ st H v u) : SlR K φ st H (sl.set i (some v)) (σ.set i (some u)) := by
  refine ⟨by simpa using h.1, fun j w e => ?_⟩
  by_cases hj : i = j
  · subst hj
    by_cases hi : i < sl.length
    · rw [List.getElem?_set_self hi] at e
      cases e
      exact ⟨u, by rw [List.getElem?_set_self (by rw [← h.1]; exact hi)], r⟩
    · rw [List.getElem?_eq_none (by simpa using hi)] at e
      cases e
  · rw [List.getElem?_set_ne hj] at e
    obtain ⟨u', e1, r1⟩ := h.2 j w e
    exact ⟨u', by rw [List.getElem?_set_ne hj]; exact e1, r1⟩
def EPost (K : PySem.W.Frag) (mg : Str → Option Value) (T : List Tb) (W : XK) (φ : Num) (st : Store) (H : Hp) (Q : VK) : R Val → Prop
  | .ok v st' => ∀ φ' H' u, Stp φ st H φ' st' H' → StR K mg T φ' st' H' → VR K φ' st' H' v u → Q u H'
  | .exn c st' => ∀ φ' H' C, Stp φ st H φ' st' H' → StR K mg T φ' st' H' → mg c = some (.ref C) → W (.ref C) none H'
  | .stuck => False
def APost (K : PySem.W.Frag) (mg : Str → Option Value) (T : List Tb) (W : XK) (φ : Num) (st : Store) (H : Hp) (Q : List V → Hp → Prop) : R (List Val) → Prop
  | .ok vs st' => ∀ φ' H' us, Stp φ st H φ' st' H' → StR K mg T φ' st' H' → Paired (VR K φ' st' H') vs us → Q us H'
  | .exn c st' => ∀ φ' H' C, Stp φ st H φ' st' H' → StR K mg T φ' st' H' → mg c = some (.ref C) → W (.ref C) none H'
  | .stuck => False
def TPost (K : PySem.W.Frag) (mg : Str → Option Value) (T : List Tb) (W : XK) (φ : Num) (st : Store) (H : Hp) (Q : Bool → Hp → Prop) : R Bool → Prop
  | .ok b st' => ∀ φ' H', Stp φ st H φ' st' H' → StR K mg T φ' st' H' → Q b H'
  | .exn c st' => ∀ φ' H' C, Stp φ st H φ' st' H' → StR K mg T φ' st' H' → mg c = some (.ref C) → W (.ref C) none H'
  | .stuck => False
def SPost (K : PySem.W.Frag) (mg : Str → Option Value) (T : List Tb) (W : XK) (φ : Num) (st : Store) (H : Hp) (D : Ends) : SR → Prop
  | .nx sl st' => ∀ φ' H' σ', Stp φ st H φ' st' H' → StR K mg T φ' st' H' → SlR K φ' st' H' sl σ' → D.nx σ' H'
  | .rt v st' => ∀ φ' H' u, Stp φ st H φ' st' H' → StR K mg T φ' st' H' → VR K φ' st' H' v u → D.rt u H'
  | .bk sl st' => ∀ φ' H' σ', Stp φ st H φ' st' H' → StR K mg T φ' st' H' → SlR K φ' st' H' sl σ' → D.bk σ' H'
  | .ct sl st' => ∀ φ' H' σ', Stp φ st H φ' st' H' → StR K mg T φ' st' H' → SlR K φ' st' H' sl σ' → D.ct σ' H'
  | .exn c sl st' => ∀ φ' H' σ' C, Stp φ st H φ' st' H' → StR K mg T φ' st' H' → SlR K φ' st' H' sl σ' → mg c = some (.ref C) → W (.ref C) none H'
  | .stuck => False
section
variable {W : XK} {σ : L2.St}
theorem EPost.shift {Q : VK} (s : Stp φ st H φ' st' H') : ∀ {r : R Val}, EPost K mg T W φ st H Q r → EPost K mg T W φ' st' H' Q r
  | .ok _ _, h => fun φ2 H2 u s2 => h φ2 H2 u (s.trans s2)
  | .exn _ _, h => fun φ2 H2 C s2 => h φ2 H2 C (s.trans s2)
  | .stuck, h => h
theorem APost.shift {Q : List V → Hp → Prop} (s : Stp φ st H φ' st' H') : ∀ {r : R (List Val)}, APost K mg T W φ st H Q r → APost K mg T W φ' st' H' Q r
  | .ok _ _, h => fun φ2 H2 u s2 => h φ2 H2 u (s.trans s2)
  | .exn _ _, h => fun φ2 H2 C s2 => h φ2 H2 C (s.trans s2)
  | .stuck, h => h
theorem TPost.shift {Q : Bool → Hp → Prop} (s : Stp φ st H φ' st' H') : ∀ {r : R Bool}, TPost K mg T W φ st H Q r → TPost K mg T W φ' st' H' Q r
  | .ok _ _, h => fun φ2 H2 s2 => h φ2 H2 (s.trans s2)
  | .exn _ _, h => fun φ2 H2 C s2 => h φ2 H2 C (s.trans s2)
  | .stuck, h => h
theorem SPost.shift {D : Ends} (s : Stp φ st H φ' st' H') : ∀ {r : SR}, SPost K mg T W φ st H D r → SPost K mg T W φ' st' H' D r
  | .nx _ _, h => fun φ2 H2 u s2 => h φ2 H2 u (s.trans s2)
  | .rt _ _, h => fun φ2 H2 u s2 => h φ2 H2 u (s.trans s2)
  | .bk _ _, h => fun φ2 H2 u s2 => h φ2 H2 u (s.trans s2)
  | .ct _ _, h => fun φ2 H2 u s2 => h φ2 H2 u (s.trans s2)
  | .exn _ _ _, h => fun φ2 H2 σ2 C s2 => h φ2 H2 σ2 C (s.trans s2)
  | .stuck, h => h
end
end
structure At (K : PySem.W.Frag) (mg : Str → Option Value) (T : List Tb) (φ : Num) (sl : Slots) (st : Store) (σ : L2.St) (H : Hp) : Prop where
  s : StR K mg T φ st H
  l : SlR K φ st H sl σ
def tE (X : Cx) (T : List Tb) (W : XK) (m : EM) : TE := fun σ H Q => ∃ φ sl st, At X.K X.mg T φ sl st σ H ∧ EPost X.K X.mg T W φ st H Q (m sl st)
def tA (X : Cx) (T : List Tb) (W : XK) (m : AM) : TA := fun σ H Q => ∃ φ sl st, At X.K X.mg T φ sl st σ H ∧ APost X.K X.mg T W φ st H Q (m sl st)
def tT (X : Cx) (T : List Tb) (W : XK) (m : TM) : TT := fun σ H Q => ∃ φ sl st, At X.K X.mg T φ sl st σ H ∧ TPost X.K X.mg T W φ st H Q (m sl st)
def tS (X : Cx) (T : List Tb) (W : XK) (m : SM) : TS := fun D σ H => ∃ φ sl st, At X.K X.mg T φ sl st σ H ∧ SPost X.K X.mg T W φ st H D (m sl st)
structure E (X : Cx) (T : List Tb) (W : XK) (e : Expr) (m : EM) : Prop where
  run : PE X e (tE X T W m)
structure Ea (X : Cx) (T : List Tb) (W : XK) (es : List Expr) (m : AM) : Prop where
  run : PA X es (tA X T W m)
structure Et (X : Cx) (T : List Tb) (W : XK) (e : Expr) (m : TM) : Prop where
  run : PT X e (tT X T W m)
structure S (X : Cx) (T : List Tb) (W : XK) (st : Stmt) (m : SM) : Prop where
  run : PS X st (tS X T W m)
structure Ss (X : Cx) (T : List Tb) (W : XK) (sts : List Stmt) (m : SM) : Prop where
  run : PSs X sts (tS X T W m)
theorem PE.imp {X : Cx} {e : Expr} {t t' : TE} (h : PE X e t) (i : ∀ σ H Q, t' σ H Q → t σ H Q) : PE X e t' := ⟨fun p s σ H Q I q => h.run p s σ H Q I (i σ H Q q)⟩
theorem PA.imp {X : Cx} {e : List Expr} {t t' : TA} (h : PA X e t) (i : ∀ σ H Q, t' σ H Q → t σ H Q) : PA X e t' := ⟨fun pos p s σ H Q I q => h.run pos p s σ H Q I (i σ H Q q)⟩
theorem PT.imp {X : Cx} {e : Expr} {t t' : TT} (h : PT X e t) (i : ∀ σ H Q, t' σ H Q → t σ H Q) : PT X e t' := ⟨fun p s σ H Q I q => h.run p s σ H Q I (i σ H Q q)⟩
theorem PW.imp {X : Cx} {e : Expr} {t t' : TT} (h : PW X e t) (i : ∀ σ H Q, t' σ H Q → t σ H Q) : PW X e t' := ⟨fun w p s σ H Q I q => h.run w p s σ H Q I (i σ H Q q)⟩
theorem PS.imp {X : Cx} {e : Stmt} {t t' : TS} (h : PS X e t) (i : ∀ D σ H, t' D σ H → t D σ H) : PS X e t' := ⟨fun p s σ H D I q => h.run p s σ H D I (i D σ H q)⟩
theorem PSs.imp {X : Cx} {e : List Stmt} {t t' : TS} (h : PSs X e t) (i : ∀ D σ H, t' D σ H → t D σ H) : PSs X e t' := ⟨fun p s σ H D I q => h.run p s σ H D I (i D σ H q)⟩
section
variable {X : Cx} {T : List Tb} {W : XK} {φ : Num} {sl : Slots} {st : Store} {σ : L2.St} {H : Hp}
theorem tE_bind {m : EM} {f : Val → Store → R Val} {Q : VK} (a : At X.K X.mg T φ sl st σ H) (h : EPost X.K X.mg T W φ st H Q ((m sl st).bind f)) :
    tE X T W m σ H fun u H1 => ∃ φ1 st1 v, At X.K X.mg T φ1 sl st1 σ H1 ∧ VR X.K φ1 st1 H1 v u ∧ Stp φ st H φ1 st1 H1 ∧ EPost X.K X.mg T W φ1 st1 H1 Q (f v st1) := by
  refine ⟨φ, sl, st, a, ?_⟩
  cases e : m sl st with
  | ok v st1 =>
    rw [e] at h
    exact fun φ1 H1 u s1 r1 v1 => ⟨φ1, st1, v, ⟨r1, a.l.mon s1⟩, v1, s1, EPost.shift s1 h⟩
  | exn c st1 => rw [e] at h; exact h
  | stuck => rw [e] at h; exact h
theorem tE_bindA {m : EM} {f : Val → Store → R (List Val)} {Q : List V → Hp → Prop} (a : At X.K X.mg T φ sl st σ H) (h : APost X.K X.mg T W φ st H Q ((m sl st).bind f)) :
    tE X T W m σ H fun u H1 => ∃ φ1 st1 v, At X.K X.mg T φ1 sl st1 σ H1 ∧ VR X.K φ1 st1 H1 v u ∧ Stp φ st H φ1 st1 H1 ∧ APost X.K X.mg T W φ1 st1 H1 Q (f v st1) := by
  refine ⟨φ, sl, st, a, ?_⟩
  cases e : m sl st with
  | ok v st1 =>
    rw [e] at h
    exact fun φ1 H1 u s1 r1 v1 => ⟨φ1, st1, v, ⟨r1, a.l.mon s1⟩, v1, s1, APost.shift s1 h⟩
  | exn c st1 => rw [e] at h; exact h
  | stuck => rw [e] at h; exact h
theorem tE_bindT {m : EM} {f : Val → Store → R Bool} {Q : Bool → Hp → Prop} (a : At X.K X.mg T φ sl st σ H) (h : TPost X.K X.mg T W φ st H Q ((m sl st).bind f)) :
    tE X T W m σ H fun u H1 => ∃ φ1 st1 v, At X.K X.mg T φ1 sl st1 σ H1 ∧ VR X.K φ1 st1 H1 v u ∧ Stp φ st H φ1 st1 H1 ∧ TPost X.K X.mg T W φ1 st1 H1 Q (f v st1) := by
  refine ⟨φ, sl, st, a, ?_⟩
  cases e : m sl st with
  | ok v st1 =>
    rw [e] at h
    exact fun φ1 H1 u s1 r1 v1 => ⟨φ1, st1, v, ⟨r1, a.l.mon s1⟩, v1, s1, TPost.shift s1 h⟩
  | exn c st1 => rw [e] at h; exact h
  | stuck => rw [e] at h; exact h
theorem tA_bind {m : AM} {f : List Val → Store → R Val} {Q : VK} (a : At X.K X.mg T φ sl st σ H) (h : EPost X.K X.mg T W φ st H Q ((m sl st).bind f)) :
    tA X T W m σ H fun us H1 => ∃ φ1 st1 vs, At X.K X.mg T φ1 sl st1 σ H1 ∧ Paired (VR X.K φ1 st1 H1) vs us ∧ Stp φ st H φ1 st1 H1 ∧ EPost X.K X.mg T W φ1 st1 H1 Q (f vs st1) := by
  refine ⟨φ, sl, st, a, ?_⟩
  cases e : m sl st with
  | ok v st1 =>
    rw [e] at h
    exact fun φ1 H1 u s1 r1 v1 => ⟨φ1, st1, v, ⟨r1, a.l.mon s1⟩, v1, s1, EPost.shift s1 h⟩
  | exn c st1 => rw [e] at h; exact h
  | stuck => rw [e] at h; exact h
theorem tA_bindA {m : AM} {f : List Val → Store → R (List Val)} {Q : List V → Hp → Prop} (a : At X.K X.mg T φ sl st σ H) (h : APost X.K X.mg T W φ st H Q ((m sl st).bind f)) :
    tA X T W m σ H fun us H1 => ∃ φ1 st1 vs, At X.K X.mg T φ1 sl st1 σ H1 ∧ Paired (VR X.K φ1 st1 H1) vs us ∧ Stp φ st H φ1 st1 H1 ∧ APost X.K X.mg T W φ1 st1 H1 Q (f vs st1) := by
  refine ⟨φ, sl, st, a, ?_⟩
  cases e : m sl st with
  | ok v st1 =>
    rw [e] at h
    exact fun φ1 H1 u s1 r1 v1 => ⟨φ1, st1, v, ⟨r1, a.l.mon s1⟩, v1, s1, APost.shift s1 h⟩
  | exn c st1 => rw [e] at h; exact h
  | stuck => rw [e] at h; exact h
theorem tT_bindT {m : TM} {f : Bool → Store → R Bool} {Q : Bool → Hp → Prop} (a : At X.K X.mg T φ sl st σ H) (h : TPost X.K X.mg T W φ st H Q ((m sl st).bind f)) :
    tT X T W m σ H fun b H1 => ∃ φ1 st1, At X.K X.mg T φ1 sl st1 σ H1 ∧ Stp φ st H φ1 st1 H1 ∧ TPost X.K X.mg T W φ1 st1 H1 Q (f b st1) := by
  refine ⟨φ, sl, st, a, ?_⟩
  cases e : m sl st with
  | ok v st1 =>
    rw [e] at h
    exact fun φ1 H1 s1 r1 => ⟨φ1, st1, ⟨r1, a.l.mon s1⟩, s1, TPost.shift s1 h⟩
  | exn c st1 => rw [e] at h; exact h
  | stuck => rw [e] at h; exact h
theorem tE_bindS {m : EM} {f : Val → Store → SR} {D : Ends} (a : At X.K X.mg T φ sl st σ H) (h : SPost X.K X.mg T W φ st H D (aS (m sl st) sl f)) :
    tE X T W m σ H fun u H1 => ∃ φ1 st1 v, At X.K X.mg T φ1 sl st1 σ H1 ∧ VR X.K φ1 st1 H1 v u ∧ Stp φ st H φ1 st1 H1 ∧ SPost X.K X.mg T W φ1 st1 H1 D (f v st1) := by
  refine ⟨φ, sl, st, a, ?_⟩
  cases e : m sl st with
  | ok v st1 =>
    rw [e] at h
    exact fun φ1 H1 u s1 r1 v1 => ⟨φ1, st1, v, ⟨r1, a.l.mon s1⟩, v1, s1, SPost.shift s1 h⟩
  | exn c st1 => rw [e] at h; exact fun φ' H' C s1 r1 hc => h φ' H' σ C s1 r1 (a.l.mon s1) hc
  | stuck => rw [e] at h; exact h
theorem tT_bindS {m : TM} {f : Bool → Store → SR} {D : Ends} (a : At X.K X.mg T φ sl st σ H) (h : SPost X.K X.mg T W φ st H D (aS (m sl st) sl f)) :
    tT X T W m σ H fun b H1 => ∃ φ1 st1, At X.K X.mg T φ1 sl st1 σ H1 ∧ Stp φ st H φ1 st1 H1 ∧ SPost X.K X.mg T W φ1 st1 H1 D (f b st1) := by
  refine ⟨φ, sl, st, a, ?_⟩
  cases e : m sl st with
  | ok v st1 =>
    rw [e] at h
    exact fun φ1 H1 s1 r1 => ⟨φ1, st1, ⟨r1, a.l.mon s1⟩, s1, SPost.shift s1 h⟩
  | exn c st1 => rw [e] at h; exact fun φ' H' C s1 r1 hc => h φ' H' σ C s1 r1 (a.l.mon s1) hc
  | stuck => rw [e] at h; exact h
end
end TL
end

section
set_option Elab.async false
set_option linter.all false
set_option maxRecDepth 100000
set_option autoImplicit false
namespace TL
open PySem L2
structure DI where
  N : List Str
  sc : Scope
  cl : List Str
def DI.v (D : DI) (i : Nat) (x : Str) : Bool :=
  decide (D.N[i]? = some x) && (decide (D.sc.names.lookup x = some .local) || decide (D.sc.names.lookup x = some .cell) || decide (D.sc.names.lookup x = some .free)) && !(x == ("__debug__" : Str)) && !(x == ("__classdict__" : Str))
def DI.s (D : DI) (i : Nat) (x : Str) : Bool :=
  decide (D.N[i]? = some x) && (decide (D.sc.names.lookup x = some .local) || (decide (D.sc.names.lookup x = some .cell) && decide (x ∈ D.cl)))
def DI.g (D : DI) (x : Str) : Bool := decide (D.sc.names.lookup x = some .globalImplicit) && !(x == ("__debug__" : Str)) && !decide (x = "__name__")
structure Cin (D : DI) (k : Nat) (X : Cx) : Prop where
  N : X.N = D.N
  sc : X.env.scope = D.sc
  nd : X.N.Nodup
  room : Room k X.A
  calm : X.calm = true
  fn : ∀ x ∈ D.cl, X.fn x = true
  po : PassesOwn (model X.prog X.w) X.A X.env X.xe
section
variable {D : DI} {k : Nat} {X : Cx} {T : List Tb} {W : XK}
theorem Cin.vis (c : Cin D k X) {i : Nat} {x : Str} (h : D.v i x = true) : X.N[i]? = some x ∧ Vis X.env.scope x ∧ (x == ("__debug__" : Str)) = false ∧ (x == ("__classdict__" : Str)) = false := by
  unfold DI.v at h
  simp only [Bool.and_eq_true, Bool.or_eq_true, decide_eq_true_eq, Bool.not_eq_true'] at h
  obtain ⟨⟨⟨h1, h2⟩, h3⟩, h4⟩ := h
  refine ⟨by rw [c.N]; exact h1, ?_, h3, h4⟩
  unfold Vis
  rw [c.sc]
  rcases h2 with (h2 | h2) | h2
  · exact .inl h2
  · exact .inr (.inl h2)
  · exact .inr (.inr h2)
theorem Cin.put (c : Cin D k X) {i : Nat} {x : Str} (h : D.s i x = true) : X.N[i]? = some x ∧ L2.Loc X.env.scope x ∧ (X.fn x = true ∨ X.env.scope.names.lookup x = some .local) := by
  unfold DI.s at h
  simp only [Bool.and_eq_true, Bool.or_eq_true, decide_eq_true_eq] at h
  obtain ⟨h1, h2⟩ := h
  refine ⟨by rw [c.N]; exact h1, ?_, ?_⟩
  · unfold L2.Loc
    rw [c.sc]
    exact h2.imp id fun z => z.1
  · rcases h2 with h2 | h2
    · exact .inr (by rw [c.sc]; exact h2)
    · exact .inl (c.fn x h2.2)
theorem Cin.gl (c : Cin D k X) {x : Str} (h : D.g x = true) : Gl X x ∧ (x == ("__debug__" : Str)) = false ∧ x ≠ "__name__" := by
  unfold DI.g at h
  simp only [Bool.and_eq_true, Bool.not_eq_true', decide_eq_true_eq, decide_eq_false_iff_not] at h
  obtain ⟨⟨h1, h2⟩, h3⟩ := h
  refine ⟨?_, h2, h3⟩
  show X.env.scope.names.lookup x = _
  rw [c.sc]
  exact h1
theorem Cin.mono (c : Cin D k X) {j : Nat} (h : j ≤ k) : Cin D j X := ⟨c.N, c.sc, c.nd, c.room.mono h, c.calm, c.fn, c.po⟩
theorem E_var {i : Nat} {x : Str} {pos : Pos} (c : Cin D k X) (h : D.v i x = true) : E X T W (.Name x pos) (mVar i) := by
  obtain ⟨h1, h2, h3, h4⟩ := c.vis h
  refine ⟨PE.imp (pe_var h1 h2 h3 h4) ?_⟩
  rintro σ H Q ⟨φ, sl, st, a, h⟩
  unfold mVar at h
  cases e : sl[i]? with
  | none => rw [e] at h; exact h.elim
  | some o =>
    cases o with
    | none => rw [e] at h; exact h.elim
    | some v =>
      rw [e] at h
      obtain ⟨u, e1, r⟩ := a.l.2 i v e
      exact ⟨u, e1, h φ H u .refl a.s r⟩
theorem E_int {i : Int} {j : Nat} {pos : Pos} : E X T W (.Constant (.int i) j pos) (mC (.int i)) :=
  ⟨PE.imp pe_int fun σ H Q ⟨φ, sl, st, a, h⟩ => h φ H (.int i) .refl a.s rfl⟩
theorem E_bool {b : Bool} {j : Nat} {pos : Pos} : E X T W (.Constant (.bool b) j pos) (mC (.bool b)) :=
  ⟨PE.imp pe_bl fun σ H Q ⟨φ, sl, st, a, h⟩ => h φ H (.bl b) .refl a.s rfl⟩
theorem E_str {x : Str} {j : Nat} {pos : Pos} : E X T W (.Constant (.str x) j pos) (mC (.str x)) :=
  ⟨PE.imp pe_str fun σ H Q ⟨φ, sl, st, a, h⟩ => h φ H (.str x) .refl a.s rfl⟩
def VD (K : PySem.W.Frag) (φ : Num) (st : Store) (H : Hp) (d : PyData) (x : V) : Prop := ∃ v, VR K φ st H v x ∧ deref v st = some d
def OkD (X : Cx) (T : List Tb) (φ : Num) (st : Store) (H : Hp) (d : PyData) (Q : VK) : Prop := ∀ H' u, Gr H H' → DR X.K (Av φ st) H' d u → Q u H'
def r1 (X : Cx) (T : List Tb) (f : PyData → Option PyData) : V → Hp → VK → Prop := fun x H Q => ∃ φ st a d, StR X.K X.mg T φ st H ∧ VD X.K φ st H a x ∧ f a = some d ∧ OkD X T φ st H d Q
def r2 (X : Cx) (T : List Tb) (f : PyData → PyData → Option PyData) : R2 := fun x y H Q => ∃ φ st a b d, StR X.K X.mg T φ st H ∧ VD X.K φ st H a x ∧ VD X.K φ st H b y ∧ f a b = some d ∧ OkD X T φ st H d Q
def rn (X : Cx) (T : List Tb) (f : List PyData → Option PyData) : List V → Hp → VK → Prop := fun xs H Q => ∃ φ st as d, StR X.K X.mg T φ st H ∧ Paired (VD X.K φ st H) as xs ∧ f as = some d ∧ OkD X T φ st H d Q
section
variable {φ : Num} {sl : Slots} {st : Store} {H : Hp} {σ : L2.St}
theorem tE.mono {m : EM} {Q Q' : VK} (h : tE X T W m σ H Q) (i : ∀ u H', Q u H' → Q' u H') : tE X T W m σ H Q' := by
  obtain ⟨φ, sl, st, a, h⟩ := h
  refine ⟨φ, sl, st, a, ?_⟩
  cases e : m sl st with
  | ok v st1 => rw [e] at h; exact fun φ' H' u s r v => i _ _ (h φ' H' u s r v)
  | exn c st1 => rw [e] at h; exact h
  | stuck => rw [e] at h; exact h
theorem tA.mono {m : AM} {Q Q' : List V → Hp → Prop} (h : tA X T W m σ H Q) (i : ∀ u H', Q u H' → Q' u H') : tA X T W m σ H Q' := by
  obtain ⟨φ, sl, st, a, h⟩ := h
  refine ⟨φ, sl, st, a, ?_⟩
  cases e : m sl st with
  | ok v st1 => rw [e] at h; exact fun φ' H' u s r v => i _ _ (h φ' H' u s r v)
  | exn c st1 => rw [e] at h; exact h
  | stuck => rw [e] at h; exact h
theorem tT.mono {m : TM} {Q Q' : Bool → Hp → Prop} (h : tT X T W m σ H Q) (i : ∀ u H', Q u H' → Q' u H') : tT X T W m σ H Q' := by
  obtain ⟨φ, sl, st, a, h⟩ := h
  refine ⟨φ, sl, st, a, ?_⟩
  cases e : m sl st with
  | ok v st1 => rw [e] at h; exact fun φ' H' s r => i _ _ (h φ' H' s r)
  | exn c st1 => rw [e] at h; exact h
  | stuck => rw [e] at h; exact h
theorem okD_post {d : PyData} {Q : VK} (s : StR X.K X.mg T φ st H) (h : EPost X.K X.mg T W φ st H Q (.ok (.d d) st)) : OkD X T φ st H d Q :=
  fun H' u g r => h φ H' u g.step (s.gr g) r
theorem opt_ok {α : Type} {o : Option α} {st : Store} {P : R α → Prop} (hs : ¬ P .stuck) (h : P (R.opt o st)) : ∃ a, o = some a ∧ P (.ok a st) := by
  cases o with
  | none => exact absurd h hs
  | some a => exact ⟨a, rfl, h⟩
theorem E_bin {a b : Expr} {op : Operator} {pos : Pos} {f : PyData → PyData → Option PyData} {ma mb : EM} (ho : OpR X (binaryOp op) (r2 X T f)) (ha : E X T W a ma) (hb : E X T W b mb) : E X T W (.BinOp a op b pos) (mP2 f ma mb) := by
  refine ⟨PE.imp (pe_op ho ha.run hb.run) ?_⟩
  rintro σ H Q ⟨φ, sl, st, h0, h⟩
  refine (tE_bind h0 h).mono fun u H1 ⟨φ1, st1, v, a1, v1, s1, p1⟩ => (tE_bind a1 p1).mono fun w H2 ⟨φ2, st2, v', a2, v2, s2, p2⟩ => ?_
  obtain ⟨z, ez, pz⟩ := opt_ok (P := EPost X.K X.mg T W φ2 st2 H2 Q) (fun z => z) p2
  obtain ⟨d, ed, rfl⟩ := Option.map_eq_some_iff.mp ez
  obtain ⟨x, ex, ed⟩ := Option.bind_eq_some_iff.mp ed
  obtain ⟨y, ey, ed⟩ := Option.bind_eq_some_iff.mp ed
  exact ⟨φ2, st2, x, y, d, a2.s, ⟨v, v1.mon s2, ex⟩, ⟨v', v2, ey⟩, ed, okD_post a2.s pz⟩
theorem E_un {a : Expr} {op : UnaryOp} {pos : Pos} {f : PyData → Option PyData} {ma : EM} (ho : UnR X (unaryOp op) (r1 X T f)) (ha : E X T W a ma) : E X T W (.UnaryOp op a pos) (mP1 f ma) := by
  refine ⟨PE.imp (pe_un ho ha.run) ?_⟩
  rintro σ H Q ⟨φ, sl, st, h0, h⟩
  refine (tE_bind h0 h).mono fun u H1 ⟨φ1, st1, v, a1, v1, s1, p1⟩ => ?_
  obtain ⟨z, ez, pz⟩ := opt_ok (P := EPost X.K X.mg T W φ1 st1 H1 Q) (fun z => z) p1
  obtain ⟨d, ed, rfl⟩ := Option.map_eq_some_iff.mp ez
  obtain ⟨x, ex, ed⟩ := Option.bind_eq_some_iff.mp ed
  exact ⟨φ1, st1, x, d, a1.s, ⟨v, v1, ex⟩, ed, okD_post a1.s pz⟩
theorem two {f : PyData → PyData → Option PyData} {ma mb : EM} {Q : VK} (h : tE X T W (mP2 f ma mb) σ H Q) : tOp (r2 X T f) (tE X T W ma) (tE X T W mb) σ H Q := by
  obtain ⟨φ, sl, st, h0, h⟩ := h
  refine (tE_bind h0 h).mono fun u H1 ⟨φ1, st1, v, a1, v1, s1, p1⟩ => (tE_bind a1 p1).mono fun w H2 ⟨φ2, st2, v', a2, v2, s2, p2⟩ => ?_
  obtain ⟨z, ez, pz⟩ := opt_ok (P := EPost X.K X.mg T W φ2 st2 H2 Q) (fun z => z) p2
  obtain ⟨d, ed, rfl⟩ := Option.map_eq_some_iff.mp ez
  obtain ⟨x, ex, ed⟩ := Option.bind_eq_some_iff.mp ed
  obtain ⟨y, ey, ed⟩ := Option.bind_eq_some_iff.mp ed
  exact ⟨φ2, st2, x, y, d, a2.s, ⟨v, v1.mon s2, ex⟩, ⟨v', v2, ey⟩, ed, okD_post a2.s pz⟩
theorem E_cmp {a b : Expr} {op : CmpOp} {pos : Pos} {f : PyData → PyData → Option PyData} {ma mb : EM} (ho : OpR X (compareOp op) (r2 X T f)) (ha : E X T W a ma) (hb : E X T W b mb) (hm : behindInMarks op b = false := by rfl) :
    E X T W (.Compare a [op] [b] pos) (mP2 f ma mb) := ⟨PE.imp (pe_cmpR ho ha.run hb.run hm) fun _ _ _ h => two h⟩
theorem test_of {m : EM} {Q : Bool → Hp → Prop} (h : tT X T W (tOfE m) σ H Q) : tTest (tE X T W m) σ H Q := by
  obtain ⟨φ, sl, st, h0, h⟩ := h
  refine (tE_bindT h0 h).mono fun u H1 ⟨φ1, st1, v, a1, v1, s1, p1⟩ => ?_
  cases v with
  | box n => exact p1.elim
  | d x =>
    cases x with
    | bool b => exact ⟨b, v1, p1 φ1 H1 .refl a1.s⟩
    | none => exact p1.elim
    | int _ => exact p1.elim
    | str _ => exact p1.elim
    | list _ => exact p1.elim
    | tuple _ => exact p1.elim
    | dict _ => exact p1.elim
theorem tOp_tT {f : PyData → PyData → Option PyData} {ma mb : EM} {Q : Bool → Hp → Prop} (h : tT X T W (tOfE (mP2 f ma mb)) σ H Q) : tTest (tOp (r2 X T f) (tE X T W ma) (tE X T W mb)) σ H Q := two (test_of h)
theorem Et_cmp {a b : Expr} {op : CmpOp} {pos : Pos} {f : PyData → PyData → Option PyData} {ma mb : EM} (ho : OpR X (compareOp op) (r2 X T f)) (ha : E X T W a ma) (hb : E X T W b mb) (hm : behindInMarks op b = false := by rfl) :
    Et X T W (.Compare a [op] [b] pos) (tOfE (mP2 f ma mb)) := ⟨PT.imp (pt_cmpR ho ha.run hb.run hm) fun _ _ _ h => tOp_tT h⟩
theorem Et_val {e : Expr} {m : EM} (h : E X T W e m) (he : ∀ whole, isTrue e X.env whole = (do let v ← whole; standAt e.pos; holding [v] (truthy v)) := by intro _; rfl) : Et X T W e (tOfE m) := by
  refine ⟨PT.imp (pt_val h.run he) fun σ H Q q => ?_⟩
  exact test_of q
structure Ew (X : Cx) (T : List Tb) (W : XK) (e : Expr) (m : TM) : Prop where
  run : PW X e (tT X T W m)
theorem Ew.t {e : Expr} {m : TM} (h : Ew X T W e m) : Et X T W e m := ⟨h.run.pt⟩
theorem tT_if {c m : TM} {Q : Bool → Hp → Prop} (h : tT X T W (tAnd c m) σ H Q) : tT X T W c σ H fun b H1 => if b = true then tT X T W m σ H1 Q else Q false H1 := by
  obtain ⟨φ, sl, st, h0, h⟩ := h
  refine (tT_bindT h0 h).mono fun b H1 ⟨φ1, st1, a1, s1, p1⟩ => ?_
  cases b with
  | true => exact ⟨φ1, sl, st1, a1, p1⟩
  | false => exact p1 φ1 H1 .refl a1.s
theorem tT_or {c m : TM} {Q : Bool → Hp → Prop} (h : tT X T W (tOr c m) σ H Q) : tT X T W c σ H fun b H1 => if b = true then Q true H1 else tT X T W m σ H1 Q := by
  obtain ⟨φ, sl, st, h0, h⟩ := h
  refine (tT_bindT h0 h).mono fun b H1 ⟨φ1, st1, a1, s1, p1⟩ => ?_
  cases b with
  | false => exact ⟨φ1, sl, st1, a1, p1⟩
  | true => exact p1 φ1 H1 .refl a1.s
theorem Ew_and1 {a : Expr} {pos : Pos} {m : TM} (h : Et X T W a m) : Ew X T W (.BoolOp .And [a] pos) m := ⟨pw_and1 h.run⟩
theorem Ew_or1 {a : Expr} {pos : Pos} {m : TM} (h : Et X T W a m) : Ew X T W (.BoolOp .Or [a] pos) m := ⟨pw_or1 h.run⟩
theorem Ew_and {a b : Expr} {rest : List Expr} {pos : Pos} {m n : TM} (h : Et X T W a m) (h2 : Ew X T W (.BoolOp .And (b :: rest) pos) n) : Ew X T W (.BoolOp .And (a :: b :: rest) pos) (tAnd m n) :=
  ⟨PW.imp (pw_and h.run h2.run) fun _ _ _ q => tT_if q⟩
theorem Ew_or {a b : Expr} {rest : List Expr} {pos : Pos} {m n : TM} (h : Et X T W a m) (h2 : Ew X T W (.BoolOp .Or (b :: rest) pos) n) : Ew X T W (.BoolOp .Or (a :: b :: rest) pos) (tOr m n) :=
  ⟨PW.imp (pw_or h.run h2.run) fun _ _ _ q => tT_or q⟩
theorem Et_not {a : Expr} {pos : Pos} {m : TM} (h : Et X T W a m) : Et X T W (.UnaryOp .Not a pos) (tNot m) := by
  refine ⟨PT.imp (pt_not h.run) ?_⟩
  rintro σ H Q ⟨φ, sl, st, h0, h⟩
  exact (tT_bindT h0 h).mono fun b H1 ⟨φ1, st1, a1, s1, p1⟩ => p1 φ1 H1 .refl a1.s
theorem VR.non {K : PySem.W.Frag} {φ : Num} {st : Store} {H : Hp} {v : Val} {u : V} (h : VR K φ st H v u) : isNon v = decide (u = .non) := by
  cases v with
  | box n =>
    obtain ⟨a, _, rfl⟩ := h
    rfl
  | d x =>
    cases x with
    | none => rw [show u = V.non from h]; rfl
    | bool _ => rw [show u = _ from h]; rfl
    | int _ => rw [show u = _ from h]; rfl
    | str _ => rw [show u = _ from h]; rfl
    | list _ => obtain ⟨a, _, rfl, _⟩ := h; rfl
    | tuple _ => obtain ⟨a, _, rfl, _⟩ := h; rfl
    | dict _ => obtain ⟨a, _, _, rfl, _⟩ := h; rfl
def mChain (f g : PyData → PyData → Option PyData) (a b c : EM) : EM := fun sl st =>
  (a sl st).bind fun v st1 => (b sl st1).bind fun u st2 =>
    (R.opt ((deref v st2).bind fun x => (deref u st2).bind fun y => f x y) st2).bind fun z st3 =>
      match z with
      | .bool true => (c sl st3).bind fun w st4 => R.opt (((deref u st4).bind fun y => (deref w st4).bind fun z => g y z).map .d) st4
      | .bool false => .ok (.d (.bool false)) st3
      | _ => .stuck
theorem chain_read {f g : PyData → PyData → Option PyData} {ma mb mc : EM} {Q : VK} (h : tE X T W (mChain f g ma mb mc) σ H Q) : tChain (r2 X T f) (r2 X T g) (tE X T W ma) (tE X T W mb) (tE X T W mc) σ H Q := by
  obtain ⟨φ, sl, st, h0, h⟩ := h
  refine (tE_bind h0 h).mono fun u H1 ⟨φ1, st1, v, a1, v1, s1, p1⟩ => (tE_bind a1 p1).mono fun w H2 ⟨φ2, st2, v', a2, v2, s2, p2⟩ => ?_
  cases eo : ((deref v st2).bind fun x => (deref v' st2).bind fun y => f x y) with
  | none => rw [eo] at p2; exact p2.elim
  | some z =>
    rw [eo] at p2
    obtain ⟨x, ex, ed⟩ := Option.bind_eq_some_iff.mp eo
    obtain ⟨y, ey, ed⟩ := Option.bind_eq_some_iff.mp ed
    refine ⟨φ2, st2, x, y, z, a2.s, ⟨v, v1.mon s2, ex⟩, ⟨v', v2, ey⟩, ed, fun H' u' gr hz => ?_⟩
    have a3 : At X.K X.mg T φ2 sl st2 σ H' := ⟨a2.s.gr gr, a2.l.mon gr.step⟩
    cases z with
    | bool b =>
      refine ⟨b, hz, ?_⟩
      have p4 := EPost.shift (gr.step (φ := φ2) (st := st2)) p2
      cases b with
      | true =>
        refine (tE_bind a3 p4).mono fun w' H4 ⟨φ4, st4, v4, a4, r4, s4, p5⟩ => ?_
        obtain ⟨z, ez, pz⟩ := opt_ok (P := EPost X.K X.mg T W φ4 st4 H4 Q) (fun z => z) p5
        obtain ⟨d, ed, rfl⟩ := Option.map_eq_some_iff.mp ez
        obtain ⟨x', ex', ed⟩ := Option.bind_eq_some_iff.mp ed
        obtain ⟨y', ey', ed⟩ := Option.bind_eq_some_iff.mp ed
        exact ⟨φ4, st4, x', y', d, a4.s, ⟨v', (v2.mon gr.step).mon s4, ex'⟩, ⟨v4, r4, ey'⟩, ed, okD_post a4.s pz⟩
      | false => exact p4 φ2 H' _ .refl a3.s rfl
    | none => exact p2.elim
    | int _ => exact p2.elim
    | str _ => exact p2.elim
    | list _ => exact p2.elim
    | tuple _ => exact p2.elim
    | dict _ => exact p2.elim
theorem Et_chain {a b c : Expr} {op op' : CmpOp} {pos : Pos} {f g : PyData → PyData → Option PyData} {ma mb mc : EM} (ho : OpR X (compareOp op) (r2 X T f)) (ho' : OpR X (compareOp op') (r2 X T g)) (ha : E X T W a ma) (hb : E X T W b mb) (hc : E X T W c mc)
    (hm : lastMarks [op, op'] [b, c] = false := by with_unfolding_all rfl) : Et X T W (.Compare a [op, op'] [b, c] pos) (tOfE (mChain f g ma mb mc)) := ⟨PT.imp (pt_chain ho ho' ha.run hb.run hc.run hm) fun _ _ _ q => chain_read (test_of q)⟩
theorem Ea_nil : Ea X T W [] aNil := ⟨PA.imp pa_nil fun σ H Q ⟨φ, sl, st, h0, h⟩ => h φ H [] .refl h0.s .nil⟩
theorem Ea_cons {e : Expr} {es : List Expr} {m : EM} {n : AM} (h1 : E X T W e m) (h2 : Ea X T W es n) (hs : starEach (e :: es) X.env = (false, eval e X.env) :: starEach es X.env := by rfl) : Ea X T W (e :: es) (aCons m n) := by
  refine ⟨PA.imp (pa_cons h1.run h2.run hs) ?_⟩
  rintro σ H Q ⟨φ, sl, st, h0, h⟩
  exact (tE_bindA h0 h).mono fun u H1 ⟨φ1, st1, v, a1, v1, s1, p1⟩ => (tA_bindA a1 p1).mono fun us H2 ⟨φ2, st2, vs, a2, v2, s2, p2⟩ => p2 φ2 H2 _ .refl a2.s (.cons (v1.mon s2) v2)
theorem datas_rel {K : PySem.W.Frag} {φ : Num} {st : Store} {H : Hp} : ∀ {vs : List Val} {us : List V} {xs : List PyData}, Paired (VR K φ st H) vs us → datas vs = some xs → DRs K (Av φ st) H xs us
  | [], _, _, .nil, e => by cases e; rfl
  | .d x :: vs, _, xs, .cons h r, e => by
    obtain ⟨ys, e1, rfl⟩ := Option.map_eq_some_iff.mp (show (datas vs).map (x :: ·) = some xs from e)
    exact ⟨_, _, rfl, h, datas_rel r e1⟩
  | .box _ :: vs, _, xs, _, e => nomatch (show (none : Option (List PyData)) = some xs from e)
theorem not_av {K : PySem.W.Frag} {mg : Str → Option Value} {T : List Tb} {φ : Num} {st : Store} {H : Hp} (s : StR K mg T φ st H) {p : Addr} (h : H p = none) : ¬ Av φ st p := fun l => l.elim (fun l => s.fresh h l.mem) fun l => s.avne l h
theorem not_live {K : PySem.W.Frag} {mg : Str → Option Value} {φ : Num} {st : Store} {H : Hp} (s : StR K mg T φ st H) {p : Addr} (h : H p = none) : ¬ Live φ st p := fun l => s.fresh h l.mem
theorem lineN_eq : lineN = sizeLine := by rw [PySem.sizeLine_eq]; rfl
theorem E_tup {es : List Expr} {x1 : Nat} {pos : Pos} {m : AM} (h : Ea X T W es m) : E X T W (.Tuple es x1 pos) (mDisp pTup m) := by
  refine ⟨PE.imp (pe_tup h.run) ?_⟩
  rintro σ H Q ⟨φ, sl, st, h0, h⟩
  refine (tA_bind h0 h).mono fun us H1 ⟨φ1, st1, vs, a1, v1, s1, p1⟩ => ?_
  obtain ⟨z, ez, pz⟩ := opt_ok (P := EPost X.K X.mg T W φ1 st1 H1 Q) (fun z => z) p1
  obtain ⟨d, ed, rfl⟩ := Option.map_eq_some_iff.mp ez
  obtain ⟨xs, ex, ed⟩ := Option.bind_eq_some_iff.mp ed
  have r := datas_rel v1 ex
  unfold pTup at ed
  split at ed
  · rename_i hl
    cases ed
    refine ⟨by rw [r.length]; rw [lineN_eq] at hl; exact hl, fun p hp => ?_⟩
    exact okD_post a1.s pz _ _ (Gr.upd hp) ⟨p, us, rfl, .inl ⟨.inl upd_same, not_av a1.s hp⟩, DRs.mon ((Gr.upd hp).step (φ := φ1) (st := st1)).mon _ _ r⟩
  · cases ed
theorem E_lst {es : List Expr} {pos : Pos} {m : AM} (h : Ea X T W es m) : E X T W (.List es pos) (mDisp pLst m) := by
  refine ⟨PE.imp (pe_lst h.run) ?_⟩
  rintro σ H Q ⟨φ, sl, st, h0, h⟩
  refine (tA_bind h0 h).mono fun us H1 ⟨φ1, st1, vs, a1, v1, s1, p1⟩ => ?_
  obtain ⟨z, ez, pz⟩ := opt_ok (P := EPost X.K X.mg T W φ1 st1 H1 Q) (fun z => z) p1
  obtain ⟨d, ed, rfl⟩ := Option.map_eq_some_iff.mp ez
  obtain ⟨xs, ex, ed⟩ := Option.bind_eq_some_iff.mp ed
  have r := datas_rel v1 ex
  unfold pLst at ed
  split at ed
  · rename_i hl
    cases ed
    refine ⟨by rw [r.length]; rw [lineN_eq] at hl; exact hl, fun p hp => ?_⟩
    exact okD_post a1.s pz _ _ (Gr.upd hp) ⟨p, us, rfl, .inl ⟨.inl upd_same, not_av a1.s hp⟩, DRs.mon ((Gr.upd hp).step (φ := φ1) (st := st1)).mon _ _ r⟩
  · cases ed
end
end
end TL
end

section
set_option Elab.async false
set_option linter.all false
set_option maxRecDepth 100000
set_option autoImplicit false
namespace TL
open PySem L2
section
variable {D : DI} {k : Nat} {X : Cx} {T : List Tb} {W : XK} {σ : L2.St} {H : Hp}
structure FldOk (K : PySem.W.Frag) (mg : Str → Option Value) (c f : Str) : Prop where
  at_ : ∃ C, mg c = some (.ref C) ∧ Cls K C ∧ NoAttr K C f
theorem FR.lookup {K : PySem.W.Frag} {φ : Num} {st : Store} {H : Hp} {f : Str} : ∀ {fs : List (Str × Val)} {us : List (Str × V)} {v : Val}, FR K φ st H fs us → getF fs f = some v → ∃ u, us.lookup f = some u ∧ VR K φ st H v u
  | [], _, _, _, e => nomatch (show (none : Option Val) = some _ from e)
  | (g, w) :: r, _, v, ⟨u, s, e, h1, h2⟩, ev => by
    rw [e, List.lookup_cons]
    unfold getF at ev
    by_cases hb : f = g
    · rw [if_pos hb] at ev
      cases ev
      rw [beq_iff_eq.mpr hb]
      exact ⟨u, rfl, h1⟩
    · rw [if_neg hb] at ev
      rw [beq_eq_false_iff_ne.mpr hb]
      exact FR.lookup h2 ev
theorem FR.miss {K : PySem.W.Frag} {φ : Num} {st : Store} {H : Hp} {f : Str} : ∀ {fs : List (Str × Val)} {us : List (Str × V)}, FR K φ st H fs us → getF fs f = none → us.lookup f = none
  | [], _, h, _ => by rw [show _ = _ from h]; rfl
  | (g, w) :: r, _, ⟨u, s, e, h1, h2⟩, ev => by
    rw [e, List.lookup_cons]
    unfold getF at ev
    by_cases hb : f = g
    · rw [if_pos hb] at ev; cases ev
    · rw [if_neg hb] at ev
      rw [beq_eq_false_iff_ne.mpr hb]
      exact FR.miss h2 ev
theorem FR.length {K : PySem.W.Frag} {φ : Num} {st : Store} {H : Hp} : ∀ {fs : List (Str × Val)} {us : List (Str × V)}, FR K φ st H fs us → us.length = fs.length
  | [], _, h => by rw [show _ = _ from h]; rfl
  | (g, w) :: r, _, ⟨u, s, e, h1, h2⟩ => by rw [e, List.length_cons, List.length_cons, FR.length h2]
theorem FR.put {K : PySem.W.Frag} {φ : Num} {st : Store} {H : Hp} {f : Str} {v : Val} {u : V} (hv : VR K φ st H v u) : ∀ {fs : List (Str × Val)} {us : List (Str × V)}, FR K φ st H fs us → FR K φ st H (setF f v fs) (putF f u us)
  | [], _, h => by rw [show _ = _ from h]; exact ⟨u, [], rfl, hv, rfl⟩
  | (g, w) :: r, _, ⟨x, s, e, h1, h2⟩ => by
    rw [e]
    unfold setF putF
    by_cases hb : g = f
    · rw [if_pos hb, if_pos hb]
      exact ⟨u, s, rfl, hv, h2⟩
    · rw [if_neg hb, if_neg hb]
      exact ⟨x, _, rfl, h1, FR.put hv h2⟩
theorem obj_at {K : PySem.W.Frag} {mg : Str → Option Value} {φ : Num} {st : Store} {H : Hp} (s : StR K mg T φ st H) {n : Nat} {c : Str} {fs : List (Str × Val)} {u : V} (r : VR K φ st H (.box n) u) (e : st[n]? = some (.obj c fs)) :
    ∃ a C dx us, u = .ref a ∧ φ.ids[n]? = some a ∧ mg c = some (.ref C) ∧ H a = some (.ins C dx us) ∧ FR K φ st H fs us := by
  obtain ⟨a, ea, rfl⟩ := r
  obtain ⟨C, dx, us, h1, h2, h3⟩ := s.cell n _ a e ea
  exact ⟨a, C, dx, us, rfl, ea, h1, h2, h3⟩
theorem fldOf_some {c : Str} {v w : Val} {f : Str} {st : Store} (h : fldOf c v f st = some w) : ∃ n fs, v = .box n ∧ st[n]? = some (.obj c fs) ∧ getF fs f = some w := by
  unfold fldOf at h
  cases v with
  | d x => cases h
  | box n =>
    cases e : st[n]? with
    | none => simp only [e] at h; cases h
    | some cl =>
      simp only [e] at h
      cases cl with
      | obj c' fs =>
        by_cases hc : c' = c
        · subst hc
          simp only [if_pos rfl] at h
          exact ⟨n, fs, rfl, e, h⟩
        · simp only [if_neg hc] at h
          cases h
      | lst _ => cases h
      | dic _ => cases h
      | ldic _ => cases h
      | lbs _ => cases h
      | dbs _ _ => cases h
      | dead => cases h
theorem E_fld {e : Expr} {c f : Str} {pos : Pos} {m : EM} (hf : FldOk X.K X.mg c f) (h : E X T W e m) (hb : attributeBase e f X.env (eval e X.env) = eval e X.env := by rfl) : E X T W (.Attribute e f pos) (mFld c m f) := by
  obtain ⟨C0, hC, hcl, hna⟩ := hf
  refine ⟨PE.imp (pe_fld h.run hb) ?_⟩
  rintro σ H Q ⟨φ, sl, st, h0, h⟩
  refine (tE_bind h0 h).mono fun u H1 ⟨φ1, st1, v, a1, v1, s1, p1⟩ => ?_
  obtain ⟨w, ew, pz⟩ := opt_ok (P := EPost X.K X.mg T W φ1 st1 H1 Q) (fun z => z) p1
  obtain ⟨n, fs, rfl, e1, e2⟩ := fldOf_some ew
  obtain ⟨a, C, dx, us, rfl, ea, k1, k2, k3⟩ := obj_at a1.s v1 e1
  rw [hC] at k1
  cases k1
  obtain ⟨x, ex, rx⟩ := FR.lookup k3 e2
  exact ⟨a, _, dx, us, x, rfl, k2, hcl, hna, ex, pz φ1 H1 x .refl a1.s rx⟩
theorem derefs_rel {K : PySem.W.Frag} {φ : Num} {st : Store} {H : Hp} : ∀ {vs : List Val} {us : List V} {xs : List PyData}, Paired (VR K φ st H) vs us → derefs vs st = some xs → Paired (VD K φ st H) xs us
  | [], _, _, .nil, e => by cases e; exact .nil
  | v :: vs, _, xs, .cons h r, e => by
    unfold derefs at e
    cases e1 : deref v st with
    | none => simp only [e1] at e; cases e
    | some x =>
      cases e2 : derefs vs st with
      | none => simp only [e1, e2] at e; cases e
      | some ys =>
        simp only [e1, e2] at e
        cases e
        exact .cons ⟨v, h, e1⟩ (derefs_rel r e2)
theorem argsn {f : List PyData → Option PyData} {m : AM} {Q : VK} (h : tE X T W (mPn f m) σ H Q) : tA X T W m σ H fun vs H1 => rn X T f vs H1 Q := by
  obtain ⟨φ, sl, st, h0, h⟩ := h
  refine (tA_bind h0 h).mono fun us H1 ⟨φ1, st1, vs, a1, v1, s1, p1⟩ => ?_
  obtain ⟨z, ez, pz⟩ := opt_ok (P := EPost X.K X.mg T W φ1 st1 H1 Q) (fun z => z) p1
  obtain ⟨d, ed, rfl⟩ := Option.map_eq_some_iff.mp ez
  obtain ⟨xs, ex, ed⟩ := Option.bind_eq_some_iff.mp ed
  exact ⟨φ1, st1, xs, d, a1.s, derefs_rel v1 ex, ed, okD_post a1.s pz⟩
theorem E_blt {x : Str} {id : String} {p pos : Pos} {e : Expr} {es : List Expr} {f : List PyData → Option PyData} {m : AM} (c : Cin D k X) (hc : CallR X (.builtin id) (rn X T f)) (hg : D.g x = true) (hm : X.mg x = none) (hv : bootBuiltins x = some (.builtin id))
    (ha : Ea X T W (e :: es) m) (he : starEach (e :: es) X.env = (false, eval e X.env) :: starEach es X.env := by rfl) (hpl : (backTo pos (starEach es X.env)).any (·.1) = false := by rfl) : E X T W (.Call (.Name x p) (e :: es) [] pos) (mPn f m) := by
  obtain ⟨h1, h2, h3⟩ := c.gl hg
  exact ⟨PE.imp (pe_callB hc h1 hm hv ha.run h3 h2 he hpl) fun _ _ _ q => argsn q⟩
theorem E_bty {x : Str} {id : String} {p pos : Pos} {e : Expr} {es : List Expr} {f : List PyData → Option PyData} {m : AM} (c : Cin D k X) (hc : CallR X (.type id) (rn X T f)) (hg : D.g x = true) (hm : X.mg x = none) (hv : bootBuiltins x = some (.type id))
    (ha : Ea X T W (e :: es) m) (he : starEach (e :: es) X.env = (false, eval e X.env) :: starEach es X.env := by rfl) (hpl : (backTo pos (starEach es X.env)).any (·.1) = false := by rfl) : E X T W (.Call (.Name x p) (e :: es) [] pos) (mPn f m) := by
  obtain ⟨h1, h2, h3⟩ := c.gl hg
  exact ⟨PE.imp (pe_callTy hc h1 hm hv ha.run h3 h2 he hpl) fun _ _ _ q => argsn q⟩
def spF (K : PySem.W.Frag) (mg : Str → Option Value) (T : List Tb) (n : Nat) (F : FM) : Sp := fun us H Q Ex => ∃ φ st vs, StR K mg T φ st H ∧ Paired (VR K φ st H) vs us ∧ vs.length = n ∧ EPost K mg T Ex φ st H Q (F vs st)
theorem paired_len {α β : Type} {G : α → β → Prop} : ∀ {l : List α} {r : List β}, Paired G l r → l.length = r.length
  | _, _, .nil => rfl
  | _, _, .cons _ t => by rw [List.length_cons, List.length_cons, paired_len t]
structure CallOk (P : Program) (w : World) (K : PySem.W.Frag) (mg : Str → Option Value) (base : Heap) (T : List Tb) (x : Str) (n : Nat) (F : FM) (k : Nat) : Prop where
  at_ : ∃ f fd ps, mg x = some (.ref f) ∧ PySem.W.keepIn K (.ref f) = true ∧ Binds K fd ps [] ∧ FnOk P w K mg base (L2.CX P w) k f fd ps (spF K mg T n F)
theorem pass_of (tk : Takes X fun c d _ H => W c d H) : Passes (L2.CX X.prog X.w) X W := passes_call tk fun _ _ _ _ h => h
theorem call_read {n : Nat} {F : FM} {m : AM} {Q : VK} (hn : ∀ sl st vs st', m sl st = .ok vs st' → vs.length = n) (h : tE X T W (mCall F m) σ H Q) : tCall (spF X.K X.mg T n F) [] W (tA X T W m) σ H Q := by
  obtain ⟨φ, sl, st, h0, h⟩ := h
  refine ⟨φ, sl, st, h0, ?_⟩
  have h' : EPost X.K X.mg T W φ st H Q ((m sl st).bind F) := h
  cases e : m sl st with
  | ok vs st1 =>
    rw [e] at h'
    intro φ1 H1 us s1 r1 v1
    rw [List.append_nil]
    exact ⟨φ1, st1, vs, r1, v1, hn _ _ _ _ e, EPost.shift s1 h'⟩
  | exn c st1 => rw [e] at h'; exact h'
  | stuck => rw [e] at h'; exact h'
def AM.len (m : AM) (n : Nat) : Prop := ∀ sl st vs st', m sl st = .ok vs st' → vs.length = n
theorem len_nil : AM.len aNil 0 := fun _ _ vs _ e => by
  cases e
  rfl
theorem len_cons {m : EM} {a : AM} {n : Nat} (h : AM.len a n) : AM.len (aCons m a) (n + 1) := fun sl st vs st' e => by
  unfold aCons at e
  cases e1 : m sl st with
  | ok v st1 =>
    rw [e1] at e
    cases e2 : a sl st1 with
    | ok ws st2 =>
      have e' : (R.bind (a sl st1) fun vs st2 => .ok (v :: vs) st2) = R.ok vs st' := e
      rw [e2] at e'
      cases e'
      rw [List.length_cons, h _ _ _ _ e2]
    | exn c st2 =>
      have e' : (R.bind (a sl st1) fun vs st2 => .ok (v :: vs) st2) = R.ok vs st' := e
      rw [e2] at e'
      cases e'
    | stuck =>
      have e' : (R.bind (a sl st1) fun vs st2 => .ok (v :: vs) st2) = R.ok vs st' := e
      rw [e2] at e'
      cases e'
  | exn c st1 => rw [e1] at e; cases e
  | stuck => rw [e1] at e; cases e
theorem E_call {j n : Nat} {x : Str} {F : FM} {p pos : Pos} {e : Expr} {es : List Expr} {m : AM} (c : Cin D k X) (tk : Takes X fun c d _ H => W c d H) (hF : CallOk X.prog X.w X.K X.mg X.base T x n F j) (hj : j ≤ k) (hg : D.g x = true) (hn : AM.len m n)
    (ha : Ea X T W (e :: es) m) (he : starEach (e :: es) X.env = (false, eval e X.env) :: starEach es X.env := by rfl) (hpl : (backTo pos (starEach es X.env)).any (·.1) = false := by rfl) : E X T W (.Call (.Name x p) (e :: es) [] pos) (mCall F m) := by
  obtain ⟨f, fd, ps, hm, hk, hb, G⟩ := hF
  obtain ⟨h1, h2, h3⟩ := c.gl hg
  exact ⟨PE.imp (pe_call G (c.room.mono hj) h1 hm hk hb .nil (pass_of tk) ha.run h2 he hpl) fun _ _ _ q => call_read hn q⟩
structure MethOk (P : Program) (w : World) (K : PySem.W.Frag) (mg : Str → Option Value) (base : Heap) (T : List Tb) (c g : Str) (n : Nat) (F : FM) (k : Nat) : Prop where
  at_ : ∃ C f fd ps, mg c = some (.ref C) ∧ Cls K C ∧ Meth K C g f ∧ Binds K fd ps [] ∧ FnOk P w K mg base (L2.CX P w) k f fd ps (spF K mg T (n + 1) F)
theorem isObj_true {c g : Str} {v : Val} {st : Store} (h : isObj c g v st = true) : ∃ n fs, v = .box n ∧ st[n]? = some (.obj c fs) ∧ getF fs g = none := by
  unfold isObj at h
  cases v with
  | d x => cases h
  | box n =>
    cases e : st[n]? with
    | none => simp only [e] at h; cases h
    | some cl =>
      simp only [e] at h
      cases cl with
      | obj c' fs =>
        simp only [Bool.and_eq_true, decide_eq_true_eq, Option.isNone_iff_eq_none] at h
        obtain ⟨h1, h2⟩ := h
        subst h1
        exact ⟨n, fs, rfl, e, h2⟩
      | lst _ => cases h
      | dic _ => cases h
      | ldic _ => cases h
      | lbs _ => cases h
      | dbs _ _ => cases h
      | dead => cases h
theorem meth_read {n : Nat} {c g : Str} {F : FM} {mo : EM} {m : AM} {Q : VK} {C : Addr} (hC : X.mg c = some (.ref C)) (hn : AM.len m n) (h : tE X T W (mMeth c g F mo m) σ H Q) : tMeth C g (spF X.K X.mg T (n + 1) F) [] W (tE X T W mo) (tA X T W m) σ H Q := by
  obtain ⟨φ, sl, st, h0, h⟩ := h
  refine (tE_bind h0 h).mono fun u H1 ⟨φ1, st1, v, a1, v1, s1, p1⟩ => ?_
  cases eb : isObj c g v st1 with
  | false => rw [eb] at p1; exact p1.elim
  | true =>
    rw [eb] at p1
    obtain ⟨i, fs, rfl, e1, e2⟩ := isObj_true eb
    obtain ⟨a, C', dx, us, rfl, ea, k1, k2, k3⟩ := obj_at a1.s v1 e1
    rw [hC] at k1
    cases k1
    refine ⟨a, dx, us, rfl, k2, FR.miss k3 e2, φ1, sl, st1, a1, ?_⟩
    have p2 : EPost X.K X.mg T W φ1 st1 H1 Q ((m sl st1).bind fun vs st2 => F (.box i :: vs) st2) := p1
    cases e : m sl st1 with
    | ok vs st2 =>
      rw [e] at p2
      intro φ2 H2 ws s2 r2 v2
      rw [List.append_nil]
      exact ⟨φ2, st2, .box i :: vs, r2, .cons (v1.mon s2) v2, by rw [List.length_cons, hn _ _ _ _ e], EPost.shift s2 p2⟩
    | exn c st2 => rw [e] at p2; exact p2
    | stuck => rw [e] at p2; exact p2
theorem E_meth {j n : Nat} {c g : Str} {F : FM} {apos pos : Pos} {o e : Expr} {es : List Expr} {mo : EM} {m : AM} {pl : Sem Bool} (ci : Cin D k X) (tk : Takes X fun c d _ H => W c d H) (hF : MethOk X.prog X.w X.K X.mg X.base T c g n F j) (hj : j ≤ k) (hn : AM.len m n)
    (ho : E X T W o mo) (ha : Ea X T W (e :: es) m) (hst : starEach (e :: es) X.env = (false, eval e X.env) :: starEach es X.env := by rfl) (hpl : (backTo pos (starEach es X.env)).any (·.1) = false := by rfl)
    (ht : eval (.Call (.Attribute o g apos) (e :: es) [] pos) X.env = (do
      let ov ← eval o X.env
      standAt apos.atName
      let (f, first) ← holding [ov] (getMethod ov g pl)
      callWith pos f first (backTo pos (starEach (e :: es) X.env)) (backToKw pos (keywordEach [] X.env))) := by rfl) : E X T W (.Call (.Attribute o g apos) (e :: es) [] pos) (mMeth c g F mo m) := by
  obtain ⟨C, f, fd, ps, hm, hk, hme, hb, G⟩ := hF
  exact ⟨PE.imp (pe_meth (pl := pl) ho.run hk hme G (ci.room.mono hj) hb .nil (pass_of tk) ha.run hst hpl ht) fun _ _ _ q => meth_read hm hn q⟩
theorem E_meth0 {j : Nat} {c g : Str} {F : FM} {apos pos : Pos} {o : Expr} {mo : EM} {pl : Sem Bool} (ci : Cin D k X) (tk : Takes X fun c d _ H => W c d H) (hF : MethOk X.prog X.w X.K X.mg X.base T c g 0 F j) (hj : j ≤ k) (ho : E X T W o mo)
    (ht : eval (.Call (.Attribute o g apos) [] [] pos) X.env = (do
      let ov ← eval o X.env
      standAt apos.atName
      let (f, first) ← holding [ov] (getMethod ov g pl)
      callWith pos f first (backTo pos (starEach [] X.env)) (backToKw pos (keywordEach [] X.env))) := by rfl) : E X T W (.Call (.Attribute o g apos) [] [] pos) (mMeth c g F mo aNil) := by
  obtain ⟨C, f, fd, ps, hm, hk, hme, hb, G⟩ := hF
  refine ⟨PE.imp (pe_meth0 (pl := pl) ho.run hk hme G (ci.room.mono hj) hb .nil (pass_of tk) ht) ?_⟩
  intro σ H Q q
  obtain ⟨φ, sl, st, h0, h⟩ := q
  refine (tE_bind h0 h).mono fun u H1 ⟨φ1, st1, v, a1, v1, s1, p1⟩ => ?_
  cases eb : isObj c g v st1 with
  | false => rw [eb] at p1; exact p1.elim
  | true =>
    rw [eb] at p1
    obtain ⟨i, fs, rfl, e1, e2⟩ := isObj_true eb
    obtain ⟨a, C', dx, us, rfl, ea, k1, k2, k3⟩ := obj_at a1.s v1 e1
    rw [hm] at k1
    cases k1
    exact ⟨a, dx, us, rfl, k2, FR.miss k3 e2, φ1, st1, [.box i], a1.s, .cons v1 .nil, rfl, p1⟩
structure MakeOk (P : Program) (w : World) (K : PySem.W.Frag) (mg : Str → Option Value) (base : Heap) (T : List Tb) (c : Str) (n : Nat) (F : FM) (k : Nat) : Prop where
  at_ : ∃ C f fd ps, mg c = some (.ref C) ∧ Mk K C f ∧ Binds K fd ps [] ∧ FnOk P w K mg base (L2.CX P w) k f fd ps (spF K mg T (n + 1) F)
theorem StR.push {K : PySem.W.Frag} {mg : Str → Option Value} {φ : Num} {st : Store} {H H' : Hp} {p : Addr} {c : Cell} (s : StR K mg T φ st H) (hp : H p = none) (g : Gr H H') (hc : isLive c = true) (h : CR K (φ.push p) (st ++ [c]) H' mg p c) :
    StR K mg T (φ.push p) (st ++ [c]) H' ∧ Stp φ st H (φ.push p) (st ++ [c]) H' := by
  have lv : ∀ a, Live (φ.push p) (st ++ [c]) a → Live φ st a ∨ a = p := fun a ⟨i, d, e1, e2, e3⟩ => by
    have e3 : (φ.ids ++ [p])[i]? = some a := e3
    by_cases hi : i < st.length
    · rw [List.getElem?_append_left hi] at e1
      rw [List.getElem?_append_left (by rw [s.len]; exact hi)] at e3
      exact .inl ⟨i, d, e1, e2, e3⟩
    · have hi' : i = φ.ids.length := by
        have h1 := (List.getElem?_eq_some_iff.mp e3).1
        rw [List.length_append, List.length_singleton] at h1
        have := s.len
        omega
      rw [hi', List.getElem?_append_right (Nat.le_refl _), Nat.sub_self] at e3
      exact .inr (Option.some.inj e3).symm
  have stp : Stp φ st H (φ.push p) (st ++ [c]) H' :=
    ⟨List.prefix_append _ _, ⟨fun _ h => h, fun _ h => .inl h⟩, fun a u h _ _ => .inl (g a u h), fun a l => (lv a l).imp id fun z => by rw [z]; exact hp, fun a h => (g.step (φ := φ) (st := st)).sm a h, fun a ob u h => g a _ h⟩
  refine ⟨⟨?_, ?_, fun a ha => ⟨let ⟨o, e, w⟩ := (s.av a ha).1; ⟨o, g _ _ e, w⟩, fun hm => ?_⟩, fun n d a e1 e2 => ?_, fun t ht => (s.tabs t ht).gr g⟩, stp⟩
  · show (φ.ids ++ [p]).length = _
    rw [List.length_append, List.length_append, s.len]; rfl
  · show (φ.ids ++ [p]).Nodup
    rw [List.nodup_append]
    exact ⟨s.nd, by simp, fun a ha b hb e => by
      rw [List.mem_singleton.mp hb] at e
      rw [e] at ha
      exact s.fresh hp ha⟩
  · rcases List.mem_append.mp (show a ∈ φ.ids ++ [p] from hm) with z | z
    · exact (s.av a ha).2 z
    · rw [List.mem_singleton.mp z] at ha
      exact s.avne ha hp
  · have e2 : (φ.ids ++ [p])[n]? = some a := e2
    by_cases hn : n < st.length
    · rw [List.getElem?_append_left hn] at e1
      rw [List.getElem?_append_left (by rw [s.len]; exact hn)] at e2
      have := s.cell n d a e1 e2
      cases d with
      | lst xs => obtain ⟨vs, h1, h2⟩ := this; exact ⟨vs, g _ _ h1, DRs.mon stp.mon _ _ h2⟩
      | dic kvs => obtain ⟨o, vs, h1, h2, h3⟩ := this; exact ⟨o, vs, g _ _ h1, h2, DRs.mon stp.mon _ _ h3⟩
      | ldic kvs => obtain ⟨ob, o, vs, h1, h2, h3⟩ := this; exact ⟨ob, o, vs, g _ _ h1, h2, DRs.mon stp.mon _ _ h3⟩
      | obj c fs => obtain ⟨C, dx, us, h0, h1, h2⟩ := this; exact ⟨C, dx, us, h0, g _ _ h1, FR.mon stp h2⟩
      | lbs ns => obtain ⟨vs, h1, h2⟩ := this; exact ⟨vs, g _ _ h1, BR.mon stp.pre h2⟩
      | dbs ks ns => obtain ⟨o, vs, h1, h2, h3⟩ := this; exact ⟨o, vs, g _ _ h1, h2, BR.mon stp.pre h3⟩
      | dead => exact stp.sm a this
    · have hn' : n = st.length := by
        have h1 := (List.getElem?_eq_some_iff.mp e1).1
        rw [List.length_append, List.length_singleton] at h1
        omega
      rw [hn', List.getElem?_append_right (Nat.le_refl _), Nat.sub_self] at e1
      rw [hn', ← s.len, List.getElem?_append_right (Nat.le_refl _), Nat.sub_self] at e2
      cases e1
      cases e2
      exact h
theorem box_new {φ : Num} {st : Store} {K : PySem.W.Frag} {H : Hp} {p : Addr} {st' : Store} (h : φ.ids.length = st.length) : VR K (φ.push p) st' H (.box st.length) (.ref p) :=
  ⟨p, by show (φ.ids ++ [p])[st.length]? = some p; rw [← h]; simp, rfl⟩
theorem make_read {n : Nat} {c : Str} {F : FM} {m : AM} {Q : VK} {C : Addr} (hC : X.mg c = some (.ref C)) (hn : AM.len m n) (h : tE X T W (mMake c F m) σ H Q) : tMake C (spF X.K X.mg T (n + 1) F) [] W (tA X T W m) σ H Q := by
  obtain ⟨φ, sl, st, h0, h⟩ := h
  refine ⟨φ, sl, st, h0, ?_⟩
  have h' : EPost X.K X.mg T W φ st H Q ((m sl st).bind fun vs st1 =>
    (F (.box st1.length :: vs) (st1 ++ [.obj c []])).bind fun v st2 =>
      match v with
      | .d .none => .ok (.box st1.length) st2
      | _ => .stuck) := h
  cases e : m sl st with
  | exn c st2 => rw [e] at h'; exact h'
  | stuck => rw [e] at h'; exact h'
  | ok vs st1 =>
    rw [e] at h'
    intro φ1 H1 us s1 r1 v1 x dx hx hdx hne
    rw [List.append_nil]
    have g0 : Gr H1 (upd H1 dx (.own x)) := Gr.upd hdx
    have hx2 : upd H1 dx (.own x) x = none := by rw [upd_ne (Ne.symm hne)]; exact hx
    have g : Gr H1 (upd (upd H1 dx (.own x)) x (.ins C dx [])) := g0.trans (Gr.upd hx2)
    obtain ⟨r2, s2⟩ := r1.push (c := .obj c []) hx g rfl ⟨C, dx, [], hC, upd_same, rfl⟩
    refine ⟨φ1.push x, st1 ++ [.obj c []], .box st1.length :: vs, r2, .cons (box_new r1.len) ?_, by rw [List.length_cons, hn _ _ _ _ e], ?_⟩
    · exact Paired.mapP v1 fun _ _ q => q.mon s2
    · have h2 := EPost.shift (s1.trans s2) h'
      revert h2
      show EPost X.K X.mg T W _ _ _ Q ((F (.box st1.length :: vs) (st1 ++ [.obj c []])).bind _) → _
      cases F (.box st1.length :: vs) (st1 ++ [.obj c []]) with
      | ok v st2 =>
        intro h2 φ2 H2 u s3 r3 v3
        cases v with
        | box n => exact h2.elim
        | d y =>
          cases y with
          | none => exact ⟨v3, h2 φ2 H2 _ s3 r3 (VR.mon s3 (v := .box st1.length) (u := .ref x) (box_new r1.len))⟩
          | bool _ => exact h2.elim
          | int _ => exact h2.elim
          | str _ => exact h2.elim
          | list _ => exact h2.elim
          | tuple _ => exact h2.elim
          | dict _ => exact h2.elim
      | exn c st2 => intro h2; exact h2
      | stuck => intro h2; exact h2
theorem E_make {j n : Nat} {c : Str} {F : FM} {p pos : Pos} {e : Expr} {es : List Expr} {m : AM} (ci : Cin D k X) (tk : Takes X fun c d _ H => W c d H) (hF : MakeOk X.prog X.w X.K X.mg X.base T c n F j) (hj : j + 1 ≤ k) (hg : D.g c = true) (hn : AM.len m n)
    (ha : Ea X T W (e :: es) m) (he : starEach (e :: es) X.env = (false, eval e X.env) :: starEach es X.env := by rfl) (hpl : (backTo pos (starEach es X.env)).any (·.1) = false := by rfl) : E X T W (.Call (.Name c p) (e :: es) [] pos) (mMake c F m) := by
  obtain ⟨C, f, fd, ps, hm, hk, hb, G⟩ := hF
  obtain ⟨h1, h2, h3⟩ := ci.gl hg
  exact ⟨PE.imp (pe_make hk G (ci.room.mono hj) h1 hm hb .nil (pass_of tk) ha.run h2 he hpl) fun _ _ _ q => make_read hm hn q⟩
end
end TL
end

section
set_option Elab.async false
set_option linter.all false
set_option maxRecDepth 100000
set_option autoImplicit false
namespace TL
open PySem L2
section
variable {D : DI} {k : Nat} {X : Cx} {T : List Tb} {W : XK}
theorem Ss_nil : Ss X T W [] sNil := ⟨PSs.imp pss_nil fun D σ H ⟨φ, sl, st, h0, h⟩ => h φ H σ .refl h0.s h0.l⟩
theorem SPost.then {φ : Num} {st : Store} {H : Hp} {D : Ends} {r : SR} {m : SM} (h : SPost X.K X.mg T W φ st H D (r.then m)) : SPost X.K X.mg T W φ st H { D with nx := tS X T W m D } r := by
  cases r with
  | nx sl1 st1 => exact fun φ1 H1 σ1 s1 r1 l1 => ⟨φ1, sl1, st1, ⟨r1, l1⟩, SPost.shift s1 h⟩
  | rt v st1 => exact h
  | bk sl1 st1 => exact h
  | ct sl1 st1 => exact h
  | exn c sl1 st1 => exact h
  | stuck => exact h
theorem Ss_cons {s : Stmt} {r : List Stmt} {m n : SM} (h : S X T W s m) (h2 : Ss X T W r n) : Ss X T W (s :: r) (sSeq m n) :=
  ⟨PSs.imp (pss_cons h.run h2.run) fun D σ H ⟨φ, sl, st, h0, h⟩ => ⟨φ, sl, st, h0, SPost.then h⟩⟩
theorem Ss_one {s : Stmt} {m : SM} (h : S X T W s m) : Ss X T W [s] m := ⟨pss_one h.run⟩
theorem S_ret {e : Expr} {pos : Pos} {m : EM} (h : E X T W e m) : S X T W (.Return (some e) pos) (sRet m) :=
  ⟨PS.imp (ps_ret h.run) fun D σ H ⟨φ, sl, st, h0, h⟩ => (tE_bindS h0 h).mono fun u H1 ⟨φ1, st1, v, a1, v1, s1, p1⟩ => p1 φ1 H1 u .refl a1.s v1⟩
theorem S_if {c : Expr} {a b : List Stmt} {pos : Pos} {t : TM} {m n : SM} (hc : Et X T W c t) (ha : Ss X T W a m) (hb : Ss X T W b n) : S X T W (.If c a b pos) (sIf t m n) := by
  refine ⟨PS.imp (ps_if hc.run ha.run hb.run) ?_⟩
  rintro D σ H ⟨φ, sl, st, h0, h⟩
  refine (tT_bindS h0 h).mono fun d H1 ⟨φ1, st1, a1, s1, p1⟩ => ?_
  cases d with
  | true => exact ⟨φ1, sl, st1, a1, p1⟩
  | false => exact ⟨φ1, sl, st1, a1, p1⟩
theorem S_set {i : Nat} {x : Str} {e : Expr} {p pos : Pos} {m : EM} (c : Cin D k X) (hx : D.s i x = true) (h : E X T W e m) (hs : swapsWith e (some (.Name x p)) pos.line X.env = pure false := by rfl) : S X T W (.Assign [.Name x p] e pos) (sSet i m) := by
  obtain ⟨h1, h2, h3⟩ := c.put hx
  exact ⟨PS.imp (ps_set c.nd h1 h2 h.run hs h3) fun D σ H ⟨φ, sl, st, h0, h⟩ => (tE_bindS h0 h).mono fun u H1 ⟨φ1, st1, v, a1, v1, s1, p1⟩ => p1 φ1 H1 _ .refl a1.s (a1.l.set v1)⟩
structure ExnOk (K : PySem.W.Frag) (mg : Str → Option Value) (c : Str) : Prop where
  at_ : ∃ C, mg c = some (.ref C) ∧ PySem.W.excIn K C [.type "ValueError", .type "Exception", .type "BaseException", .type "object"] "ValueError.__new__" = true ∧ PySem.W.keepIn K (.ref C) = true ∧
    PySem.W.subIn K (.ref C) (.type "BaseException") = some true ∧ PySem.W.typeIn K (.ref C) = some (.type "type")
theorem S_raise {c m : Str} {j : Nat} {p p2 pos pos2 : Pos} (ci : Cin D k X) (tk : Takes X fun c d _ H => W c d H) (hc : ExnOk X.K X.mg c) (hg : D.g c = true) : S X T W (.Raise (some (.Call (.Name c p) [.Constant (.str m) j p2] [] pos2)) none pos) (sRaise c) := by
  obtain ⟨C, h1, h2, h3, h4, h5⟩ := hc
  obtain ⟨g1, g2, g3⟩ := ci.gl hg
  refine ⟨PS.imp (ps_raise ci.calm tk (pmk_own PySem.F.excBase_ValueError h2 h1 h3 (raises_own h4 h5) g1 g2)) ?_⟩
  rintro D σ H ⟨φ, sl, st, h0, h⟩
  exact h φ H σ C .refl h0.s h0.l h1
mutual
/-- the slots that a target stores -/
def Tg.ix : Tg → List Nat
  | .name i => [i]
  | .tup ts => Tg.ixs ts
def Tg.ixs : List Tg → List Nat
  | [] => []
  | t :: ts => Tg.ix t ++ Tg.ixs ts
end
def Apart (is : List Nat) (σ σ' : L2.St) : Prop := σ'.length = σ.length ∧ ∀ j, j ∉ is → σ'[j]? = σ[j]?
theorem Apart.trans {is js : List Nat} {σ σ1 σ2 : L2.St} (a : Apart is σ σ1) (b : Apart js σ1 σ2) : Apart (is ++ js) σ σ2 :=
  ⟨b.1.trans a.1, fun j hj => (b.2 j fun z => hj (List.mem_append_right _ z)).trans (a.2 j fun z => hj (List.mem_append_left _ z))⟩
def tG (X : Cx) (T : List Tb) (W : XK) (t : Tg) : TG := fun u σ H Q => ∃ φ sl st x sl', At X.K X.mg T φ sl st σ H ∧ DR X.K (Av φ st) H x u ∧ t.put x sl = some sl' ∧ ∀ σ', SlR X.K φ st H sl' σ' → Apart t.ix σ σ' → Q σ' H
def tGs (X : Cx) (T : List Tb) (W : XK) (ts : List Tg) : TGs := fun us σ H Q => ∃ φ sl st xs sl', At X.K X.mg T φ sl st σ H ∧ DRs X.K (Av φ st) H xs us ∧ Tg.puts ts xs sl = some sl' ∧ ∀ σ', SlR X.K φ st H sl' σ' → Apart (Tg.ixs ts) σ σ' → Q σ' H
structure G (X : Cx) (T : List Tb) (W : XK) (e : Expr) (t : Tg) : Prop where
  run : PG X e (tG X T W t)
structure Gs (X : Cx) (T : List Tb) (W : XK) (es : List Expr) (ts : List Tg) : Prop where
  run : PGs X es (tGs X T W ts)
theorem PG.imp {X : Cx} {e : Expr} {t t' : TG} (h : PG X e t) (i : ∀ u σ H Q, t' u σ H Q → t u σ H Q) : PG X e t' := ⟨fun p s σ H v u Q I r q => h.run p s σ H v u Q I r (i _ _ _ _ q)⟩
theorem PGs.imp {X : Cx} {e : List Expr} {t t' : TGs} (h : PGs X e t) (i : ∀ u σ H Q, t' u σ H Q → t u σ H Q) : PGs X e t' := ⟨fun p s σ H v u Q I r q => h.run p s σ H v u Q I r (i _ _ _ _ q)⟩
theorem G_name {i : Nat} {x : Str} {pos : Pos} (c : Cin D k X) (hx : D.s i x = true) : G X T W (.Name x pos) (.name i) := by
  obtain ⟨h1, h2, h3⟩ := c.put hx
  refine ⟨PG.imp (pg_name c.nd h1 h2 h3) ?_⟩
  rintro u σ H Q ⟨φ, sl, st, y, sl', a, d, e, h⟩
  cases e
  exact h _ (a.l.set (v := .d y) d) ⟨by rw [List.length_set], fun j hj => by rw [List.getElem?_set_ne (fun z => hj (by rw [← z]; exact List.mem_singleton.mpr rfl))]⟩
def gNs (is : List Nat) : TGs := fun us σ H Q => us.length = is.length ∧ Q ((is.zip us).foldl (fun σ p => σ.set p.1 (some p.2)) σ) H
structure Gn (X : Cx) (es : List Expr) (is : List Nat) : Prop where
  run : PGs X es (gNs is)
theorem putFld_some {c f : Str} {u v : Val} {st st' : Store} (h : putFld c u f v st = some st') : ∃ n fs, u = .box n ∧ st[n]? = some (.obj c fs) ∧ fs.length < 999 ∧ st' = st.set n (.obj c (setF f v fs)) := by
  unfold putFld at h
  cases u with
  | d x => cases h
  | box n =>
    cases e : st[n]? with
    | none => simp only [e] at h; cases h
    | some cl =>
      simp only [e] at h
      cases cl with
      | obj c' fs =>
        by_cases hc : c' = c ∧ fs.length < 999
        · obtain ⟨rfl, hl⟩ := hc
          have h : (if c' = c' ∧ fs.length < 999 then some (st.set n (.obj c' (setF f v fs))) else none) = some st' := h
          rw [if_pos (And.intro (Eq.refl c') hl)] at h
          cases h
          exact ⟨n, fs, rfl, e, hl, rfl⟩
        · simp only [if_neg hc] at h
          cases h
      | lst _ => cases h
      | dic _ => cases h
      | ldic _ => cases h
      | lbs _ => cases h
      | dbs _ _ => cases h
      | dead => cases h
theorem StR.write {K : PySem.W.Frag} {mg : Str → Option Value} {φ : Num} {st : Store} {H : Hp} {n : Nat} {a : Addr} {c c' : Cell} {o o' : HO} (s : StR K mg T φ st H) (ec : st[n]? = some c) (ea : φ.ids[n]? = some a) (ho : H a = some o) (hf : isFrz o = false) (ht : isTbl o = false) (he : ∀ φ, o ≠ .ext φ) (lc : isLive c = true) (lc' : isLive c' = true)
    (h : CR K φ (st.set n c') (upd H a o') mg a c') : StR K mg T φ (st.set n c') (upd H a o') ∧ Stp φ st H φ (st.set n c') (upd H a o') := by
  have hn : n < st.length := (List.getElem?_eq_some_iff.mp ec).1
  have lv : ∀ x, Live φ (st.set n c') x → Live φ st x := fun x ⟨i, d, e1, e2, e3⟩ => by
    by_cases hi : n = i
    · subst hi
      exact ⟨n, c, ec, lc, e3⟩
    · rw [List.getElem?_set_ne hi] at e1
      exact ⟨i, d, e1, e2, e3⟩
  have hl : Live φ st a := ⟨n, c, ec, lc, ea⟩
  have nea : ∀ x u, H x = some u → ¬ Live φ st x → x ≠ a := fun x u _ nl z => nl (z ▸ hl)
  have stp : Stp φ st H φ (st.set n c') (upd H a o') := by
    refine ⟨List.prefix_rfl, ⟨fun _ h => h, fun _ h => .inl h⟩, fun x u e nl _ => .inl (by rw [upd_ne (nea x u e nl)]; exact e), fun x l => .inl (lv x l), fun x e => ?_, fun x ob u e => ?_⟩
    · by_cases hx : x = a
      · rw [hx, upd_same]; exact fun z => nomatch z
      · rw [upd_ne hx]; exact e
    · have hx : x ≠ a := fun z => by
        rw [z, ho] at e
        cases e
        cases hf
      rw [upd_ne hx]
      exact e
  refine ⟨⟨by rw [List.length_set]; exact s.len, s.nd, fun x hx => ⟨let ⟨o, e, w⟩ := (s.av x hx).1; ⟨o, by rw [upd_ne (fun z => (s.av x hx).2 (by rw [z]; exact List.mem_of_getElem? ea))]; exact e, w⟩, (s.av x hx).2⟩, fun i d x e1 e2 => ?_, fun t htm => ?_⟩, stp⟩
  · by_cases hi : n = i
    · subst hi
      rw [List.getElem?_set_self hn] at e1
      cases e1
      rw [ea] at e2
      cases e2
      exact h
    · rw [List.getElem?_set_ne hi] at e1
      have hx : x ≠ a := fun z => by
        have h1 := (List.getElem?_eq_some_iff.mp e2)
        have h2 := (List.getElem?_eq_some_iff.mp ea)
        obtain ⟨l1, q1⟩ := h1
        obtain ⟨l2, q2⟩ := h2
        exact hi ((List.getElem_inj s.nd).mp (by rw [q2, q1, z]))
      have := s.cell i d x e1 e2
      cases d with
      | lst xs => obtain ⟨vs, h1, h2⟩ := this; exact ⟨vs, by rw [upd_ne hx]; exact h1, DRs.mon stp.mon _ _ h2⟩
      | dic kvs => obtain ⟨o, vs, h1, h2, h3⟩ := this; exact ⟨o, vs, by rw [upd_ne hx]; exact h1, h2, DRs.mon stp.mon _ _ h3⟩
      | ldic kvs => obtain ⟨ob, o, vs, h1, h2, h3⟩ := this; exact ⟨ob, o, vs, by rw [upd_ne hx]; exact h1, h2, DRs.mon stp.mon _ _ h3⟩
      | obj c fs => obtain ⟨C, dx, us, h0, h1, h2⟩ := this; exact ⟨C, dx, us, h0, by rw [upd_ne hx]; exact h1, FR.mon stp h2⟩
      | lbs ns => obtain ⟨vs, h1, h2⟩ := this; exact ⟨vs, by rw [upd_ne hx]; exact h1, h2⟩
      | dbs ks ns => obtain ⟨o, vs, h1, h2, h3⟩ := this; exact ⟨o, vs, by rw [upd_ne hx]; exact h1, h2, h3⟩
      | dead => exact stp.sm x this
  · obtain ⟨ps, q1, q2, q3⟩ := s.tabs t htm
    have hp : t.P ≠ a := fun z => by rw [z, ho] at q1; cases q1; cases ht
    refine ⟨ps, by rw [upd_ne hp]; exact q1, q2, fun pos cv q e1 e2 => ?_⟩
    obtain ⟨cc, r1, r2⟩ := q3 pos cv q e1 e2
    have hcc : cc ≠ a := fun z => by
      rw [z, ho] at r2
      exact he _ (Option.some.inj r2)
    exact ⟨cc, r1, by rw [upd_ne hcc]; exact r2⟩
theorem put_read {c f : Str} {n : Nat} {φ : Num} {st : Store} {H : Hp} {fs : List (Str × Val)} {v : Val} {u : V} {a C dx : Addr} {us : List (Str × V)} {mg : Str → Option Value} {K : PySem.W.Frag} (s : StR K mg T φ st H) (ec : st[n]? = some (.obj c fs)) (ea : φ.ids[n]? = some a) (hC : mg c = some (.ref C))
    (hH : H a = some (.ins C dx us)) (hr : FR K φ st H fs us) (hv : VR K φ st H v u) : StR K mg T φ (st.set n (.obj c (setF f v fs))) (upd H a (.ins C dx (putF f u us))) ∧ Stp φ st H φ (st.set n (.obj c (setF f v fs))) (upd H a (.ins C dx (putF f u us))) := by
  have stp : Stp φ st H φ (st.set n (.obj c (setF f v fs))) (upd H a (.ins C dx (putF f u us))) := by
    have hl : Live φ st a := ⟨n, _, ec, rfl, ea⟩
    refine ⟨List.prefix_rfl, ⟨fun _ h => h, fun _ h => .inl h⟩, fun x w e nl _ => .inl (by rw [upd_ne (fun z => nl (by rw [z]; exact hl))]; exact e), fun x ⟨i, d, e1, e2, e3⟩ => ?_, fun x e => ?_, fun x ob w e => ?_⟩
    · by_cases hi : n = i
      · subst hi
        exact .inl ⟨n, _, ec, rfl, e3⟩
      · rw [List.getElem?_set_ne hi] at e1
        exact .inl ⟨i, d, e1, e2, e3⟩
    · by_cases hx : x = a
      · rw [hx, upd_same]; exact fun z => nomatch z
      · rw [upd_ne hx]; exact e
    · have hx : x ≠ a := fun z => by
        rw [z, hH] at e
        cases e
      rw [upd_ne hx]
      exact e
  exact s.write ec ea hH rfl rfl (fun _ z => nomatch z) rfl rfl ⟨C, dx, _, hC, upd_same, FR.mon stp (FR.put hv hr)⟩
theorem S_fld {o e : Expr} {c f : Str} {pos pos' : Pos} {mo m : EM} (hf : FldOk X.K X.mg c f) (ho : E X T W o mo) (h : E X T W e m) (hs : swapsWith e (some (.Attribute o f pos')) pos.line X.env = pure false := by rfl) : S X T W (.Assign [.Attribute o f pos'] e pos) (sFld c mo f m) := by
  obtain ⟨C0, hC, hcl, hna⟩ := hf
  refine ⟨PS.imp (ps_fld ho.run h.run hs) ?_⟩
  rintro D σ H ⟨φ, sl, st, h0, h⟩
  refine (tE_bindS h0 h).mono fun u H1 ⟨φ1, st1, v, a1, v1, s1, p1⟩ => (tE_bindS a1 p1).mono fun w H2 ⟨φ2, st2, v', a2, v2, s2, p2⟩ => ?_
  cases eo : putFld c v' f v st2 with
  | none => rw [eo] at p2; exact p2.elim
  | some st3 =>
    rw [eo] at p2
    obtain ⟨n, fs, rfl, e1, hl, rfl⟩ := putFld_some eo
    obtain ⟨a, C, dx, us, rfl, ea, k1, k2, k3⟩ := obj_at a2.s v2 e1
    rw [hC] at k1
    cases k1
    obtain ⟨r3, s3⟩ := put_read (f := f) a2.s e1 ea hC k2 k3 (v1.mon s2)
    exact ⟨a, _, dx, us, rfl, k2, hcl, hna, by rw [FR.length k3]; omega, p2 φ2 _ σ s3 r3 (a2.l.mon s3)⟩
theorem S_augfld {o e : Expr} {c f : Str} {op : Operator} {tpos pos : Pos} {g : PyData → PyData → Option PyData} {mo m : EM} (hf : FldOk X.K X.mg c f) (hop : OpR X (inplaceOp op) (r2 X T g)) (ho : E X T W o mo) (h : E X T W e m) : S X T W (.AugAssign (.Attribute o f tpos) op e pos) (sAugFld c mo f g m) := by
  obtain ⟨C0, hC, hcl, hna⟩ := hf
  refine ⟨PS.imp (ps_fldaug (rd := r2 X T g) ho.run h.run hop) ?_⟩
  rintro D σ H ⟨φ, sl, st, h0, h⟩
  refine (tE_bindS h0 h).mono fun u H1 ⟨φ1, st1, v, a1, v1, s1, p1⟩ => ?_
  cases eo : fldOf c v f st1 with
  | none => rw [eo] at p1; exact p1.elim
  | some x =>
    rw [eo] at p1
    obtain ⟨n, fs, rfl, e1, e2⟩ := fldOf_some eo
    obtain ⟨a, C, dx, us, rfl, ea, k1, k2, k3⟩ := obj_at a1.s v1 e1
    rw [hC] at k1
    cases k1
    obtain ⟨w, ew, rw'⟩ := FR.lookup k3 e2
    refine ⟨a, _, dx, us, w, rfl, k2, hcl, hna, ew, ?_⟩
    refine (tE_bindS a1 p1).mono fun y H2 ⟨φ2, st2, v', a2, v2, s2, p2⟩ => ?_
    cases ez : ((deref x st2).bind fun x' => (deref v' st2).bind fun y' => g x' y') with
    | none => rw [ez] at p2; exact p2.elim
    | some z =>
      rw [ez] at p2
      obtain ⟨d1, ed1, ez⟩ := Option.bind_eq_some_iff.mp ez
      obtain ⟨d2, ed2, ez⟩ := Option.bind_eq_some_iff.mp ez
      refine ⟨φ2, st2, d1, d2, z, a2.s, ⟨x, rw'.mon s2, ed1⟩, ⟨v', v2, ed2⟩, ez, fun H3 zz g3 dz => ?_⟩
      have p3 : SPost X.K X.mg T W φ2 st2 H2 D (SR.opt (putFld c (.box n) f (.d z) st2) fun st3 => .nx sl st3) := p2
      cases eq : putFld c (.box n) f (.d z) st2 with
      | none => rw [eq] at p3; exact p3.elim
      | some st3 =>
        rw [eq] at p3
        obtain ⟨n', fs', en, e1', hl', rfl⟩ := putFld_some eq
        cases en
        have r3 := a2.s.gr g3
        obtain ⟨a', C', dx', us', ea', eφ', k1', k2', k3'⟩ := obj_at r3 ((v1.mon s2).mon g3.step) e1'
        cases ea'
        rw [hC] at k1'
        cases k1'
        obtain ⟨r4, s4⟩ := put_read (f := f) r3 e1' eφ' hC k2' k3' (v := .d z) dz
        exact ⟨dx', us', k2', by rw [FR.length k3']; omega, p3 φ2 _ σ (g3.step.trans s4) r4 ((a2.l.mon g3.step).mon s4)⟩
theorem S_aug {i : Nat} {x : Str} {e : Expr} {op : Operator} {p pos : Pos} {g : PyData → PyData → Option PyData} {m : EM} (c : Cin D k X) (hx : D.s i x = true) (hop : OpR X (inplaceOp op) (r2 X T g)) (h : E X T W e m) : S X T W (.AugAssign (.Name x p) op e pos) (sAug i g m) := by
  obtain ⟨h1, h2, h3⟩ := c.put hx
  refine ⟨PS.imp (ps_aug (ti := r2 X T g) c.nd h1 h2 h.run hop h3) ?_⟩
  rintro D σ H ⟨φ, sl, st, h0, h⟩
  have h' : SPost X.K X.mg T W φ st H D (aS (mP2 g (mVar i) m sl st) sl fun v st1 => .nx (sl.set i (some v)) st1) := h
  unfold mP2 mVar at h'
  cases e1 : sl[i]? with
  | none => simp only [e1] at h'; exact h'.elim
  | some o =>
    cases o with
    | none => simp only [e1] at h'; exact h'.elim
    | some v =>
      simp only [e1, R.bind_ok] at h'
      obtain ⟨u, eu, ru⟩ := h0.l.2 i v e1
      refine ⟨u, eu, φ, sl, st, h0, ?_⟩
      cases em : m sl st with
      | ok w st1 =>
        rw [em] at h'
        intro φ1 H1 y s1 r1 v1
        cases ez : (((deref v st1).bind fun x => (deref w st1).bind fun y => g x y)) with
        | none =>
          simp only [R.bind_ok, ez, Option.map_none, R.opt_none, aS_stuck] at h'
          exact h'.elim
        | some z =>
          simp only [R.bind_ok, ez, Option.map_some, R.opt_some, aS_ok] at h'
          obtain ⟨d1, ed1, ez⟩ := Option.bind_eq_some_iff.mp ez
          obtain ⟨d2, ed2, ez⟩ := Option.bind_eq_some_iff.mp ez
          refine ⟨φ1, st1, d1, d2, z, r1, ⟨v, ru.mon s1, ed1⟩, ⟨w, v1, ed2⟩, ez, fun H3 zz g3 dz => ?_⟩
          exact h' φ1 H3 _ (s1.trans g3.step) (r1.gr g3) (((h0.l.mon s1).mon g3.step).set (v := .d z) dz)
      | exn c st1 =>
        rw [em] at h'
        exact fun φ' H' C s1 r1 hc => h' φ' H' σ C s1 r1 (h0.l.mon s1) hc
      | stuck => rw [em] at h'; exact h'.elim
end
end TL
end

section
set_option Elab.async false
set_option linter.all false
set_option maxRecDepth 100000
set_option autoImplicit false
namespace TL
open PySem L2
section
variable {D : DI} {k : Nat} {X : Cx} {T : List Tb} {W : XK}
theorem SPost.imp {φ : Num} {st : Store} {H : Hp} {D D' : Ends} {r : SR} (h : SPost X.K X.mg T W φ st H D r) (h1 : ∀ σ H, D.nx σ H → D'.nx σ H) (h2 : ∀ u H, D.rt u H → D'.rt u H) (h3 : ∀ σ H, D.bk σ H → D'.bk σ H) (h4 : ∀ σ H, D.ct σ H → D'.ct σ H) :
    SPost X.K X.mg T W φ st H D' r := by
  cases r with
  | nx sl1 st1 => exact fun φ1 H1 σ1 s1 r1 l1 => h1 _ _ (h φ1 H1 σ1 s1 r1 l1)
  | rt v st1 => exact fun φ1 H1 σ1 s1 r1 l1 => h2 _ _ (h φ1 H1 σ1 s1 r1 l1)
  | bk sl1 st1 => exact fun φ1 H1 σ1 s1 r1 l1 => h3 _ _ (h φ1 H1 σ1 s1 r1 l1)
  | ct sl1 st1 => exact fun φ1 H1 σ1 s1 r1 l1 => h4 _ _ (h φ1 H1 σ1 s1 r1 l1)
  | exn c sl1 st1 => exact h
  | stuck => exact h
def turnS (r : SR) (f : SM) : SR :=
  match r with
  | .nx sl st => f sl st
  | .ct sl st => f sl st
  | .bk sl st => .nx sl st
  | r => r
def ItR (X : Cx) (T : List Tb) (φ1 : Num) (st1 : Store) (H1 : Hp) (xs : List PyData) (J : It) : Prop :=
  ∀ (i : Nat) (φ : Num) (st : Store) (H : Hp), Stp φ1 st1 H1 φ st H → StR X.K X.mg T φ st H →
    (i < xs.length → J.go i H ∧ ∀ u H', J.yld i H u H' → Gr H H' ∧ ∃ d, xs[i]? = some d ∧ DR X.K (Av φ st) H' d u) ∧ (xs.length ≤ i → J.stop i H)
def IPost (X : Cx) (T : List Tb) (W : XK) (φ : Num) (st : Store) (H : Hp) (Q : It → Hp → Prop) : R (List PyData) → Prop
  | .ok xs st1 => ∀ φ1 H1 J, Stp φ st H φ1 st1 H1 → StR X.K X.mg T φ1 st1 H1 → ItR X T φ1 st1 H1 xs J → Q J H1
  | .exn c st' => ∀ φ' H' C, Stp φ st H φ' st' H' → StR X.K X.mg T φ' st' H' → X.mg c = some (.ref C) → W (.ref C) none H'
  | .stuck => False
def tI (X : Cx) (T : List Tb) (W : XK) (it : IM) : TI := fun σ H R => ∃ φ sl st, At X.K X.mg T φ sl st σ H ∧ IPost X T W φ st H R (it sl st)
structure I (X : Cx) (T : List Tb) (W : XK) (tg e : Expr) (it : IM) : Prop where
  run : PI X tg e (tI X T W it)
theorem PI.imp {X : Cx} {tg e : Expr} {t t' : TI} (h : PI X tg e t) (i : ∀ σ H R, t' σ H R → t σ H R) : PI X tg e t' := ⟨fun p s σ H R I q => h.run p s σ H R I (i σ H R q)⟩
theorem PI.or {X : Cx} {tg e : Expr} {t t' : TI} (h : PI X tg e t) (h' : PI X tg e t') : PI X tg e (fun σ H R => t σ H R ∨ t' σ H R) := ⟨fun p s σ H R I q => q.elim (h.run p s σ H R I) (h'.run p s σ H R I)⟩
theorem tE_bindI {m : EM} {f : Val → Store → R (List PyData)} {Q : It → Hp → Prop} {φ : Num} {sl : Slots} {st : Store} {σ : L2.St} {H : Hp} (a : At X.K X.mg T φ sl st σ H) (h : IPost X T W φ st H Q ((m sl st).bind f)) :
    tE X T W m σ H fun u H1 => ∃ φ1 st1 v, At X.K X.mg T φ1 sl st1 σ H1 ∧ VR X.K φ1 st1 H1 v u ∧ Stp φ st H φ1 st1 H1 ∧ IPost X T W φ1 st1 H1 Q (f v st1) := by
  refine ⟨φ, sl, st, a, ?_⟩
  cases e : m sl st with
  | ok v st1 =>
    rw [e] at h
    refine fun φ1 H1 u s1 r1 v1 => ⟨φ1, st1, v, ⟨r1, a.l.mon s1⟩, v1, s1, ?_⟩
    have h' : IPost X T W φ st H Q (f v st1) := h
    cases e2 : f v st1 with
    | ok xs st2 => rw [e2] at h'; exact fun φ2 H2 J s2 => h' φ2 H2 J (s1.trans s2)
    | exn c st2 => rw [e2] at h'; exact fun φ2 H2 C s2 => h' φ2 H2 C (s1.trans s2)
    | stuck => rw [e2] at h'; exact h'
  | exn c st1 => rw [e] at h; exact h
  | stuck => rw [e] at h; exact h
theorem tA_bindI {m : AM} {f : List Val → Store → R (List PyData)} {Q : It → Hp → Prop} {φ : Num} {sl : Slots} {st : Store} {σ : L2.St} {H : Hp} (a : At X.K X.mg T φ sl st σ H) (h : IPost X T W φ st H Q ((m sl st).bind f)) :
    tA X T W m σ H fun us H1 => ∃ φ1 st1 vs, At X.K X.mg T φ1 sl st1 σ H1 ∧ Paired (VR X.K φ1 st1 H1) vs us ∧ Stp φ st H φ1 st1 H1 ∧ IPost X T W φ1 st1 H1 Q (f vs st1) := by
  refine ⟨φ, sl, st, a, ?_⟩
  cases e : m sl st with
  | ok v st1 =>
    rw [e] at h
    refine fun φ1 H1 u s1 r1 v1 => ⟨φ1, st1, v, ⟨r1, a.l.mon s1⟩, v1, s1, ?_⟩
    have h' : IPost X T W φ st H Q (f v st1) := h
    cases e2 : f v st1 with
    | ok xs st2 => rw [e2] at h'; exact fun φ2 H2 J s2 => h' φ2 H2 J (s1.trans s2)
    | exn c st2 => rw [e2] at h'; exact fun φ2 H2 C s2 => h' φ2 H2 C (s1.trans s2)
    | stuck => rw [e2] at h'; exact h'
  | exn c st1 => rw [e] at h; exact h
  | stuck => rw [e] at h; exact h
theorem itr_list {φ1 : Num} {st1 : Store} {H1 : Hp} {xs : List PyData} {a : Addr} {vs : List V} (h : ListAt X.K (Av φ1 st1) H1 a vs) (hd : DRs X.K (Av φ1 st1) H1 xs vs) : ItR X T φ1 st1 H1 xs (Itl X.K a) := by
  intro i φ st H s r
  have hL := s.mon.list h
  have hD := DRs.mon s.mon _ _ hd
  refine ⟨fun hi => ⟨?_, fun u H' q => ?_⟩, fun hi => ⟨vs, hL.sq, by rw [hD.length]; exact hi⟩⟩
  · have hv : i < vs.length := by rw [hD.length]; exact hi
    exact ⟨vs, vs[i], hL.sq, List.getElem?_eq_getElem hv⟩
  · obtain ⟨rfl, q⟩ := q
    refine ⟨Gr.refl _, xs[i], List.getElem?_eq_getElem hi, ?_⟩
    obtain ⟨v, e1, e2⟩ := DRs.at hD (List.getElem?_eq_getElem hi)
    have := q vs hL.sq
    rw [e1] at this
    cases this
    exact e2
theorem itr_tup {φ1 : Num} {st1 : Store} {H1 : Hp} {xs : List PyData} {a : Addr} {vs : List V} (h : TupAt X.K (Av φ1 st1) H1 a vs) (hd : DRs X.K (Av φ1 st1) H1 xs vs) : ItR X T φ1 st1 H1 xs (Itt X.K a) := by
  intro i φ st H s r
  have hL := s.mon.tup h
  have hD := DRs.mon s.mon _ _ hd
  refine ⟨fun hi => ⟨?_, fun u H' q => ?_⟩, fun hi => ⟨vs, hL.sq, by rw [hD.length]; exact hi⟩⟩
  · have hv : i < vs.length := by rw [hD.length]; exact hi
    exact ⟨vs, vs[i], hL.sq, List.getElem?_eq_getElem hv⟩
  · obtain ⟨rfl, q⟩ := q
    refine ⟨Gr.refl _, xs[i], List.getElem?_eq_getElem hi, ?_⟩
    obtain ⟨v, e1, e2⟩ := DRs.at hD (List.getElem?_eq_getElem hi)
    have := q vs hL.sq
    rw [e1] at this
    cases this
    exact e2
theorem itr_str {φ1 : Num} {st1 : Store} {H1 : Hp} {x : Str} : ItR X T φ1 st1 H1 (x.cps.toList.map fun c => .str ⟨#[c]⟩) (Its x) := by
  intro i φ st H s r
  have hl : (x.cps.toList.map fun c => PyData.str ⟨#[c]⟩).length = x.cps.size := by simp
  refine ⟨fun hi => ⟨by rw [hl] at hi; exact hi, fun u H' q => ?_⟩, fun hi => by rw [hl] at hi; exact hi⟩
  obtain ⟨rfl, c, hc, rfl⟩ := q
  refine ⟨Gr.refl _, .str ⟨#[c]⟩, ?_, rfl⟩
  rw [List.getElem?_map, Array.getElem?_toList, hc]
  rfl
theorem seqD_some {x : PyData} {xs : List PyData} (h : seqD x = some xs) : x = .list xs ∨ x = .tuple xs ∨ ∃ s : Str, x = .str s ∧ xs = s.cps.toList.map fun c => .str ⟨#[c]⟩ := by
  cases x with
  | list ys => cases h; exact .inl rfl
  | tuple ys => cases h; exact .inr (.inl rfl)
  | str s => cases h; exact .inr (.inr ⟨s, rfl, rfl⟩)
  | none => cases h
  | bool _ => cases h
  | int _ => cases h
  | dict _ => cases h
theorem dataOf_some {v : Val} {x : PyData} (h : dataOf v = some x) : v = .d x := by
  cases v with
  | d y => cases h; rfl
  | box n => cases h
theorem I_seq {tg e : Expr} {m : EM} (h : E X T W e m) : I X T W tg e (iSeq m) := by
  refine ⟨PI.imp (PI.or (pi_list h.run) (PI.or (pi_tup h.run) (pi_str h.run))) ?_⟩
  rintro σ H Rr ⟨φ, sl, st, h0, h⟩
  have h' : IPost X T W φ st H Rr ((m sl st).bind fun v st1 => R.opt ((dataOf v).bind seqD) st1) := h
  cases em : m sl st with
  | exn c st1 =>
    rw [em] at h'
    exact .inl ⟨φ, sl, st, h0, by rw [em]; exact h'⟩
  | stuck => rw [em] at h'; exact h'.elim
  | ok v st1 =>
    have h2 := h'
    rw [em] at h2
    cases ex : (dataOf v).bind seqD with
    | none => simp only [R.bind_ok, ex, R.opt_none] at h2; exact h2.elim
    | some xs =>
      obtain ⟨x, e1, e2⟩ := Option.bind_eq_some_iff.mp ex
      rw [dataOf_some e1] at em
      have go : ∀ φ1 H1 J, Stp φ st H φ1 st1 H1 → StR X.K X.mg T φ1 st1 H1 → ItR X T φ1 st1 H1 xs J → Rr J H1 := by
        simp only [R.bind_ok, ex, R.opt_some] at h2
        exact h2
      rcases seqD_some e2 with rfl | rfl | ⟨s, rfl, rfl⟩
      · refine .inl ⟨φ, sl, st, h0, ?_⟩
        rw [em]
        intro φ1 H1 u s1 r1 v1
        obtain ⟨a, vs, rfl, d1, d2⟩ := v1
        exact ⟨a, rfl, ⟨vs, d1.sq⟩, go φ1 H1 _ s1 r1 (itr_list d1 d2)⟩
      · refine .inr (.inl ⟨φ, sl, st, h0, ?_⟩)
        rw [em]
        intro φ1 H1 u s1 r1 v1
        obtain ⟨a, vs, rfl, d1, d2⟩ := v1
        exact ⟨a, rfl, ⟨vs, d1.sq⟩, go φ1 H1 _ s1 r1 (itr_tup d1 d2)⟩
      · refine .inr (.inr ⟨φ, sl, st, h0, ?_⟩)
        rw [em]
        intro φ1 H1 u s1 r1 v1
        rw [show u = _ from v1]
        exact ⟨s, rfl, go φ1 H1 _ s1 r1 itr_str⟩
theorem forL_cons (tg : Tg) (b : SM) (x : PyData) (xs : List PyData) (sl : Slots) (st : Store) : forL tg b (x :: xs) sl st = SR.opt (tg.put x sl) fun sl1 => turnS (b sl1 st) (forL tg b xs) := by
  rw [forL]
  cases tg.put x sl with
  | none => rfl
  | some sl1 => rfl
theorem for_read {φ : Num} {sl : Slots} {st : Store} {σ : L2.St} {H : Hp} {D : Ends} {tg : Tg} {m : SM} {xs : List PyData} {J : It} (h0 : At X.K X.mg T φ sl st σ H) (hJ : ItR X T φ st H xs J) (h : SPost X.K X.mg T W φ st H D (forL tg m xs sl st)) :
    ∃ W' : Nat → Nat → L2.St → Hp → Prop, (∃ n, W' 0 n σ H) ∧ ∀ i n σ H, W' i n σ H →
      (J.stop i H ∧ D.nx σ H) ∨ (J.go i H ∧ ∃ N : L2.St → Hp → Prop, (∀ σ' H', N σ' H' → ∃ n', n' < n ∧ W' (i + 1) n' σ' H') ∧ ∀ x H', J.yld i H x H' → tG X T W tg x σ H' fun σ2 H2 => tS X T W m { D with nx := N, ct := N, bk := D.nx } σ2 H2) := by
  refine ⟨fun i n σ' H' => n = xs.length - i ∧ i ≤ xs.length ∧ ∃ φ' sl' st', At X.K X.mg T φ' sl' st' σ' H' ∧ Stp φ st H φ' st' H' ∧ SPost X.K X.mg T W φ' st' H' D (forL tg m (xs.drop i) sl' st'), ⟨xs.length, rfl, Nat.zero_le _, φ, sl, st, h0, .refl, h⟩, ?_⟩
  rintro i n σ1 H1 ⟨rfl, hi, φ1, sl1, st1, a1, s1, p1⟩
  obtain ⟨go, stop⟩ := hJ i φ1 st1 H1 s1 a1.s
  by_cases hl : i < xs.length
  · obtain ⟨g1, g2⟩ := go hl
    rw [List.drop_eq_getElem_cons hl, forL_cons] at p1
    refine .inr ⟨g1, fun σ' H' => ∃ φ' sl' st', At X.K X.mg T φ' sl' st' σ' H' ∧ Stp φ st H φ' st' H' ∧ SPost X.K X.mg T W φ' st' H' D (forL tg m (xs.drop (i + 1)) sl' st'), fun σ' H' q => ⟨xs.length - (i + 1), by omega, rfl, hl, q⟩, fun u H' hy => ?_⟩
    obtain ⟨gr, d, e1, e2⟩ := g2 u H' hy
    rw [List.getElem?_eq_getElem hl] at e1
    cases e1
    cases ep : tg.put xs[i] sl1 with
    | none => rw [ep] at p1; exact p1.elim
    | some sl2 =>
      rw [ep] at p1
      refine ⟨φ1, sl1, st1, xs[i], sl2, ⟨a1.s.gr gr, a1.l.mon gr.step⟩, e2, ep, fun σ2 l2 _ => ⟨φ1, sl2, st1, ⟨a1.s.gr gr, l2⟩, ?_⟩⟩
      have p2 : SPost X.K X.mg T W φ1 st1 H1 D (turnS (m sl2 st1) (forL tg m (xs.drop (i + 1)))) := p1
      have s2 := s1.trans (gr.step (φ := φ1) (st := st1))
      have p3 := SPost.shift (gr.step (φ := φ1) (st := st1)) p2
      revert p3
      cases m sl2 st1 with
      | nx sl3 st3 => exact fun p3 φ3 H3 σ3 s3 r3 l3 => ⟨φ3, sl3, st3, ⟨r3, l3⟩, s2.trans s3, SPost.shift s3 p3⟩
      | rt v st3 => exact fun p3 => p3
      | bk sl3 st3 => exact fun p3 => p3
      | ct sl3 st3 => exact fun p3 φ3 H3 σ3 s3 r3 l3 => ⟨φ3, sl3, st3, ⟨r3, l3⟩, s2.trans s3, SPost.shift s3 p3⟩
      | exn c sl3 st3 => exact fun p3 => p3
      | stuck => exact fun p3 => p3
  · have he : xs.drop i = [] := List.drop_eq_nil_of_le (by omega)
    rw [he] at p1
    exact .inl ⟨stop (by omega), p1 φ1 H1 σ1 .refl a1.s a1.l⟩
theorem S_for {tg iter : Expr} {body : List Stmt} {pos : Pos} {t : Tg} {it : IM} {m : SM} (ci : Cin D k X) (hi : I X T W tg iter it) (hg : G X T W tg t) (hb : Ss X T W body m) (hs : ∀ x, foldedSetIterable iter X.env x = pure x := by intro _; rfl) : S X T W (.For tg iter body [] pos) (sFor t it m) := by
  refine ⟨PS.imp (ps_for ci.po ci.calm hi.run hg.run hb.run hs) ?_⟩
  rintro D σ H ⟨φ, sl, st, h0, h⟩
  refine ⟨φ, sl, st, h0, ?_⟩
  have h' : SPost X.K X.mg T W φ st H D (aS (it sl st) sl fun xs st1 => forL t m xs sl st1) := h
  cases em : it sl st with
  | exn c st1 => rw [em] at h'; exact fun φ' H' C s1 r1 hc => h' φ' H' σ C s1 r1 (h0.l.mon s1) hc
  | stuck => rw [em] at h'; exact h'
  | ok xs st1 =>
    rw [em] at h'
    intro φ1 H1 J s1 r1 hJ
    exact for_read ⟨r1, h0.l.mon s1⟩ hJ (SPost.shift s1 h')
structure Ets (X : Cx) (T : List Tb) (W : XK) (ifs : List Expr) (m : TM) : Prop where
  run : PTs X ifs (tT X T W m)
theorem PTs.imp {X : Cx} {e : List Expr} {t t' : TT} (h : PTs X e t) (i : ∀ σ H Q, t' σ H Q → t σ H Q) : PTs X e t' := ⟨fun p s σ H Q I q => h.run p s σ H Q I (i σ H Q q)⟩
theorem Ets_nil : Ets X T W [] TL.tYes := ⟨PTs.imp pts_nil fun σ H Q ⟨φ, sl, st, h0, h⟩ => h φ H .refl h0.s⟩
theorem Ets_one {c : Expr} {m : TM} (h : Et X T W c m) : Ets X T W [c] m := ⟨pts_one h.run⟩
theorem wipe_at (σ : L2.St) : ∀ (vs : List Nat) (j : Nat), (wipe σ vs)[j]? = if j ∈ vs then (if j < σ.length then some none else none) else σ[j]?
  | [], j => by simp [wipe]
  | v :: vs, j => by
    rw [wipe, List.getElem?_set]
    by_cases h : v = j
    · subst h
      rw [if_pos rfl, wipe_length]
      simp
    · rw [if_neg h, wipe_at σ vs j]
      simp [Ne.symm h]
theorem wipe_apart {σ σ' : L2.St} {is vs : List Nat} (h : Apart is (wipe σ vs) σ') (hs : ∀ i ∈ is, i ∈ vs) : wipe σ' vs = wipe σ vs := by
  apply List.ext_getElem?
  intro j
  rw [wipe_at, wipe_at]
  have hl := h.1
  rw [wipe_length] at hl
  by_cases hj : j ∈ vs
  · rw [if_pos hj, if_pos hj, hl]
  · rw [if_neg hj, if_neg hj, h.2 j (fun z => hj (hs j z)), wipe_at, if_neg hj]
theorem SlR.wipe {K : PySem.W.Frag} {φ : Num} {st : Store} {H : Hp} {sl : Slots} {σ : L2.St} (h : SlR K φ st H sl σ) : ∀ vs : List Nat, SlR K φ st H (wipeS sl vs) (L2.wipe σ vs)
  | [] => h
  | v :: vs => by
    have ih := SlR.wipe h vs
    refine ⟨by rw [wipeS, L2.wipe, List.length_set, List.length_set, ih.1], fun j w e => ?_⟩
    rw [wipeS, List.getElem?_set] at e
    rw [L2.wipe, List.getElem?_set]
    by_cases hv : v = j
    · rw [if_pos hv] at e
      split at e <;> cases e
    · rw [if_neg hv] at e ⊢
      exact ih.2 j w e
theorem compL_ok {tg : Tg} {c : TM} {e : EM} {sl : Slots} {x : PyData} {xs ys : List PyData} {st st2 : Store} (h : compL tg c e sl (x :: xs) st = .ok ys st2) :
    ∃ sl1 b st3, tg.put x sl = some sl1 ∧ c sl1 st = .ok b st3 ∧ ((b = true ∧ ∃ y st4 zs, e sl1 st3 = .ok (.d y) st4 ∧ compL tg c e sl xs st4 = .ok zs st2 ∧ ys = y :: zs) ∨ (b = false ∧ compL tg c e sl xs st3 = .ok ys st2)) := by
  rw [compL] at h
  cases e1 : tg.put x sl with
  | none => rw [e1] at h; cases h
  | some sl1 =>
    rw [e1] at h
    cases e2 : c sl1 st with
    | exn _ _ => simp only [e2, R.bind_exn] at h; cases h
    | stuck => simp only [e2, R.bind_stuck] at h; cases h
    | ok b st3 =>
      simp only [e2, R.bind_ok] at h
      refine ⟨sl1, b, st3, rfl, e2, ?_⟩
      cases b with
      | false => exact .inr ⟨rfl, h⟩
      | true =>
        refine .inl ⟨rfl, ?_⟩
        simp only [cond_true] at h
        cases e3 : e sl1 st3 with
        | exn _ _ => rw [e3] at h; cases h
        | stuck => rw [e3] at h; cases h
        | ok v st4 =>
          rw [e3] at h
          cases v with
          | box _ => cases h
          | d y =>
            simp only [R.bind_ok] at h
            cases e4 : compL tg c e sl xs st4 with
            | exn _ _ => rw [e4] at h; cases h
            | stuck => rw [e4] at h; cases h
            | ok zs st5 => rw [e4] at h; cases h; exact ⟨y, st4, zs, rfl, e4, rfl⟩
theorem compR_ok {own : List Nat} {tg : Tg} {c : TM} {e : EM} {sl : Slots} {xs : List PyData} {st : Store} {P : R Val → Prop} (hs : ¬ P .stuck) (h : P (compR own tg c e sl xs st)) : ∃ ys st2, compL tg c e (wipeS sl own) xs st = .ok ys st2 ∧ ys.length ≤ lineN ∧ P (.ok (.d (.list ys)) st2) := by
  unfold compR at h
  cases e1 : compL tg c e (wipeS sl own) xs st with
  | exn _ _ => rw [e1] at h; exact absurd h hs
  | stuck => rw [e1] at h; exact absurd h hs
  | ok ys st2 =>
    rw [e1] at h
    have h' : P (R.opt ((pLst ys).map .d) st2) := h
    unfold pLst at h'
    split at h'
    · rename_i hl
      exact ⟨ys, st2, rfl, hl, h'⟩
    · exact absurd h' hs
abbrev W0 : XK := fun _ _ _ => False
theorem comp_readG {own : List Nat} {t : Tg} {c : TM} {e : EM} {φ : Num} {sl : Slots} {st : Store} {σ : L2.St} {H : Hp} {Q : VK} {xs : List PyData} {J : It} {ys0 : List PyData} {st0 : Store} (hix : ∀ i ∈ t.ix, i ∈ own) (h0 : At X.K X.mg T φ sl st σ H) (hJ : ItR X T φ st H xs J)
    (hr : compL t c e (wipeS sl own) xs st = .ok ys0 st0) (hl : ys0.length ≤ lineN)
    (hp : ∀ D, H D = none → ¬ φ.av D → ∀ (φ1 : Num) (H1 : Hp) (vacc : List V), φ1.av D → ¬ Live φ1 st0 D → StR X.K X.mg T φ1 st0 H1 → Stp φ st H φ1 st0 H1 → H1 D = some (.lst vacc) → DRs X.K (Av φ1 st0) H1 ys0 vacc → Q (.ref D) H1) :
    ∀ D, H D = none → ∃ W' : Nat → Nat → Hp → Prop, (∃ n, W' 0 n (upd H D (.lst []))) ∧ ∀ i n H, W' i n H →
      (J.stop i H ∧ Q (.ref D) H) ∨ (J.go i H ∧ ∃ Nx : Hp → Prop, (∀ H', Nx H' → ∃ n', n' < n ∧ W' (i + 1) n' H') ∧ ∀ x H', J.yld i H x H' → tG X T W0 t x (wipe σ own) H' fun σ2 H2 => wipe σ2 own = wipe σ own ∧ tT X T W0 c σ2 H2 fun b H3 =>
        if b = true then tE X T W0 e σ2 H3 fun y H4 => ∃ acc, H4 D = some (.lst acc) ∧ acc.length < sizeLine ∧ Nx (upd H4 D (.lst (acc ++ [y]))) else Nx H3) := by
  intro D hD
  have g0 : Gr H (upd H D (.lst [])) := Gr.upd hD
  have dn : ¬ Live φ st D := not_live h0.s hD
  have npD : ¬ φ.av D := fun l => h0.s.avne l hD
  refine ⟨fun i n H' => n = xs.length - i ∧ i ≤ xs.length ∧ ∃ (φ' : Num) (st' : Store) (acc : List PyData) (vacc : List V) (ys : List PyData), φ'.av D ∧ StR X.K X.mg T φ' st' H' ∧ Stp φ st H φ' st' H' ∧ H' D = some (.lst vacc) ∧ DRs X.K (Av φ' st') H' acc vacc ∧
    compL t c e (wipeS sl own) (xs.drop i) st' = .ok ys st0 ∧ acc ++ ys = ys0, ⟨xs.length, rfl, Nat.zero_le _, φ.hide D, st, [], [], ys0, .inr rfl, h0.s.hide hD, .hide hD, upd_same, rfl, hr, rfl⟩, ?_⟩
  rintro i n H1 ⟨rfl, hi, φ1, st1, acc, vacc, ys, avD, r1, s1, e1, d1, c1, rfl⟩
  have nl : ¬ Live φ1 st1 D := fun l => (r1.av D avD).2 l.mem
  obtain ⟨go, stop⟩ := hJ i φ1 st1 H1 s1 r1
  by_cases hlt : i < xs.length
  · obtain ⟨g1, g2⟩ := go hlt
    rw [List.drop_eq_getElem_cons hlt] at c1
    obtain ⟨sl1, b, st3, k1, k2, k3⟩ := compL_ok c1
    refine .inr ⟨g1, fun H' => ∃ (φ' : Num) (st' : Store) (acc' : List PyData) (vacc' : List V) (ys' : List PyData), φ'.av D ∧ StR X.K X.mg T φ' st' H' ∧ Stp φ st H φ' st' H' ∧ H' D = some (.lst vacc') ∧ DRs X.K (Av φ' st') H' acc' vacc' ∧
      compL t c e (wipeS sl own) (xs.drop (i + 1)) st' = .ok ys' st0 ∧ acc' ++ ys' = acc ++ ys, fun H' q => ⟨xs.length - (i + 1), by omega, rfl, hlt, q⟩, fun u H' hy => ?_⟩
    obtain ⟨gr, d, q1, q2⟩ := g2 u H' hy
    rw [List.getElem?_eq_getElem hlt] at q1
    cases q1
    have r2 := r1.gr gr
    have s2 : Stp φ st H φ1 st1 H' := s1.trans gr.step
    have l2 : SlR X.K φ1 st1 H' (wipeS sl own) (L2.wipe σ own) := (h0.l.mon s2).wipe own
    refine ⟨φ1, wipeS sl own, st1, xs[i], sl1, ⟨r2, l2⟩, q2, k1, fun σ2 l3 ap => ⟨wipe_apart ap hix, φ1, sl1, st1, ⟨r2, l3⟩, ?_⟩⟩
    rw [k2]
    intro φ3 H3 s3 r3
    have stay : ∀ {φa φb : Num} {sa sb : Store} {Ha Hb : Hp} {v : List V}, Stp φa sa Ha φb sb Hb → Ha D = some (.lst v) → ¬ Live φa sa D → Hb D = some (.lst v) := fun s q n => by
      rcases s.keep D _ q n rfl with z | ⟨z, _⟩
      · exact z
      · cases z
    have e3 : H3 D = some (.lst vacc) := stay s3 (gr _ _ e1) nl
    have av3 : φ3.av D := s3.av.1 D avD
    have nl3 : ¬ Live φ3 st3 D := fun l => (r3.av D av3).2 l.mem
    have d3 : DRs X.K (Av φ3 st3) H3 acc vacc := DRs.mon ((gr.step (φ := φ1) (st := st1)).trans s3).mon _ _ d1
    rcases k3 with ⟨rfl, y, st4, zs, k4, k5, rfl⟩ | ⟨rfl, k5⟩
    · rw [if_pos rfl]
      refine ⟨φ3, sl1, st3, ⟨r3, l3.mon s3⟩, ?_⟩
      rw [k4]
      intro φ4 H4 w s4 r4 v4
      have e4 : H4 D = some (.lst vacc) := stay s4 e3 nl3
      have av4 : φ4.av D := s4.av.1 D av3
      have d4 : DRs X.K (Av φ4 st4) H4 acc vacc := DRs.mon s4.mon _ _ d3
      have hla : vacc.length < sizeLine := by
        rw [d3.length]
        rw [List.length_append, List.length_cons, lineN_eq] at hl
        omega
      refine ⟨vacc, e4, hla, φ4, st4, acc ++ [y], vacc ++ [w], zs, av4, r4.poke av4 e4, (s2.trans (s3.trans s4)).poke hD, upd_same, ?_, k5, by rw [List.append_assoc]; rfl⟩
      exact DRs.append (DRs.mon (mon_poke av4) _ _ d4) (.one (DR.mon (mon_poke av4) _ _ v4))
    · rw [if_neg (by decide)]
      exact ⟨φ3, st3, acc, vacc, ys, av3, r3, s2.trans s3, e3, d3, k5, rfl⟩
  · have he : xs.drop i = [] := List.drop_eq_nil_of_le (by omega)
    rw [he] at c1
    cases c1
    rw [List.append_nil] at hp
    exact .inl ⟨stop (by omega), hp D hD npD φ1 H1 vacc avD nl r1 s1 e1 d1⟩
theorem comp_read {own : List Nat} {t : Tg} {c : TM} {e : EM} {φ : Num} {sl : Slots} {st : Store} {σ : L2.St} {H : Hp} {Q : VK} {xs : List PyData} {J : It} (hix : ∀ i ∈ t.ix, i ∈ own) (h0 : At X.K X.mg T φ sl st σ H) (hJ : ItR X T φ st H xs J)
    (h : EPost X.K X.mg T W φ st H Q (compR own t c e sl xs st)) :
    ∀ D, H D = none → ∃ W' : Nat → Nat → Hp → Prop, (∃ n, W' 0 n (upd H D (.lst []))) ∧ ∀ i n H, W' i n H →
      (J.stop i H ∧ Q (.ref D) H) ∨ (J.go i H ∧ ∃ Nx : Hp → Prop, (∀ H', Nx H' → ∃ n', n' < n ∧ W' (i + 1) n' H') ∧ ∀ x H', J.yld i H x H' → tG X T W0 t x (wipe σ own) H' fun σ2 H2 => wipe σ2 own = wipe σ own ∧ tT X T W0 c σ2 H2 fun b H3 =>
        if b = true then tE X T W0 e σ2 H3 fun y H4 => ∃ acc, H4 D = some (.lst acc) ∧ acc.length < sizeLine ∧ Nx (upd H4 D (.lst (acc ++ [y]))) else Nx H3) := by
  obtain ⟨ys0, st0, hr, hl, hp⟩ := compR_ok (P := EPost X.K X.mg T W φ st H Q) (fun z => z) h
  refine comp_readG hix h0 hJ hr hl fun D hD npD φ1 H1 vacc avD nl r1 s1 e1 d1 => ?_
  have le : ∀ a, φ1.av a ∧ a ≠ D → φ1.av a := fun a q => q.1
  refine hp (φ1.bare D) H1 (.ref D) (s1.bare hD npD) (r1.less le) ⟨D, vacc, rfl, .inl ⟨.inl e1, ?_⟩, DRs.mon (mon_less le) _ _ d1⟩
  exact fun l => l.elim (fun l => nl l) fun l => l.2 rfl
end
end TL
end

section
set_option Elab.async false
set_option linter.all false
set_option maxRecDepth 100000
set_option maxHeartbeats 1000000
set_option autoImplicit false
namespace TL
open PySem L2 PyProof.Rows PySem.Spec
open Sem (wp)
section
variable {prog : Program} {w : World} {A : Around} {E : Value → Shared → Prop} {s : Shared}
end
section
variable {prog : Program} {w : World} {A : Around} {E : Value → Shared → Prop} {s : Shared}
end
end TL
end

section
set_option Elab.async false
set_option linter.all false
set_option maxRecDepth 100000
set_option autoImplicit false
namespace TL
open PySem L2
def DI.blk (D : DI) (scope : Scope) : DI := ⟨D.N, relS scope D.sc, scope.names.filterMap fun p => if scope.names.lookup p.1 = some .cell then some p.1 else none⟩
section
variable {D : DI} {k : Nat} {X : Cx} {T : List Tb} {W : XK}
theorem Cin.blk (c : Cin D k X) (s : Shared) (H : Hp) (scope : Scope) (cl : List (Str × Addr)) (C : Addr) (fp : List Addr) : Cin (D.blk scope) k (X.blk s H scope (compEnvC scope cl C X.env) fp) where
  N := c.N
  sc := by
    show relS scope X.env.scope = relS scope D.sc
    rw [c.sc]
  nd := c.nd
  room := c.room
  calm := c.calm
  fn := fun x hx => by
    obtain ⟨p, _, e⟩ := List.mem_filterMap.mp hx
    split at e
    · rename_i h
      cases e
      show (scope.names.lookup p.1 == some .cell) = true
      rw [h]
      exact beq_self_eq_true _
    · cases e
  po := PassesOwn.never
theorem takesW0 {X : Cx} : Takes X (fun c d _ H => W0 c d H) := fun _ _ x => by
  obtain ⟨_, _, _, _, _, _, _, _, _, _, _, _, _, _, _, _, z⟩ := x
  exact z.elim
theorem comp_tI {own : List Nat} {t : Tg} {it : IM} {c : TM} {e : EM} {σ : L2.St} {H : Hp} {Q : VK} (hix : ∀ i ∈ t.ix, i ∈ own) (h : tE X T W (mComp own t it c e) σ H Q) :
    tLc (tI X T W it) (tG X T W0 t) (tT X T W0 c) (tE X T W0 e) own σ H Q := by
  obtain ⟨φ, sl, st, h0, h⟩ := h
  refine ⟨φ, sl, st, h0, ?_⟩
  have h' : EPost X.K X.mg T W φ st H Q ((it sl st).bind fun xs st1 => compR own t c e sl xs st1) := h
  cases em : it sl st with
  | exn c st1 => rw [em] at h'; exact h'
  | stuck => rw [em] at h'; exact h'
  | ok xs st1 =>
    rw [em] at h'
    intro φ1 H1 J s1 r1 hJ
    exact comp_read hix ⟨r1, h0.l.mon s1⟩ hJ (EPost.shift s1 h')
theorem E_comp {own : List (Str × Nat)} {tg iter elt : Expr} {ifs : List Expr} {scope : Scope} {pos : Pos} {t : Tg} {it : IM} {c : TM} {m : EM} (ci : Cin D k X) (hok : blkC D.N D.sc scope own = true) (hix : ∀ i ∈ t.ix, i ∈ own.map (·.2)) (hi : I X T W tg iter it)
    (hg : ∀ (s : Shared) (H : Hp) (C : Addr) (cl : List (Str × Addr)) (fp : List Addr), Cin (D.blk scope) k (X.blk s H scope (compEnvC scope cl C X.env) fp) → G (X.blk s H scope (compEnvC scope cl C X.env) fp) T W0 tg t)
    (ht : ∀ (s : Shared) (H : Hp) (C : Addr) (cl : List (Str × Addr)) (fp : List Addr), Cin (D.blk scope) k (X.blk s H scope (compEnvC scope cl C X.env) fp) → Ets (X.blk s H scope (compEnvC scope cl C X.env) fp) T W0 ifs c)
    (he : ∀ (s : Shared) (H : Hp) (C : Addr) (cl : List (Str × Addr)) (fp : List Addr), Cin (D.blk scope) k (X.blk s H scope (compEnvC scope cl C X.env) fp) → E (X.blk s H scope (compEnvC scope cl C X.env) fp) T W0 elt m)
    (hs : ∀ x, foldedSetIterable iter X.env x = pure x := by intro _; rfl) : E X T W (.ListComp elt [⟨tg, iter, ifs, 0⟩] scope pos) (mComp (own.map (·.2)) t it c m) := by
  have ok : BlkOk X.N X.env.scope scope own := by rw [ci.N, ci.sc]; exact blkOk_by hok
  exact ⟨PE.imp (pe_lc (g := tG X T W0 t) (tt := tT X T W0 c) (te := tE X T W0 m) ci.calm ci.nd hi.run ok (fun s H C cl fp => (hg s H C cl fp (ci.blk s H scope cl C fp)).run) (fun s H C cl fp => (ht s H C cl fp (ci.blk s H scope cl C fp)).run) (fun s H C cl fp => (he s H C cl fp (ci.blk s H scope cl C fp)).run) hs) fun _ _ _ q => comp_tI hix q⟩
theorem itr_range1 {φ1 : Num} {st1 : Store} {H1 : Hp} {lo : Int} {n : Nat} : ItR X T φ1 st1 H1 (rangeN lo 1 n) (Itr lo n) := by
  intro i φ st H s r
  have hl : (rangeN lo 1 n).length = n := by simp [rangeN]
  refine ⟨fun hi => ⟨by rw [hl] at hi; exact hi, fun u H' q => ?_⟩, fun hi => by rw [hl] at hi; exact hi⟩
  obtain ⟨rfl, rfl⟩ := q
  rw [hl] at hi
  refine ⟨Gr.refl _, .int (lo + i), ?_, rfl⟩
  unfold rangeN
  rw [List.getElem?_map, List.getElem?_range hi]
  show some (PyData.int (lo + (i : Int) * 1)) = _
  rw [Int.mul_one]
theorem args_I {f : List PyData → Option (List PyData)} {m : AM} {σ : L2.St} {H : Hp} {Q : It → Hp → Prop} (h : tI X T W (iPn f m) σ H Q) :
    tA X T W m σ H fun us H1 => ∃ φ1 st1 as xs, StR X.K X.mg T φ1 st1 H1 ∧ DRs X.K (Av φ1 st1) H1 as us ∧ f as = some xs ∧ ∀ φ2 H2 J, Stp φ1 st1 H1 φ2 st1 H2 → StR X.K X.mg T φ2 st1 H2 → ItR X T φ2 st1 H2 xs J → Q J H2 := by
  obtain ⟨φ, sl, st, h0, h⟩ := h
  refine (tA_bindI h0 h).mono fun us H1 ⟨φ1, st1, vs, a1, v1, s1, p1⟩ => ?_
  cases ex : (datas vs).bind f with
  | none => simp only [ex, R.opt_none] at p1; exact p1.elim
  | some xs =>
    obtain ⟨as, e1, e2⟩ := Option.bind_eq_some_iff.mp ex
    simp only [ex, R.opt_some] at p1
    exact ⟨φ1, st1, as, xs, a1.s, datas_rel v1 e1, e2, p1⟩
theorem small_iff {i : Int} (h : smallI i = true) : -(2 ^ 62) ≤ i ∧ i < 2 ^ 62 := by
  unfold smallI at h
  simpa using h
theorem pRange1_some {as xs : List PyData} (h : pRange1 as = some xs) : ∃ j, as = [.int j] ∧ smallI j = true ∧ xs = rangeN 0 1 j.toNat := by
  unfold pRange1 at h
  split at h
  · rename_i j
    by_cases hs : smallI j = true
    · rw [if_pos hs] at h
      exact ⟨j, rfl, hs, (Option.some.inj h).symm⟩
    · rw [if_neg hs] at h
      cases h
  · cases h
theorem drs_ints1 {K : PySem.W.Frag} {O : Addr → Prop} {H : Hp} {i : Int} {us : List V} (d : DRs K O H [.int i] us) : us = [.int i] := by
  obtain ⟨u, r, e, d, dr⟩ := d
  have h1 : u = V.int i := d
  have h2 : r = [] := dr
  rw [e, h1, h2]
theorem I_range1 {tg a : Expr} {p pos : Pos} {m : AM} (c : Cin D k X) (hg : D.g "range" = true) (hm : X.mg "range" = none) (h : Ea X T W [a] m) (hs : starEach [a] X.env = [(false, eval a X.env)] := by rfl) : I X T W tg (.Call (.Name "range" p) [a] [] pos) (iPn pRange1 m) := by
  refine ⟨PI.imp (pi_range1 (c.gl hg).1 hm h.run hs) fun σ H Q q => ?_⟩
  refine (args_I q).mono fun us H1 ⟨φ1, st1, as, xs, r1, d1, e1, go⟩ => ?_
  obtain ⟨j, rfl, hs, rfl⟩ := pRange1_some e1
  obtain ⟨b1, b2⟩ := small_iff hs
  exact ⟨j, drs_ints1 d1, b1, b2, go φ1 H1 _ .refl r1 itr_range1⟩
end
end TL
end

section
set_option Elab.async false
set_option linter.all false
set_option maxRecDepth 100000
set_option autoImplicit false
namespace TL
open PySem L2
section
variable {K : PySem.W.Frag} {mg : Str → Option Value} {T : List Tb} {φ φ1 : Num} {st st1 : Store} {H H1 : Hp} {Q : VK} {W : XK}
def Num.cut (φ : Num) (k : Nat) : Num := { φ with ids := φ.ids.take k }
theorem av_cut {k : Nat} {a : Addr} (h : Av (φ.cut k) (st.take k) a) : Av φ st a := by
  rcases h with ⟨n, c, e1, e2, e3⟩ | h
  · have hn : n < k := by
      have := (List.getElem?_eq_some_iff.mp e1).1
      rw [List.length_take] at this
      omega
    rw [List.getElem?_take_of_lt hn] at e1
    have e3 : (φ.ids.take k)[n]? = some a := e3
    rw [List.getElem?_take_of_lt hn] at e3
    exact .inl ⟨n, c, e1, e2, e3⟩
  · exact .inr h
theorem mon_cut {k : Nat} : Mon (Av φ st) H (Av (φ.cut k) (st.take k)) H := ⟨fun a u e _ _ => .inl e, fun a _ n l => n (av_cut l)⟩
theorem VR.cut {k : Nat} {v : Val} {u : V} (hb : boxBelow k v = true) (h : VR K φ st H v u) : VR K (φ.cut k) (st.take k) H v u := by
  cases v with
  | d x => exact DR.mon mon_cut x u h
  | box n =>
    obtain ⟨a, e, r⟩ := h
    have hn : n < k := of_decide_eq_true hb
    exact ⟨a, by show (φ.ids.take k)[n]? = some a; rw [List.getElem?_take_of_lt hn]; exact e, r⟩
theorem FR.cut {k : Nat} : ∀ {fs : List (Str × Val)} {us : List (Str × V)}, (fs.all fun p => boxBelow k p.2) = true → FR K φ st H fs us → FR K (φ.cut k) (st.take k) H fs us
  | [], _, _, h => h
  | (f, v) :: r, _, hb, ⟨u, t, e, h1, h2⟩ => by
    rw [List.all_cons, Bool.and_eq_true] at hb
    exact ⟨u, t, e, VR.cut hb.1 h1, FR.cut hb.2 h2⟩
theorem BR.cut {k : Nat} : ∀ {ns : List Nat} {vs : List V}, (ns.all fun n => decide (n < k)) = true → BR φ ns vs → BR (φ.cut k) ns vs
  | [], _, _, h => h
  | n :: ns, _, hb, ⟨a, r, e, h1, h2⟩ => by
    simp only [List.all_cons, Bool.and_eq_true, decide_eq_true_eq] at hb
    exact ⟨a, r, e, by
      show (φ.ids.take k)[n]? = some a
      rw [List.getElem?_take_of_lt hb.1]; exact h1, BR.cut hb.2 h2⟩
theorem StR.cut {k : Nat} (s : StR K mg T φ st H) (hb : (st.take k).all (cellBelow k) = true) : StR K mg T (φ.cut k) (st.take k) H := by
  refine ⟨?_, s.nd.sublist (List.take_sublist _ _), fun a h => ⟨(s.av a h).1, fun z => (s.av a h).2 (List.mem_of_mem_take z)⟩, fun n c a e1 e2 => ?_, s.tabs⟩
  · show (φ.ids.take k).length = (st.take k).length
    rw [List.length_take, List.length_take, s.len]
  · have hn : n < k := by
      have := (List.getElem?_eq_some_iff.mp e1).1
      rw [List.length_take] at this
      omega
    have hm := List.all_eq_true.mp hb c (List.mem_of_getElem? e1)
    rw [List.getElem?_take_of_lt hn] at e1
    have e2 : (φ.ids.take k)[n]? = some a := e2
    rw [List.getElem?_take_of_lt hn] at e2
    have := s.cell n c a e1 e2
    cases c with
    | lst xs => obtain ⟨vs, h1, h2⟩ := this; exact ⟨vs, h1, DRs.mon mon_cut _ _ h2⟩
    | dic kvs => obtain ⟨o, vs, h1, h2, h3⟩ := this; exact ⟨o, vs, h1, h2, DRs.mon mon_cut _ _ h3⟩
    | ldic kvs => obtain ⟨ob, o, vs, h1, h2, h3⟩ := this; exact ⟨ob, o, vs, h1, h2, DRs.mon mon_cut _ _ h3⟩
    | obj c fs => obtain ⟨C, dx, us, h0, h1, h2⟩ := this; exact ⟨C, dx, us, h0, h1, FR.cut hm h2⟩
    | lbs ns => obtain ⟨vs, h1, h2⟩ := this; exact ⟨vs, h1, BR.cut hm h2⟩
    | dbs ks ns => obtain ⟨o, vs, h1, h2, h3⟩ := this; exact ⟨o, vs, h1, h2, BR.cut hm h3⟩
    | dead => exact this
theorem Stp.cut {k : Nat} (s : Stp φ st H φ1 st1 H1) (hk : φ.ids.length ≤ k) : Stp φ st H (φ1.cut k) (st1.take k) H1 := by
  refine ⟨?_, s.av, s.keep, fun a l => ?_, s.sm, s.frz⟩
  · obtain ⟨t, e⟩ := s.pre
    show φ.ids <+: φ1.ids.take k
    rw [← e, List.take_append, List.take_of_length_le hk]
    exact List.prefix_append _ _
  · obtain ⟨n, c, e1, e2, e3⟩ := l
    have hn : n < k := by
      have := (List.getElem?_eq_some_iff.mp e1).1
      rw [List.length_take] at this
      omega
    rw [List.getElem?_take_of_lt hn] at e1
    have e3 : (φ1.ids.take k)[n]? = some a := e3
    rw [List.getElem?_take_of_lt hn] at e3
    exact s.live a ⟨n, c, e1, e2, e3⟩
theorem VR.frozen {k : Nat} {v : Val} {u : V} (s : StR K mg T φ st H) (hb : boxBelow k (frozen k v st) = true) (h : VR K φ st H v u) : VR K (φ.cut k) (st.take k) H (frozen k v st) u := by
  cases v with
  | d x => exact VR.cut rfl h
  | box n =>
    unfold TL.frozen at hb ⊢
    by_cases hn : n < k
    · simp only [if_pos hn] at hb ⊢
      exact VR.cut hb h
    · simp only [if_neg hn] at hb ⊢
      obtain ⟨a, e, rfl⟩ := h
      have na : ¬ Av (φ.cut k) (st.take k) a := by
        rintro (⟨m, c, e1, e2, e3⟩ | l)
        · have hm : m < k := by
            have := (List.getElem?_eq_some_iff.mp e1).1
            rw [List.length_take] at this
            omega
          have e3 : (φ.ids.take k)[m]? = some a := e3
          rw [List.getElem?_take_of_lt hm] at e3
          obtain ⟨l1, q1⟩ := List.getElem?_eq_some_iff.mp e3
          obtain ⟨l2, q2⟩ := List.getElem?_eq_some_iff.mp e
          have : m = n := (List.getElem_inj s.nd).mp (q1.trans q2.symm)
          omega
        · exact (s.av a l).2 (List.mem_of_getElem? e)
      cases ec : st[n]? with
      | none => simp only [ec] at hb ⊢; exact absurd (of_decide_eq_true hb) hn
      | some c =>
        simp only [ec] at hb ⊢
        have hc := s.cell n c a ec e
        cases c with
        | lst xs => obtain ⟨vs, h1, h2⟩ := hc; exact ⟨a, vs, rfl, .inl ⟨.inl h1, na⟩, DRs.mon mon_cut _ _ h2⟩
        | dic kvs => obtain ⟨o, vs, h1, h2, h3⟩ := hc; exact ⟨a, o, vs, rfl, ⟨.inl h1, na⟩, h2, DRv.drs.mpr (DRs.mon mon_cut _ _ h3)⟩
        | ldic kvs => exact absurd (of_decide_eq_true hb) hn
        | obj c fs => exact absurd (of_decide_eq_true hb) hn
        | lbs ns => exact absurd (of_decide_eq_true hb) hn
        | dbs ks ns => exact absurd (of_decide_eq_true hb) hn
        | dead => exact absurd (of_decide_eq_true hb) hn
theorem leave_post {v : Val} (hk : φ.ids.length = st.length) (h : EPost K mg T W φ st H Q (leave st.length v st1)) : EPost K mg T W φ st H Q (.ok v st1) := by
  unfold leave at h
  split at h
  · exact h
  · split at h
    · rename_i hb
      rw [Bool.and_eq_true] at hb
      exact fun φ' H' u s r rv => h (φ'.cut st.length) H' u (s.cut (by rw [hk]; exact Nat.le_refl _)) (r.cut hb.2) (rv.frozen r hb.1)
    · exact h
theorem leaveX_post {c : Str} (hk : φ.ids.length = st.length) (h : EPost K mg T W φ st H Q (leaveX st.length c st1)) : EPost K mg T W φ st H Q (.exn c st1) := by
  unfold leaveX at h
  split at h
  · exact h
  · split at h
    · rename_i hb
      exact fun φ' H' C s r hc => h (φ'.cut st.length) H' C (s.cut (by rw [hk]; exact Nat.le_refl _)) (r.cut hb) hc
    · exact h
theorem left_post {r : R Val} (hk : φ.ids.length = st.length) (h : EPost K mg T W φ st H Q (left st.length r)) : EPost K mg T W φ st H Q r := by
  cases r with
  | ok v st1 => exact leave_post hk h
  | exn c st1 => exact leaveX_post hk h
  | stuck => exact h
end
theorem start_rel {K : PySem.W.Frag} {φ : Num} {st : Store} {H : Hp} {vs : List Val} {us : List V} {N : List Str} (h : Paired (VR K φ st H) vs us) : SlR K φ st H (vs.map some ++ List.replicate (N.length - vs.length) none) (L2.start N us) := by
  have hl := paired_len h
  refine ⟨by simp [L2.start, hl], fun i v e => ?_⟩
  by_cases hi : i < vs.length
  · rw [List.getElem?_append_left (by simpa using hi), List.getElem?_map] at e
    have hu : i < us.length := by rw [← hl]; exact hi
    have key : ∀ {vs : List Val} {us : List V} {i : Nat} {v : Val}, Paired (VR K φ st H) vs us → vs[i]? = some v → ∃ u, us[i]? = some u ∧ VR K φ st H v u := by
      intro vs us i v hp
      induction hp generalizing i with
      | nil => intro e; simp at e
      | cons r t ih =>
        cases i with
        | zero => intro e; simp at e; subst e; exact ⟨_, rfl, r⟩
        | succ i => intro e; simp at e ⊢; exact ih e
    cases ev : vs[i]? with
    | none => rw [ev] at e; cases e
    | some w =>
      rw [ev] at e
      cases e
      obtain ⟨u, e1, e2⟩ := key h ev
      refine ⟨u, ?_, e2⟩
      unfold L2.start
      rw [List.getElem?_append_left (by simpa using hu), List.getElem?_map, e1]
      rfl
  · rw [List.getElem?_append_right (by simpa using Nat.le_of_not_lt hi), List.getElem?_replicate] at e
    split at e <;> cases e
end TL
end

section
set_option Elab.async false
set_option linter.all false
set_option maxRecDepth 100000
set_option maxHeartbeats 1000000
set_option autoImplicit false
namespace TL
open PySem L2
structure Ex0 (H H' : Hp) : Prop where
  keep : ∀ a o, H a = some o → isTbl o = false → H' a = some o
  sm : ∀ a, H a ≠ none → H' a ≠ none
section
variable {K : PySem.W.Frag} {mg : Str → Option Value} {T : List Tb} {φ : Num} {st : Store} {H H' : Hp}
theorem Ex0.stp (e : Ex0 H H') : Stp φ st H φ st H' :=
  ⟨List.prefix_rfl, ⟨fun _ h => h, fun _ h => .inl h⟩, fun a u h _ t => .inl (e.keep a u h t), fun a l => .inl l, e.sm, fun a ob u h => e.keep a _ h rfl⟩
theorem Ex0.str (e : Ex0 H H') (s : StR K mg T φ st H) (ht : ∀ t ∈ T, TabN H' t) : StR K mg T φ st H' := by
  refine ⟨s.len, s.nd, fun a h => ⟨let ⟨o, q, w⟩ := (s.av a h).1; ⟨o, e.keep _ _ q (avO_tbl w), w⟩, (s.av a h).2⟩, fun n c a e1 e2 => ?_, ht⟩
  have m := (e.stp (φ := φ) (st := st)).mon
  have := s.cell n c a e1 e2
  cases c with
  | lst xs => obtain ⟨vs, h1, h2⟩ := this; exact ⟨vs, e.keep _ _ h1 rfl, DRs.mon m _ _ h2⟩
  | dic kvs => obtain ⟨o, vs, h1, h2, h3⟩ := this; exact ⟨o, vs, e.keep _ _ h1 (dic_not h2.dic).1, h2, DRs.mon m _ _ h3⟩
  | ldic kvs => obtain ⟨ob, o, vs, h1, h2, h3⟩ := this; exact ⟨ob, o, vs, e.keep _ _ h1 rfl, h2, DRs.mon m _ _ h3⟩
  | obj c fs => obtain ⟨C, dx, us, h0, h1, h2⟩ := this; exact ⟨C, dx, us, h0, e.keep _ _ h1 rfl, FR.mon e.stp h2⟩
  | lbs ns => obtain ⟨vs, h1, h2⟩ := this; exact ⟨vs, e.keep _ _ h1 rfl, h2⟩
  | dbs ks ns => obtain ⟨o, vs, h1, h2, h3⟩ := this; exact ⟨o, vs, e.keep _ _ h1 (dic_not h2.dic).1, h2, h3⟩
  | dead => exact e.sm a this
end
theorem among_app2 {pos p' : Pos} {c cv : Value} (l : List Value) (h : TriplesOk l) (hc : codeAmong p' (l ++ [rawInt pos.line, rawInt pos.col, c]) = some cv) : codeAmong p' l = some cv ∨ (cv = c ∧ p'.line = pos.line ∧ p'.col = pos.col) := by
  fun_induction TriplesOk l with
  | case1 =>
    simp only [List.nil_append, rawInt, codeAmong] at hc
    split at hc
    · rename_i q
      rw [Bool.and_eq_true] at q
      have q1 := eq_of_beq q.1
      have q2 := eq_of_beq q.2
      refine .inr ⟨(Option.some.inj hc).symm, ?_, ?_⟩
      · first | exact q1.symm | exact (Int.ofNat.inj q1).symm | omega
      · first | exact q2.symm | exact (Int.ofNat.inj q2).symm | omega
    · cases hc
  | case2 a t b u x rest ih =>
    simp only [List.cons_append, codeAmong] at hc ⊢
    split at hc
    · rename_i q
      rw [if_pos q]
      exact .inl hc
    · rename_i q
      rw [if_neg q]
      exact ih h hc
  | case3 => exact h.elim
section
variable {X : Cx} {T : List Tb} {pins : List (Addr × Obj)} {σ : L2.St} {H : Hp} {s : Shared}
theorem mk_lam {c : Addr} {t : Tb} {params : Arguments} {body : Expr} {sc : Scope} {pos : Pos} {Er : Value → Shared → Prop} {Q : Value → Shared → Prop} (J : Inv X pins σ H s) (B : LamX.TabB X.base X.mg c t.P) (hc : X.env.code = .ref c) (htT : t ∈ T) (hone : ∀ t' ∈ T, t'.P = t.P → t' = t)
    (hnm : t.nm pos.line pos.col = some (X.env.qual ++ "<lambda>")) (hall : ∀ t' ∈ T, TabN H t') (hd : defaultsOf params X.env = ([], [])) (hf : ∀ y ∈ sc.names, y.2 = .free → ∃ a, X.env.cells.lookup y.1 = some a)
    (go : ∀ (f cc : Addr) (pm ctv : Value) (H1 : Hp) (s1 : Shared), Inv X pins σ H1 s1 → Ex0 H H1 → (∀ t' ∈ T, TabN H1 t') →
      s1.heap.get? f = some (PySem.W.kla_obj "<lambda>" (X.env.qual ++ "<lambda>") params body sc (cloFrom X.env.cells sc.names []) pm cc ctv) → H1 f = none → f ∉ frs X.stack → (∀ p ∈ X.pn ++ pins, p.1 ≠ f) → f ≠ X.env.locals → s.heap.objs.size ≤ f → H1 cc = some (LamX.CodeO cc (X.env.qual ++ "<lambda>")) → Q (.ref f) s1) :
    wpAny (model X.prog X.w) X.A (eval (.Lambda params body sc pos) X.env) Q Er s := by
  obtain ⟨ps, tab, trip, nms⟩ := hall t htT
  have tabAt : s.heap.get? t.P = some { cls := .none, data := .fields ps } := J.hok t.P _ tab
  have bAt : s.heap.BuiltinsAt X.mg t.P := B.bm.keeps J.bk
  have outside : ∀ g, s.heap.objs.size ≤ g → g ∉ frs X.stack := fun g hg z => (List.mem_cons.mp (J.stkSub _ z)).elim (fun e => by
    have := J.lt
    rw [← e] at this
    exact Nat.lt_irrefl _ (Nat.lt_of_lt_of_le this hg)) (J.nofs hg)
  have offpin : ∀ g, s.heap.objs.size ≤ g → ∀ p ∈ X.pn ++ pins, p.1 ≠ g := fun g hg p hp z => by
    have h1 := Heap.lt_size (J.pin p hp).1
    rw [z] at h1
    exact Nat.lt_irrefl _ (Nat.lt_of_lt_of_le h1 hg)
  have offloc : ∀ g, s.heap.objs.size ≤ g → g ≠ X.env.locals := fun g hg z => by
    have h1 := J.lt
    rw [← z] at h1
    exact Nat.lt_irrefl _ (Nat.lt_of_lt_of_le h1 hg)
  refine PySem.W.kla_eval hd ?_
  cases found : codeAmong pos ps.toList with
  | some cv =>
    obtain ⟨cc, rfl, named⟩ := nms pos cv _ found hnm
    refine PySem.W.kla_makeFunctionHit (mg := X.mg) (c := c) (P := t.P) (ps := ps) (closure_ok hf) J.ok.glob (J.mod.glob.keeps J.bk) hc (B.code.keeps J.bk) tabAt trip found bAt fun ctv h1 tk kept grown => ?_
    refine go h1.objs.size cc ((X.mg "__name__").getD .none) ctv H _ (J.kept (t' := tk) fun b o e => Heap.get?_push_of_some _ (kept b o e)) ⟨fun _ _ e _ => e, fun _ e => e⟩ hall (Heap.get?_push_size _ rfl) (J.hok.fresh grown) (outside _ grown) (offpin _ grown) (offloc _ grown) grown named
  | none =>
    refine PySem.W.kla_makeFunction (mg := X.mg) (c := c) (P := t.P) (ps := ps) (closure_ok hf) J.ok.glob (J.mod.glob.keeps J.bk) hc (B.code.keeps J.bk) tabAt trip found B.gP bAt fun cc ctv h1 tk kept ge lt rec tab1 => ?_
    obtain ⟨c2, oc, vs, tt, eq, gets, dat, nm⟩ := rec
    cases eq
    have big : s.heap.objs.size ≤ h1.objs.size := Nat.le_trans ge (Nat.le_of_lt lt)
    have freshC : H cc = none := J.hok.fresh ge
    have neTC : t.P ≠ cc := ne_of_none tab freshC
    have J1 := LamX.inv_table (t' := tk) (more := #[rawInt pos.line, rawInt pos.col, .ref cc]) (h' := h1.push (PySem.W.kla_obj "<lambda>" (X.env.qual ++ "<lambda>") params body sc (cloFrom X.env.cells sc.names []) ((X.mg "__name__").getD .none) cc ctv)) J tab
      (fun b o hb e => Heap.get?_push_of_some _ (kept b o hb e)) (Heap.get?_push_of_some _ tab1) ge ⟨oc, vs, tt, Heap.get?_push_of_some _ gets, dat, nm⟩
    have ex : Ex0 H (upd (upd H t.P (.tbl (ps ++ #[rawInt pos.line, rawInt pos.col, .ref cc]))) cc (LamX.CodeO cc (X.env.qual ++ "<lambda>"))) := by
      refine ⟨fun a o e nt => ?_, fun a e => ?_⟩
      · have n1 : a ≠ cc := ne_of_none e freshC
        have n2 : a ≠ t.P := fun z => by rw [z, tab] at e; cases e; cases nt
        rw [upd_ne n1, upd_ne n2]
        exact e
      · by_cases h1 : a = cc
        · rw [h1, upd_same]; exact fun z => nomatch z
        · rw [upd_ne h1]
          by_cases h2 : a = t.P
          · rw [h2, upd_same]; exact fun z => nomatch z
          · rw [upd_ne h2]; exact e
    have freshF : upd (upd H t.P (.tbl (ps ++ #[rawInt pos.line, rawInt pos.col, .ref cc]))) cc (LamX.CodeO cc (X.env.qual ++ "<lambda>")) h1.objs.size = none := by
      have n1 : h1.objs.size ≠ cc := Nat.ne_of_gt lt
      have n2 : h1.objs.size ≠ t.P := Nat.ne_of_gt (Nat.lt_of_lt_of_le (Heap.lt_size tabAt) big)
      rw [upd_ne n1, upd_ne n2]
      exact J.hok.fresh big
    refine go h1.objs.size cc ((X.mg "__name__").getD .none) ctv _ _ J1 ex (fun t' ht' => ?_) (Heap.get?_push_size _ rfl) freshF (outside _ big) (offpin _ big) (offloc _ big) big upd_same
    by_cases hp : t'.P = t.P
    · rw [hone t' ht' hp]
      have eL : (ps ++ #[rawInt pos.line, rawInt pos.col, .ref cc]).toList = ps.toList ++ [rawInt pos.line, rawInt pos.col, .ref cc] := by simp
      refine ⟨_, by rw [upd_ne neTC, upd_same], by rw [eL]; exact PySem.TriplesOk_snoc _ _ _ _ trip, fun pos' cv q e1 e2 => ?_⟩
      rw [eL] at e1
      rcases among_app2 _ trip e1 with w | ⟨w, z1, z2⟩
      · obtain ⟨c0, r1, r2⟩ := nms pos' cv q w e2
        exact ⟨c0, r1, ex.keep _ _ r2 rfl⟩
      · rw [z1, z2, hnm] at e2
        cases e2
        exact ⟨cc, w, upd_same⟩
    · obtain ⟨ps', a1, a2, a3⟩ := hall t' ht'
      refine ⟨ps', by rw [upd_ne (ne_of_none a1 freshC), upd_ne hp]; exact a1, a2, fun pos' cv q e1 e2 => ?_⟩
      obtain ⟨c0, r1, r2⟩ := a3 pos' cv q e1 e2
      exact ⟨c0, r1, ex.keep _ _ r2 rfl⟩
end
end TL
end

section
set_option Elab.async false
set_option linter.all false
set_option maxRecDepth 100000
set_option maxHeartbeats 1000000
set_option autoImplicit false
namespace TL
open PySem L2
inductive Clauses : List ExceptHandler → List (Str × Str) → Prop
  | nil : Clauses [] []
  | cons {e ret : Str} {j : Nat} {p4 p5 p6 p7 : Pos} {hs : List ExceptHandler} {tbl : List (Str × Str)} : Clauses hs tbl → Clauses (.ExceptHandler (some (.Name e p4)) none [.Return (some (.Constant (.str ret) j p5)) p6] p7 :: hs) ((e, ret) :: tbl)
structure ToldOk (K : PySem.W.Frag) (mg : Str → Option Value) (x : Str) (tbl : List (Str × Str)) : Prop where
  at_ : ∃ (g : Addr) (pg : Arguments) (sg : Scope) (dV kV doc pm cdv ct oc : Value) (an od : Option Addr) (osl : Array (Option Value)) (a : Str) (p1 p2 p3 p8 : Pos) (h0 : ExceptHandler) (hs : List ExceptHandler),
    mg x = some (.ref g) ∧ PySem.W.keepIn K (.ref g) = true ∧ K.lookup g = some ⟨oc, od, .func (PySem.W.fnOf x x pg [.Try [.Return (some (.Call (.Name a p1) [] [] p2)) p3] (h0 :: hs) [] [] p8] sg dV kV doc pm an cdv ct), osl⟩ ∧ PySem.W.codeIn K cdv x = true ∧
    L2.Binds K (PySem.W.fnOf x x pg [.Try [.Return (some (.Call (.Name a p1) [] [] p2)) p3] (h0 :: hs) [] [] p8] sg dV kV doc pm an cdv ct) [a] [] ∧ FnScope [a] [a] sg ∧ Vis sg a ∧ (a == ("__debug__" : Str)) = false ∧ (a == ("__classdict__" : Str)) = false ∧
    Clauses (h0 :: hs) tbl ∧ ∀ e ∈ tbl.map (·.1), sg.names.lookup e = some .globalImplicit ∧ (e == ("__debug__" : Str)) = false ∧ ∃ CS, mg e = some (.ref CS)
  exm : ∀ c w C, tbl.lookup c = some w → mg c = some (.ref C) → ∀ e ∈ tbl.map (·.1), ∀ CS, mg e = some (.ref CS) → PySem.W.exmOne K (.ref C) (.ref CS) = some (decide (c = e))
structure Home (X : Cx) (T : List Tb) (t : Tb) : Prop where
  at_ : ∃ c, LamX.TabB X.base X.mg c t.P ∧ X.env.code = .ref c
  mem : t ∈ T
  one : ∀ t' ∈ T, t'.P = t.P → t' = t
section
variable {D : DI} {k : Nat} {X : Cx} {T : List Tb} {W : XK}
end
end TL
end

section
set_option Elab.async false
set_option linter.all false
set_option maxRecDepth 100000
set_option maxHeartbeats 1000000
set_option autoImplicit false
namespace TL
open PySem L2
mutual
def nod : PyData → Bool
  | .list xs => nods xs
  | .tuple xs => nods xs
  | .dict _ => false
  | _ => true
def nods : List PyData → Bool
  | [] => true
  | x :: xs => nod x && nods xs
end
mutual
theorem nod_lay : ∀ d : PyData, d.canLay0 = true → nod d = true
  | .none, _ => by unfold nod; rfl
  | .bool _, _ => by unfold nod; rfl
  | .int _, _ => by unfold nod; rfl
  | .str _, _ => by unfold nod; rfl
  | .list xs, h => by unfold nod; unfold PyData.canLay0 at h; exact nods_lay xs h
  | .tuple xs, h => by unfold nod; unfold PyData.canLay0 at h; exact nods_lay xs h
  | .dict _, h => by unfold PyData.canLay0 at h; cases h
theorem nods_lay : ∀ ds : List PyData, PyData.canLayAll0 ds = true → nods ds = true
  | [], _ => by unfold nods; rfl
  | d :: ds, h => by
    unfold nods
    unfold PyData.canLayAll0 at h
    rw [Bool.and_eq_true] at h
    rw [nod_lay d h.1, nods_lay ds h.2]; rfl
end
theorem nod_shaped {d : PyData} (h : SeqAt.shaped d = true) : nod d = true := nod_lay d (SeqAt.canLay_of_shaped h)
section
variable {X : Cx} {T : List Tb} {φ : Num} {st : Store} {H : Hp} {σ : L2.St} {pins : List (Addr × Obj)} {s : Shared}
mutual
theorem DR.reads {O : Addr → Prop} (I : Inv X pins σ H s) : ∀ (d : PyData) (v : V) (u : Value), nod d = true → DR X.K O H d v → RelV v u → ∃ as, Reads s.heap u d as
  | .none, v, u, _, h, r => by
    unfold DR at h; subst h
    cases r
    exact ⟨_, Reads.none⟩
  | .bool b, v, u, _, h, r => by
    unfold DR at h; subst h
    cases r
    exact ⟨_, Reads.bool b⟩
  | .int i, v, u, _, h, r => by
    unfold DR at h; subst h
    obtain ⟨t, rfl⟩ := r
    exact ⟨_, Reads.int i t⟩
  | .str x, v, u, _, h, r => by
    unfold DR at h; subst h
    obtain ⟨t, rfl⟩ := r
    exact ⟨_, Reads.str x t⟩
  | .list ds, v, u, n, h, r => by
    unfold DR at h
    obtain ⟨a, vs, rfl, hl, hd⟩ := h
    cases r
    obtain ⟨its, rv, ⟨o, n', ho, hc, _, hdd⟩, _⟩ := I.list hl.sq
    unfold nod at n
    obtain ⟨as, hr⟩ := DRs.reads I ds _ its n hd rv
    exact ⟨_, Reads.list ho hc hdd hr⟩
  | .tuple ds, v, u, n, h, r => by
    unfold DR at h
    obtain ⟨a, vs, rfl, hl, hd⟩ := h
    cases r
    obtain ⟨its, rv, ⟨o, ho, hc, n', hdd⟩, _⟩ := I.tuple hl.sq
    unfold nod at n
    obtain ⟨as, hr⟩ := DRs.reads I ds _ its n hd rv
    exact ⟨_, Reads.tuple ho hc hdd hr⟩
  | .dict _, _, _, n, _, _ => by unfold nod at n; cases n
theorem DRs.reads {O : Addr → Prop} (I : Inv X pins σ H s) : ∀ (ds : List PyData) (vs : List V) (us : List Value), nods ds = true → DRs X.K O H ds vs → Vals vs us → ∃ as, ReadsAll s.heap us ds as
  | [], vs, us, _, h, r => by
    unfold DRs at h; subst h
    cases r
    exact ⟨_, ReadsAll.nil⟩
  | d :: ds, vs, us, n, h, r => by
    unfold DRs at h
    obtain ⟨v, rr, rfl, h1, h2⟩ := h
    unfold nods at n
    rw [Bool.and_eq_true] at n
    cases r with
    | cons r1 r2 =>
      obtain ⟨as, q1⟩ := DR.reads I d _ _ n.1 h1 r1
      obtain ⟨bs, q2⟩ := DRs.reads I ds _ _ n.2 h2 r2
      exact ⟨_, ReadsAll.cons q1 q2⟩
end
theorem DR.d_none {K : PySem.W.Frag} {O : Addr → Prop} {v : V} (h : DR K O H .none v) : v = .non := by unfold DR at h; exact h
theorem DR.d_int {K : PySem.W.Frag} {O : Addr → Prop} {v : V} {i : Int} (h : DR K O H (.int i) v) : v = .int i := by unfold DR at h; exact h
theorem DR.d_bool {K : PySem.W.Frag} {O : Addr → Prop} {v : V} {i : Bool} (h : DR K O H (.bool i) v) : v = .bl i := by unfold DR at h; exact h
theorem DR.d_str {K : PySem.W.Frag} {O : Addr → Prop} {v : V} {i : Str} (h : DR K O H (.str i) v) : v = .str i := by unfold DR at h; exact h
theorem DR.d_list {K : PySem.W.Frag} {O : Addr → Prop} {v : V} {xs : List PyData} (h : DR K O H (.list xs) v) : ∃ a vs, v = .ref a ∧ ListAt K O H a vs ∧ DRs K O H xs vs := by unfold DR at h; exact h
theorem DR.d_tuple {K : PySem.W.Frag} {O : Addr → Prop} {v : V} {xs : List PyData} (h : DR K O H (.tuple xs) v) : ∃ a vs, v = .ref a ∧ TupAt K O H a vs ∧ DRs K O H xs vs := by unfold DR at h; exact h
theorem DR.d_dict {K : PySem.W.Frag} {O : Addr → Prop} {v : V} {kvs : List (PyData × PyData)} (h : DR K O H (.dict kvs) v) : ∃ a o vs, v = .ref a ∧ (Rd H a o ∧ ¬ O a) ∧ DkO (kvs.map (·.1)) vs o ∧ DRv K O H kvs vs := by unfold DR at h; exact h
theorem VD.cases {K : PySem.W.Frag} {d : PyData} {x : V} (h : VD K φ st H d x) : DR K (Av φ st) H d x ∨ ∃ n, VR K φ st H (.box n) x ∧ deref (.box n) st = some d := by
  obtain ⟨v, r, e⟩ := h
  cases v with
  | d y => cases e; exact .inl r
  | box n => exact .inr ⟨n, r, e⟩
theorem deref_box {n : Nat} {d : PyData} (h : deref (.box n) st = some d) : (∃ xs, st[n]? = some (.lst xs) ∧ d = .list xs) ∨ (∃ kvs, (st[n]? = some (.dic kvs) ∨ st[n]? = some (.ldic kvs)) ∧ d = .dict kvs) := by
  unfold deref at h
  cases e : st[n]? with
  | none => simp only [e] at h; cases h
  | some c =>
    simp only [e] at h
    cases c with
    | lst xs => cases h; exact .inl ⟨xs, rfl, rfl⟩
    | dic kvs => cases h; exact .inr ⟨kvs, .inl rfl, rfl⟩
    | ldic kvs => cases h; exact .inr ⟨kvs, .inr rfl, rfl⟩
    | obj c fs => cases h
    | lbs _ => cases h
    | dbs _ _ => cases h
    | dead => cases h
theorem VD.list {K : PySem.W.Frag} {mg : Str → Option Value} {xs : List PyData} {x : V} (s : StR K mg T φ st H) (h : VD K φ st H (.list xs) x) : ∃ a vs, x = .ref a ∧ LsAt K H a vs ∧ DRs K (Av φ st) H xs vs := by
  rcases h.cases with h1 | ⟨n, ⟨a, ea, rfl⟩, h1⟩
  · obtain ⟨a, vs, rfl, hl, hd⟩ := h1.d_list
    exact ⟨a, vs, rfl, hl.ls, hd⟩
  · rcases deref_box h1 with ⟨ys, e, q⟩ | ⟨_, _, q⟩
    · cases q
      obtain ⟨vs, h1, h2⟩ := s.cell n _ a e ea
      exact ⟨a, vs, rfl, .inl (.inl h1), h2⟩
    · cases q
theorem VD.tuple {K : PySem.W.Frag} {xs : List PyData} {x : V} (h : VD K φ st H (.tuple xs) x) : ∃ a vs, x = .ref a ∧ TupAt K (Av φ st) H a vs ∧ DRs K (Av φ st) H xs vs := by
  rcases h.cases with h | ⟨n, _, h⟩
  · exact h.d_tuple
  · rcases deref_box h with ⟨ys, e, q⟩ | ⟨_, _, q⟩ <;> cases q
theorem VD.atom {K : PySem.W.Frag} {d : PyData} {x : V} (hd : match d with | .list _ => False | .dict _ => False | _ => True) (h : VD K φ st H d x) : DR K (Av φ st) H d x := by
  rcases h.cases with h | ⟨n, _, h⟩
  · exact h
  · rcases deref_box h with ⟨ys, e, q⟩ | ⟨_, _, q⟩ <;> subst q <;> exact hd.elim
theorem VD.int {K : PySem.W.Frag} {i : Int} {x : V} (h : VD K φ st H (.int i) x) : x = .int i := (h.atom trivial).d_int
theorem VD.str {K : PySem.W.Frag} {i : Str} {x : V} (h : VD K φ st H (.str i) x) : x = .str i := (h.atom trivial).d_str
theorem VD.bool {K : PySem.W.Frag} {i : Bool} {x : V} (h : VD K φ st H (.bool i) x) : x = .bl i := (h.atom trivial).d_bool
theorem VD.none {K : PySem.W.Frag} {x : V} (h : VD K φ st H .none x) : x = .non := (h.atom trivial).d_none
theorem VD.reads {d : PyData} {x : V} {u : Value} (I : Inv X pins σ H s) (r : StR X.K X.mg T φ st H) (n : nod d = true) (h : VD X.K φ st H d x) (rv : RelV x u) : ∃ as, Reads s.heap u d as := by
  rcases h.cases with h1 | ⟨k, ⟨a, ea, rfl⟩, h1⟩
  · exact DR.reads I d x u n h1 rv
  · rcases deref_box h1 with ⟨ys, e, q⟩ | ⟨_, _, q⟩
    · subst q
      cases rv
      obtain ⟨vs, h1, h2⟩ := r.cell k _ a e ea
      obtain ⟨its, rv, ⟨o, n', ho, hc, _, hdd⟩, _⟩ := I.list (SqL.of h1)
      unfold nod at n
      obtain ⟨as, hr⟩ := DRs.reads I ys _ its n h2 rv
      exact ⟨_, Reads.list ho hc hdd hr⟩
    · subst q; unfold nod at n; cases n
theorem StR.fr {p : Addr} (r : StR X.K X.mg T φ st H) (hp : H p = none) : ¬ Av φ st p := fun z => by
  rcases z with l | l
  · exact r.fresh hp l.mem
  · exact r.avne l hp
theorem DR.lst {xs : List PyData} {vs : List V} {p : Addr} (r : StR X.K X.mg T φ st H) (hp : H p = none) (h : DRs X.K (Av φ st) H xs vs) : Gr H (upd H p (.lst vs)) ∧ DR X.K (Av φ st) (upd H p (.lst vs)) (.list xs) (.ref p) := by
  have g := Gr.upd (o := .lst vs) hp
  refine ⟨g, ?_⟩
  unfold DR
  exact ⟨p, vs, rfl, .inl ⟨.inl upd_same, r.fr hp⟩, DRs.mon (g.step (φ := φ) (st := st)).mon _ _ h⟩
theorem DR.tup {xs : List PyData} {vs : List V} {p : Addr} (r : StR X.K X.mg T φ st H) (hp : H p = none) (h : DRs X.K (Av φ st) H xs vs) : Gr H (upd H p (.tup vs)) ∧ DR X.K (Av φ st) (upd H p (.tup vs)) (.tuple xs) (.ref p) := by
  have g := Gr.upd (o := .tup vs) hp
  refine ⟨g, ?_⟩
  unfold DR
  exact ⟨p, vs, rfl, .inl ⟨.inl upd_same, r.fr hp⟩, DRs.mon (g.step (φ := φ) (st := st)).mon _ _ h⟩
theorem OkD.int {i : Int} {Q : VK} (h : OkD X T φ st H (.int i) Q) : Q (.int i) H := h H (.int i) (Gr.refl H) (by unfold DR; rfl)
theorem OkD.bool {i : Bool} {Q : VK} (h : OkD X T φ st H (.bool i) Q) : Q (.bl i) H := h H (.bl i) (Gr.refl H) (by unfold DR; rfl)
theorem OkD.str {i : Str} {Q : VK} (h : OkD X T φ st H (.str i) Q) : Q (.str i) H := h H (.str i) (Gr.refl H) (by unfold DR; rfl)
theorem OkD.none {Q : VK} (h : OkD X T φ st H .none Q) : Q .non H := h H .non (Gr.refl H) (by unfold DR; rfl)
theorem OkD.lst {xs : List PyData} {vs : List V} {p : Addr} {Q : VK} (h : OkD X T φ st H (.list xs) Q) (r : StR X.K X.mg T φ st H) (hp : H p = Option.none) (hv : DRs X.K (Av φ st) H xs vs) : Q (.ref p) (upd H p (.lst vs)) :=
  h _ _ (DR.lst r hp hv).1 (DR.lst r hp hv).2
theorem OkD.tup {xs : List PyData} {vs : List V} {p : Addr} {Q : VK} (h : OkD X T φ st H (.tuple xs) Q) (r : StR X.K X.mg T φ st H) (hp : H p = Option.none) (hv : DRs X.K (Av φ st) H xs vs) : Q (.ref p) (upd H p (.tup vs)) :=
  h _ _ (DR.tup r hp hv).1 (DR.tup r hp hv).2
theorem OkD.old {d : PyData} {x : V} {Q : VK} (h : OkD X T φ st H d Q) (hd : DR X.K (Av φ st) H d x) : Q x H := h H x (Gr.refl H) hd
def intsOf : List PyData → Option (List Int)
  | [] => some []
  | .int i :: r => (intsOf r).map (i :: ·)
  | _ :: _ => none
theorem ints_some : ∀ {xs : List PyData} {ns : List Int}, intsOf xs = some ns → xs = ns.map .int
  | [], ns, h => by cases h; rfl
  | .int i :: r, ns, h => by
    unfold intsOf at h
    obtain ⟨m, e, rfl⟩ := Option.map_eq_some_iff.mp h
    rw [ints_some e]; rfl
  | .none :: _, _, h => by cases h
  | .bool _ :: _, _, h => by cases h
  | .str _ :: _, _, h => by cases h
  | .list _ :: _, _, h => by cases h
  | .tuple _ :: _, _, h => by cases h
  | .dict _ :: _, _, h => by cases h
@[simp] theorem ints_map (ns : List Int) : intsOf (ns.map .int) = some ns := by
  induction ns with
  | nil => rfl
  | cons n ns ih => show (intsOf (ns.map .int)).map _ = _; rw [ih]; rfl
theorem DRs.ofInts {K : PySem.W.Frag} {O : Addr → Prop} : ∀ {ns : List Int} {vs : List V}, DRs K O H (ns.map .int) vs → vs = ns.map V.int
  | [], vs, h => by unfold DRs at h; exact h
  | n :: ns, vs, h => by
    unfold DRs at h
    obtain ⟨v, r, rfl, h1, h2⟩ := h
    rw [h1.d_int, DRs.ofInts h2]; rfl
theorem DRs.of_ints {K : PySem.W.Frag} {O : Addr → Prop} : ∀ {ns : List Int}, DRs K O H (ns.map .int) (ns.map V.int)
  | [] => by unfold DRs; rfl
  | n :: ns => by unfold DRs; exact ⟨_, _, rfl, by unfold DR; rfl, DRs.of_ints⟩
end
end TL
end

section
set_option Elab.async false
set_option linter.all false
set_option maxRecDepth 100000
set_option maxHeartbeats 1000000
set_option autoImplicit false
namespace TL
open PySem L2
section
variable {X : Cx} {T : List Tb}
def oSub : PyData → PyData → Option PyData
  | .int i, .int j => some (.int (i - j))
  | _, _ => none
def oAdd : PyData → PyData → Option PyData
  | .int i, .int j => some (.int (i + j))
  | .str a, .str b => if a.length + b.length ≤ lineN then some (.str (a ++ b)) else none
  | .list xs, .list ys => if xs.length + ys.length ≤ lineN then some (.list (xs ++ ys)) else none
  | .tuple xs, .tuple ys => if xs.length + ys.length ≤ lineN then some (.tuple (xs ++ ys)) else none
  | _, _ => none
def oAdd1 : PyData → PyData → Option PyData
  | .int i, .int j => some (.int (i + j))
  | _, _ => none
def wideI (i : Int) : Bool := decide (-(2 ^ 64) < i) && decide (i < 2 ^ 64)
def oMul : PyData → PyData → Option PyData
  | .int i, .int j => if (wideI i || wideI j) = true then some (.int (i * j)) else none
  | _, _ => none
def oDiv : PyData → PyData → Option PyData
  | .int i, .int j => if 0 < j ∧ j < 1073741824 then some (.int (i / j)) else if j ≠ 0 ∧ j.natAbs < 1073741824 then some (.int (i.fdiv j)) else none
  | _, _ => none
def oMod : PyData → PyData → Option PyData
  | .int i, .int j => if 0 < j then some (.int (i % j)) else if j ≠ 0 then some (.int (i.fmod j)) else none
  | _, _ => none
def oPow : PyData → PyData → Option PyData
  | .int i, .int j => if 0 ≤ j ∧ j ≤ 1000000 ∧ i.natAbs < 2 ^ 64 then some (.int (i ^ j.toNat)) else none
  | _, _ => none
def oNeg : PyData → Option PyData
  | .int i => some (.int (-i))
  | _ => none
theorem op_sub' : OpR X (binaryOp .Sub) (r2 X T oSub) := by
  rintro pins s σ H x y v u Q I rx ry ⟨φ, st, a, b, d, r, va, vb, e, ok⟩
  unfold oSub at e
  split at e
  · cases e; exact op_sub pins s σ H x y v u Q I rx ry ⟨_, _, va.int, vb.int, ok.int⟩
  · cases e
theorem iop_sub' : OpR X (inplaceOp .Sub) (r2 X T oSub) := by
  rintro pins s σ H x y v u Q I rx ry ⟨φ, st, a, b, d, r, va, vb, e, ok⟩
  unfold oSub at e
  split at e
  · cases e; exact iop_sub pins s σ H x y v u Q I rx ry ⟨_, _, va.int, vb.int, ok.int⟩
  · cases e
theorem iop_add' : OpR X (inplaceOp .Add) (r2 X T oAdd1) := by
  rintro pins s σ H x y v u Q I rx ry ⟨φ, st, a, b, d, r, va, vb, e, ok⟩
  unfold oAdd1 at e
  split at e
  · cases e; exact iop_add pins s σ H x y v u Q I rx ry ⟨_, _, va.int, vb.int, ok.int⟩
  · cases e
theorem op_mul' : OpR X (binaryOp .Mult) (r2 X T oMul) := by
  rintro pins s σ H x y v u Q I rx ry ⟨φ, st, a, b, d, r, va, vb, e, ok⟩
  unfold oMul at e
  split at e
  · split at e
    · rename_i h
      cases e
      refine op_mul pins s σ H x y v u Q I rx ry ⟨_, _, va.int, vb.int, ?_, ok.int⟩
      unfold wideI at h
      simp only [Bool.or_eq_true, Bool.and_eq_true, decide_eq_true_eq] at h
      exact h
    · cases e
  · cases e
theorem op_div' : OpR X (binaryOp .FloorDiv) (r2 X T oDiv) := by
  rintro pins s σ H x y v u Q I rx ry ⟨φ, st, a, b, d, r, va, vb, e, ok⟩
  unfold oDiv at e
  split at e
  · split at e
    · rename_i h
      cases e
      exact op_fdiv pins s σ H x y v u Q I rx ry ⟨_, _, va.int, vb.int, h, ok.int⟩
    · split at e
      · rename_i h
        cases e
        exact op_fdivN pins s σ H x y v u Q I rx ry ⟨_, _, va.int, vb.int, h, ok.int⟩
      · cases e
  · cases e
theorem op_mod' : OpR X (binaryOp .Mod) (r2 X T oMod) := by
  rintro pins s σ H x y v u Q I rx ry ⟨φ, st, a, b, d, r, va, vb, e, ok⟩
  unfold oMod at e
  split at e
  · split at e
    · rename_i h
      cases e
      exact op_mod pins s σ H x y v u Q I rx ry ⟨_, _, va.int, vb.int, h, ok.int⟩
    · split at e
      · rename_i h
        cases e
        exact op_modN pins s σ H x y v u Q I rx ry ⟨_, _, va.int, vb.int, h, ok.int⟩
      · cases e
  · cases e
theorem op_pow' : OpR X (binaryOp .Pow) (r2 X T oPow) := by
  rintro pins s σ H x y v u Q I rx ry ⟨φ, st, a, b, d, r, va, vb, e, ok⟩
  unfold oPow at e
  split at e
  · split at e
    · rename_i h
      cases e
      exact op_pow pins s σ H x y v u Q I rx ry ⟨_, _, va.int, vb.int, h, ok.int⟩
    · cases e
  · cases e
theorem un_neg' : UnR X (unaryOp .USub) (r1 X T oNeg) := by
  rintro pins s σ H x v Q I rx ⟨φ, st, a, d, r, va, e, ok⟩
  unfold oNeg at e
  split at e
  · cases e; exact un_neg pins s σ H x v Q I rx ⟨_, va.int, ok.int⟩
  · cases e
theorem line_eq : lineN = sizeLine := by decide
theorem op_add' : OpR X (binaryOp .Add) (r2 X T oAdd) := by
  rintro pins s σ H x y v u Q I rx ry ⟨φ, st, a, b, d, r, va, vb, e, ok⟩
  unfold oAdd at e
  split at e
  · cases e; exact op_add pins s σ H x y v u Q I rx ry ⟨_, _, va.int, vb.int, ok.int⟩
  · split at e
    · rename_i h
      cases e
      exact op_add_str pins s σ H x y v u Q I rx ry ⟨_, _, va.str, vb.str, h, ok.str⟩
    · cases e
  · split at e
    · rename_i h
      cases e
      obtain ⟨l, vs, rfl, hl, hd⟩ := va.list r
      obtain ⟨l2, us, rfl, hl2, hd2⟩ := vb.list r
      cases rx
      cases ry
      obtain ⟨z1, its, n, r1, l1, p1⟩ := hl.at I
      obtain ⟨z2, its2, n2, r2, l2, p2⟩ := hl2.at I
      have e1 := hd.length
      have e2 := hd2.length
      have hz : vs.length + us.length ≤ sizeLine := by rw [e1, e2, ← line_eq]; exact h
      refine PySem.P.add_list p1 p2 ?_ (by rw [List.size_toArray, List.size_toArray, ← l1, ← l2]; exact hz)
      have ea : its.toArray ++ its2.toArray = (its ++ its2).toArray := by simp
      rw [ea]
      exact ⟨.ref _, _, I.lnew (t' := s.toks) (r1.append r2) (by rw [List.length_append]; exact hz), rfl, ok.lst r I.fresh (hd.append hd2)⟩
    · cases e
  · split at e
    · rename_i h
      cases e
      obtain ⟨l, vs, rfl, hl, hd⟩ := va.tuple
      obtain ⟨l2, us, rfl, hl2, hd2⟩ := vb.tuple
      have e1 := hd.length
      have e2 := hd2.length
      have hb := vb.atom trivial
      refine op_catA pins s σ H _ _ v u Q I rx ry ⟨l, l2, vs, us, rfl, rfl, hl.sq, hl2.sq, by rw [e1, e2]; exact h, fun z => ?_, fun _ z => ?_, fun _ _ p hp => ok.tup r hp (hd.append hd2)⟩
      · subst z
        refine ok.old ?_
        rw [List.eq_nil_of_length_eq_zero (l := _) e1.symm, List.nil_append]
        exact hb
      · subst z
        refine ok.old ?_
        rw [List.eq_nil_of_length_eq_zero (l := _) e2.symm, List.append_nil]
        unfold DR
        exact ⟨l, vs, rfl, hl, hd⟩
    · cases e
  · cases e
end
end TL
end

section
set_option Elab.async false
set_option linter.all false
set_option maxRecDepth 100000
set_option maxHeartbeats 1000000
set_option autoImplicit false
namespace TL
open PySem L2
open PySem.W (alike dataLt AllAlike Sortable dataLe)
section
variable {X : Cx} {T : List Tb} {D : DI} {k : Nat} {W : XK}
def cmpOk (a b : PyData) : Bool := alike a b && nod a && nod b && !(match a with | .none => true | _ => false) && decide (a.depth ≤ 64)
def oEq : PyData → PyData → Option PyData
  | .int i, .int j => some (.bool (decide (i = j)))
  | .str a, .str b => some (.bool (decide (a = b)))
  | a, b => if (SeqAt.shaped a && SeqAt.shaped b) = true then some (.bool (PyData.eqv a b)) else none
def oNe : PyData → PyData → Option PyData
  | .int i, .int j => some (.bool (!decide (i = j)))
  | .str a, .str b => some (.bool (!decide (a = b)))
  | a, b => if (SeqAt.shaped a && SeqAt.shaped b) = true then some (.bool (!PyData.eqv a b)) else none
def oLt : PyData → PyData → Option PyData
  | .int i, .int j => some (.bool (decide (i < j)))
  | a, b => if cmpOk a b = true then some (.bool (dataLt a b)) else none
def oLe : PyData → PyData → Option PyData
  | .int i, .int j => some (.bool (decide (i ≤ j)))
  | a, b => if cmpOk a b = true then some (.bool (!dataLt b a)) else none
def oGt : PyData → PyData → Option PyData
  | .int i, .int j => some (.bool (decide (j < i)))
  | a, b => if cmpOk a b = true then some (.bool (dataLt b a)) else none
def oGe : PyData → PyData → Option PyData
  | .int i, .int j => some (.bool (decide (j ≤ i)))
  | a, b => if cmpOk a b = true then some (.bool (!dataLt a b)) else none
theorem Cin.units (c : Cin D k X) : X.A.units + 200 < cLine := by have := c.room.un; omega
theorem op_eq' (ci : Cin D k X) : OpR X (compareOp .Eq) (r2 X T oEq) := by
  rintro pins s σ H x y v u Q I rx ry ⟨φ, st, a, b, d, r, va, vb, e, ok⟩
  unfold oEq at e
  split at e
  · cases e
    have hx := va.int
    have hy := vb.int
    subst hx hy
    refine op_eq pins s σ H _ _ v u Q I rx ry ⟨rfl, ?_⟩
    have := ok.bool
    simpa using this
  · cases e
    have hx := va.str
    have hy := vb.str
    subst hx hy
    refine op_eq pins s σ H _ _ v u Q I rx ry ⟨rfl, ?_⟩
    have := ok.bool
    simpa using this
  · split at e
    · rename_i h
      cases e
      rw [Bool.and_eq_true] at h
      obtain ⟨as, q1⟩ := va.reads I r (nod_shaped h.1) rx
      obtain ⟨bs, q2⟩ := vb.reads I r (nod_shaped h.2) ry
      exact SeqAt.compareEq_shaped q1 q2 h.1 h.2 (by have := ci.units; omega) ⟨.bl _, H, I, rfl, ok.bool⟩
    · cases e
theorem op_ne' (ci : Cin D k X) : OpR X (compareOp .NotEq) (r2 X T oNe) := by
  rintro pins s σ H x y v u Q I rx ry ⟨φ, st, a, b, d, r, va, vb, e, ok⟩
  unfold oNe at e
  split at e
  · cases e
    have hx := va.int
    have hy := vb.int
    subst hx hy
    refine op_ne pins s σ H _ _ v u Q I rx ry ⟨rfl, ?_⟩
    have := ok.bool
    simpa using this
  · cases e
    have hx := va.str
    have hy := vb.str
    subst hx hy
    refine op_ne pins s σ H _ _ v u Q I rx ry ⟨rfl, ?_⟩
    have := ok.bool
    simpa using this
  · split at e
    · rename_i h
      cases e
      rw [Bool.and_eq_true] at h
      obtain ⟨as, q1⟩ := va.reads I r (nod_shaped h.1) rx
      obtain ⟨bs, q2⟩ := vb.reads I r (nod_shaped h.2) ry
      exact SeqAt.compareNe_shaped q1 q2 h.1 h.2 (by have := ci.units; omega) ⟨.bl _, H, I, rfl, ok.bool⟩
    · cases e
theorem cmpOk_of {a b : PyData} (h : cmpOk a b = true) : alike a b = true ∧ nod a = true ∧ nod b = true ∧ a ≠ .none ∧ a.depth ≤ 64 := by
  unfold cmpOk at h
  simp only [Bool.and_eq_true, decide_eq_true_eq] at h
  obtain ⟨⟨⟨⟨h1, h2⟩, h3⟩, h4⟩, h5⟩ := h
  exact ⟨h1, h2, h3, fun z => by subst z; simp at h4, h5⟩
theorem op_lt' (ci : Cin D k X) : OpR X (compareOp .Lt) (r2 X T oLt) := by
  rintro pins s σ H x y v u Q I rx ry ⟨φ, st, a, b, d, r, va, vb, e, ok⟩
  unfold oLt at e
  split at e
  · cases e; exact op_lt pins s σ H x y v u Q I rx ry ⟨_, _, va.int, vb.int, ok.bool⟩
  · split at e
    · rename_i h
      cases e
      obtain ⟨h1, h2, h3, h4, h5⟩ := cmpOk_of h
      obtain ⟨as, q1⟩ := va.reads I r h2 rx
      obtain ⟨bs, q2⟩ := vb.reads I r h3 ry
      exact PySem.W.lt_data q1 q2 h1 h4 (by have := ci.units; omega) ⟨.bl _, H, I, rfl, ok.bool⟩
    · cases e
theorem op_le' (ci : Cin D k X) : OpR X (compareOp .LtE) (r2 X T oLe) := by
  rintro pins s σ H x y v u Q I rx ry ⟨φ, st, a, b, d, r, va, vb, e, ok⟩
  unfold oLe at e
  split at e
  · cases e; exact op_le pins s σ H x y v u Q I rx ry ⟨_, _, va.int, vb.int, ok.bool⟩
  · split at e
    · rename_i h
      cases e
      obtain ⟨h1, h2, h3, h4, h5⟩ := cmpOk_of h
      obtain ⟨as, q1⟩ := va.reads I r h2 rx
      obtain ⟨bs, q2⟩ := vb.reads I r h3 ry
      exact PySem.W.le_data q1 q2 h1 h4 (by have := ci.units; omega) ⟨.bl _, H, I, rfl, ok.bool⟩
    · cases e
theorem op_gt' (ci : Cin D k X) : OpR X (compareOp .Gt) (r2 X T oGt) := by
  rintro pins s σ H x y v u Q I rx ry ⟨φ, st, a, b, d, r, va, vb, e, ok⟩
  unfold oGt at e
  split at e
  · cases e; exact op_gt pins s σ H x y v u Q I rx ry ⟨_, _, va.int, vb.int, ok.bool⟩
  · split at e
    · rename_i h
      cases e
      obtain ⟨h1, h2, h3, h4, h5⟩ := cmpOk_of h
      obtain ⟨as, q1⟩ := va.reads I r h2 rx
      obtain ⟨bs, q2⟩ := vb.reads I r h3 ry
      exact PySem.W.gt_data q1 q2 h1 h4 (by have := ci.units; omega) ⟨.bl _, H, I, rfl, ok.bool⟩
    · cases e
theorem op_ge' (ci : Cin D k X) : OpR X (compareOp .GtE) (r2 X T oGe) := by
  rintro pins s σ H x y v u Q I rx ry ⟨φ, st, a, b, d, r, va, vb, e, ok⟩
  unfold oGe at e
  split at e
  · cases e; exact op_ge pins s σ H x y v u Q I rx ry ⟨_, _, va.int, vb.int, ok.bool⟩
  · split at e
    · rename_i h
      cases e
      obtain ⟨h1, h2, h3, h4, h5⟩ := cmpOk_of h
      obtain ⟨as, q1⟩ := va.reads I r h2 rx
      obtain ⟨bs, q2⟩ := vb.reads I r h3 ry
      exact PySem.W.ge_data q1 q2 h1 h4 (by have := ci.units; omega) ⟨.bl _, H, I, rfl, ok.bool⟩
    · cases e
def oIx : PyData → PyData → Option PyData
  | .list xs, .int i => atI xs i
  | .tuple xs, .int i => atI xs i
  | .str z, .int i => if z.length ≤ lineN then (atI z.cps.toList i).map fun c => .str ⟨#[c]⟩ else none
  | _, _ => none
theorem DRs.atI {K : PySem.W.Frag} {O : Addr → Prop} {H : Hp} {xs : List PyData} {vs : List V} {i : Int} {x : PyData} (h : DRs K O H xs vs) (e : L2.atI xs i = some x) : ∃ v, L2.atI vs i = some v ∧ DR K O H x v := by
  unfold L2.atI at e ⊢
  rw [h.length]
  cases q : L2.ixN xs.length i with
  | none => rw [q] at e; cases e
  | some j =>
    rw [q] at e
    obtain ⟨v, e1, r⟩ := DRs.at h (show xs[j]? = some x from e)
    exact ⟨v, e1, r⟩
theorem ix' : IxR X (r2 X T oIx) := by
  rintro value slice pins s σ H x y v u Q I rx ry ⟨φ, st, a, b, d, r, va, vb, e, ok⟩ hs
  unfold oIx at e
  split at e
  · obtain ⟨p, vs, rfl, hl, hd⟩ := va.list r
    obtain ⟨w, e1, r1⟩ := hd.atI e
    exact ix_list value slice pins s σ H _ _ v u Q I rx ry ⟨p, vs, _, w, rfl, vb.int, hl.sq, e1, ok.old r1⟩ hs
  · obtain ⟨p, vs, rfl, hl, hd⟩ := va.tuple
    obtain ⟨w, e1, r1⟩ := hd.atI e
    exact ix_tup value slice pins s σ H _ _ v u Q I rx ry ⟨p, vs, _, w, rfl, vb.int, hl.sq, e1, ok.old r1⟩ hs
  · split at e
    · rename_i z i h
      obtain ⟨c, e1, rfl⟩ := Option.map_eq_some_iff.mp e
      exact ix_str value slice pins s σ H _ _ v u Q I rx ry ⟨z, i, c, va.str, vb.int, h, e1, ok.str⟩ hs
    · cases e
  · cases e
theorem E_ix {a b : Expr} {f : PyData → PyData → Option PyData} {ma mb : EM} {pos : Pos} (hi : IxR X (r2 X T f)) (ha : E X T W a ma) (hb : E X T W b mb) (hs : PlainIx b := by intro _ _; rfl) : E X T W (.Subscript a b pos) (mP2 f ma mb) :=
  ⟨PE.imp (pe_ix hi ha.run hb.run hs) fun _ _ _ h => two h⟩
def cutL {α : Type} (xs : List α) (lo hi : Option Int) : List α := (xs.drop (HT.sIx xs.length 0 lo)).take (HT.sIx xs.length xs.length hi - HT.sIx xs.length 0 lo)
def oSl (d : PyData) (lo hi : Option Int) : Option PyData :=
  match d with
  | .list xs => some (.list (cutL xs lo hi))
  | .tuple xs => some (.tuple (cutL xs lo hi))
  | .str z => if z.length ≤ lineN then some (.str (Txt.slice z lo hi)) else none
  | _ => none
def mPart : Option EM → Slots → Store → R (Option Int)
  | none => fun _ st => .ok none st
  | some m => fun sl st => (m sl st).bind fun v st1 =>
    match v with
    | .d (.int i) => .ok (some i) st1
    | _ => .stuck
def mSl (m : EM) (lo hi : Option EM) : EM := fun sl st =>
  (m sl st).bind fun v st1 => (mPart lo sl st1).bind fun l st2 => (mPart hi sl st2).bind fun h st3 => R.opt (((deref v st3).bind fun d => oSl d l h).map .d) st3
def rs (X : Cx) (T : List Tb) : V → Option Int → Option Int → Hp → VK → Prop := fun x lo hi H Q => ∃ φ st a d, StR X.K X.mg T φ st H ∧ VD X.K φ st H a x ∧ oSl a lo hi = some d ∧ OkD X T φ st H d Q
theorem DRs.cut {K : PySem.W.Frag} {O : Addr → Prop} {H : Hp} {xs : List PyData} {vs : List V} {lo hi : Option Int} (h : DRs K O H xs vs) : DRs K O H (cutL xs lo hi) (cutV vs lo hi) := by
  unfold cutL cutV
  rw [h.length]
  exact DRs.take _ (DRs.drop _ h)
theorem cut_all {α : Type} {xs : List α} {lo hi : Option Int} (h : HT.sIx xs.length 0 lo = 0 ∧ HT.sIx xs.length xs.length hi = xs.length) : cutL xs lo hi = xs := by
  unfold cutL
  rw [h.1, h.2]
  simp
theorem sl' : L2.SlR X (rs X T) := by
  rintro pins s σ H x v vl vu lo hi sl Q I rx hs pl pu ⟨φ, st, a, d, r, va, e, ok⟩
  unfold oSl at e
  split at e
  · cases e
    obtain ⟨p, vs, rfl, hl, hd⟩ := va.list r
    exact sl_list pins s σ H _ v vl vu lo hi sl Q I rx hs pl pu ⟨p, vs, rfl, hl.sq, fun q hq => ok.lst r hq hd.cut⟩
  · cases e
    obtain ⟨p, vs, rfl, hl, hd⟩ := va.tuple
    refine sl_tupA pins s σ H _ v vl vu lo hi sl Q I rx hs pl pu ⟨p, vs, rfl, hl.sq, fun z => ?_, fun _ q hq => ok.tup r hq hd.cut⟩
    have e1 := hd.length
    rw [e1] at z
    refine ok.old ?_
    rw [cut_all z]
    unfold DR
    exact ⟨p, vs, rfl, hl, hd⟩
  · split at e
    · rename_i z h
      cases e
      exact C8.sl_txt pins s σ H _ v vl vu lo hi sl Q I rx hs pl pu ⟨z, va.str, h, ok.str⟩
    · cases e
  · cases e
inductive Pt (X : Cx) (T : List Tb) (W : XK) : Option Expr → Option EM → Prop
  | none : Pt X T W none none
  | some {e : Expr} {m : EM} : E X T W e m → Pt X T W (some e) (some m)
def tPt (X : Cx) (T : List Tb) (W : XK) : Option EM → TO
  | none => tNoPart
  | some m => tPart (tE X T W m)
theorem Pt.po {e : Option Expr} {m : Option EM} (h : Pt X T W e m) : PO X e (tPt X T W m) := by
  cases h with
  | none => exact po_none
  | some h => exact po_some h.run
theorem part_bind {φ : Num} {sl : Slots} {st : Store} {H : Hp} {σ : L2.St} {m : Option EM} {f : Option Int → Store → R Val} {Q : VK} (a : At X.K X.mg T φ sl st σ H) (h : EPost X.K X.mg T W φ st H Q ((mPart m sl st).bind f)) :
    tPt X T W m σ H fun o H1 => ∃ φ1 st1, At X.K X.mg T φ1 sl st1 σ H1 ∧ Stp φ st H φ1 st1 H1 ∧ EPost X.K X.mg T W φ1 st1 H1 Q (f o st1) := by
  cases m with
  | none => exact ⟨φ, st, a, .refl, h⟩
  | some m =>
    have h' : EPost X.K X.mg T W φ st H Q ((m sl st).bind fun v st1 => (match v with | .d (.int i) => R.ok (some i) st1 | _ => R.stuck).bind f) := by
      revert h
      show EPost X.K X.mg T W φ st H Q (((m sl st).bind _).bind f) → _
      cases m sl st <;> exact fun h => h
    refine (tE_bind a h').mono fun u H1 ⟨φ1, st1, v, a1, v1, s1, p1⟩ => ?_
    cases v with
    | box n => exact p1.elim
    | d x =>
      cases x with
      | int i => exact ⟨i, DR.d_int (K := X.K) (O := Av φ1 st1) (H := H1) v1, φ1, st1, a1, s1, p1⟩
      | none => exact p1.elim
      | bool _ => exact p1.elim
      | str _ => exact p1.elim
      | list _ => exact p1.elim
      | tuple _ => exact p1.elim
      | dict _ => exact p1.elim
theorem tPt.mono {m : Option EM} {σ : L2.St} {H : Hp} {Q Q' : Option Int → Hp → Prop} (h : tPt X T W m σ H Q) (i : ∀ u H', Q u H' → Q' u H') : tPt X T W m σ H Q' := by
  cases m with
  | none => exact i _ _ h
  | some m => exact tE.mono h fun u H' ⟨j, e, q⟩ => ⟨j, e, i _ _ q⟩
theorem E_sl {e : Expr} {m : EM} {lo hi : Option Expr} {ml mh : Option EM} {pos p2 : Pos} (he : E X T W e m) (hl : Pt X T W lo ml) (hh : Pt X T W hi mh) : E X T W (.Subscript e (.Slice lo hi none p2) pos) (mSl m ml mh) := by
  refine ⟨PE.imp (pe_slice (sl' (T := T)) he.run hl.po hh.po) ?_⟩
  rintro σ H Q ⟨φ, sl, st, h0, h⟩
  refine (tE_bind h0 h).mono fun u H1 ⟨φ1, st1, v, a1, v1, s1, p1⟩ => (part_bind a1 p1).mono fun l H2 ⟨φ2, st2, a2, s2, p2⟩ => (part_bind a2 p2).mono fun l' H3 ⟨φ3, st3, a3, s3, p3⟩ => ?_
  obtain ⟨z, ez, pz⟩ := opt_ok (P := EPost X.K X.mg T W φ3 st3 H3 Q) (fun z => z) p3
  obtain ⟨d, ed, rfl⟩ := Option.map_eq_some_iff.mp ez
  obtain ⟨x, ex, ed⟩ := Option.bind_eq_some_iff.mp ed
  exact ⟨φ3, st3, x, d, a3.s, ⟨v, (v1.mon s2).mon s3, ex⟩, ed, okD_post a3.s pz⟩
end
end TL
end

section
set_option Elab.async false
set_option linter.all false
set_option maxRecDepth 100000
set_option maxHeartbeats 1000000
set_option autoImplicit false
namespace TL
open PySem L2
open PySem.W (alike dataLt AllAlike Sortable dataLe)
section
variable {X : Cx} {T : List Tb} {D : DI} {k : Nat} {W : XK}
theorem paired1 {α β : Type} {G : α → β → Prop} {a : α} {l : List β} (h : Paired G [a] l) : ∃ b, l = [b] ∧ G a b := by
  cases h with
  | cons r t => cases t; exact ⟨_, rfl, r⟩
theorem paired2 {α β : Type} {G : α → β → Prop} {a b : α} {l : List β} (h : Paired G [a, b] l) : ∃ x y, l = [x, y] ∧ G a x ∧ G b y := by
  cases h with
  | cons r t => obtain ⟨y, rfl, q⟩ := paired1 t; exact ⟨_, _, rfl, r, q⟩
theorem paired3 {α β : Type} {G : α → β → Prop} {a b c : α} {l : List β} (h : Paired G [a, b, c] l) : ∃ x y z, l = [x, y, z] ∧ G a x ∧ G b y ∧ G c z := by
  cases h with
  | cons r t => obtain ⟨y, z, rfl, q⟩ := paired2 t; exact ⟨_, _, _, rfl, r, q⟩
theorem vals3 {a b c : V} {us : List Value} (h : Vals [a, b, c] us) : ∃ x y z, us = [x, y, z] ∧ RelV a x ∧ RelV b y ∧ RelV c z := by
  cases h with
  | cons r t => obtain ⟨y, z, rfl, q⟩ := vals2 t; exact ⟨_, _, _, rfl, r, q⟩
def oAbs : List PyData → Option PyData
  | [.int i] => some (.int (if i < 0 then -i else i))
  | _ => none
theorem call_abs' : CallR X (.builtin "abs") (rn X T oAbs) := by
  rintro pins s σ H xs us Q I rv ⟨φ, st, as, d, r, pr, e, ok⟩
  unfold oAbs at e
  split at e
  · rename_i i
    cases e
    obtain ⟨x, rfl, vx⟩ := paired1 pr
    exact call_abs pins s σ H _ us Q I rv ⟨i, by rw [vx.int], ok.int⟩
  · cases e
def oInt : List PyData → Option PyData
  | [.int i] => some (.int i)
  | [.bool b] => some (.int (if b then 1 else 0))
  | _ => none
theorem call_int' : CallR X (.type "int") (rn X T oInt) := by
  rintro pins s σ H xs us Q I rv ⟨φ, st, as, d, r, pr, e, ok⟩
  unfold oInt at e
  split at e
  · rename_i i
    cases e
    obtain ⟨x, rfl, vx⟩ := paired1 pr
    exact call_int1 pins s σ H _ us Q I rv (.inl ⟨i, by rw [vx.int], ok.int⟩)
  · rename_i b
    cases e
    obtain ⟨x, rfl, vx⟩ := paired1 pr
    exact call_int1 pins s σ H _ us Q I rv (.inr ⟨b, by rw [vx.bool], ok.int⟩)
  · cases e
def oTuple : List PyData → Option PyData
  | [.list xs] => some (.tuple xs)
  | [.tuple xs] => some (.tuple xs)
  | _ => none
theorem call_tuple' : CallR X (.type "tuple") (rn X T oTuple) := by
  rintro pins s σ H xs us Q I rv ⟨φ, st, as, d, r, pr, e, ok⟩
  unfold oTuple at e
  split at e
  · cases e
    obtain ⟨x, rfl, vx⟩ := paired1 pr
    obtain ⟨p, vs, rfl, hl, hd⟩ := vx.list r
    exact call_tuple_of pins s σ H _ us Q I rv ⟨p, vs, rfl, .inl ⟨hl.sq, fun l h => ok.tup r h hd⟩⟩
  · cases e
    obtain ⟨x, rfl, vx⟩ := paired1 pr
    obtain ⟨p, vs, rfl, hl, hd⟩ := vx.tuple
    exact call_tuple_of pins s σ H _ us Q I rv ⟨p, vs, rfl, .inr ⟨hl.sq, ok.old (by unfold DR; exact ⟨p, vs, rfl, hl, hd⟩)⟩⟩
  · cases e
def minI (n : Int) (ns : List Int) : Int := ns.foldl (fun a y => if y < a then y else a) n
def maxI (n : Int) (ns : List Int) : Int := ns.foldl (fun a y => if a < y then y else a) n
theorem minI_ok : ∀ (ns : List Int) (n : Int), minI n ns ∈ n :: ns ∧ ∀ y ∈ n :: ns, minI n ns ≤ y
  | [], n => ⟨by simp [minI], by simp [minI]⟩
  | m :: ns, n => by
    obtain ⟨h1, h2⟩ := minI_ok ns (if m < n then m else n)
    have e : minI n (m :: ns) = minI (if m < n then m else n) ns := rfl
    rw [e]
    generalize minI (if m < n then m else n) ns = z at h1 h2
    have hm := h2 (if m < n then m else n) (by simp)
    constructor
    · rcases List.mem_cons.mp h1 with h | h
      · rw [h]; split <;> simp
      · simp [h]
    · intro y hy
      rcases List.mem_cons.mp hy with h | h
      · subst h; split at hm <;> omega
      · rcases List.mem_cons.mp h with h | h
        · subst h; split at hm <;> omega
        · exact h2 y (by simp [h])
theorem maxI_ok : ∀ (ns : List Int) (n : Int), maxI n ns ∈ n :: ns ∧ ∀ y ∈ n :: ns, y ≤ maxI n ns
  | [], n => ⟨by simp [maxI], by simp [maxI]⟩
  | m :: ns, n => by
    obtain ⟨h1, h2⟩ := maxI_ok ns (if n < m then m else n)
    have e : maxI n (m :: ns) = maxI (if n < m then m else n) ns := rfl
    rw [e]
    generalize maxI (if n < m then m else n) ns = z at h1 h2
    have hm := h2 (if n < m then m else n) (by simp)
    constructor
    · rcases List.mem_cons.mp h1 with h | h
      · rw [h]; split <;> simp
      · simp [h]
    · intro y hy
      rcases List.mem_cons.mp hy with h | h
      · subst h; split at hm <;> omega
      · rcases List.mem_cons.mp h with h | h
        · subst h; split at hm <;> omega
        · exact h2 y (by simp [h])
def oMin : List PyData → Option PyData
  | [.int i, .int j] => some (.int (minI i [j]))
  | [.int i, .int j, .int k] => some (.int (minI i [j, k]))
  | [.list xs] =>
    match intsOf xs with
    | some (n :: ns) => some (.int (minI n ns))
    | _ => none
  | _ => none
def oMax : List PyData → Option PyData
  | [.int i, .int j] => some (.int (maxI i [j]))
  | [.int i, .int j, .int k] => some (.int (maxI i [j, k]))
  | [.list xs] =>
    match intsOf xs with
    | some (n :: ns) => some (.int (maxI n ns))
    | _ => none
  | _ => none
theorem call_min' (ci : Cin D k X) : CallR X (.builtin "min") (rn X T oMin) := by
  rintro pins s σ H xs us Q I rv ⟨φ, st, as, d, r, pr, e, ok⟩
  unfold oMin at e
  split at e
  · rename_i i j
    cases e
    obtain ⟨x, y, rfl, vx, vy⟩ := paired2 pr
    have hx := vx.int
    have hy := vy.int
    subst hx hy
    exact call_min2 ci.calm pins s σ H _ us Q I rv ⟨i, j, rfl, ok.int⟩
  · rename_i i j l
    cases e
    obtain ⟨x, y, z, rfl, vx, vy, vz⟩ := paired3 pr
    have hx := vx.int
    have hy := vy.int
    have hz := vz.int
    subst hx hy hz
    obtain ⟨u1, u2, u3, rfl, ⟨t1, rfl⟩, ⟨t2, rfl⟩, ⟨t3, rfl⟩⟩ := vals3 rv
    refine min_three_ints (I.ok.hd ci.calm) fun h' tk kk => ⟨_, H, I.kept kk, ?_, ok.int⟩
    show RelV (V.int (if l < (if j < i then j else i) then l else (if j < i then j else i))) _
    by_cases h1 : j < i
    · simp only [if_pos h1]
      by_cases h2 : l < j
      · simp only [if_pos h2]; exact ⟨_, rfl⟩
      · simp only [if_neg h2]; exact ⟨_, rfl⟩
    · simp only [if_neg h1]
      by_cases h2 : l < i
      · simp only [if_pos h2]; exact ⟨_, rfl⟩
      · simp only [if_neg h2]; exact ⟨_, rfl⟩
  · split at e
    · rename_i n ns hi
      cases e
      have e1 := ints_some hi
      subst e1
      obtain ⟨x, rfl, vx⟩ := paired1 pr
      obtain ⟨p, vs, rfl, hl, hd⟩ := vx.list r
      have e2 := hd.ofInts
      subst e2
      refine cr_min ci.calm pins s σ H _ us Q I rv ⟨p, n :: ns, rfl, hl.sq, by simp, fun m hm hle => ?_⟩
      obtain ⟨h1, h2⟩ := minI_ok ns n
      have : m = minI n ns := by have a := hle _ h1; have b := h2 _ hm; omega
      rw [this]
      exact ok.int
    · cases e
  · cases e
theorem call_max' (ci : Cin D k X) : CallR X (.builtin "max") (rn X T oMax) := by
  rintro pins s σ H xs us Q I rv ⟨φ, st, as, d, r, pr, e, ok⟩
  unfold oMax at e
  split at e
  · rename_i i j
    cases e
    obtain ⟨x, y, rfl, vx, vy⟩ := paired2 pr
    have hx := vx.int
    have hy := vy.int
    subst hx hy
    exact call_max2 ci.calm pins s σ H _ us Q I rv ⟨i, j, rfl, ok.int⟩
  · rename_i i j l
    cases e
    obtain ⟨x, y, z, rfl, vx, vy, vz⟩ := paired3 pr
    have hx := vx.int
    have hy := vy.int
    have hz := vz.int
    subst hx hy hz
    obtain ⟨u1, u2, u3, rfl, ⟨t1, rfl⟩, ⟨t2, rfl⟩, ⟨t3, rfl⟩⟩ := vals3 rv
    refine max_three_ints (I.ok.hd ci.calm) fun h' tk kk => ⟨_, H, I.kept kk, ?_, ok.int⟩
    show RelV (V.int (if (if i < j then j else i) < l then l else (if i < j then j else i))) _
    by_cases h1 : i < j
    · simp only [if_pos h1, gt_iff_lt]
      by_cases h2 : j < l
      · simp only [if_pos h2]; exact ⟨_, rfl⟩
      · simp only [if_neg h2]; exact ⟨_, rfl⟩
    · simp only [if_neg h1, gt_iff_lt]
      by_cases h2 : i < l
      · simp only [if_pos h2]; exact ⟨_, rfl⟩
      · simp only [if_neg h2]; exact ⟨_, rfl⟩
  · split at e
    · rename_i n ns hi
      cases e
      have e1 := ints_some hi
      subst e1
      obtain ⟨x, rfl, vx⟩ := paired1 pr
      obtain ⟨p, vs, rfl, hl, hd⟩ := vx.list r
      have e2 := hd.ofInts
      subst e2
      refine cr_max ci.calm pins s σ H _ us Q I rv ⟨p, n :: ns, rfl, hl.sq, by simp, fun m hm hle => ?_⟩
      obtain ⟨h1, h2⟩ := maxI_ok ns n
      have : m = maxI n ns := by have a := hle _ h1; have b := h2 _ hm; omega
      rw [this]
      exact ok.int
    · cases e
  · cases e
end
end TL
end

section
set_option Elab.async false
set_option linter.all false
set_option maxRecDepth 100000
set_option maxHeartbeats 1000000
set_option autoImplicit false
namespace TL
open PySem L2
open PySem.W (alike dataLt AllAlike Sortable dataLe EachIs)
section
variable {X : Cx} {T : List Tb} {D : DI} {k : Nat} {W : XK}
def isTupN : PyData → Bool
  | .tuple (_ :: _) => true
  | _ => false
def isFlat : PyData → Bool
  | .none => false
  | .tuple _ => false
  | _ => true
def sortOk (xs : List PyData) : Bool :=
  (xs.all fun d => xs.all fun d' => alike d d') && (xs.all isTupN || xs.all isFlat) && nods xs && (xs.all fun d => decide (d.depth ≤ 64)) && decide (xs.length ≤ lineN)
theorem sortOk_of {xs : List PyData} (h : sortOk xs = true) : AllAlike xs ∧ Sortable xs ∧ nods xs = true ∧ (∀ d ∈ xs, d.depth ≤ 64) ∧ xs.length ≤ sizeLine := by
  unfold sortOk at h
  simp only [Bool.and_eq_true, Bool.or_eq_true, List.all_eq_true, decide_eq_true_eq] at h
  obtain ⟨⟨⟨⟨h1, h2⟩, h3⟩, h4⟩, h5⟩ := h
  refine ⟨fun d hd d' hd' => h1 d hd d' hd', ?_, h3, h4, by rw [← line_eq]; exact h5⟩
  rcases h2 with h2 | h2
  · refine .inl fun d hd => ?_
    have := h2 d hd
    unfold isTupN at this
    split at this
    · exact ⟨_, _, rfl⟩
    · cases this
  · refine .inr fun d hd => ?_
    have := h2 d hd
    unfold isFlat at this
    constructor
    · intro z; subst z; simp at this
    · intro ys z; subst z; simp at this
def RD (K : PySem.W.Frag) (O : Addr → Prop) (H : Hp) (u : Value) (d : PyData) : Prop := ∃ x, RelV x u ∧ DR K O H d x
theorem each_of {K : PySem.W.Frag} {O : Addr → Prop} {H : Hp} : ∀ {ds : List PyData} {vs : List V} {us : List Value}, DRs K O H ds vs → Vals vs us → EachIs (RD K O H) us ds
  | [], vs, us, h, r => by
    unfold DRs at h; subst h
    cases r
    exact .nil
  | d :: ds, vs, us, h, r => by
    unfold DRs at h
    obtain ⟨v, rr, rfl, h1, h2⟩ := h
    cases r with
    | cons r1 r2 => exact .cons ⟨v, r1, h1⟩ (each_of h2 r2)
theorem of_each {K : PySem.W.Frag} {O : Addr → Prop} {H : Hp} : ∀ {ds : List PyData} {us : List Value}, EachIs (RD K O H) us ds → ∃ vs, Vals vs us ∧ DRs K O H ds vs
  | [], us, h => by
    cases h
    exact ⟨[], .nil, by unfold DRs; rfl⟩
  | d :: ds, us, h => by
    cases h with
    | cons h1 h2 =>
      obtain ⟨v, r, q⟩ := h1
      obtain ⟨vs, r2, q2⟩ := of_each h2
      exact ⟨v :: vs, .cons r r2, by unfold DRs; exact ⟨v, vs, rfl, q, q2⟩⟩
theorem each_reads {O : Addr → Prop} {H : Hp} {σ : L2.St} {pins : List (Addr × Obj)} {s : Shared} (I : Inv X pins σ H s) : ∀ {ds : List PyData} {us : List Value}, nods ds = true → EachIs (RD X.K O H) us ds → EachIs (fun v b => ∃ as, Reads s.heap v (id b) as) us ds
  | [], us, _, h => by
    cases h
    exact .nil
  | d :: ds, us, n, h => by
    unfold nods at n
    rw [Bool.and_eq_true] at n
    cases h with
    | cons h1 h2 =>
      obtain ⟨v, r, q⟩ := h1
      exact .cons (DR.reads I d v _ n.1 q r) (each_reads I n.2 h2)
end
end TL
end

section
set_option Elab.async false
set_option linter.all false
set_option maxRecDepth 100000
set_option maxHeartbeats 1000000
set_option autoImplicit false
namespace TL
open PySem L2
section
variable {X : Cx} {T : List Tb} {D : DI} {k : Nat} {W : XK}
def boxL (v : Val) (st : Store) : Option (Nat × List PyData) :=
  match v with
  | .box n =>
    match st[n]? with
    | some (.lst xs) => some (n, xs)
    | _ => none
  | .d _ => none
theorem boxL_some {v : Val} {st : Store} {n : Nat} {xs : List PyData} (h : boxL v st = some (n, xs)) : v = .box n ∧ st[n]? = some (.lst xs) := by
  unfold boxL at h
  split at h
  · split at h
    · rename_i e; cases h; exact ⟨rfl, e⟩
    · cases h
  · cases h
theorem lst_write {φ : Num} {st : Store} {H : Hp} {n : Nat} {u : V} {xs ys : List PyData} {K : PySem.W.Frag} {mg : Str → Option Value} (s : StR K mg T φ st H) (e : st[n]? = some (.lst xs)) (v : VR K φ st H (.box n) u) :
    ∃ a vs, u = .ref a ∧ H a = some (.lst vs) ∧ DRs K (Av φ st) H xs vs ∧ ∀ us, DRs K (Av φ st) H ys us → StR K mg T φ (st.set n (.lst ys)) (upd H a (.lst us)) ∧ Stp φ st H φ (st.set n (.lst ys)) (upd H a (.lst us)) := by
  obtain ⟨a, ea, rfl⟩ := v
  obtain ⟨vs, h1, h2⟩ := s.cell n _ a e ea
  refine ⟨a, vs, rfl, h1, h2, fun us hu => ?_⟩
  have hn : n < st.length := (List.getElem?_eq_some_iff.mp e).1
  have lv : ∀ x, Live φ (st.set n (.lst ys)) x → Live φ st x := fun x ⟨i, d, e1, e2, e3⟩ => by
    by_cases hi : n = i
    · subst hi
      exact ⟨n, _, e, rfl, e3⟩
    · rw [List.getElem?_set_ne hi] at e1
      exact ⟨i, d, e1, e2, e3⟩
  have hl : Live φ st a := ⟨n, _, e, rfl, ea⟩
  have m : Mon (Av φ st) H (Av φ (st.set n (.lst ys))) (upd H a (.lst us)) :=
    ⟨fun x u hx nx _ => .inl (by rw [upd_ne (show x ≠ a from fun z => nx (.inl (by rw [z]; exact hl)))]; exact hx), fun x _ nx l => nx (l.imp (lv x) id)⟩
  exact s.write (c' := .lst ys) (o' := .lst us) e ea h1 rfl rfl (fun _ z => by cases z) rfl rfl ⟨us, upd_same, DRs.mon m _ _ hu⟩
def sSetIx (m o i : EM) : SM := fun sl st =>
  aS (m sl st) sl fun u st1 => aS (o sl st1) sl fun v st2 => aS (i sl st2) sl fun w st3 =>
    match boxL v st3, w, dataOf u with
    | some (n, xs), .d (.int j), some x =>
      match L2.ixN xs.length j with
      | some q => .nx sl (st3.set n (.lst (xs.set q x)))
      | none => .stuck
    | _, _, _ => .stuck
theorem S_setix {o i e : Expr} {tpos pos : Pos} {mo mi m : EM} (h : E X T W e m) (ho : E X T W o mo) (hi : E X T W i mi)
    (ha : ∀ v, assign (.Subscript o i tpos) X.env v = (do
      let ov ← holding [v] (eval o X.env)
      let iv ← holding [v, ov] (eval i X.env)
      standAt tpos
      holding [v, ov, iv] (setItem ov iv v)
      release [v, ov, iv] []) := by intro _; rfl)
    (hs : swapsWithSole [.Subscript o i tpos] e pos.line X.env = pure false := by rfl) (hw : swappedStores [.Subscript o i tpos] e X.env = pure none := by rfl)
    (h1 : (assignEach [.Subscript o i tpos] X.env).map (·.2) = [assign (.Subscript o i tpos) X.env] := by rfl) : S X T W (.Assign [.Subscript o i tpos] e pos) (sSetIx m mo mi) := by
  refine ⟨PS.imp (ps_asg h.run (pg_sub ho.run hi.run set_list ha) hs hw h1) ?_⟩
  rintro D σ H ⟨φ, sl, st, h0, h⟩
  refine (tE_bindS h0 h).mono fun u H1 ⟨φ1, st1, v, a1, v1, s1, p1⟩ => (tE_bindS a1 p1).mono fun w H2 ⟨φ2, st2, v', a2, v2, s2, p2⟩ => (tE_bindS a2 p2).mono fun z H3 ⟨φ3, st3, v'', a3, v3, s3, p3⟩ => ?_
  cases e1 : boxL v' st3 with
  | none => simp only [e1] at p3; exact p3.elim
  | some nx =>
    obtain ⟨n, xs⟩ := nx
    obtain ⟨rfl, ec⟩ := boxL_some e1
    cases v'' with
    | box _ => simp only [e1] at p3; exact p3.elim
    | d y =>
      cases y with
      | int j =>
        cases v with
        | box _ => simp only [e1, dataOf] at p3; exact p3.elim
        | d x =>
          simp only [e1, dataOf] at p3
          split at p3
          · rename_i q hq
            obtain ⟨a, vs, rfl, h1, h2, hw⟩ := lst_write (ys := xs.set q x) a3.s ec (v2.mon s3)
            obtain ⟨r4, s4⟩ := hw _ (h2.set q ((VR.mon (s2.trans s3) v1)))
            exact ⟨a, vs, j, q, rfl, DR.d_int (K := X.K) (O := Av φ3 st3) (H := H3) v3, h1, by rw [h2.length]; exact hq, p3 φ3 _ σ s4 r4 (a3.l.mon s4)⟩
          · exact p3.elim
      | none => simp only [e1] at p3; exact p3.elim
      | bool _ => simp only [e1] at p3; exact p3.elim
      | str _ => simp only [e1] at p3; exact p3.elim
      | list _ => simp only [e1] at p3; exact p3.elim
      | tuple _ => simp only [e1] at p3; exact p3.elim
      | dict _ => simp only [e1] at p3; exact p3.elim
end
end TL
end

section
set_option Elab.async false
set_option linter.all false
set_option maxRecDepth 100000
set_option maxHeartbeats 1000000
set_option autoImplicit false
namespace TL
open PySem L2
def genNx (tg : Tg) (c : TM) (e : EM) (sl : Slots) : List PyData → Store → R (Option (Val × List PyData))
  | [], st => .ok none st
  | x :: xs, st =>
    match tg.put x sl with
    | none => .stuck
    | some sl1 => (c sl1 st).bind fun b st1 => bif b then (e sl1 st1).bind fun v st2 => .ok (some (v, xs)) st2 else genNx tg c e sl xs st1
def isOk {α : Type} : R α → Prop
  | .ok _ _ => True
  | _ => False
theorem genNx_cons {tg : Tg} {c : TM} {e : EM} {sl : Slots} {x : PyData} {xs : List PyData} {st : Store} (h : isOk (genNx tg c e sl (x :: xs) st)) :
    ∃ sl1 b st1, tg.put x sl = some sl1 ∧ c sl1 st = .ok b st1 ∧ ((b = true ∧ ∃ v st2, e sl1 st1 = .ok v st2 ∧ genNx tg c e sl (x :: xs) st = .ok (some (v, xs)) st2) ∨ (b = false ∧ genNx tg c e sl (x :: xs) st = genNx tg c e sl xs st1)) := by
  have E0 : genNx tg c e sl (x :: xs) st = (match tg.put x sl with
    | none => .stuck
    | some sl1 => (c sl1 st).bind fun b st1 => bif b then (e sl1 st1).bind fun v st2 => .ok (some (v, xs)) st2 else genNx tg c e sl xs st1) := by rw [genNx]
  rw [E0] at h ⊢
  clear E0
  cases e1 : tg.put x sl with
  | none => simp only [e1] at h; exact h.elim
  | some sl1 =>
    simp only [e1] at h ⊢
    cases e2 : c sl1 st with
    | exn _ _ => simp only [e2, R.bind_exn] at h; exact h.elim
    | stuck => simp only [e2, R.bind_stuck] at h; exact h.elim
    | ok b st1 =>
      simp only [e2, R.bind_ok] at h
      refine ⟨sl1, b, st1, rfl, e2, ?_⟩
      cases b with
      | false => exact .inr ⟨rfl, rfl⟩
      | true =>
        simp only [cond_true] at h
        cases e3 : e sl1 st1 with
        | exn _ _ => simp only [e3, R.bind_exn] at h; exact h.elim
        | stuck => simp only [e3, R.bind_stuck] at h; exact h.elim
        | ok v st2 => exact .inl ⟨rfl, v, st2, rfl, by show (e sl1 st1).bind _ = _; rw [e3]; rfl⟩
def genAt (tg : Tg) (c : TM) (e : EM) (sl : Slots) (xs : List PyData) (st : Store) : Nat → Option (List PyData × Store)
  | 0 => some (xs, st)
  | j + 1 =>
    match genAt tg c e sl xs st j with
    | some (ys, st1) =>
      match genNx tg c e sl ys st1 with
      | .ok (some (_, zs)) st2 => some (zs, st2)
      | _ => none
    | none => none
def genCx (X : Cx) (A : Around) (s : Shared) (H : Hp) (genv : Env) (fp : List Addr) : Cx :=
  { X with A := A.deeper genv, s_0 := s, H_0 := H, env := genv, outer := X.stack, stack := genv :: X.stack, ex := fp, fn := fun _ => false, calm := true, pn := [], xe := fun _ _ => False }
structure GnS (N : List Str) (sc scope : Scope) (own : List Nat) : Prop where
  kind : scope.kind = .function
  co : scope.isCoroutine = false
  cell : ∀ y ∈ scope.names, y.2 ≠ .cell
  dot : scope.names.lookup (".0" : Str) = some NameKind.local
  loc : ∀ i y, N[i]? = some y → scope.names.lookup y = some .local → i ∈ own
  free : ∀ y ∈ scope.names, y.2 = .free → sc.names.lookup y.1 = some .cell ∨ sc.names.lookup y.1 = some .free
def gnB (N : List Str) (sc scope : Scope) (own : List Nat) : Bool :=
  decide (scope.kind = .function) && !scope.isCoroutine && (scope.names.all fun y => !decide (y.2 = .cell)) && decide (scope.names.lookup (".0" : Str) = some NameKind.local) &&
    ((List.range N.length).all fun i => !decide (scope.names.lookup (N.getD i "") = some .local) || decide (i ∈ own)) &&
    (scope.names.all fun y => !decide (y.2 = .free) || decide (sc.names.lookup y.1 = some .cell) || decide (sc.names.lookup y.1 = some .free))
theorem gn_by {N : List Str} {sc scope : Scope} {own : List Nat} (h : gnB N sc scope own = true) : GnS N sc scope own := by
  unfold gnB at h
  simp only [Bool.and_eq_true, Bool.or_eq_true, Bool.not_eq_true', decide_eq_true_eq, decide_eq_false_iff_not, List.all_eq_true] at h
  obtain ⟨⟨⟨⟨⟨h1, h2⟩, h3⟩, h4⟩, h5⟩, h6⟩ := h
  refine ⟨h1, h2, h3, h4, fun i y e1 e2 => ?_, fun y hy e => ?_⟩
  · have hi := (List.getElem?_eq_some_iff.mp e1).1
    rcases h5 i (List.mem_range.mpr hi) with z | z
    · exact absurd (by rw [List.getD_eq_getElem?_getD, e1]; exact e2) z
    · exact z
  · rcases h6 y hy with (z | z) | z
    · exact absurd e z
    · exact .inl z
    · exact .inr z
section
variable {X : Cx} {pins : List (Addr × Obj)} {σ : L2.St} {H : Hp} {s : Shared}
theorem gen_start {A : Around} {scope : Scope} {own : List Nat} {code : Value} {bi : Addr} {fp : List Addr} {m : Str → Option Value} {s1 : Shared} (I : Inv X pins σ H s) (S : GnS X.N X.env.scope scope own) (hA : A.frames = X.A.frames) (hd : A.handled = none) (hbi : bi = builtinsNs)
    (hfp : ∀ b ∈ fp, FpOk X pins H b ∧ b < s.heap.objs.size)
    (hns : s1.heap.Ns s.heap.objs.size m) (kp : ∀ b o, s.heap.get? b = some o → s1.heap.get? b = some o) (hos : s1.os = s.os) (hg : PyProof.Rows.AllBare s1.gens) :
    Inv (genCx X A s H (genEnv scope (cloFrom X.env.cells scope.names []) s.heap.objs.size code bi X.env) fp) [] (wipe σ own) H s1 := by
  have hfree : ∀ y ∈ scope.names, y.2 = .free → ∃ c, X.env.cells.lookup y.1 = some c := fun y hy e => by
    rcases S.free y hy e with k | k
    · exact I.ok.has _ (.inl k)
    · exact I.ok.has _ (.inr k)
  have cm : ∀ {y c}, (cloFrom X.env.cells scope.names []).lookup y = some c → X.env.cells.lookup y = some c := fun {y c} e => by
    rcases cloFrom_mem (PySem.mem_of_lookup e) with hm | ⟨h1, h2⟩
    · cases hm
    · obtain ⟨c1, hc⟩ := hfree _ h1 rfl
      have hc : X.env.cells.lookup y = some c1 := hc
      have e2 : c = c1 := by
        rw [h2, hc] <;> rfl
      rw [e2]
      exact hc
  have look : ∀ {y}, scope.names.lookup y = some .free → ∃ c, (cloFrom X.env.cells scope.names []).lookup y = some c := fun {y} hl => by
    have hy : (y, NameKind.free) ∈ scope.names := PySem.mem_of_lookup hl
    exact mem_lookup (cloFrom_has (cells := X.env.cells) (acc := []) hy)
  have e0 := I.env0
  refine ⟨⟨e0.mod, S.kind, I.ok.glob, hbi, Nat.le_refl _, fun y z c e1 e2 => I.ok.inj y z c (cm e1) (cm e2), fun y hy => ?_, fun y c z _ => ?_, fun _ => hd, Around.frames_deeper (hA.trans e0.frames), .inr ⟨rfl, rfl⟩, fun b hb => ⟨?_, fun y c e z => ?_⟩, e0.bs, e0.bsz, fun b o e hb => ?_,
      fun b hb z => ?_, e0.funs, e0.frf⟩,
    hos, hg, Un.kept kp, ⟨_, hns, fun i y v e1 e2 e3 => ?_⟩, fun y c e => ?_, e0.hok.fresh (Nat.le_refl _), fun y c e => ?_, fun q hq => absurd (show q ∈ ([] : List (Addr × Obj)) ++ [] from hq) (by simp), e0.hok.kept kp, by rw [wipe_length]; exact I.len⟩
  · have hy : scope.names.lookup y = some .cell ∨ scope.names.lookup y = some .free := hy
    rcases hy with hy | hy
    · exact absurd rfl (S.cell _ (PySem.mem_of_lookup hy))
    · exact look hy
  · have z : false = true := z
    cases z
  · exact Nat.ne_of_lt (hfp b hb).2
  · exact (hfp b hb).1.2.2.2.2.1 y c (cm e) z
  · rcases (hfp b hb).1.2.2.2.1 with z | z
    · exact I.ok.noex b o e z
    · exact absurd (Nat.lt_of_lt_of_le (Heap.lt_size e) (Nat.le_trans I.ok.bsz z)) (Nat.lt_irrefl _)
  · rcases List.mem_cons.mp (I.stkSub b z) with z | z
    · exact (hfp b hb).1.2.1 z
    · exact (hfp b hb).1.2.2.1 z
  · have e3 : Vis scope y := e3
    obtain ⟨e2, no⟩ := wipe_some e2
    rcases e3 with k | k | k
    · exact absurd (S.loc i y e1 k) no
    · exact absurd rfl (S.cell _ (PySem.mem_of_lookup k))
    · obtain ⟨mm, hn, hl⟩ := I.loc
      have hvis : Vis X.env.scope y := (S.free _ (PySem.mem_of_lookup k) rfl).elim (fun k => .inr (.inl k)) (fun k => .inr (.inr k))
      obtain ⟨w', r, q⟩ := hl i y v e1 e2 hvis
      obtain ⟨c2, h2⟩ := look k
      refine ⟨w', r, .inr ⟨.inr k, c2, h2, ?_⟩⟩
      have c1 := cm h2
      rcases q with ⟨k', _⟩ | ⟨_, c3, e', z⟩
      · have k' : X.env.scope.names.lookup y = some .local := k'
        rcases S.free _ (PySem.mem_of_lookup k) rfl with k2 | k2 <;> rw [show X.env.scope.names.lookup y = _ from k2] at k' <;> cases k'
      · rw [c1] at e'
        cases e'
        obtain ⟨o, ho, hd⟩ := z
        exact ⟨o, kp _ _ ho, hd⟩
  · obtain ⟨w', o, ho, hd⟩ := I.cell y c (cm e)
    exact ⟨w', o, kp _ _ ho, hd⟩
  · exact I.freeC y c (cm e)
end
mutual
theorem put_keeps : ∀ (t : Tg) (x : PyData) (sl sl1 : Slots), t.put x sl = some sl1 → sl1.length = sl.length ∧ ∀ i, i ∉ t.ix → sl1[i]? = sl[i]?
  | .name j, x, sl, sl1, h => by
    unfold Tg.put at h
    cases h
    refine ⟨by simp, fun i hi => ?_⟩
    rw [List.getElem?_set_ne (fun z => hi (by unfold Tg.ix; rw [z]; exact List.mem_singleton.mpr rfl))]
  | .tup ts, x, sl, sl1, h => by
    unfold Tg.put at h
    cases x with
    | tuple xs =>
      have := puts_keeps ts xs sl sl1 h
      exact ⟨this.1, fun i hi => this.2 i (by unfold Tg.ix at hi; exact hi)⟩
    | _ => cases h
theorem puts_keeps : ∀ (ts : List Tg) (xs : List PyData) (sl sl1 : Slots), Tg.puts ts xs sl = some sl1 → sl1.length = sl.length ∧ ∀ i, i ∉ Tg.ixs ts → sl1[i]? = sl[i]?
  | [], [], sl, sl1, h => by
    unfold Tg.puts at h
    cases h
    exact ⟨rfl, fun _ _ => rfl⟩
  | t :: ts, x :: xs, sl, sl1, h => by
    unfold Tg.puts at h
    obtain ⟨sl2, e1, e2⟩ := Option.bind_eq_some_iff.mp h
    have a := put_keeps t x sl sl2 e1
    have b := puts_keeps ts xs sl2 sl1 e2
    refine ⟨b.1.trans a.1, fun i hi => ?_⟩
    unfold Tg.ixs at hi
    rw [b.2 i fun z => hi (List.mem_append_right _ z), a.2 i fun z => hi (List.mem_append_left _ z)]
  | [], _ :: _, _, _, h => by unfold Tg.puts at h; cases h
  | _ :: _, [], _, _, h => by unfold Tg.puts at h; cases h
end
theorem slr_less {K : PySem.W.Frag} {φ : Num} {st : Store} {H : Hp} {sl sl1 : Slots} {σ : L2.St} {t : Tg} {x : PyData} (hown : ∀ i ∈ t.ix, sl[i]? = some none) (hp : t.put x sl = some sl1) (h : SlR K φ st H sl1 σ) : SlR K φ st H sl σ := by
  obtain ⟨a, b⟩ := put_keeps t x sl sl1 hp
  refine ⟨by rw [← a]; exact h.1, fun i v e => ?_⟩
  refine h.2 i v ?_
  rw [b i fun z => by rw [hown i z] at e; cases e]
  exact e
section
variable {Y : Cx} {T : List Tb} {A : Around}
structure Gst (Y : Cx) (T : List Tb) (fp prot : List Addr) (tn : Nat → Heap → Prop) (φ0 : Num) (st0 : Store) (H0 : Hp) (sl : Slots) (i : Nat) (φ : Num) (st : Store) (σ : L2.St) (H : Hp) (s : Shared) : Prop where
  inv : Inv Y [] σ H s
  tn : tn i s.heap
  fr : ∀ b ∈ fp, FpOk Y [] H b
  pr : ∀ b ∈ prot, FpOk Y [] H b ∧ ∃ o, s.heap.get? b = some o ∧ ∀ v, o.data ≠ .cell v
  at_ : At Y.K Y.mg T φ sl st σ H
  stp : Stp φ0 st0 H0 φ st H
theorem FpOk.pins {X : Cx} {pins : List (Addr × Obj)} {H H' : Hp} {b : Addr} (h : FpOk X [] H b) (hn : H' b = none) (hp : ∀ p ∈ pins, p.1 ≠ b) : FpOk X pins H' b :=
  ⟨hn, h.2.1, h.2.2.1, h.2.2.2.1, h.2.2.2.2.1, fun p hm => (List.mem_append.mp hm).elim (fun z => h.2.2.2.2.2 p (List.mem_append_left _ z)) (hp p)⟩
def Wst (tg : Tg) (c : TM) (e : EM) (sl : Slots) (xs : List PyData) (st0 : Store) (j i : Nat) (st : Store) : Prop := genAt tg c e sl xs st0 j = some (xs.drop i, st)
def gY (Y : Cx) (T : List Tb) (fp prot : List Addr) (tn : Nat → Heap → Prop) (φ0 : Num) (st0 : Store) (H0 : Hp) (sl : Slots) (tg : Tg) (c : TM) (e : EM) (xs : List PyData) (N : Nat) : Protocol := fun m s₀ v s kap =>
  ∃ i i' st st' y x φ' σ' H', Wst tg c e sl xs st0 (N - 1 - m) i st ∧ genNx tg c e sl (xs.drop i) st = .ok (some (y, xs.drop i')) st' ∧ i < i' ∧ i' ≤ xs.length ∧ Gst Y T fp prot tn φ0 st0 H0 sl i' φ' st' σ' H' s ∧ RelV x v ∧ VR Y.K φ' st' H' y x ∧
    (∀ b ∈ prot, ∀ o, s₀.heap.get? b = some o → s.heap.get? b = some o) ∧
    ∀ s'' : Shared, Gst Y T fp prot tn φ0 st0 H0 sl i' φ' st' σ' H' s'' → isOk (genNx tg c e sl (xs.drop i') st') → kap (.send .none) s''
def gR (Y : Cx) (T : List Tb) (fp prot : List Addr) (tn : Nat → Heap → Prop) (φ0 : Num) (st0 : Store) (H0 : Hp) (sl : Slots) (tg : Tg) (c : TM) (e : EM) (xs : List PyData) (N : Nat) (n : Nat) (s₀ s : Shared) : Prop :=
  ∃ i st st' φ' σ' H', Wst tg c e sl xs st0 (N - n) i st ∧ genNx tg c e sl (xs.drop i) st = .ok none st' ∧ Inv Y [] σ' H' s ∧ At Y.K Y.mg T φ' sl st' σ' H' ∧ Stp φ0 st0 H0 φ' st' H' ∧ (∀ b ∈ prot, ∀ o, s₀.heap.get? b = some o → s.heap.get? b = some o) ∧ ∀ b ∈ prot, H' b = none
theorem seg_gen {tgt elt iter : Expr} {ifs : List Expr} {scope : Scope} {pos : Pos} {it : Addr} {fp prot : List Addr} {tn : Nat → Heap → Prop} {J : It} {φ0 : Num} {st0 : Store} {H0 : Hp} {sl : Slots} {tg : Tg} {c : TM} {e : EM} {xs : List PyData}
    (hA : A.over (.compLoop (.GeneratorExp elt [⟨tgt, iter, ifs, 0⟩] scope pos) 0 (.ref it) .none Y.env) [] = Y.A) (hc : Y.calm = true) (hxe : Y.xe = fun _ _ => False) (hco : Y.env.scope.isCoroutine = false)
    (hG : PG Y tgt (tG Y T W0 tg)) (hT : PTs Y ifs (tT Y T W0 c)) (hE : PE Y elt (tE Y T W0 e)) (TT : Turn Y.prog Y.w Y.K tgt J fp it tn) (hJ : ItR Y T φ0 st0 H0 xs J)
    (hdis : ∀ b ∈ fp, b ∉ prot) (hown : ∀ i ∈ tg.ix, sl[i]? = some none) (N : Nat) :
    ∀ (k i n j : Nat) (s₀ s : Shared) (φ : Num) (st : Store) (σ : L2.St) (H : Hp) (i0 : Nat) (sti : Store), xs.length - i = k → i ≤ xs.length → n + j = N → k ≤ n → Gst Y T fp prot tn φ0 st0 H0 sl i φ st σ H s → i0 ≤ i →
      Wst tg c e sl xs st0 j i0 sti → genNx tg c e sl (xs.drop i0) sti = genNx tg c e sl (xs.drop i) st → isOk (genNx tg c e sl (xs.drop i) st) → (∀ b ∈ prot, ∀ o, s₀.heap.get? b = some o → s.heap.get? b = some o) →
      Seg (model Y.prog Y.w) A (fun n s₀ r s₁ => r = .ok .next ∧ gR Y T fp prot tn φ0 st0 H0 sl tg c e xs N n s₀ s₁) (gY Y T fp prot tn φ0 st0 H0 sl tg c e xs N) n s₀
        (.compLoop (.GeneratorExp elt [⟨tgt, iter, ifs, 0⟩] scope pos) 0 (.ref it) .none Y.env)
        ((model Y.prog Y.w).den (.compLoop (.GeneratorExp elt [⟨tgt, iter, ifs, 0⟩] scope pos) 0 (.ref it) .none Y.env)) [] s := by
  intro k
  induction k with
  | zero =>
    intro i n j s₀ s φ st σ H i0 sti hk hi hn hkn g hi0 hw hnx hok hpr
    have hin : i = xs.length := by omega
    show Seg _ A _ _ _ s₀ _ ((compTurn (.GeneratorExp elt [⟨tgt, iter, ifs, 0⟩] scope pos) 0 (.ref it) .none Y.env).onRaise (leaving Y.env)) [] s
    rw [compTurn_gen, Sem.onRaise_eq_wrap]
    refine seg_bind_wrap (wpAny_standAt ?_)
    have Ip : Inv Y (pinsAt prot s.heap) σ H s := g.inv.pinned (pins := []) (fun b hb => (g.pr b hb).1) fun b hb => (g.pr b hb).2
    have hfp : ∀ b ∈ fp, FpOk Y (pinsAt prot s.heap) H b := fun b hb => FpOk.pins (g.fr b hb) (g.fr b hb).1 fun p hp z => hdis b hb (z ▸ (of_pinsAt hp).1)
    refine seg_bind_wrap ?_
    rw [hA]
    refine wpAny_mono (TT.done Y rfl rfl rfl hc i _ s σ H (fun _ _ => False) Ip hfp g.tn ((hJ i φ st H g.stp g.at_.s).2 (by omega))) (fun r s' ⟨e1, I'⟩ => ?_) fun _ _ z => z.elim
    subst e1
    refine seg_end (.ok .next) ⟨rfl, i0, sti, st, φ, σ, H, ?_, ?_, I'.unpinned (pins := []), g.at_, g.stp, fun b hb o eb => ?_, fun b hb => (g.pr b hb).1.1⟩
    · have : N - n = j := by omega
      rw [this]; exact hw
    · rw [hnx, List.drop_of_length_le (by omega)]; rfl
    · exact (I'.pin (b, o) (List.mem_append_right _ (mem_pinsAt hb (hpr b hb o eb)))).1
  | succ k ih =>
    intro i n j s₀ s φ st σ H i0 sti hk hi hn hkn g hi0 hw hnx hok hpr
    have hlt : i < xs.length := by omega
    obtain ⟨goJ, _⟩ := hJ i φ st H g.stp g.at_.s
    obtain ⟨g1, g2⟩ := goJ hlt
    have hdrop : xs.drop i = xs[i] :: xs.drop (i + 1) := List.drop_eq_getElem_cons hlt
    rw [hdrop] at hok hnx
    obtain ⟨sl1, b, st3, k1, k2, k3⟩ := genNx_cons hok
    show Seg _ A _ _ _ s₀ _ ((compTurn (.GeneratorExp elt [⟨tgt, iter, ifs, 0⟩] scope pos) 0 (.ref it) .none Y.env).onRaise (leaving Y.env)) [] s
    rw [compTurn_gen, Sem.onRaise_eq_wrap]
    refine seg_bind_wrap (wpAny_standAt ?_)
    have Ip : Inv Y (pinsAt prot s.heap) σ H s := g.inv.pinned (pins := []) (fun b hb => (g.pr b hb).1) fun b hb => (g.pr b hb).2
    have hfp : ∀ b ∈ fp, FpOk Y (pinsAt prot s.heap) H b := fun b hb => FpOk.pins (g.fr b hb) (g.fr b hb).1 fun p hp z => hdis b hb (z ▸ (of_pinsAt hp).1)
    refine seg_bind_wrap ?_
    rw [hA]
    refine wpAny_mono (TT.item Y rfl rfl rfl hc i _ s σ H (fun _ _ => False) Ip hfp g.tn g1) (fun r s' ⟨u, e1, h4⟩ => ?_) fun _ _ z => z.elim
    subst e1
    refine seg_bind_wrap ?_
    rw [hA]
    refine wpAny_mono h4 (fun _ s5 ⟨x, H5, I5, r5, y5, st5, fr5⟩ => ?_) fun _ _ z => z.elim
    obtain ⟨gr, d, q1, q2⟩ := g2 x H5 y5
    rw [List.getElem?_eq_getElem hlt] at q1
    cases q1
    have r5' := g.at_.s.gr gr
    have s5' : Stp φ st H φ st H5 := gr.step
    have hfp5 : ∀ b ∈ fp, FpOk Y (pinsAt prot s.heap) H5 b := fun b hb => FpOk.pins (g.fr b hb) (fr5 b hb) fun p hp z => hdis b hb (z ▸ (of_pinsAt hp).1)
    have I5' := I5.pinned hfp5 (TT.obj _ _ st5)
    refine seg_bind_wrap ?_
    rw [hA]
    have hxe' : ∀ {e : Value} {s : Shared} {P : Prop}, Y.xe e s → P := fun {e s P} z => by rw [hxe] at z; exact z.elim
    refine wpAny_mono (hG.run _ s5 σ H5 x u (fun σ6 H6 => H6 = H5 ∧ SlR Y.K φ st H5 sl1 σ6) I5' r5 ⟨φ, sl, st, xs[i], sl1, ⟨r5', g.at_.l.mon s5'⟩, q2, k1, fun σ' l' _ => ⟨rfl, l'⟩⟩) (fun _ s6 ⟨σ6, H6, I6, e6, l6⟩ => ?_) fun _ _ z => hxe' z
    subst e6
    refine seg_bind_wrap ?_
    rw [hA]
    refine wpAny_mono (hT.run _ s6 σ6 H6 (fun b' H7 => b' = b ∧ ∃ φ7, StR Y.K Y.mg T φ7 st3 H7 ∧ Stp φ st H φ7 st3 H7 ∧ SlR Y.K φ7 st3 H7 sl1 σ6) I6 ⟨φ, sl1, st, ⟨r5', l6⟩, by rw [k2]; exact fun φ7 H7 s7 r7 => ⟨rfl, φ7, r7, s5'.trans s7, l6.mon s7⟩⟩) (fun ok s7 ⟨H7, I7, e7, φ7, r7, s7', l7⟩ => ?_) fun _ _ z => hxe' z
    subst e7
    have sub : ∀ {φa : Num} {sa : Store} {Ha : Hp} {σa : L2.St}, SlR Y.K φa sa Ha sl1 σa → SlR Y.K φa sa Ha sl σa := fun h => slr_less hown k1 h
    have nxt : ∀ {φ8 : Num} {st8 : Store} {H8 : Hp} {s8 : Shared}, Inv Y (pinsAt prot s.heap ++ pinsAt fp s5.heap) σ6 H8 s8 → StR Y.K Y.mg T φ8 st8 H8 → Stp φ st H φ8 st8 H8 → SlR Y.K φ8 st8 H8 sl1 σ6 → Gst Y T fp prot tn φ0 st0 H0 sl (i + 1) φ8 st8 σ6 H8 s8 := fun {φ8 st8 H8 s8} I8 r8 s8' l8 =>
      ⟨(I8.unpinned (pins := pinsAt prot s.heap)).unpinned (pins := []), TT.keep _ _ _ st5 fun b hb o eb => (I8.pin (b, o) (List.mem_append_right _ (List.mem_append_right _ (mem_pinsAt hb eb)))).1,
        fun b hb => by
          obtain ⟨o, eb, _⟩ := TT.obj _ _ st5 b hb
          exact FpOk.pins (g.fr b hb) (I8.pin (b, o) (List.mem_append_right _ (List.mem_append_right _ (mem_pinsAt hb eb)))).2.1 fun _ h => (by cases h),
        fun b hb => by
          obtain ⟨f, o, eb, dc⟩ := g.pr b hb
          have z := I8.pin (b, o) (List.mem_append_right _ (List.mem_append_left _ (mem_pinsAt hb eb)))
          exact ⟨FpOk.pins f z.2.1 (fun _ h => by cases h), o, z.1, dc⟩,
        ⟨r8, sub l8⟩, g.stp.trans s8'⟩
    have prn : ∀ {H8 : Hp} {s8 : Shared}, Inv Y (pinsAt prot s.heap ++ pinsAt fp s5.heap) σ6 H8 s8 → ∀ b ∈ prot, ∀ o, s₀.heap.get? b = some o → s8.heap.get? b = some o := fun {H8 s8} I8 b hb o eb =>
      (I8.pin (b, o) (List.mem_append_right _ (List.mem_append_left _ (mem_pinsAt hb (hpr b hb o eb))))).1
    rcases k3 with ⟨rfl, v, st4, k4, k5⟩ | ⟨rfl, k5⟩
    · obtain ⟨n', rfl⟩ : ∃ n', n = n' + 1 := ⟨n - 1, by omega⟩
      simp only [if_true]
      have hy : ∀ v, yieldOut Y.env v = yieldValue v := fun v => by simp only [yieldOut, hco, Bool.false_eq_true, if_false]
      simp only [hy]
      rw [Sem.bind_eq_wrap', Sem.bind_eq_wrap', Sem.wrap_wrap, Sem.wrap_wrap]
      refine seg_wrap ?_
      rw [hA]
      refine wpAny_mono (hE.run _ s7 σ6 H7 (fun x8 H8 => ∃ φ8, StR Y.K Y.mg T φ8 st4 H8 ∧ Stp φ7 st3 H7 φ8 st4 H8 ∧ VR Y.K φ8 st4 H8 v x8) I7 ⟨φ7, sl1, st3, ⟨r7, l7⟩, by rw [k4]; exact fun φ8 H8 u8 s8 r8 v8 => ⟨φ8, r8, s8, v8⟩⟩)
        (fun y8 s8 ⟨x8, H8, I8, rel8, φ8, r8, s8', v8⟩ => ?_) fun _ _ z => hxe' z
      have g8 := nxt I8 r8 (s7'.trans s8') (l7.mon s8')
      have w8 : Wst tg c e sl xs st0 (j + 1) (i + 1) st4 := by
        unfold Wst
        unfold genAt
        rw [show genAt tg c e sl xs st0 j = _ from hw]
        simp only [hnx, k5]
      refine seg_at (seg_yield rfl rfl rfl ⟨i0, i + 1, sti, st4, v, x8, φ8, σ6, H8, ?_, by rw [hnx, k5], by omega, hlt, g8, rel8, v8, prn I8, fun s'' g'' ok'' => ?_⟩)
      · have : N - 1 - n' = j := by omega
        rw [this]; exact hw
      · exact seg_again rfl (ih (i + 1) n' (j + 1) s'' s'' φ8 st4 σ6 H8 (i + 1) st4 (by omega) hlt (by omega) (by omega) g'' (Nat.le_refl _) w8 rfl ok'' fun _ _ _ h => h)
    · simp only [Bool.false_eq_true, if_false]
      refine seg_again rfl (ih (i + 1) n j s₀ s7 φ7 st3 σ6 H7 i0 sti (by omega) hlt hn (by omega) (nxt I7 r7 s7' l7) (by omega) hw (hnx.trans k5) (by rw [← k5]; exact hok) (prn I7))
end
end TL
end

section
set_option Elab.async false
set_option linter.all false
set_option maxRecDepth 100000
set_option maxHeartbeats 1000000
set_option autoImplicit false
namespace TL
open PySem L2
open PyProof.Rows (AllBare)
section
variable {Y : Cx} {T : List Tb} {fp prot : List Addr} {tn : Nat → Heap → Prop} {φ0 : Num} {st0 : Store} {H0 : Hp} {sl : Slots} {tg : Tg} {c : TM} {e : EM} {xs : List PyData} {N : Nat}
theorem hok_but {P : Program} {w : World} {H : Hp} {h h' : Heap} {cs : List Addr} (x : HOk P w H h) (hn : ∀ b ∈ cs, H b = none) (k : ∀ b o, b ∉ cs → h.get? b = some o → h'.get? b = some o) : HOk P w H h' := fun a o e => by
  have na : a ∉ cs := fun z => by rw [hn a z] at e; cases e
  refine (x a o e).stay (fun b u hb q => k b u (fun z => ?_) q) (fun _ h => h) (fun _ _ h => h)
  rcases hb with hb | hb
  · exact na (hb ▸ z)
  · rw [hn b z] at hb; cases hb
theorem un_but {fs : List Addr} {H : Hp} {h h' : Heap} {cs : List Addr} (k : ∀ b o, b ∉ cs → h.get? b = some o → h'.get? b = some o) : Un fs cs H H h h' :=
  ⟨fun b o e _ _ hb => k b o hb e, fun b o e _ _ hb => ⟨o.slots, k b o hb e⟩, fun _ _ _ n _ => n, fun b o e hb => ⟨o, k b o hb e⟩, fun _ _ h => h, fun _ _ _ h => h, fun _ ps h => ⟨#[], by rw [h]; simp⟩⟩
theorem Gst.mv {P : Program} {w : World} {K : PySem.W.Frag} {tgt : Expr} {J : It} {it : Addr} {i : Nat} {φ : Num} {st : Store} {σ : L2.St} {H : Hp} {s s' : Shared} {cs : List Addr} (TT : Turn P w K tgt J fp it tn)
    (g : Gst Y T fp prot tn φ0 st0 H0 sl i φ st σ H s) (hcs : ∀ b ∈ cs, b ∈ prot) (hdis : ∀ b ∈ fp, b ∉ prot) (hos : s'.os = s.os) (hb : AllBare s'.gens)
    (hk : ∀ b o, b ∉ cs → s.heap.get? b = some o → s'.heap.get? b = some o) (hc : ∀ b ∈ cs, ∃ o, s'.heap.get? b = some o ∧ ∀ v, o.data ≠ .cell v) : Gst Y T fp prot tn φ0 st0 H0 sl i φ st σ H s' := by
  have I := g.inv
  refine ⟨I.call' hos (un_but hk) (hok_but I.hok (fun b hb => (g.pr b (hcs b hb)).1.1) hk) hb fun b hb => ?_, TT.keep _ _ _ g.tn fun b hb o q => hk b o (fun z => hdis b hb (hcs b z)) q, g.fr, fun b hb => ⟨(g.pr b hb).1, ?_⟩, g.at_, g.stp⟩
  · obtain ⟨f0, f1, f2, f3, f4, f5⟩ := (g.pr b (hcs b hb)).1
    exact ⟨f3, f1, f4, f5⟩
  · by_cases z : b ∈ cs
    · exact hc b z
    · obtain ⟨_, o, q, d⟩ := g.pr b hb
      exact ⟨o, hk b o z q, d⟩
theorem bare_set {s : Shared} {g : Nat} {gs : GenState} (h : AllBare s.gens) (hb : gs.bare = true) : AllBare (s.setGen g gs).gens := fun y hy => by
  unfold Shared.setGen at hy
  rcases Array.mem_or_eq_of_mem_setIfInBounds hy with z | z
  · exact h y z
  · rw [z]; exact hb
def Goer (Y : Cx) (T : List Tb) (A : Around) (fp prot : List Addr) (tn : Nat → Heap → Prop) (φ0 : Num) (st0 : Store) (H0 : Hp) (sl : Slots) (tg : Tg) (c : TM) (e : EM) (xs : List PyData) (N : Nat) (gs : GenState) (i n : Nat) (φ : Num) (st : Store) (σ : L2.St) (H : Hp) : Prop :=
  ∀ s'' : Shared, Gst Y T fp prot tn φ0 st0 H0 sl i φ st σ H s'' → isOk (genNx tg c e sl (xs.drop i) st) →
    gs.Goes (model Y.prog Y.w) A (fun n s₀ r s₁ => r = .ok .next ∧ gR Y T fp prot tn φ0 st0 H0 sl tg c e xs N n s₀ s₁) (gY Y T fp prot tn φ0 st0 H0 sl tg c e xs N) n (.send .none) s''
structure Wk (Y : Cx) (T : List Tb) (A : Around) (fp prot : List Addr) (tn : Nat → Heap → Prop) (φ0 : Num) (st0 : Store) (H0 : Hp) (sl : Slots) (tg : Tg) (c : TM) (e : EM) (xs : List PyData) (N : Nat) (a : Addr) (g : Nat) (i j n : Nat) (φ : Num) (st : Store) (σ : L2.St) (H : Hp) (s : Shared) : Prop where
  sum : n + j = N
  rest : xs.length - i < n
  le : i ≤ xs.length
  w : Wst tg c e sl xs st0 j i st
  sg : Gst Y T fp prot tn φ0 st0 H0 sl i φ st σ H s
  gs : ∃ gs, s.gens[g]? = some gs ∧ Goer Y T A fp prot tn φ0 st0 H0 sl tg c e xs N gs i n φ st σ H
  gen : s.heap.IsGen a g
  mem : a ∈ prot
def NxP (Y : Cx) (T : List Tb) (A : Around) (fp prot : List Addr) (tn : Nat → Heap → Prop) (φ0 : Num) (st0 : Store) (H0 : Hp) (sl : Slots) (tg : Tg) (c : TM) (e : EM) (xs : List PyData) (N : Nat) (a : Addr) (g : Nat) (i j n : Nat) (s : Shared) (r : Option Value) (s' : Shared) : R (Option (Val × List PyData)) → Prop
  | .ok none st' => r = none ∧ ∃ φ' σ' H', Inv Y [] σ' H' s' ∧ At Y.K Y.mg T φ' sl st' σ' H' ∧ Stp φ0 st0 H0 φ' st' H' ∧ (∀ b ∈ prot, ∀ o, s.heap.get? b = some o → s'.heap.get? b = some o) ∧ ∀ b ∈ prot, H' b = none
  | .ok (some (y, ys)) st' => ∃ v x i' φ' σ' H', r = some v ∧ RelV x v ∧ VR Y.K φ' st' H' y x ∧ ys = xs.drop i' ∧ i < i' ∧ Wk Y T A fp prot tn φ0 st0 H0 sl tg c e xs N a g i' (j + 1) (n - 1) φ' st' σ' H' s' ∧ ∀ b ∈ prot, ∀ o, s.heap.get? b = some o → s'.heap.get? b = some o
  | _ => False
theorem drop_inj {α : Type} {xs : List α} {i j : Nat} (hi : i ≤ xs.length) (hj : j ≤ xs.length) (h : xs.drop i = xs.drop j) : i = j := by
  have := congrArg List.length h
  rw [List.length_drop, List.length_drop] at this
  omega
theorem gen_next {P : Program} {w : World} {K : PySem.W.Frag} {tgt : Expr} {J : It} {it a : Addr} {A : Around} {g i j n : Nat} {φ : Num} {st : Store} {σ : L2.St} {H : Hp} {s : Shared} {E : Value → Shared → Prop} (TT : Turn P w K tgt J fp it tn) (hdis : ∀ b ∈ fp, b ∉ prot)
    (hh : A.handled = none) (hroom : A.depth < recursionLimit) (W : Wk Y T A.in1 fp prot tn φ0 st0 H0 sl tg c e xs N a g i j n φ st σ H s) (ok : isOk (genNx tg c e sl (xs.drop i) st)) :
    wpAny (model Y.prog Y.w) A (pyNext (.ref a)) (fun r s' => NxP Y T A.in1 fp prot tn φ0 st0 H0 sl tg c e xs N a g i j n s r s' (genNx tg c e sl (xs.drop i) st)) E s := by
  obtain ⟨gs, hgs, hgo⟩ := W.gs
  have hsz : g + 1 ≤ s.gens.size := (Array.getElem?_eq_some_iff.mp hgs).1
  have g1 : Gst Y T fp prot tn φ0 st0 H0 sl i φ st σ H (s.setGen g .running) := W.sg.mv (cs := []) TT (fun _ h => by cases h) hdis rfl (bare_set W.sg.inv.bare rfl) (fun _ _ _ h => h) (fun _ h => by cases h)
  have hn : 0 < n := by have := W.rest; omega
  have hs := W.sum
  refine GenW.wpAny_gsz hsz ?_
  refine wpAny_pyNext_genexpQ (P := gR Y T fp prot tn φ0 st0 H0 sl tg c e xs N) hh W.sg.inv.nolimit hroom W.gen hgs (hgo _ g1 ok) (fun v s₁ gs' hb hv hsz1 => ?_) (fun s₁ hp h' hk hsz1 => ?_)
  · obtain ⟨i0, i', sti, st', y, x, φ', σ', H', w0, hnx, lt, le, g', rel, vr, pr, kap⟩ := hv
    have ej : N - 1 - (n - 1) = j := by omega
    rw [ej] at w0
    have ww := (show genAt tg c e sl xs st0 j = _ from w0).symm.trans W.w
    have e1 : xs.drop i0 = xs.drop i := congrArg Prod.fst (Option.some.inj ww)
    have e2 : sti = st := congrArg Prod.snd (Option.some.inj ww)
    subst e2
    have e3 := drop_inj (by omega) W.le e1
    subst e3
    have hlen1 : g < s₁.gens.size := by
      have : (s₁.setGen g gs').gens.size = s₁.gens.size := GenW.setGen_size _ _ _
      have h9 : g + 1 ≤ (s₁.setGen g gs').gens.size := hsz1
      omega
    rw [hnx]
    refine ⟨v, x, i', φ', σ', H', rfl, rel, vr, rfl, lt, ⟨by omega, by have := W.rest; omega, le, ?_, g'.mv (cs := []) TT (fun _ h => by cases h) hdis rfl (bare_set g'.inv.bare hb) (fun _ _ _ h => h) (fun _ h => by cases h), ⟨gs', by simp [Shared.setGen, hlen1], fun s'' g'' ok'' => ?_⟩, ?_, W.mem⟩, pr⟩
    · show genAt tg c e sl xs st0 (j + 1) = _
      unfold genAt
      rw [show genAt tg c e sl xs st0 j = _ from W.w]
      simp only [hnx]
    · have := kap s'' g'' ok''
      obtain ⟨m, rfl⟩ : ∃ m, n = m + 1 := ⟨n - 1, by omega⟩
      exact this
    · obtain ⟨o, nm, qn, ho, q⟩ := W.gen
      exact ⟨o, nm, qn, pr a W.mem o ho, q⟩
  · obtain ⟨i0, sti, st', φ', σ', H', w0, hnx, I', at', s', pr, nn⟩ := hp
    have ej : N - n = j := by omega
    rw [ej] at w0
    have ww := (show genAt tg c e sl xs st0 j = _ from w0).symm.trans W.w
    have e1 : xs.drop i0 = xs.drop i := congrArg Prod.fst (Option.some.inj ww)
    have e2 : sti = st := congrArg Prod.snd (Option.some.inj ww)
    subst e2
    rw [← e1, hnx]
    exact ⟨rfl, φ', σ', H', I'.call' rfl (un_but (cs := []) fun b o _ q => hk b o q) (hok_but (cs := []) I'.hok (fun _ h => by cases h) fun b o _ q => hk b o q) (bare_set I'.bare rfl) (fun _ h => by cases h), at', s', fun b hb o q => hk b o (pr b hb o q), nn⟩
def truthV : Val → Option Bool
  | .d (.bool b) => some b
  | _ => none
def anyG (tg : Tg) (c : TM) (e : EM) (sl : Slots) : List PyData → Store → R Bool
  | [], st => .ok false st
  | x :: xs, st =>
    match tg.put x sl with
    | none => .stuck
    | some sl1 => (c sl1 st).bind fun b st1 => bif b then (e sl1 st1).bind fun v st2 =>
        match truthV v with
        | some true => .ok true st2
        | some false => anyG tg c e sl xs st2
        | none => .stuck
      else anyG tg c e sl xs st1
theorem anyG_nx {tg : Tg} {c : TM} {e : EM} {sl : Slots} : ∀ (xs : List PyData) (st : Store), anyG tg c e sl xs st = (genNx tg c e sl xs st).bind fun o st1 =>
    match o with
    | none => .ok false st1
    | some (v, ys) =>
      match truthV v with
      | some true => .ok true st1
      | some false => anyG tg c e sl ys st1
      | none => .stuck
  | [], st => rfl
  | x :: xs, st => by
    rw [anyG, genNx]
    cases tg.put x sl with
    | none => rfl
    | some sl1 =>
      simp only
      cases c sl1 st with
      | exn _ _ => rfl
      | stuck => rfl
      | ok b st1 =>
        simp only [R.bind_ok]
        cases b with
        | false => exact anyG_nx xs st1
        | true =>
          simp only [cond_true]
          cases e sl1 st1 <;> rfl
def EndP (Y : Cx) (T : List Tb) (φ0 : Num) (st0 : Store) (H0 : Hp) (sl : Slots) (st' : Store) (s' : Shared) : Prop := ∃ φ' σ' H', Inv Y [] σ' H' s' ∧ At Y.K Y.mg T φ' sl st' σ' H' ∧ Stp φ0 st0 H0 φ' st' H'
theorem any_loop {P : Program} {w : World} {K : PySem.W.Frag} {tgt : Expr} {J : It} {it a : Addr} {A : Around} {g : Nat} (TT : Turn P w K tgt J fp it tn) (hdis : ∀ b ∈ fp, b ∉ prot) (hh : A.handled = none) (hroom : A.depth < recursionLimit) {R0 : Result → Shared → Prop} {b : Bool} {stF : Store}
    (hR : ∀ s', EndP Y T φ0 st0 H0 sl stF s' → R0 (.ok (.ret (.bool b))) s') :
    ∀ (q i j n : Nat) (φ : Num) (st : Store) (σ : L2.St) (H : Hp) (s : Shared), xs.length - i = q → Wk Y T A.in1.in1 fp prot tn φ0 st0 H0 sl tg c e xs N a g i j n φ st σ H s → anyG tg c e sl (xs.drop i) st = .ok b stF →
      codeAny (model Y.prog Y.w) A (.builtin "any.loop" ⟨[.ref a], []⟩) R0 s := by
  intro q
  induction q using Nat.strongRecOn with
  | ind q ih =>
    intro i j n φ st σ H s hq W ha
    refine codeAny_builtin F.entry_any_loop ?_
    rw [Around.under_plainId F.plain_any_loop _]
    show wpAny _ A.in1 (pyNext (.ref a) >>= _) _ _ s
    rw [anyG_nx] at ha
    have ok : isOk (genNx tg c e sl (xs.drop i) st) := by
      cases hnx : genNx tg c e sl (xs.drop i) st with
      | ok _ _ => trivial
      | exn _ _ => rw [hnx] at ha; cases ha
      | stuck => rw [hnx] at ha; cases ha
    refine wpAny_bind (wpAny_mono (gen_next (E := fun _ _ => False) TT hdis hh hroom W ok) (fun r s' hp => ?_) fun _ _ z => z.elim)
    cases hnx : genNx tg c e sl (xs.drop i) st with
    | exn _ _ => rw [hnx] at ha; cases ha
    | stuck => rw [hnx] at ha; cases ha
    | ok o st1 =>
      rw [hnx] at ha hp
      cases o with
      | none =>
        obtain ⟨rfl, φ', σ', H', I', a', s1, _, _⟩ := hp
        simp only [R.bind_ok] at ha
        cases ha
        exact wpAny_bind (wpAny_rule (wpAny_pure (hR s' ⟨φ', σ', H', I', a', s1⟩)))
      | some vy =>
        obtain ⟨y, ys⟩ := vy
        obtain ⟨v, x, i', φ', σ', H', rfl, rel, vr, rfl, lt, W', _⟩ := hp
        simp only [R.bind_ok] at ha
        cases y with
        | box _ => cases ha
        | d y =>
          cases y with
          | bool k =>
            have ex : x = .bl k := DR.d_bool (K := Y.K) (O := Av φ' st1) (H := H') vr
            subst ex
            cases rel
            refine wpAny_bind (wpAny_holding (wpAny_truthy_bool ?_))
            refine wpAny_bind (wpAny_letGo ?_)
            cases k with
            | true =>
              simp only [truthV] at ha
              cases ha
              simp only [if_true]
              exact wpAny_bind (wpAny_rule (wpAny_pure (hR s' ⟨φ', σ', H', W'.sg.inv, W'.sg.at_, W'.sg.stp⟩)))
            | false =>
              simp only [truthV] at ha
              simp only [Bool.false_eq_true, if_false]
              exact wpAny_pure ⟨plainId_quiet F.plain_any_loop _, ih (xs.length - i') (by have := W'.le; omega) i' (j + 1) (n - 1) φ' st1 σ' H' s' rfl W' ha⟩
          | _ => cases ha
end
end TL
end

section
set_option Elab.async false
set_option linter.all false
set_option maxRecDepth 100000
set_option maxHeartbeats 1000000
set_option autoImplicit false
namespace TL
open PySem L2
open PyProof.Rows (AllBare)
section
variable {Y : Cx} {A : Around} {R : GenEnd} {P : Protocol}
theorem over_gen {elt iter tgt : Expr} {ifs : List Expr} {scope : Scope} {pos : Pos} {it acc : Value} {env : Env} : A.over (.compLoop (.GeneratorExp elt [⟨tgt, iter, ifs, 0⟩] scope pos) 0 it acc env) [] = A.deeper env := by
  obtain ⟨hd, d, fr, gs, u⟩ := A
  simp [Around.over, Around.deeper, marksOver, frameCount, unitsOf, envsOf, guardsOf, pushEnvs, pushGuards, Code.envs, Code.env?, Code.isFrame, Code.guards, Code.isGuard, Code.weight, Code.frames, Code.isCreation, Code.isCaller, Code.cUnits, Code.isInlined]
theorem seg_start {tgt elt iter : Expr} {ifs : List Expr} {scope : Scope} {pos : Pos} {it : Addr} {K : PySem.W.Frag} {J : It} {fp : List Addr} {tn : Nat → Heap → Prop} {n : Nat} {s₀ s : Shared} (TT : Turn Y.prog Y.w K tgt J fp it tn) (htn : tn 0 s.heap)
    (loop : Seg (model Y.prog Y.w) A R P n s₀ (.compLoop (.GeneratorExp elt [⟨tgt, iter, ifs, 0⟩] scope pos) 0 (.ref it) .none Y.env) ((model Y.prog Y.w).den (.compLoop (.GeneratorExp elt [⟨tgt, iter, ifs, 0⟩] scope pos) 0 (.ref it) .none Y.env)) [] s) :
    Seg (model Y.prog Y.w) A R P n s₀ (.compStart (.GeneratorExp elt [⟨tgt, iter, ifs, 0⟩] scope pos) 0 (.ref it) .none Y.env) ((model Y.prog Y.w).den (.compStart (.GeneratorExp elt [⟨tgt, iter, ifs, 0⟩] scope pos) 0 (.ref it) .none Y.env)) [] s := by
  show Seg _ A _ _ _ s₀ _ ((compStart (.GeneratorExp elt [⟨tgt, iter, ifs, 0⟩] scope pos) 0 (.ref it) .none Y.env).onRaise (leaving Y.env)) [] s
  unfold compStart
  rw [Sem.onRaise_eq_wrap]
  show Seg _ A _ _ _ s₀ _ ((ask >>= _).wrap _ _ _ _) [] s
  refine seg_bind_wrap (wpAny_askSetting ?_)
  split
  · exact seg_again rfl loop
  · first
      | exact seg_bind_wrap (wpAny_rule (seg_bind_wrap (wpAny_standAt (seg_bind_wrap (TT.self _ 0 s _ _ htn (seg_again rfl loop))))))
      | (refine seg_bind_wrap (wpAny_rule ?_); show Seg _ A _ _ _ s₀ _ ((standAt iter.pos >>= _).wrap _ _ _ _) [] s; exact seg_bind_wrap (wpAny_standAt (seg_bind_wrap (TT.self _ 0 s _ _ htn (seg_again rfl loop)))))
end
section
variable {X : Cx} {T : List Tb} {pins : List (Addr × Obj)} {σ : L2.St} {H : Hp} {s : Shared}
theorem clo_cell {scope : Scope} {own : List Nat} (I : Inv X pins σ H s) (S : GnS X.N X.env.scope scope own) {y : Str} {c : Addr} (e : (cloFrom X.env.cells scope.names []).lookup y = some c) : X.env.cells.lookup y = some c := by
  have hfree : ∀ y ∈ scope.names, y.2 = .free → ∃ c, X.env.cells.lookup y.1 = some c := fun y hy e => by
    rcases S.free y hy e with k | k
    · exact I.ok.has _ (.inl k)
    · exact I.ok.has _ (.inr k)
  rcases cloFrom_mem (PySem.mem_of_lookup e) with hm | ⟨h1, h2⟩
  · cases hm
  · obtain ⟨c1, hc⟩ := hfree _ h1 rfl
    have hc : X.env.cells.lookup y = some c1 := hc
    have e2 : c = c1 := by
      rw [h2, hc] <;> rfl
    rw [e2]
    exact hc
structure Made (X : Cx) (T : List Tb) (pins : List (Addr × Obj)) (σ : L2.St) (tgt elt iter : Expr) (ifs : List Expr) (scope : Scope) (gpos : Pos) (own : List Nat) (xs : List PyData) (φ : Num) (st : Store) (H : Hp) (st4 : Store)
    (a : Addr) (s5 : Shared) (s4 : Shared) (H4 : Hp) (φ4 : Num) (fp : List Addr) (tn : Nat → Heap → Prop) (J : It) (it : Addr) (code : Value) : Prop where
  inv4 : Inv X pins σ H4 s4
  turn : Turn X.prog X.w X.K tgt J fp it tn
  fp4 : ∀ b ∈ fp, FpOk X pins H4 b ∧ b < s4.heap.objs.size
  str : StR X.K X.mg T φ4 st4 H4
  stp : Stp φ st H φ4 st4 H4
  itr : ItR X T φ4 st4 H4 xs J
  inv5 : ∀ A : Around, A.frames = X.A.frames → A.handled = none → Inv (genCx X A s4 H4 (genEnv scope (cloFrom X.env.cells scope.names []) s4.heap.objs.size code builtinsNs X.env) fp) [] (wipe σ own) H4 s5
  tn5 : tn 0 s5.heap
  a4 : a = s4.heap.objs.size + 1
  gen : s5.heap.IsGen a s4.gens.size
  cells : ∀ y c, (cloFrom X.env.cells scope.names []).lookup y = some c → c < s4.heap.objs.size
  gens : s5.gens[s4.gens.size]? = some (.fresh (.compStart (.GeneratorExp elt [⟨tgt, iter, ifs, 0⟩] scope gpos) 0 (.ref it) .none (genEnv scope (cloFrom X.env.cells scope.names []) s4.heap.objs.size code builtinsNs X.env)))
theorem gen_made {W : XK} {t : Tb} {itm : IM} {tgt elt iter : Expr} {ifs : List Expr} {scope : Scope} {gpos : Pos} {own : List Nat} {φ : Num} {sl : Slots} {st : Store} {Q : Value → Shared → Prop} (I : Inv X pins σ H s) (S : GnS X.N X.env.scope scope own) (ho : Home X T t) (hnm : t.nm gpos.line gpos.col = none) (hh : X.A.handled = none) (hroom : X.A.depth < recursionLimit)
    (hi : TL.I X T W tgt iter itm) (a0 : At X.K X.mg T φ sl st σ H)
    (hx : ∀ c st', itm sl st = .exn c st' → ∀ φ' H' C, Stp φ st H φ' st' H' → StR X.K X.mg T φ' st' H' → X.mg c = some (.ref C) → W (.ref C) none H') (hns : itm sl st ≠ .stuck)
    (hs : ∀ x, genFold iter X.env x = pure x)
    (hQ : ∀ xs st4 a s5 s4 H4 φ4 fp tn J it code, itm sl st = .ok xs st4 → Made X T pins σ tgt elt iter ifs scope gpos own xs φ st H st4 a s5 s4 H4 φ4 fp tn J it code → Q (.ref a) s5) :
    wpAny (model X.prog X.w) X.A (eval (.GeneratorExp elt [⟨tgt, iter, ifs, 0⟩] scope gpos) X.env) Q X.xe s := by
  obtain ⟨⟨c, TB, hcode⟩, htT, hone⟩ := ho
  have hfree : ∀ y ∈ scope.names, y.2 = .free → ∃ c, X.env.cells.lookup y.1 = some c := fun y hy e => by
    rcases S.free y hy e with k | k
    · exact I.ok.has _ (.inl k)
    · exact I.ok.has _ (.inr k)
  refine wpAny_GeneratorExp_make S.co (closure_ok hfree) S.cell S.dot S.kind hroom ?_ hs
  have run := hi.run.run pins s σ H (fun J H2 => ∃ xs st2 φ2, itm sl st = .ok xs st2 ∧ Stp φ st H φ2 st2 H2 ∧ StR X.K X.mg T φ2 st2 H2 ∧ ItR X T φ2 st2 H2 xs J) I ⟨φ, sl, st, a0, by
    cases e : itm sl st with
    | ok xs st2 => exact fun φ1 H1 J s1 r1 j1 => ⟨xs, st2, φ1, rfl, s1, r1, j1⟩
    | exn c st' => exact hx c st' e
    | stuck => exact (hns e).elim⟩
  refine wpAny_mono run (fun xv s1 h1 => wpAny_mono h1 (fun itv s2 hp => ?_) fun _ _ z => z) fun _ _ z => z
  obtain ⟨it, fp, tn, J, H2, rfl, I2, TT, tn2, hf2, xs, st2, φ2, e2, stp2, str2, itr2⟩ := hp
  refine ⟨I2.nolimit, ?_⟩
  obtain ⟨ps, hP, trip, nms⟩ := str2.tabs t htT
  have hPs : s2.heap.get? t.P = some { cls := .none, data := .fields ps } := I2.hok t.P _ hP
  have cd : PySem.W.CodeHd s2.heap c t.P := TB.code.keeps I2.bk
  have cont : ∀ (code : Value) (H3 : Hp) (s3 : Shared), Inv X pins σ H3 s3 → Ex0 H2 H3 → (∀ t' ∈ T, TabN H3 t') → tn 0 s3.heap → (∀ b ∈ fp, H3 b = none) → s3.gens = s2.gens →
      wpAny (model X.prog X.w) X.A (builtinsFor X.env.globals X.env.builtins) (fun bi s₄ => ∀ h', h'.Ns s₄.heap.objs.size (fun y => if y = (".0" : Str) then some (.ref it) else none) → Heap.SameBut s₄.heap.objs.size (s₄.heap.push { cls := .type "frame", data := .dict #[] }) h' →
          Q (.ref h'.objs.size) { s₄ with
            gens := s₄.gens.push (.fresh (.compStart (.GeneratorExp elt [⟨tgt, iter, ifs, 0⟩] scope gpos) 0 (.ref it) .none (genEnv scope (cloFrom X.env.cells scope.names []) s₄.heap.objs.size code bi X.env))),
            toks := s₄.toks + 1 + 1 + 1,
            heap := h'.push { cls := .type "generator", data := .fields #[.int s₄.gens.size 0, .str "<genexpr>" (s₄.toks + 1), .str (X.env.qual ++ "<genexpr>") (s₄.toks + 1 + 1)] } }) X.xe s3 := by
    intro code H3 s3 I3 ex tabs tn3 hf3 hgens
    obtain ⟨bm, ob, e1, e2', e3, e4, e5, e6, e7, e8⟩ := TB.bm
    refine wpAny_builtinsFor (m := X.mg) (by rw [I3.ok.glob]; exact I3.mod.glob.keeps I3.bk) e1 e2' (I3.bk _ _ e5) e6 e7 e8 ?_
    intro h' hn' hs'
    have hsz : h'.objs.size = s3.heap.objs.size + 1 := by rw [hs'.1, Heap.size_push]
    have keep' : ∀ b o, s3.heap.get? b = some o → h'.get? b = some o := fun b o e => hs'.extBut b o (Nat.ne_of_lt (Heap.lt_size e)) (Heap.get?_push_of_some _ e)
    have lt : ∀ b ∈ fp, b < s3.heap.objs.size := fun b hb => let ⟨o, e, _⟩ := TT.obj _ _ tn3 b hb; Heap.lt_size e
    have fp3 : ∀ b ∈ fp, FpOk X pins H3 b ∧ b < s3.heap.objs.size := fun b hb => ⟨⟨hf3 b hb, (hf2 b hb).2⟩, lt b hb⟩
    refine hQ xs st2 _ _ s3 H3 φ2 fp tn J it code e2 ⟨I3, TT, fp3, ex.str str2 tabs, stp2.trans ex.stp, fun i φ st H s => itr2 i φ st H (ex.stp.trans s), fun A hA hd => ?_, TT.keep _ _ _ tn3 fun b hb o e => Heap.get?_push_of_some _ (keep' b o e), hsz, ⟨_, _, _, Heap.get?_push_size _ rfl, rfl, rfl, rfl⟩, fun y c e => by
      obtain ⟨v, q⟩ := I3.cell y c (clo_cell I S e)
      exact q.lt, Array.getElem?_push_size ..⟩
    exact gen_start (A := A) (m := fun y => if y = (".0" : Str) then some (.ref it) else none) I3 S hA hd rfl fp3 (hn'.push _) (fun b o e => Heap.get?_push_of_some _ (keep' b o e)) rfl (I3.bare.push rfl)
  cases found : codeAmong gpos ps.toList with
  | some cv =>
    refine wpAny_genexprCode_hit hcode (cd.code hPs trip) found ?_
    exact cont cv H2 s2 I2 ⟨fun _ _ e _ => e, fun _ e => e⟩ str2.tabs tn2 (fun b hb => (hf2 b hb).1) rfl
  | none =>
    refine wpAny_genexprCodeX hcode (cd.code hPs trip) (cd.tab hPs) found fun c' h' tk hx' hge hlt hco' _ htab' _ => ?_
    have I3 := GxR.inv_tab (more := #[rawInt gpos.line, rawInt gpos.col, .ref c']) (h' := h') (g' := s2.gens) (d' := s2.drawn) (t' := tk) I2 hP (fun b o hb e => hx' b o hb e) htab'.2 I2.bare
    have eL : (ps ++ #[rawInt gpos.line, rawInt gpos.col, .ref c']).toList = ps.toList ++ [rawInt gpos.line, rawInt gpos.col, .ref c'] := by simp
    have neP : ∀ b ∈ fp, b ≠ t.P := fun b hb z => by have := (hf2 b hb).1; rw [z, hP] at this; cases this
    have ex : Ex0 H2 (upd H2 t.P (.tbl (ps ++ #[rawInt gpos.line, rawInt gpos.col, .ref c']))) := by
      refine ⟨fun a o e nt => ?_, fun a e => ?_⟩
      · rw [upd_ne (show a ≠ t.P from fun z => by rw [z, hP] at e; cases e; cases nt)]
        exact e
      · by_cases h2 : a = t.P
        · rw [h2, upd_same]; exact fun z => nomatch z
        · rw [upd_ne h2]; exact e
    refine cont (.ref c') _ _ I3 ex (fun t' ht' => ?_) (TT.keep _ _ _ tn2 fun b hb o e => hx' b o (neP b hb) e) (fun b hb => by rw [upd_ne (neP b hb)]; exact (hf2 b hb).1) rfl
    by_cases hp : t'.P = t.P
    · rw [hone t' ht' hp]
      refine ⟨_, upd_same, by rw [eL]; exact PySem.TriplesOk_snoc _ _ _ _ trip, fun pos' cv q e1 e2 => ?_⟩
      rw [eL] at e1
      rcases among_app2 _ trip e1 with w | ⟨w, z1, z2⟩
      · obtain ⟨c0, r1, r2⟩ := nms pos' cv q w e2
        exact ⟨c0, r1, ex.keep _ _ r2 rfl⟩
      · rw [z1, z2, hnm] at e2
        cases e2
    · obtain ⟨ps', a1, a2, a3⟩ := str2.tabs t' ht'
      refine ⟨ps', by rw [upd_ne hp]; exact a1, a2, fun pos' cv q e1 e2 => ?_⟩
      obtain ⟨c0, r1, r2⟩ := a3 pos' cv q e1 e2
      exact ⟨c0, r1, ex.keep _ _ r2 rfl⟩
end
section
variable {X : Cx} {T : List Tb} {pins : List (Addr × Obj)} {σ : L2.St} {H : Hp} {s : Shared} {D : DI} {k : Nat} {W : XK}
theorem Cin.gn {A : Around} {H : Hp} {scope : Scope} {genv : Env} {fp : List Addr} (ci : Cin D (k + 1) X) (hsc : genv.scope = scope) (s : Shared) : Cin ⟨D.N, scope, []⟩ k (genCx X X.A.in1.in1 s H genv fp) where
  N := ci.N
  sc := hsc
  nd := ci.nd
  room := ⟨ci.room.hd, by have := ci.room.dp; show X.A.depth + 1 + 3 * k + 5 < _; omega, by have := ci.room.un; show X.A.units + 1 + 1 + 3 + 16 * k + 200 < _; omega⟩
  calm := rfl
  fn := fun _ h => by cases h
  po := PassesOwn.never
theorem wipeS_len : ∀ (js : List Nat) (sl : Slots), (wipeS sl js).length = sl.length
  | [], _ => rfl
  | j :: js, sl => by
    show ((wipeS sl js).set j none).length = _
    rw [List.length_set, wipeS_len js sl]
theorem wipe_own : ∀ (own : List Nat) (sl : Slots) (i : Nat), i ∈ own → i < sl.length → (wipeS sl own)[i]? = some none
  | [], _, _, h, _ => by cases h
  | j :: js, sl, i, h, hl => by
    show ((wipeS sl js).set j none)[i]? = _
    by_cases hj : j = i
    · subst hj
      have : (wipeS sl js).length = sl.length := wipeS_len js sl
      rw [List.getElem?_set_self (by rw [this]; exact hl)]
    · rw [List.getElem?_set_ne hj]
      exact wipe_own js sl i ((List.mem_cons.mp h).resolve_left (fun z => hj z.symm)) hl
theorem made_go {tgt elt iter : Expr} {ifs : List Expr} {scope : Scope} {gpos : Pos} {own : List Nat} {xs : List PyData} {φ : Num} {st : Store} {st4 : Store} {a : Addr} {s5 s4 : Shared} {H4 : Hp} {φ4 : Num} {fp prot : List Addr} {tn : Nat → Heap → Prop} {J : It} {it : Addr} {code : Value} {sl : Slots} {tg : Tg} {c : TM} {e : EM}
    (ci : Cin D (k + 1) X) (M : Made X T pins σ tgt elt iter ifs scope gpos own xs φ st H st4 a s5 s4 H4 φ4 fp tn J it code) (hco : scope.isCoroutine = false) (hix : ∀ i ∈ tg.ix, i ∈ own) (hln : ∀ i ∈ tg.ix, i < sl.length)
    (hG : ∀ (s : Shared) (H : Hp) (genv : Env) (fp : List Addr), Cin ⟨D.N, scope, []⟩ k (genCx X X.A.in1.in1 s H genv fp) → G (genCx X X.A.in1.in1 s H genv fp) T W0 tgt tg)
    (hT : ∀ (s : Shared) (H : Hp) (genv : Env) (fp : List Addr), Cin ⟨D.N, scope, []⟩ k (genCx X X.A.in1.in1 s H genv fp) → Ets (genCx X X.A.in1.in1 s H genv fp) T W0 ifs c)
    (hE : ∀ (s : Shared) (H : Hp) (genv : Env) (fp : List Addr), Cin ⟨D.N, scope, []⟩ k (genCx X X.A.in1.in1 s H genv fp) → E (genCx X X.A.in1.in1 s H genv fp) T W0 elt e) (hdis : ∀ b ∈ fp, b ∉ prot) :
    Goer (genCx X X.A.in1.in1 s4 H4 (genEnv scope (cloFrom X.env.cells scope.names []) s4.heap.objs.size code builtinsNs X.env) fp) T X.A.in1.in1 fp prot tn φ4 st4 H4 (wipeS sl own) tg c e xs (xs.length + 1)
      (.fresh (.compStart (.GeneratorExp elt [⟨tgt, iter, ifs, 0⟩] scope gpos) 0 (.ref it) .none (genEnv scope (cloFrom X.env.cells scope.names []) s4.heap.objs.size code builtinsNs X.env))) 0 (xs.length + 1) φ4 st4 (wipe σ own) H4 := by
  intro s'' g'' ok
  have cg : Cin ⟨D.N, scope, []⟩ k (genCx X X.A.in1.in1 s4 H4 (genEnv scope (cloFrom X.env.cells scope.names []) s4.heap.objs.size code builtinsNs X.env) fp) := Cin.gn (A := X.A) (scope := scope) (genv := genEnv scope (cloFrom X.env.cells scope.names []) s4.heap.objs.size code builtinsNs X.env) ci rfl s4
  exact ⟨rfl, seg_start (Y := genCx X X.A.in1.in1 s4 H4 (genEnv scope (cloFrom X.env.cells scope.names []) s4.heap.objs.size code builtinsNs X.env) fp) M.turn g''.tn
    (seg_gen over_gen rfl rfl hco (hG _ _ _ _ cg).run (hT _ _ _ _ cg).run (hE _ _ _ _ cg).run M.turn (fun i φ st H s r => M.itr i φ st H s r) hdis (fun i hi => wipe_own own sl i (hix i hi) (hln i hi)) (xs.length + 1)
      (xs.length) 0 (xs.length + 1) 0 s'' s'' φ4 st4 (wipe σ own) H4 0 st4 (by omega) (by omega) (by omega) (by omega) g'' (Nat.le_refl _) rfl rfl ok fun _ _ _ h => h)⟩
theorem made_end {tgt elt iter : Expr} {ifs : List Expr} {scope : Scope} {gpos : Pos} {own : List Nat} {xs : List PyData} {φ : Num} {st : Store} {st4 stF : Store} {a : Addr} {s5 s4 s' : Shared} {H4 : Hp} {φ4 : Num} {fp : List Addr} {tn : Nat → Heap → Prop} {J : It} {it : Addr} {code : Value} {slw : Slots} {Q : VK} {x : V} {u : Value}
    (M : Made X T pins σ tgt elt iter ifs scope gpos own xs φ st H st4 a s5 s4 H4 φ4 fp tn J it code)
    (h : EndP (genCx X X.A.in1.in1 s4 H4 (genEnv scope (cloFrom X.env.cells scope.names []) s4.heap.objs.size code builtinsNs X.env) fp) T φ4 st4 H4 slw stF s') (rel : RelV x u)
    (hq : ∀ φ' H', Stp φ st H φ' stF H' → StR X.K X.mg T φ' stF H' → Q x H') : EP X pins σ Q u s' := by
  obtain ⟨φ', σ', H', I', a', stp'⟩ := h
  refine ⟨x, H', M.inv4.call' I'.os I'.base I'.hok I'.bare fun b hb => ?_, rel, hq φ' H' (M.stp.trans stp') a'.s⟩
  obtain ⟨_, f1, f2, f3, f4, f5⟩ := (M.fp4 b hb).1
  exact ⟨f3, f1, f4, f5⟩
theorem made_gst {tgt elt iter : Expr} {ifs : List Expr} {scope : Scope} {gpos : Pos} {own : List Nat} {xs : List PyData} {φ : Num} {st : Store} {st4 : Store} {a : Addr} {s5 s4 s6 : Shared} {H4 : Hp} {φ4 : Num} {fp prot : List Addr} {tn : Nat → Heap → Prop} {J : It} {it : Addr} {code : Value} {sl : Slots}
    (ci : Cin D (k + 1) X) (M : Made X T pins σ tgt elt iter ifs scope gpos own xs φ st H st4 a s5 s4 H4 φ4 fp tn J it code) (a0 : SlR X.K φ st H sl σ)
    (kp : ∀ b o, s5.heap.get? b = some o → s6.heap.get? b = some o) (hos : s6.os = s5.os) (hg : s6.gens = s5.gens) (hp : ∀ b ∈ prot, s4.heap.objs.size < b ∧ ∃ o, s6.heap.get? b = some o ∧ ∀ v, o.data ≠ .cell v) :
    Gst (genCx X X.A.in1.in1 s4 H4 (genEnv scope (cloFrom X.env.cells scope.names []) s4.heap.objs.size code builtinsNs X.env) fp) T fp prot tn φ4 st4 H4 (wipeS sl own) 0 φ4 st4 (wipe σ own) H4 s6 := by
  have I5 := M.inv5 X.A.in1.in1 rfl ci.room.hd
  have I6 : Inv (genCx X X.A.in1.in1 s4 H4 (genEnv scope (cloFrom X.env.cells scope.names []) s4.heap.objs.size code builtinsNs X.env) fp) [] (wipe σ own) H4 s6 :=
    I5.call' hos (un_but (cs := []) fun b o _ q => kp b o q) (hok_but (cs := []) I5.hok (fun _ h => by cases h) fun b o _ q => kp b o q) (by rw [hg]; exact I5.bare) (fun _ h => by cases h)
  refine ⟨I6, M.turn.keep _ _ _ M.tn5 fun b _ o q => kp b o q, fun b hb => ?_, fun b hb => ⟨?_, (hp b hb).2⟩, ⟨M.str, (a0.mon M.stp).wipe own⟩, .refl⟩
  · have hb4 := M.fp4 b hb
    refine ⟨hb4.1.1, Nat.ne_of_lt hb4.2, fun z => ?_, .inl hb, fun y c e z => ?_, fun p hp => by cases (show p ∈ ([] : List (Addr × Obj)) ++ [] from hp)⟩
    · rcases List.mem_cons.mp (M.inv4.stkSub b z) with z | z
      · exact hb4.1.2.1 z
      · exact hb4.1.2.2.1 z
    · exact (I6.ok.exf b hb).2 y c e z
  · have hlt := (hp b hb).1
    refine ⟨M.inv4.hok.fresh (Nat.le_of_lt hlt), Nat.ne_of_gt hlt, fun z => ?_, .inr (Nat.le_of_lt hlt), fun y c e z => ?_, fun p hp => by cases (show p ∈ ([] : List (Addr × Obj)) ++ [] from hp)⟩
    · rcases List.mem_cons.mp (M.inv4.stkSub b z) with z | z
      · have := M.inv4.lt; rw [← z] at this; exact Nat.lt_irrefl _ (Nat.lt_trans hlt this)
      · exact M.inv4.nofs (Nat.le_of_lt hlt) z
    · have h1 := M.cells y c e
      rw [z] at h1
      exact Nat.lt_irrefl _ (Nat.lt_trans hlt h1)
def mAnyG (own : List Nat) (tg : Tg) (itm : IM) (c : TM) (e : EM) : EM := fun sl st =>
  (itm sl st).bind fun xs st1 => (noX (anyG tg c e (wipeS sl own) xs st1)).bind fun b st2 => .ok (.d (.bool b)) st2
def ixOk (N : List Str) (tg : Tg) (own : List Nat) : Bool := tg.ix.all fun i => decide (i ∈ own) && decide (i < N.length)
theorem ixOk_of {N : List Str} {tg : Tg} {own : List Nat} (h : ixOk N tg own = true) : (∀ i ∈ tg.ix, i ∈ own) ∧ ∀ i ∈ tg.ix, i < N.length := by
  unfold ixOk at h
  simp only [List.all_eq_true, Bool.and_eq_true, decide_eq_true_eq] at h
  exact ⟨fun i hi => (h i hi).1, fun i hi => (h i hi).2⟩
theorem E_anyG {t : Tb} {itm : IM} {tgt elt iter : Expr} {ifs : List Expr} {scope : Scope} {p pos gpos : Pos} {own : List Nat} {tg : Tg} {c : TM} {e : EM} (ci : Cin D (k + 1) X) (ho : Home X T t) (hnm : t.nm gpos.line gpos.col = none) (hg : D.g "any" = true) (hm : X.mg "any" = none) (hv : bootBuiltins "any" = some (.builtin "any"))
    (hS : gnB D.N D.sc scope own = true) (hix : ixOk D.N tg own = true) (hi : TL.I X T W tgt iter itm)
    (hG : ∀ (s : Shared) (H : Hp) (genv : Env) (fp : List Addr), Cin ⟨D.N, scope, []⟩ k (genCx X X.A.in1.in1 s H genv fp) → G (genCx X X.A.in1.in1 s H genv fp) T W0 tgt tg)
    (hT : ∀ (s : Shared) (H : Hp) (genv : Env) (fp : List Addr), Cin ⟨D.N, scope, []⟩ k (genCx X X.A.in1.in1 s H genv fp) → Ets (genCx X X.A.in1.in1 s H genv fp) T W0 ifs c)
    (hE : ∀ (s : Shared) (H : Hp) (genv : Env) (fp : List Addr), Cin ⟨D.N, scope, []⟩ k (genCx X X.A.in1.in1 s H genv fp) → E (genCx X X.A.in1.in1 s H genv fp) T W0 elt e)
    (hs : ∀ x, genFold iter X.env x = pure x := by intro _; rfl)
    (he : starEach [.GeneratorExp elt [⟨tgt, iter, ifs, 0⟩] scope gpos] X.env = (false, eval (.GeneratorExp elt [⟨tgt, iter, ifs, 0⟩] scope gpos) X.env) :: starEach [] X.env := by rfl) :
    E X T W (.Call (.Name "any" p) [.GeneratorExp elt [⟨tgt, iter, ifs, 0⟩] scope gpos] [] pos) (mAnyG own tg itm c e) := by
  obtain ⟨g1, g2, g3⟩ := ci.gl hg
  have S : GnS X.N X.env.scope scope own := by rw [ci.N, ci.sc]; exact gn_by hS
  obtain ⟨hix1, hix2⟩ := ixOk_of hix
  refine ⟨⟨fun pins s σ H Q I h => ?_⟩⟩
  obtain ⟨φ, sl, st, a0, h⟩ := h
  refine wpAny_Call_Name_kw (ld_blt I g1 hm hv ?_ g3 g2)
  refine PyProof.Rows.callWith_builtin1 ?_ he (by rfl)
  rw [he]
  show wpAny _ _ (spliced ((false, eval (.GeneratorExp elt [⟨tgt, iter, ifs, 0⟩] scope gpos) X.env) :: backTo pos (starEach [] X.env))) _ _ s
  have h : EPost X.K X.mg T W φ st H Q ((itm sl st).bind fun xs st1 => (noX (anyG tg c e (wipeS sl own) xs st1)).bind fun b st2 => .ok (.d (.bool b)) st2) := h
  refine Calls.spliced_cons (gen_made I S ho hnm ci.room.hd (by have := ci.room.dp; omega) hi a0 (fun c' st' e1 => by rw [e1] at h; exact h) (fun e1 => by rw [e1] at h; exact h) hs fun xs st4 a s5 s4 H4 φ4 fp tn J it code e1 M => ?_)
  refine Calls.spliced_nil ?_
  rw [e1] at h
  simp only [R.bind_ok] at h
  cases ea : anyG tg c e (wipeS sl own) xs st4 with
  | exn _ _ => rw [ea] at h; exact h.elim
  | stuck => rw [ea] at h; exact h.elim
  | ok b stF =>
    rw [ea] at h
    have hln : sl.length = X.N.length := by rw [a0.l.1]; exact I.len
    have hdis : ∀ b ∈ fp, b ∉ [a] := fun b hb z => by
      have := (M.fp4 b hb).2
      rw [List.mem_singleton.mp z, M.a4] at this
      exact Nat.lt_irrefl _ (Nat.lt_trans (Nat.lt_succ_self _) this)
    obtain ⟨og, nm, qn, hog, hcls, hdat, hsl⟩ := M.gen
    refine call_function_tree F.kind_any F.plain_any F.entry_any (F.args_any1 _) ?_
    unfold Builtin.«any»
    refine wpAny_bind (m := oneArg "any" _) (wpAny_pure ?_)
    refine wpAny_bind (wpAny_pyIter_gen M.gen ?_)
    refine wpAny_pure ⟨plainId_quiet F.plain_any_loop _, any_loop (prot := [a]) (Y := genCx X X.A.in1.in1 s4 H4 (genEnv scope (cloFrom X.env.cells scope.names []) s4.heap.objs.size code builtinsNs X.env) fp) (N := xs.length + 1) (g := s4.gens.size) M.turn hdis ci.room.hd (by have := ci.room.dp; show X.A.depth < _; omega)
      (fun s' hE' => made_end M hE' (x := .bl b) rfl fun φ' H' sp r => h φ' H' (.bl b) sp r rfl) xs.length 0 0 (xs.length + 1) φ4 st4 (wipe σ own) H4 s5 (by omega)
      ⟨rfl, by omega, Nat.zero_le _, rfl, made_gst ci M a0.l (fun _ _ h => h) rfl rfl (fun b hb => ?_), ⟨_, M.gens, made_go ci M S.co hix1 (fun i hi => by rw [hln, ci.N]; exact hix2 i hi) hG hT hE hdis⟩, M.gen, List.mem_singleton.mpr rfl⟩ ea⟩
    rw [List.mem_singleton.mp hb]
    exact ⟨by rw [M.a4]; exact Nat.lt_succ_self _, og, hog, fun v z => by rw [hdat] at z; cases z⟩
end
end TL
end

section
set_option Elab.async false
set_option linter.all false
set_option maxRecDepth 100000
set_option maxHeartbeats 1000000
set_option autoImplicit false
namespace TL
open PySem PySem.Spec PyProof.Rows L2
section
variable {X : Cx} {T : List Tb} {D : DI} {k : Nat} {W : XK}
theorem own_lst {φ : Num} {st : Store} {H : Hp} {xs : List PyData} {vs : List V} {p : Addr} {Q : VK} (r : StR X.K X.mg T φ st H) (hp : H p = none) (hd : DRs X.K (Av φ st) H xs vs)
    (h : EPost X.K X.mg T W φ st H Q (.ok (.box st.length) (st ++ [.lst xs]))) : Q (.ref p) (upd H p (.lst vs)) := by
  have g := Gr.upd (o := .lst vs) hp
  have lv : ∀ a, Live (φ.push p) (st ++ [.lst xs]) a → Live φ st a ∨ a = p := fun a ⟨i, d, e1, e2, e3⟩ => by
    have e3 : (φ.ids ++ [p])[i]? = some a := e3
    by_cases hi : i < st.length
    · rw [List.getElem?_append_left hi] at e1
      rw [List.getElem?_append_left (by rw [r.len]; exact hi)] at e3
      exact .inl ⟨i, d, e1, e2, e3⟩
    · have hi' : i = φ.ids.length := by
        have h1 := (List.getElem?_eq_some_iff.mp e3).1
        rw [List.length_append, List.length_singleton] at h1
        have := r.len
        omega
      rw [hi', List.getElem?_append_right (Nat.le_refl _), Nat.sub_self] at e3
      exact .inr (Option.some.inj e3).symm
  have m : Mon (Av φ st) H (Av (φ.push p) (st ++ [.lst xs])) (upd H p (.lst vs)) :=
    ⟨fun a u e _ _ => .inl (g a u e), fun a e n l => by
      rcases l with l | l
      · rcases lv a l with l | l
        · exact n (.inl l)
        · rw [l] at e; exact e hp
      · exact n (.inr l)⟩
  obtain ⟨r', s'⟩ := r.push (c := .lst xs) hp g rfl ⟨vs, upd_same, DRs.mon m _ _ hd⟩
  refine h _ _ (.ref p) s' r' ⟨p, ?_, rfl⟩
  show (φ.ids ++ [p])[st.length]? = some p
  rw [← r.len, List.getElem?_append_right (Nat.le_refl _), Nat.sub_self]
  rfl
theorem E_ownL {es : List Expr} {pos : Pos} {m : AM} (h : Ea X T W es m) : E X T W (.List es pos) (mOwn (mDisp pLst m)) := by
  refine ⟨PE.imp (pe_lst h.run) ?_⟩
  rintro σ H Q ⟨φ, sl, st, h0, h⟩
  have h' : EPost X.K X.mg T W φ st H Q ((m sl st).bind fun vs st1 => (R.opt (((datas vs).bind pLst).map Val.d) st1).bind fun v st1 =>
    match v with
    | .d (.list xs) => .ok (.box st1.length) (st1 ++ [.lst xs])
    | .d (.dict kvs) => .ok (.box st1.length) (st1 ++ [.dic kvs])
    | _ => .stuck) := by
    revert h
    show EPost X.K X.mg T W φ st H Q (((m sl st).bind _).bind _) → _
    cases m sl st <;> exact fun h => h
  refine (tA_bind h0 h').mono fun us H1 ⟨φ1, st1, vs, a1, v1, s1, p1⟩ => ?_
  cases ed : (datas vs).bind pLst with
  | none => simp only [ed] at p1; exact p1.elim
  | some d =>
    obtain ⟨xs, ex, ed'⟩ := Option.bind_eq_some_iff.mp ed
    have r := datas_rel v1 ex
    unfold pLst at ed'
    split at ed'
    · rename_i hl
      cases ed'
      simp only [ed] at p1
      exact ⟨by rw [r.length]; rw [lineN_eq] at hl; exact hl, fun p hp => own_lst a1.s hp r p1⟩
    · cases ed'
end
end TL
end

section
set_option Elab.async false
set_option linter.all false
set_option maxRecDepth 100000
set_option maxHeartbeats 1000000
set_option autoImplicit false
namespace TL
open PySem L2
structure FunC (K : PySem.W.Frag) (x qual : Str) (st : Stmt) (f c : Addr) (fd : FuncData) : Prop where
  ex : ∃ (oc : Value) (od : Option Addr) (dV kV doc pm : Value) (an : Option Addr) (ct : Value) (osl : Array (Option Value)),
    fd = PySem.W.fnOf x qual (defArgs st) (defBody st) (defScope st) dV kV doc pm an (.ref c) ct ∧ K.lookup f = some ⟨oc, od, .func fd, osl⟩ ∧ PySem.W.codeIn K (.ref c) qual = true
structure HomeOk (base : Heap) (mg : Str → Option Value) (T : List Tb) (c : Addr) (t : Tb) : Prop where
  tab : LamX.TabB base mg c t.P
  mem : t ∈ T
  one : ∀ t' ∈ T, t'.P = t.P → t' = t
theorem fn_okC {P : Program} {w : World} {K : PySem.W.Frag} {mg : Str → Option Value} {base : Heap} {T : List Tb} {x qual : Str} {s : Stmt} {f c : Addr} {fd : FuncData} {N ps cl : List Str} {k : Nat} {m : SM} (F : FunC K x qual s f c fd) (S : FnScope N ps (defScope s))
    (hb : ∀ (A : Around) (outer : List Env) (s0 : Shared) (H : Hp) (W : XK), Cin ⟨N, defScope s, cl⟩ k (cxOf (L2.CX P w) P w K mg base N qual (defScope s) f (.ref c) A outer s0 H W) → Takes (cxOf (L2.CX P w) P w K mg base N qual (defScope s) f (.ref c) A outer s0 H W) (fun c d _ H => W c d H) →
      Ss (cxOf (L2.CX P w) P w K mg base N qual (defScope s) f (.ref c) A outer s0 H W) T W (defBody s) m) : FnOk P w K mg base (L2.CX P w) (k + 1) f fd ps (spF K mg T ps.length (fnOf N.length m)) := by
  obtain ⟨oc, od, dV, kV, doc, pm, an, ct, osl, rfl, lk, hcd⟩ := F.ex
  refine fn_of lk hcd S ?_ ?_
  · rintro vs H Q Ex ⟨φ, st, as, r, pr, hl, _⟩
    rw [← paired_len pr, hl]
  · rintro A outer s0 H vs Q Ex hr ⟨φ, st, as, r, pr, hl, h⟩
    have tk : Takes (cxOf (L2.CX P w) P w K mg base N qual (defScope s) f (.ref c) A outer s0 H Ex) (fun c d _ H => Ex c d H) := takes_of rfl rfl rfl rfl
    have ci : Cin ⟨N, defScope s, cl⟩ k (cxOf (L2.CX P w) P w K mg base N qual (defScope s) f (.ref c) A outer s0 H Ex) := ⟨rfl, rfl, S.nd, hr, rfl, fun _ _ => rfl, passes_of rfl⟩
    refine ⟨_, (hb A outer s0 H Ex ci tk).run, φ, as.map some ++ List.replicate (N.length - as.length) none, st, ⟨r, start_rel pr⟩, ?_⟩
    have h1 := left_post r.len h
    revert h1
    show EPost K mg T Ex φ st H Q (match m (as.map some ++ List.replicate (N.length - as.length) none) st with
      | .nx _ st1 => .ok (.d .none) st1
      | .rt v st1 => .ok v st1
      | .exn c _ st1 => .exn c st1
      | _ => .stuck) → SPost K mg T Ex φ st H _ (m (as.map some ++ List.replicate (N.length - as.length) none) st)
    cases m (as.map some ++ List.replicate (N.length - as.length) none) st with
    | nx sl1 st1 => exact fun h φ1 H1 σ1 s1 r1 l1 => h φ1 H1 .non s1 r1 rfl
    | rt v st1 => exact fun h => h
    | bk sl1 st1 => exact fun h => h.elim
    | ct sl1 st1 => exact fun h => h.elim
    | exn c sl1 st1 => exact fun h φ1 H1 σ1 C s1 r1 l1 hc => h φ1 H1 C s1 r1 hc
    | stuck => exact fun h => h
theorem HomeOk.home {P : Program} {w : World} {K : PySem.W.Frag} {mg : Str → Option Value} {base : Heap} {T : List Tb} {c : Addr} {t : Tb} (h : HomeOk base mg T c t) {N : List Str} {qual : Str} {sc : Scope} {f : Addr} {A : Around} {outer : List Env} {s0 : Shared} {H : Hp} {W : XK} :
    Home (cxOf (L2.CX P w) P w K mg base N qual sc f (.ref c) A outer s0 H W) T t := ⟨⟨c, h.tab, rfl⟩, h.mem, h.one⟩
end TL
end

section
set_option Elab.async false
set_option linter.all false
set_option maxRecDepth 100000
set_option maxHeartbeats 1000000
set_option autoImplicit false
namespace TL
open PySem PySem.Spec PyProof.Rows L2
structure L1S (N : List Str) (sc scope : Scope) (y : Str) (pi : Nat) : Prop where
  kind : scope.kind = .function
  co : scope.isCoroutine = false
  gen : scope.isGenerator = false
  cell : ∀ z ∈ scope.names, z.2 ≠ .cell
  loc : ∀ z ∈ scope.names, z.2 = .local → z.1 = y
  at_ : N[pi]? = some y
  y : scope.names.lookup y = some .local
  free : ∀ z ∈ scope.names, z.2 = .free → sc.names.lookup z.1 = some .cell ∨ sc.names.lookup z.1 = some .free
section
variable {X : Cx} {pins : List (Addr × Obj)} {σ : L2.St} {H : Hp} {s : Shared} {T : List Tb}
end
end TL
end

section
set_option Elab.async false
set_option linter.all false
set_option maxRecDepth 100000
set_option maxHeartbeats 1000000
set_option autoImplicit false
namespace TL
open PySem PySem.Spec PyProof.Rows L2
open PySem.Calls
open PySem.W (alike dataLt AllAlike Sortable dataLe EachIs KeepsBut KeyedOut sortVals dataKind SortsAt)
def keyG (pi : Nat) (m : EM) (sl : Slots) : List PyData → Store → R (List PyData)
  | [], st => .ok [] st
  | d :: ds, st => (m (sl.set pi (some (.d d))) st).bind fun v st1 =>
    match v with
    | .d k => (keyG pi m sl ds st1).bind fun ks st2 => .ok (k :: ks) st2
    | .box _ => .stuck
section
variable {X : Cx} {pins : List (Addr × Obj)} {σ : L2.St} {H : Hp} {s : Shared} {T : List Tb} {D : DI} {k : Nat}
theorem inv_track {a : Addr} {o : HO} (I : Inv X pins σ H s) (hc : FpOk X pins H a) (new : ObjOk X.prog X.w (upd H a o) s.heap a o) (hex : ∃ ob, s.heap.get? a = some ob) : Inv X pins σ (upd H a o) s := by
  have na : ∀ b u, H b = some u → b ≠ a := fun b u e z => by rw [z, hc.1] at e; cases e
  refine I.call' rfl ⟨fun b o e _ _ _ => e, fun b o e _ _ _ => ⟨o.slots, e⟩, fun b o' e n hb => ?_, fun b o e _ => ⟨o, e⟩, fun b xs e => by rw [upd_ne (na b _ e)]; exact e, fun b o u e => by rw [upd_ne (na b _ e)]; exact e, fun b ps e => ⟨#[], by rw [upd_ne (na b _ e), e]; simp⟩⟩ (ch := [a]) (fun b u e => ?_) I.bare fun b hb => ?_
  · rw [upd_ne (fun z => hb (List.mem_singleton.mpr z))]; exact n
  · by_cases hb : b = a
    · subst hb
      rw [upd_same] at e
      cases e
      exact new
    · rw [upd_ne hb] at e
      exact (I.hok b u e).stay (fun _ _ _ q => q) (fun d q => by rw [upd_ne (na d _ q)]; exact q) fun d xs q => by rw [upd_ne (na d _ q)]; exact q
  · rw [List.mem_singleton.mp hb]
    exact ⟨hc.2.2.2.1, hc.2.1, hc.2.2.2.2.1, hc.2.2.2.2.2⟩
structure KZ (X : Cx) (pins : List (Addr × Obj)) (σ : L2.St) (T : List Tb) (pi : Nat) (m : EM) (sl : Slots) (ds ksF : List PyData) (stF : Store) (φ0 : Num) (st0 : Store) (H0 : Hp) (a kS : Addr) (e1 : Nat) (i : Nat) (s' : Shared) : Prop where
  ex : ∃ (φ' : Num) (sti : Store) (H' : Hp) (ks rest : List PyData) (kA : Array Value) (e : Nat) (xs : List V), Inv X (pins ++ [(a, seqObj "list" #[] e1)]) σ H' s' ∧ s'.heap.get? kS = some (seqObj "list" kA e) ∧ H' kS = none ∧
    StR X.K X.mg T φ' sti H' ∧ Stp φ0 st0 H0 φ' sti H' ∧ Vals xs kA.toList ∧ DRs X.K (Av φ' sti) H' ks xs ∧ ks.length = i ∧ keyG pi m sl (ds.drop i) sti = .ok rest stF ∧ ks ++ rest = ksF
def LamO (f : Addr) (q : Str) (params : Arguments) (body : Expr) (scope : Scope) (cl : List (Str × Addr)) (cc : Addr) : HO := .ext fun h => ∃ pm ctv, h.get? f = some (PySem.W.kla_obj "<lambda>" q params body scope cl pm cc ctv)
end
end TL
end

section
set_option Elab.async false
set_option linter.all false
set_option maxRecDepth 100000
set_option maxHeartbeats 1000000
set_option autoImplicit false
namespace TL
open PySem L2
def fnOfB (N : Nat) (b : SM) : FM := fun vs st =>
  match b (vs.map some ++ List.replicate (N - vs.length) none) st with
  | .nx _ st1 => .ok (.d .none) st1
  | .rt v st1 => .ok v st1
  | .exn c _ st1 => .exn c st1
  | _ => .stuck
theorem fn_okB {P : Program} {w : World} {K : PySem.W.Frag} {mg : Str → Option Value} {base : Heap} {T : List Tb} {x qual : Str} {s : Stmt} {f c : Addr} {fd : FuncData} {N ps cl : List Str} {k : Nat} {m : SM} (F : FunC K x qual s f c fd) (S : FnScope N ps (defScope s))
    (hb : ∀ (A : Around) (outer : List Env) (s0 : Shared) (H : Hp) (W : XK), Cin ⟨N, defScope s, cl⟩ k (cxOf (L2.CX P w) P w K mg base N qual (defScope s) f (.ref c) A outer s0 H W) → Takes (cxOf (L2.CX P w) P w K mg base N qual (defScope s) f (.ref c) A outer s0 H W) (fun c d _ H => W c d H) →
      Ss (cxOf (L2.CX P w) P w K mg base N qual (defScope s) f (.ref c) A outer s0 H W) T W (defBody s) m) : FnOk P w K mg base (L2.CX P w) (k + 1) f fd ps (spF K mg T ps.length (fnOfB N.length m)) := by
  obtain ⟨oc, od, dV, kV, doc, pm, an, ct, osl, rfl, lk, hcd⟩ := F.ex
  refine fn_of lk hcd S ?_ ?_
  · rintro vs H Q Ex ⟨φ, st, as, r, pr, hl, _⟩
    rw [← paired_len pr, hl]
  · rintro A outer s0 H vs Q Ex hr ⟨φ, st, as, r, pr, hl, h⟩
    have tk : Takes (cxOf (L2.CX P w) P w K mg base N qual (defScope s) f (.ref c) A outer s0 H Ex) (fun c d _ H => Ex c d H) := takes_of rfl rfl rfl rfl
    have ci : Cin ⟨N, defScope s, cl⟩ k (cxOf (L2.CX P w) P w K mg base N qual (defScope s) f (.ref c) A outer s0 H Ex) := ⟨rfl, rfl, S.nd, hr, rfl, fun _ _ => rfl, passes_of rfl⟩
    refine ⟨_, (hb A outer s0 H Ex ci tk).run, φ, as.map some ++ List.replicate (N.length - as.length) none, st, ⟨r, start_rel pr⟩, ?_⟩
    revert h
    show EPost K mg T Ex φ st H Q (match m (as.map some ++ List.replicate (N.length - as.length) none) st with
      | .nx _ st1 => .ok (.d .none) st1
      | .rt v st1 => .ok v st1
      | .exn c _ st1 => .exn c st1
      | _ => .stuck) → SPost K mg T Ex φ st H _ (m (as.map some ++ List.replicate (N.length - as.length) none) st)
    cases m (as.map some ++ List.replicate (N.length - as.length) none) st with
    | nx sl1 st1 => exact fun h φ1 H1 σ1 s1 r1 l1 => h φ1 H1 .non s1 r1 rfl
    | rt v st1 => exact fun h => h
    | bk sl1 st1 => exact fun h => h.elim
    | ct sl1 st1 => exact fun h => h.elim
    | exn cn sl1 st1 => exact fun h φ1 H1 σ1 C s1 r1 l1 hc => h φ1 H1 C s1 r1 hc
    | stuck => exact fun h => h
def DiceOk (f : FM) (good : Int → Int → Int → Int → Prop) : Prop := ∀ (z : Int) (st : Store), ∃ a b c, good z a b c ∧ f [.d (.int z)] st = .ok (.box st.length) (st ++ [.lst [.int a, .int b, .int c]])
def spR (K : PySem.W.Frag) (mg : Str → Option Value) (T : List Tb) (good : Int → Int → Int → Int → Prop) : Sp := fun us H Q _ => ∃ (u : Addr) (ns : List Int) (φ : Num) (st : Store), us = [.ref u, .int 1] ∧ SqL K H u (ns.map V.int) ∧ StR K mg T φ st H ∧
  ∀ (z a b c : Int) (L d : Addr) (φ' : Num) (H' : Hp), (z = 0 ∨ z ∈ ns) → good z a b c → H' L = some (.lst [.ref d]) → φ'.ids = φ.ids ++ [d] → StR K mg T φ' (st ++ [.lst [.int a, .int b, .int c]]) H' → Stp φ st H φ' (st ++ [.lst [.int a, .int b, .int c]]) H' → L ∉ φ'.ids → Q (.ref L) H'
section
variable {P : Program} {w : World} {K : PySem.W.Frag} {mg : Str → Option Value} {base : Heap} {T : List Tb}
def N_rounds : List Str := ["script", "most", "cells", "cell"]
theorem ids_snoc {φ φ' : Num} {n : Nat} (h : φ.ids <+: φ'.ids) (h1 : φ.ids.length = n) (h2 : φ'.ids.length = n + 1) : ∃ d, φ'.ids = φ.ids ++ [d] := by
  obtain ⟨t, e⟩ := h
  have : t.length = 1 := by
    have := congrArg List.length e
    rw [List.length_append] at this
    omega
  obtain ⟨d, rfl⟩ := List.length_eq_one_iff.mp this
  exact ⟨d, e.symm⟩
theorem cut_one (ns : List Int) : ∃ xs : List Int, cutV (ns.map V.int) none (some 1) = xs.map V.int ∧ xs.length ≤ 1 ∧ ∀ x ∈ xs, x ∈ ns := by
  cases ns with
  | nil => exact ⟨[], rfl, by simp, by simp⟩
  | cons n r =>
    refine ⟨[n], ?_, by simp, by simp⟩
    unfold cutV HT.sIx
    simp
theorem rounds_ok {s : Stmt} {f : Addr} {fd : FuncData} {k : Nat} {fD : FM} {good : Int → Int → Int → Int → Prop} {scope : Scope} {p1 p2 p3 p4 p5 p6 q1 q2 q3 q4 q5 q6 q7 q8 r1 r2 r3 r4 r5 r6 r7 : Pos} {j : Nat} {cR : Addr} (F : FunC K "_law_rounds" "_law_rounds" s f cR fd) (S : FnScope N_rounds ["script", "most"] (defScope s))
    (hbody : defBody s = [.Assign [.Name "cells" p1] (.Subscript (.Name "script" p2) (.Slice none (some (.Name "most" p3)) none p4) p5) p6,
      .If (.Compare (.Name "cells" q1) [.Eq] [.List [] q2] q3) [.Assign [.Name "cells" q4] (.List [.Constant (.int 0) j q5] q6) q7] [] q8,
      .Return (some (.ListComp (.Call (.Name "_law_dice" r1) [.Name "cell" r2] [] r3) [⟨.Name "cell" r4, .Name "cells" r5, [], 0⟩] scope r6)) r7])
    (hblk : blkC N_rounds (defScope s) scope [("cell", 3)] = true) (v0 : DI.v ⟨N_rounds, defScope s, []⟩ 0 "script" = true) (v1 : DI.v ⟨N_rounds, defScope s, []⟩ 1 "most" = true) (v2 : DI.v ⟨N_rounds, defScope s, []⟩ 2 "cells" = true) (s2 : DI.s ⟨N_rounds, defScope s, []⟩ 2 "cells" = true)
    (w3 : ((DI.mk N_rounds (defScope s) []).blk scope).v 3 "cell" = true) (t3 : ((DI.mk N_rounds (defScope s) []).blk scope).s 3 "cell" = true) (gd : ((DI.mk N_rounds (defScope s) []).blk scope).g "_law_dice" = true)
    (cD : CallOk P w K mg base T "_law_dice" 1 fD k) (hD : DiceOk fD good) : FnOk P w K mg base (L2.CX P w) (k + 1) f fd ["script", "most"] (spR K mg T good) := by
  obtain ⟨oc, od, dV, kV, doc, pm, an, ct, osl, rfl, lk, hcd⟩ := F.ex
  refine fn_of lk hcd S ?_ ?_
  · rintro vs H Q Ex ⟨u, ns, φ, st, rfl, _⟩
    rfl
  · rintro A outer s0 H vs Q Ex hr ⟨u, ns, φ, st, rfl, hsq, r, hq⟩
    have tk : Takes (cxOf (L2.CX P w) P w K mg base N_rounds "_law_rounds" (defScope s) f (.ref cR) A outer s0 H Ex) (fun c d _ H => Ex c d H) := takes_of rfl rfl rfl rfl
    have ci : Cin ⟨N_rounds, defScope s, []⟩ k (cxOf (L2.CX P w) P w K mg base N_rounds "_law_rounds" (defScope s) f (.ref cR) A outer s0 H Ex) := ⟨rfl, rfl, S.nd, hr, rfl, fun _ h => (by cases h), passes_of rfl⟩
    obtain ⟨a1, a2, a3, a4⟩ := ci.vis v0
    obtain ⟨b1, b2, b3, b4⟩ := ci.vis v1
    obtain ⟨c1, c2, c3⟩ := ci.put s2
    have st1 := ps_set (pos := p6) (pos' := p1) ci.nd c1 c2 (pe_slice (pos := p5) (p2 := p4) sl_list (pe_var (pos := p2) a1 a2 a3 a4) po_none (po_some (pe_var (pos := p3) b1 b2 b3 b4))) rfl c3
    have st2 : TL.S (cxOf (L2.CX P w) P w K mg base N_rounds "_law_rounds" (defScope s) f (.ref cR) A outer s0 H Ex) T Ex (.If (.Compare (.Name "cells" q1) [.Eq] [.List [] q2] q3) [.Assign [.Name "cells" q4] (.List [.Constant (.int 0) j q5] q6) q7] [] q8)
      (sIf (tOfE (mP2 oEq (mVar 2) (mDisp pLst aNil))) (sSet 2 (mDisp pLst (aCons (mC (.int 0)) aNil))) sNil) :=
      S_if (Et_cmp (op_eq' ci) (E_var ci v2) (E_lst Ea_nil)) (Ss_one (S_set ci s2 (E_lst (Ea_cons E_int Ea_nil)))) Ss_nil
    have hi : TL.I (cxOf (L2.CX P w) P w K mg base N_rounds "_law_rounds" (defScope s) f (.ref cR) A outer s0 H Ex) T Ex (.Name "cell" r4) (.Name "cells" r5) (iSeq (mVar 2)) := I_seq (E_var ci v2)
    have st3 := ps_ret (pos := r7) (pe_lc (X := cxOf (L2.CX P w) P w K mg base N_rounds "_law_rounds" (defScope s) f (.ref cR) A outer s0 H Ex) (elt := .Call (.Name "_law_dice" r1) [.Name "cell" r2] [] r3) (ifs := []) (scope := scope) (own := [("cell", 3)]) (pos := r6) (g := tG (cxOf (L2.CX P w) P w K mg base N_rounds "_law_rounds" (defScope s) f (.ref cR) A outer s0 H Ex) T W0 (.name 3)) (tt := L2.tYes)
      (te := tE (cxOf (L2.CX P w) P w K mg base N_rounds "_law_rounds" (defScope s) f (.ref cR) A outer s0 H Ex) T W0 (mCall fD (aCons (mVar 3) aNil))) ci.calm ci.nd hi.run (blkOk_by hblk)
      (fun s' H' C cl fp => (G_name (T := T) (W := W0) (i := 3) (ci.blk s' H' scope cl C fp) t3).run) (fun _ _ _ _ _ => pts_nil)
      (fun s' H' C cl fp => (E_call (ci.blk s' H' scope cl C fp) takesW0 cD (Nat.le_refl _) gd (len_cons len_nil) (Ea_cons (E_var (ci.blk s' H' scope cl C fp) w3) Ea_nil)).run))
    rw [hbody]
    refine ⟨_, pss_cons st1 (pss_cons st2.run (pss_one st3)), ?_⟩
    refine ⟨.ref u, rfl, .int 1, ⟨rfl, 1, rfl, u, ns.map V.int, rfl, hsq, fun p hp => ?_⟩⟩
    obtain ⟨xs, ecut, xlen, xmem⟩ := cut_one ns
    rw [ecut]
    have g1 := Gr.upd (o := .lst (xs.map V.int)) hp
    have hd1 := DR.lst (X := cxOf (L2.CX P w) P w K mg base N_rounds "_law_rounds" (defScope s) f (.ref cR) A outer s0 H Ex) (T := T) (xs := xs.map .int) r hp DRs.of_ints
    -- the cells, one or none
    have at1 : At K mg T φ [none, none, some (.d (.list (xs.map .int))), none] st (((L2.start N_rounds [V.ref u, V.int 1]).set 2 (some (V.ref p)))) (upd H p (.lst (xs.map V.int))) := by
      refine ⟨r.gr g1, rfl, fun i v e => ?_⟩
      match i, e with
      | 2, e => cases e; exact ⟨_, rfl, hd1.2⟩
      | 0, e => cases e
      | 1, e => cases e
      | 3, e => cases e
      | n + 4, e => simp at e
    -- the test's outcome
    obtain ⟨z, hz, e2⟩ : ∃ z : Int, (z = 0 ∨ z ∈ ns) ∧ sIf (tOfE (mP2 oEq (mVar 2) (mDisp pLst aNil))) (sSet 2 (mDisp pLst (aCons (mC (.int 0)) aNil))) sNil [none, none, some (.d (.list (xs.map .int))), none] st = .nx [none, none, some (.d (.list [.int z])), none] st := by
      match xs, xlen, xmem with
      | [], _, _ => exact ⟨0, .inl rfl, rfl⟩
      | [x], _, hm => exact ⟨x, .inr (hm x (by simp)), rfl⟩
      | _ :: _ :: _, h, _ => simp at h
    refine ⟨φ, _, st, at1, ?_⟩
    rw [e2]
    intro φ1 H1 σ1 s1 r1 l1
    refine ⟨φ1, _, st, ⟨r1, l1⟩, ?_⟩
    show IPost _ T Ex φ1 st H1 _ (.ok [.int z] st)
    intro φ2 H2 J s2' r2 hJ D hDn
    have r3 := r2.hide (l := []) hDn
    have sp3 : Stp φ2 st H2 (φ2.hide D) st (upd H2 D (.lst [])) := Stp.hide hDn
    refine ⟨fun i n H' => (i = 0 ∧ n = 1 ∧ H' = upd H2 D (.lst [])) ∨ (i = 1 ∧ n = 0 ∧ ∃ (φ' : Num) (a b c : Int) (d : Addr), good z a b c ∧ H' D = some (.lst [.ref d]) ∧ φ'.ids = φ.ids ++ [d] ∧ StR K mg T φ' (st ++ [.lst [.int a, .int b, .int c]]) H' ∧ Stp φ2 st H2 φ' (st ++ [.lst [.int a, .int b, .int c]]) H' ∧ D ∉ φ'.ids), ⟨1, .inl ⟨rfl, rfl, rfl⟩⟩, ?_⟩
    rintro i n H' (⟨rfl, rfl, rfl⟩ | ⟨rfl, rfl, φ', a, b, c, d, hg, eD, ei, r', sp', nD⟩)
    · obtain ⟨go, _⟩ := hJ 0 (φ2.hide D) st (upd H2 D (.lst [])) sp3 r3
      obtain ⟨gg, gy⟩ := go (by simp)
      refine .inr ⟨gg, fun H' => ∃ (φ' : Num) (a b c : Int) (d : Addr), good z a b c ∧ H' D = some (.lst [.ref d]) ∧ φ'.ids = φ.ids ++ [d] ∧ StR K mg T φ' (st ++ [.lst [.int a, .int b, .int c]]) H' ∧ Stp φ2 st H2 φ' (st ++ [.lst [.int a, .int b, .int c]]) H' ∧ D ∉ φ'.ids, fun H' q => ⟨0, by omega, .inr ⟨rfl, rfl, q⟩⟩, fun x H4 hy => ?_⟩
      obtain ⟨gr, dz, q1, q2⟩ := gy x H4 hy
      cases q1
      have r4 := r3.gr gr
      have sp4 : Stp φ2 st H2 (φ2.hide D) st H4 := sp3.trans gr.step
      have eD4 : H4 D = some (.lst []) := gr _ _ upd_same
      have l4 : SlR K (φ2.hide D) st H4 (wipeS [none, none, some (.d (.list [.int z])), none] [3]) (wipe σ1 [3]) := ((l1.mon s2').mon sp4).wipe [3]
      refine ⟨φ2.hide D, _, st, .int z, _, ⟨r4, l4⟩, q2, rfl, fun σ5 l5 ap => ⟨wipe_apart ap (by simp [Tg.ix]), ?_⟩⟩
      show tE (cxOf (L2.CX P w) P w K mg base N_rounds "_law_rounds" (defScope s) f (.ref cR) A outer s0 H Ex) T W0 (mCall fD (aCons (mVar 3) aNil)) σ5 H4 _
      obtain ⟨a, b, c, hgood, hfD⟩ := hD z st
      refine ⟨φ2.hide D, _, st, ⟨r4, l5⟩, ?_⟩
      have em : mCall fD (aCons (mVar 3) aNil) ((wipeS [none, none, some (.d (.list [.int z])), none] [3]).set 3 (some (.d (.int z)))) st = .ok (.box st.length) (st ++ [.lst [.int a, .int b, .int c]]) := hfD
      rw [em]
      intro φ5 H5 u5 s5 r5 v5
      have nlD : ¬ Live (φ2.hide D) st D := fun l => (r4.av D (.inr rfl)).2 l.mem
      have eD5 : H5 D = some (.lst []) := by
        rcases s5.keep D _ eD4 nlD rfl with q | ⟨q, _⟩
        · exact q
        · cases q
      have av5 : φ5.av D := s5.av.1 D (.inr rfl)
      obtain ⟨dd, v5a, rfl⟩ := v5
      obtain ⟨t1, e5⟩ := s5.pre
      obtain ⟨d, eids⟩ : ∃ d, φ5.ids = φ.ids ++ [d] := by
        have p1 : φ.ids <+: φ5.ids := (((g1.step (φ := φ) (st := st)).trans s1).trans (s2'.trans (sp4.trans s5))).pre
        exact ids_snoc p1 r.len (by rw [r5.len]; simp)
      have ed : dd = d := by
        rw [eids, ← r.len, List.getElem?_append_right (Nat.le_refl _), Nat.sub_self] at v5a
        exact (Option.some.inj v5a).symm
      subst ed
      refine ⟨[], eD5, by simp [PySem.sizeLine_eq], φ5, a, b, c, dd, hgood, upd_same, eids, r5.poke av5 eD5, (sp4.trans s5).poke hDn, (r5.av D av5).2⟩
    · obtain ⟨_, stop⟩ := hJ 1 φ' _ H' sp' r'
      exact .inl ⟨stop (by simp), hq z a b c D d φ' H' hz hg eD ei r' (((g1.step (φ := φ) (st := st)).trans s1).trans (s2'.trans sp')) nD⟩
end
end TL
end

section
set_option Elab.async false
set_option linter.all false
set_option maxRecDepth 100000
set_option maxHeartbeats 1000000
set_option autoImplicit false
namespace TL
open PySem L2
def lawGood : SR → Prop
  | .nx _ _ => True
  | .ct _ _ => True
  | .bk _ _ => True
  | .rt (.d (.bool true)) _ => True
  | _ => False
def spLaw (K : PySem.W.Frag) (mg : Str → Option Value) (T : List Tb) : Sp := fun us H Q _ => ∃ (u : Addr) (ns : List Int), us = [.ref u] ∧ SqL K H u (ns.map V.int) ∧ StR K mg T ⟨[], fun _ => False⟩ [] H ∧ ∀ H', Q (.bl true) H'
section
variable {P : Program} {w : World} {K : PySem.W.Frag} {mg : Str → Option Value} {base : Heap} {T : List Tb}
theorem law_body {X : Cx} {D : DI} {k : Nat} {good : Int → Int → Int → Int → Prop} {fR : Addr} {fdR : FuncData} {W : XK} {body : List Stmt} {m : SM} {p1 p2 p3 p5 p6 p7 p8 : Pos} {j j2 : Nat} {p4 : Pos} (ci : Cin D k X) (tk : Takes X fun c d _ H => W c d H)
    (vS : D.v 0 "script" = true) (vD : D.s 1 "dice" = true) (gR : D.g "_law_rounds" = true) (hmR : X.mg "_law_rounds" = some (.ref fR)) (hkR : PySem.W.keepIn X.K (.ref fR) = true) (hbR : Binds X.K fdR ["script", "most"] []) (R : FnOk X.prog X.w X.K X.mg X.base (L2.CX X.prog X.w) k fR fdR ["script", "most"] (spR X.K X.mg T good))
    (hb : Ss X T W body m) (hN : 2 ≤ X.N.length) (plain : ∀ z a b c, good z a b c → lawGood (m (none :: some (.box 0) :: List.replicate (X.N.length - 2) none) [.lst [.int a, .int b, .int c]])) :
    ∃ t, PSs X [.For (.Name "dice" p1) (.Call (.Name "_law_rounds" p2) [.Name "script" p3, .Constant (.int 1) j p4] [] p5) body [] p6, .Return (some (.Constant (.bool true) j2 p7)) p8] t ∧
      ∀ (D' : Ends) (σ : L2.St) (H : Hp) (u : Addr) (ns : List Int), σ.length = X.N.length → σ[0]? = some (some (.ref u)) → SqL X.K H u (ns.map V.int) → StR X.K X.mg T ⟨[], fun _ => False⟩ [] H → (∀ H', D'.rt (.bl true) H') → t D' σ H := by
  obtain ⟨a1, a2, a3, a4⟩ := ci.vis vS
  obtain ⟨c1, c2, c3⟩ := ci.put vD
  obtain ⟨h1, h2, h3⟩ := ci.gl gR
  have hi : PI X (.Name "dice" p1) (.Call (.Name "_law_rounds" p2) [.Name "script" p3, .Constant (.int 1) j p4] [] p5) _ := pi_list (pe_call R ci.room h1 hmR hkR hbR .nil (pass_of tk) (pa_cons (pe_var (pos := p3) a1 a2 a3 a4) (pa_cons (pe_int (i := 1)) pa_nil)) h2)
  refine ⟨_, pss_cons (ps_for (pos := p6) ci.po ci.calm hi (pg_name (pos := p1) ci.nd c1 c2 c3) hb.run) (pss_one (ps_ret (pos := p8) pe_bl)), fun D' σ H u ns hσ h0 hsq r hq => ?_⟩
  refine ⟨.ref u, h0, u, ns, ⟨[], fun _ => False⟩, [], rfl, hsq, r, fun z a b c L d φ' H1 hz hg eL ei r1 s1 nL => ⟨L, rfl, ⟨_, .inl (.inl eL)⟩, ?_⟩⟩
  have nlv : ∀ {φ2 : Num} {st2 : Store} {H2 : Hp}, Stp φ' [.lst [.int a, .int b, .int c]] H1 φ2 st2 H2 → H2 L = some (.lst [.ref d]) := fun {φ2 st2 H2} s2 => by
    rcases s2.keep L _ eL (fun l => nL l.mem) rfl with q | ⟨q, _⟩
    · exact q
    · cases q
  refine ⟨fun i n σ' H' => H' L = some (.lst [.ref d]) ∧ ((i = 0 ∧ n = 1 ∧ σ' = σ ∧ H' = H1) ∨ (i = 1 ∧ n = 0)), ⟨1, eL, .inl ⟨rfl, rfl, rfl, rfl⟩⟩, ?_⟩
  rintro i n σ' H' ⟨eL', h | h⟩
  · obtain ⟨rfl, rfl, rfl, rfl⟩ := h
    refine .inr ⟨⟨[.ref d], .ref d, .inl (.inl eL'), rfl⟩, fun σ2 H2 => H2 L = some (.lst [.ref d]), fun σ2 H2 q => ⟨0, by omega, q, .inr ⟨rfl, rfl⟩⟩, fun x H2 hy => ?_⟩
    obtain ⟨rfl, hy⟩ := hy
    have ex := hy _ (.inl (.inl eL'))
    cases ex
    show tS X T W m _ (σ'.set 1 (some (.ref d))) _
    refine ⟨φ', none :: some (.box 0) :: List.replicate (X.N.length - 2) none, [.lst [.int a, .int b, .int c]], ⟨r1, ?_, fun i v e => ?_⟩, ?_⟩
    · rw [List.length_set, hσ]
      simp only [List.length_cons, List.length_replicate]
      omega
    · match i, e with
      | 0, e => cases e
      | 1, e =>
        cases e
        refine ⟨.ref d, ?_, d, by rw [ei]; rfl, rfl⟩
        rw [List.getElem?_set_self (by rw [hσ]; omega)]
      | i + 2, e =>
        simp only [List.getElem?_cons_succ, List.getElem?_replicate] at e
        split at e <;> cases e
    · have := plain z a b c hg
      revert this
      cases m (none :: some (.box 0) :: List.replicate (X.N.length - 2) none) [.lst [.int a, .int b, .int c]] with
      | nx sl1 st1 => exact fun _ φ2 H2 σ2 s2 _ _ => nlv s2
      | ct sl1 st1 => exact fun _ φ2 H2 σ2 s2 _ _ => nlv s2
      | bk sl1 st1 => exact fun _ φ2 H2 σ2 s2 _ _ => hq H2
      | rt v st1 =>
        intro hv φ2 H2 x s2 r2 vx
        cases v with
        | box _ => exact hv.elim
        | d y =>
          cases y with
          | bool bb =>
            cases bb with
            | false => exact hv.elim
            | true =>
              have : x = .bl true := DR.d_bool (K := X.K) (O := Av φ2 st1) (H := H2) vx
              rw [this]
              exact hq H2
          | _ => exact hv.elim
      | exn cn sl1 st1 => exact fun h => h.elim
      | stuck => exact fun h => h.elim
  · obtain ⟨rfl, rfl⟩ := h
    exact .inl ⟨⟨[.ref d], .inl (.inl eL'), by simp⟩, hq H'⟩
theorem law_ok {x : Str} {s : Stmt} {f : Addr} {fd : FuncData} {N cl : List Str} {k : Nat} {c : Addr} (F : FunC K x x s f c fd) (S : FnScope N ["script"] (defScope s)) (hN : 2 ≤ N.length)
    (hb : ∀ (A : Around) (outer : List Env) (s0 : Shared) (H : Hp) (W : XK), Cin ⟨N, defScope s, cl⟩ k (cxOf (L2.CX P w) P w K mg base N x (defScope s) f (.ref c) A outer s0 H W) → Takes (cxOf (L2.CX P w) P w K mg base N x (defScope s) f (.ref c) A outer s0 H W) (fun c d _ H => W c d H) →
      ∃ t, PSs (cxOf (L2.CX P w) P w K mg base N x (defScope s) f (.ref c) A outer s0 H W) (defBody s) t ∧
        ∀ (D' : Ends) (σ : L2.St) (H : Hp) (u : Addr) (ns : List Int), σ.length = N.length → σ[0]? = some (some (.ref u)) → SqL K H u (ns.map V.int) → StR K mg T ⟨[], fun _ => False⟩ [] H → (∀ H', D'.rt (.bl true) H') → t D' σ H) :
    FnOk P w K mg base (L2.CX P w) (k + 1) f fd ["script"] (spLaw K mg T) := by
  obtain ⟨oc, od, dV, kV, doc, pm, an, ct, osl, rfl, lk, hcd⟩ := F.ex
  refine fn_of lk hcd S ?_ ?_
  · rintro vs H Q Ex ⟨u, ns, rfl, _⟩
    rfl
  · rintro A outer s0 H vs Q Ex hr ⟨u, ns, rfl, hsq, r, hq⟩
    have tk : Takes (cxOf (L2.CX P w) P w K mg base N x (defScope s) f (.ref c) A outer s0 H Ex) (fun c d _ H => Ex c d H) := takes_of rfl rfl rfl rfl
    have ci : Cin ⟨N, defScope s, cl⟩ k (cxOf (L2.CX P w) P w K mg base N x (defScope s) f (.ref c) A outer s0 H Ex) := ⟨rfl, rfl, S.nd, hr, rfl, fun _ _ => rfl, passes_of rfl⟩
    obtain ⟨t, h1, h2⟩ := hb A outer s0 H Ex ci tk
    refine ⟨t, h1, h2 _ _ _ u ns ?_ ?_ hsq r hq⟩
    · simp [L2.start]; omega
    · rfl
end
end TL
end

section
set_option Elab.async false
set_option linter.all false
set_option maxRecDepth 100000
set_option maxHeartbeats 1000000
set_option autoImplicit false
namespace TL
open PySem L2
section
variable {P : Program} {w : World} {K : PySem.W.Frag} {mg : Str → Option Value} {base : Heap} {T : List Tb}
theorem funC_of {p : He.Defn} {x qual : Str} {s : Stmt} {fd : FuncData} (F : FunD K x qual (defArgs s) (defBody s) (defScope s) [] [] (He.fAd K p) fd) : FunC K x qual s (He.fAd K p) (He.codeOf K p) fd := by
  obtain ⟨oc, od, dV, kV, doc, pm, an, cdv, ct, osl, rfl, lk, hcd, _, _⟩ := F.ex
  obtain ⟨c, rfl⟩ := He.codeIn_ref hcd
  have e := He.codeOf_eq lk (c := c) rfl
  rw [e]
  exact ⟨oc, od, dV, kV, doc, pm, an, ct, osl, rfl, lk, hcd⟩
theorem str0 {H : Hp} (h : ∀ t ∈ T, H t.P = some (.tbl #[])) : StR K mg T ⟨[], fun _ => False⟩ [] H :=
  ⟨rfl, List.nodup_nil, fun _ z => z.elim, fun n c a e _ => by simp at e, fun t ht => ⟨#[], h t ht, trivial, fun pos cv q e _ => by cases e⟩⟩
def tabsT (K : PySem.W.Frag) (tn : List (He.Defn × (Nat → Nat → Option Str))) : List Tb := tn.map fun q => ⟨(He.cT K q.1).2, q.2⟩
theorem homes {tn : List (He.Defn × (Nat → Nat → Option Str))} (nd : ((tn.map fun q => (He.cT K q.1).2)).Nodup) (TB : ∀ p ∈ tn.map (fun q => He.cT K q.1), LamX.TabB base mg p.1 p.2) : ∀ q ∈ tn, HomeOk base mg (tabsT K tn) (He.codeOf K q.1) ⟨(He.cT K q.1).2, q.2⟩ := fun q hq => by
  refine ⟨TB (He.cT K q.1) (List.mem_map.mpr ⟨q, hq, rfl⟩), List.mem_map.mpr ⟨q, hq, rfl⟩, fun t' ht' e => ?_⟩
  obtain ⟨q', hq', rfl⟩ := List.mem_map.mp ht'
  have : q' = q := by
    have key : ∀ {l : List (He.Defn × (Nat → Nat → Option Str))}, (l.map fun q => (He.cT K q.1).2).Nodup → q ∈ l → q' ∈ l → (He.cT K q'.1).2 = (He.cT K q.1).2 → q' = q := by
      intro l
      induction l with
      | nil => intro _ h; cases h
      | cons a l ih =>
        intro nd h h' e
        rw [List.map_cons, List.nodup_cons] at nd
        rcases List.mem_cons.mp h with h1 | h1
        · rcases List.mem_cons.mp h' with h2 | h2
          · exact h2.trans h1.symm
          · exact absurd (List.mem_map.mpr ⟨q', h2, by rw [e, h1]⟩) nd.1
        · rcases List.mem_cons.mp h' with h2 | h2
          · exact absurd (List.mem_map.mpr ⟨q, h1, by rw [← e, h2]⟩) nd.1
          · exact ih nd.2 h1 h2 e
    exact key nd hq hq' e
  rw [this]
end
end TL
end

section
set_option linter.all false
set_option maxRecDepth 100000
set_option maxHeartbeats 2000000
namespace TL
open PySem L2
end TL
end

section
set_option Elab.async false
set_option linter.all false
set_option maxRecDepth 100000
set_option maxHeartbeats 1000000
set_option autoImplicit false
namespace TL
open PySem L2 PyProof.Rows
def keyIO : PyData → Option Key
  | .int i => some (.inl i)
  | .str s => some (.inr s)
  | _ => none
theorem keyIO_D : ∀ k : Key, keyIO (keyD k) = some k
  | .inl _ => rfl
  | .inr _ => rfl
theorem keyIO_is {d : PyData} {k : Key} (h : keyIO d = some k) : d = keyD k := by
  cases d <;> first | (cases h; rfl) | cases h
theorem keyD_inj {a b : Key} (h : keyD a = keyD b) : a = b := by
  have := congrArg keyIO h
  rw [keyIO_D, keyIO_D] at this
  exact Option.some.inj this
def dkv : List (PyData × PyData) → Option (List (Key × PyData))
  | [] => some []
  | (k, v) :: r => (keyIO k).bind fun k' => (dkv r).map ((k', v) :: ·)
def ofKv (m : List (Key × PyData)) : List (PyData × PyData) := m.map fun p => (keyD p.1, p.2)
theorem dkv_is : ∀ {kvs : List (PyData × PyData)} {m : List (Key × PyData)}, dkv kvs = some m → kvs = ofKv m
  | [], m, h => by cases h; rfl
  | (k, v) :: r, m, h => by
    unfold dkv at h
    obtain ⟨k', e1, h⟩ := Option.bind_eq_some_iff.mp h
    obtain ⟨m', e2, rfl⟩ := Option.map_eq_some_iff.mp h
    rw [keyIO_is e1, dkv_is e2]; rfl
def valD (m : List (Key × PyData)) (k : Key) : Option PyData := (m.find? fun kv => decide (kv.1 = k)).map (·.2)
theorem ofKv_keys (m : List (Key × PyData)) : (ofKv m).map (·.1) = (m.map (·.1)).map keyD := by simp [ofKv, List.map_map, Function.comp_def]
theorem ofKv_vals (m : List (Key × PyData)) : (ofKv m).map (·.2) = m.map (·.2) := by simp [ofKv, List.map_map, Function.comp_def]
theorem map_keyD_inj : ∀ {a b : List Key}, a.map keyD = b.map keyD → a = b
  | [], [], _ => rfl
  | [], _ :: _, h => by cases h
  | _ :: _, [], h => by cases h
  | x :: a, y :: b, h => by
    simp only [List.map_cons, List.cons.injEq] at h
    rw [keyD_inj h.1, map_keyD_inj h.2]
theorem DkO.dk {ks : List Key} {vs : List V} {o : HO} (h : DkO (ks.map keyD) vs o) : vs.length = ks.length ∧ o = .dK (ks.zip vs) := by
  obtain ⟨hl, ⟨kk, e, rfl⟩ | ⟨kk, hk, e, rfl⟩⟩ := h
  · exact ⟨by simpa using hl, by rw [map_keyD_inj e]⟩
  · exfalso
    cases kk with
    | nil => exact hk rfl
    | cons x kk =>
      cases ks with
      | nil => cases e
      | cons y ks =>
        simp only [List.map_cons, List.cons.injEq] at e
        cases y <;> exact absurd e.1 (by intro z; cases z)
section
variable {K : PySem.W.Frag} {O : Addr → Prop} {H : Hp}
def RelOD (K : PySem.W.Frag) (O : Addr → Prop) (H : Hp) : Option PyData → Option V → Prop
  | none, o => o = none
  | some d, o => ∃ v, o = some v ∧ DR K O H d v
theorem DRs.valK : ∀ {m : List (Key × PyData)} {vs : List V} {k : Key}, DRs K O H (m.map (·.2)) vs → RelOD K O H (valD m k) (valV ((m.map (·.1)).zip vs) k)
  | [], vs, k, h => by
    show valV (List.zip [] vs) k = none
    rw [List.zip_nil_left]; rfl
  | (x, d) :: m, vs, k, h => by
    obtain ⟨v, r, rfl, h1, h2⟩ := h
    have ih := DRs.valK (k := k) h2
    show RelOD K O H (valD ((x, d) :: m) k) (valV ((x, v) :: (m.map (·.1)).zip r) k)
    by_cases e : x = k
    · have e1 : valD ((x, d) :: m) k = some d := by simp [valD, List.find?_cons, e]
      rw [e1, valV_pos (p := (x, v)) e]
      exact ⟨v, rfl, h1⟩
    · have e1 : valD ((x, d) :: m) k = valD m k := by simp [valD, List.find?_cons, e]
      rw [e1, valV_neg (p := (x, v)) e]
      exact ih
theorem RelOD.isSome {a : Option PyData} {o : Option V} (h : RelOD K O H a o) : o.isSome = a.isSome := by
  cases a with
  | none => rw [show o = none from h]; rfl
  | some d => obtain ⟨v, rfl, _⟩ := h; rfl
end
section
variable {X : Cx} {T : List Tb} {φ : Num} {st : Store} {H : Hp}
theorem VD.dict {K : PySem.W.Frag} {mg : Str → Option Value} {m : List (Key × PyData)} {x : V} (s : StR K mg T φ st H) (h : VD K φ st H (.dict (ofKv m)) x) :
    ∃ a vs, x = .ref a ∧ Rd H a (.dK ((m.map (·.1)).zip vs)) ∧ DRs K (Av φ st) H (m.map (·.2)) vs ∧ vs.length = m.length := by
  have fin : ∀ {o : HO} {vs : List V}, DkO ((ofKv m).map (·.1)) vs o → vs.length = m.length ∧ o = .dK ((m.map (·.1)).zip vs) := fun {o vs} h => by
    rw [ofKv_keys] at h
    obtain ⟨h1, h2⟩ := h.dk
    exact ⟨by simpa using h1, h2⟩
  rcases h.cases with h1 | ⟨n, ⟨a, ea, rfl⟩, h1⟩
  · obtain ⟨a, o, vs, rfl, ⟨hr, _⟩, hk, hd⟩ := h1.d_dict
    obtain ⟨hl, rfl⟩ := fin hk
    have hd' := DRv.drs.mp hd
    rw [ofKv_vals] at hd'
    exact ⟨a, vs, rfl, hr, hd', hl⟩
  · rcases deref_box h1 with ⟨ys, e, q⟩ | ⟨kvs, e, q⟩
    · cases q
    · cases q
      rcases e with e | e
      · obtain ⟨o, vs, h1, h2, h3⟩ := s.cell n _ a e ea
        obtain ⟨hl, rfl⟩ := fin h2
        rw [ofKv_vals] at h3
        exact ⟨a, vs, rfl, .inl h1, h3, hl⟩
      · obtain ⟨ob, o, vs, h1, h2, h3⟩ := s.cell n _ a e ea
        obtain ⟨hl, rfl⟩ := fin h2
        rw [ofKv_vals] at h3
        exact ⟨a, vs, rfl, .inr ⟨ob, h1⟩, h3, hl⟩
theorem VD.key {K : PySem.W.Frag} {k : Key} {x : V} (h : VD K φ st H (keyD k) x) : x = kV k := by
  cases k with
  | inl i => exact h.int
  | inr i => exact h.str
theorem VD.dgetO {K : PySem.W.Frag} {mg : Str → Option Value} {m : List (Key × PyData)} {k : Key} {x y : V} (s : StR K mg T φ st H) (h : VD K φ st H (.dict (ofKv m)) x) (hy : VD K φ st H (keyD k) y) :
    ∃ a o, x = .ref a ∧ DGet H a y o ∧ RelOD K (Av φ st) H (valD m k) o := by
  obtain ⟨a, vs, rfl, hr, hd, hl⟩ := h.dict s
  exact ⟨a, _, rfl, .inl ⟨_, k, hr, hy.key, rfl⟩, hd.valK (k := k)⟩
end
def dLook (d k : PyData) : Option (Option PyData) :=
  match d with
  | .dict kvs => (dkv kvs).bind fun m => (keyIO k).map fun k' => valD m k'
  | _ => none
theorem dLook_is {d k : PyData} {r : Option PyData} (h : dLook d k = some r) : ∃ m k', d = .dict (ofKv m) ∧ k = keyD k' ∧ r = valD m k' := by
  unfold dLook at h
  split at h
  · obtain ⟨m, e1, h⟩ := Option.bind_eq_some_iff.mp h
    obtain ⟨k', e2, rfl⟩ := Option.map_eq_some_iff.mp h
    exact ⟨m, k', by rw [dkv_is e1], keyIO_is e2, rfl⟩
  · cases h
end TL
end

section
set_option Elab.async false
set_option linter.all false
set_option maxRecDepth 100000
set_option maxHeartbeats 1000000
set_option autoImplicit false
namespace TL
open PySem L2 PyProof.Rows
section
variable {X : Cx} {T : List Tb} {D : DI} {k : Nat} {W : XK}
def anyEq (x : PyData) (ds : List PyData) : Bool := ds.any fun z => PyData.eqv z x
def oIn : PyData → PyData → Option PyData
  | x, .dict kvs => (dLook (.dict kvs) x).map fun o => .bool o.isSome
  | .str i, .str j => some (.bool (!(Builtin.Str.occurrences j i 0 j.length 1).isEmpty))
  | x, .list ds => if (SeqAt.shaped x && SeqAt.shaped (.list ds)) = true then some (.bool (anyEq x ds)) else none
  | x, .tuple ds => if (SeqAt.shaped x && SeqAt.shaped (.tuple ds)) = true then some (.bool (anyEq x ds)) else none
  | _, _ => none
def oNotIn : PyData → PyData → Option PyData
  | x, .dict kvs => (dLook (.dict kvs) x).map fun o => .bool (!o.isSome)
  | .str i, .str j => some (.bool (!(!(Builtin.Str.occurrences j i 0 j.length 1).isEmpty)))
  | x, .list ds => if (SeqAt.shaped x && SeqAt.shaped (.list ds)) = true then some (.bool (!anyEq x ds)) else none
  | x, .tuple ds => if (SeqAt.shaped x && SeqAt.shaped (.tuple ds)) = true then some (.bool (!anyEq x ds)) else none
  | _, _ => none
theorem op_in' (ci : Cin D k X) : OpR X (compareOp .In) (r2 X T oIn) := by
  rintro pins s σ H x y v u Q I rx ry ⟨φ, st, a, b, d, r, va, vb, e, ok⟩
  unfold oIn at e
  split at e
  · obtain ⟨r', e1, rfl⟩ := Option.map_eq_some_iff.mp e
    obtain ⟨m, k', e2, rfl, rfl⟩ := dLook_is e1
    rw [e2] at vb
    obtain ⟨p, o, rfl, g, hr⟩ := vb.dgetO r va
    cases (show u = Value.ref p from ry)
    refine d_in (by have := ci.units; omega) I g rx fun s' I' => ⟨.bl _, H, I', rfl, ?_⟩
    have hb := ok.bool
    have hs : o.isSome = (valD m k').isSome := hr.isSome
    rw [hs]; exact hb
  · cases e
    have hx := va.str
    have hy := vb.str
    exact op_in_str pins s σ H x y v u Q I rx ry ⟨_, _, hx, hy, ok.bool⟩
  · split at e
    · rename_i h
      cases e
      rw [Bool.and_eq_true] at h
      obtain ⟨as, q1⟩ := va.reads I r (nod_shaped h.1) rx
      obtain ⟨bs, q2⟩ := vb.reads I r (nod_shaped h.2) ry
      exact SeqAt.in_list_reads q2 q1 (SeqAt.canLay_of_shaped h.2) (SeqAt.canLay_of_shaped h.1) (room_in_shaped h.1 (by have := ci.units; omega)) ⟨.bl _, H, I, rfl, ok.bool⟩
    · cases e
  · split at e
    · rename_i h
      cases e
      rw [Bool.and_eq_true] at h
      obtain ⟨as, q1⟩ := va.reads I r (nod_shaped h.1) rx
      obtain ⟨bs, q2⟩ := vb.reads I r (nod_shaped h.2) ry
      exact SeqAt.in_tuple_reads q2 q1 (SeqAt.canLay_of_shaped h.2) (SeqAt.canLay_of_shaped h.1) (room_in_shaped h.1 (by have := ci.units; omega)) ⟨.bl _, H, I, rfl, ok.bool⟩
    · cases e
  · cases e
theorem op_notIn' (ci : Cin D k X) : OpR X (compareOp .NotIn) (r2 X T oNotIn) := by
  rintro pins s σ H x y v u Q I rx ry ⟨φ, st, a, b, d, r, va, vb, e, ok⟩
  unfold oNotIn at e
  split at e
  · obtain ⟨r', e1, rfl⟩ := Option.map_eq_some_iff.mp e
    obtain ⟨m, k', e2, rfl, rfl⟩ := dLook_is e1
    rw [e2] at vb
    obtain ⟨p, o, rfl, g, hr⟩ := vb.dgetO r va
    cases (show u = Value.ref p from ry)
    refine d_notIn (by have := ci.units; omega) I g rx fun s' I' => ⟨.bl _, H, I', rfl, ?_⟩
    have hb := ok.bool
    have hs : o.isSome = (valD m k').isSome := hr.isSome
    rw [hs]; exact hb
  · cases e
    have hx := va.str
    have hy := vb.str
    exact op_notin_str pins s σ H x y v u Q I rx ry ⟨_, _, hx, hy, ok.bool⟩
  · split at e
    · rename_i h
      cases e
      rw [Bool.and_eq_true] at h
      obtain ⟨as, q1⟩ := va.reads I r (nod_shaped h.1) rx
      obtain ⟨bs, q2⟩ := vb.reads I r (nod_shaped h.2) ry
      exact SeqAt.notIn_list_reads q2 q1 (SeqAt.canLay_of_shaped h.2) (SeqAt.canLay_of_shaped h.1) (room_in_shaped h.1 (by have := ci.units; omega)) ⟨.bl _, H, I, rfl, ok.bool⟩
    · cases e
  · split at e
    · rename_i h
      cases e
      rw [Bool.and_eq_true] at h
      obtain ⟨as, q1⟩ := va.reads I r (nod_shaped h.1) rx
      obtain ⟨bs, q2⟩ := vb.reads I r (nod_shaped h.2) ry
      exact SeqAt.notIn_tuple_reads q2 q1 (SeqAt.canLay_of_shaped h.2) (SeqAt.canLay_of_shaped h.1) (room_in_shaped h.1 (by have := ci.units; omega)) ⟨.bl _, H, I, rfl, ok.bool⟩
    · cases e
  · cases e
end
end TL
end

section
set_option Elab.async false
set_option linter.all false
set_option maxRecDepth 100000
set_option maxHeartbeats 1000000
set_option autoImplicit false
namespace TL
open PySem L2 PyProof.Rows
section
variable {X : Cx} {T : List Tb} {D : DI} {k : Nat} {W : XK}
def oDix (d k : PyData) : Option PyData := (dLook d k).bind id
theorem Cin.hu1 (ci : Cin D k X) : X.A.units + 1 < cLine := by have := ci.units; omega
theorem E_dix {a b : Expr} {ma mb : EM} {pos : Pos} (ci : Cin D k X) (ha : E X T W a ma) (hb : E X T W b mb) (hs : NoSl b := by rfl) : E X T W (.Subscript a b pos) (mP2 oDix ma mb) := by
  refine ⟨PE.imp (pe_dget ci.hu1 ha.run hb.run hs) fun σ H Q h => (two h).mono fun x H1 h1 => h1.mono fun y H2 h2 => ?_⟩
  obtain ⟨φ, st, a, b, d, r, va, vb, e, ok⟩ := h2
  obtain ⟨o, e1, e2⟩ := Option.bind_eq_some_iff.mp e
  obtain ⟨m, k', rfl, rfl, rfl⟩ := dLook_is e1
  obtain ⟨p, o, rfl, g, hr⟩ := va.dgetO r vb
  rw [show valD m k' = some d from e2] at hr
  obtain ⟨v, rfl, hv⟩ := hr
  exact ⟨p, v, rfl, g, ok.old hv⟩
def plainD : Val → Option PyData
  | .d x => some x
  | .box _ => none
theorem RelOD.getD {K : PySem.W.Frag} {O : Addr → Prop} {H : Hp} {a : Option PyData} {o : Option V} {x : PyData} {z : V} (h : RelOD K O H a o) (hx : a = none → DR K O H x z) : DR K O H (a.getD x) (o.getD z) := by
  cases a with
  | none => rw [show o = none from h]; exact hx rfl
  | some d => obtain ⟨v, rfl, hv⟩ := h; exact hv
end
end TL
end

section
set_option Elab.async false
set_option linter.all false
set_option maxRecDepth 100000
set_option maxHeartbeats 1000000
set_option autoImplicit false
namespace TL
open PySem L2 PyProof.Rows PySem.Spec
section
variable {X : Cx} {T : List Tb} {D : DI} {k : Nat} {W : XK}
end
end TL
end

section
set_option Elab.async false
set_option linter.all false
set_option maxRecDepth 100000
set_option maxHeartbeats 1000000
set_option autoImplicit false
namespace TL
open PySem L2 PyProof.Rows PySem.Spec
section
variable {X : Cx} {T : List Tb} {D : DI} {k : Nat} {W : XK}
end
end TL
end

section
set_option Elab.async false
set_option linter.all false
set_option maxRecDepth 100000
set_option maxHeartbeats 1000000
set_option autoImplicit false
namespace TL
open PySem L2 PyProof.Rows PySem.Spec
section
variable {X : Cx} {T : List Tb} {D : DI} {k : Nat} {W : XK}
def repL {α : Type} (n : Nat) (xs : List α) : List α := (List.replicate n xs).flatten
theorem DRs.rep {K : PySem.W.Frag} {O : Addr → Prop} {H : Hp} {xs : List PyData} {vs : List V} (h : DRs K O H xs vs) : ∀ n, DRs K O H (repL n xs) (repL n vs)
  | 0 => rfl
  | n + 1 => by
    show DRs K O H (List.replicate (n + 1) xs).flatten (List.replicate (n + 1) vs).flatten
    rw [List.replicate_succ, List.replicate_succ, List.flatten_cons, List.flatten_cons]
    exact h.append (h.rep n)
end
end TL
end

section
set_option Elab.async false
set_option linter.all false
set_option maxRecDepth 100000
set_option maxHeartbeats 1000000
set_option autoImplicit false
namespace TL
open PySem L2 PyProof.Rows PySem.Spec
section
variable {X : Cx} {T : List Tb} {D : DI} {k : Nat} {W : XK}
def tGt (X : Cx) (T : List Tb) (W : XK) (g : List Val → SM) : TGs := fun us σ H Q => ∃ φ sl st vs D, At X.K X.mg T φ sl st σ H ∧ Paired (VR X.K φ st H) vs us ∧ (∀ σ' H', D.nx σ' H' → Q σ' H') ∧ SPost X.K X.mg T W φ st H D (g vs sl st)
structure Gt (X : Cx) (T : List Tb) (W : XK) (es : List Expr) (g : List Val → SM) : Prop where
  run : PGs X es (tGt X T W g)
end
end TL
end

section
set_option Elab.async false
set_option linter.all false
set_option maxRecDepth 100000
set_option maxHeartbeats 1000000
set_option autoImplicit false
namespace TL
open PySem L2 PyProof.Rows PySem.Spec
section
variable {X : Cx} {T : List Tb} {D : DI} {k : Nat} {W : XK}
end
end TL
end

section
set_option Elab.async false
set_option linter.all false
set_option maxRecDepth 100000
set_option maxHeartbeats 1000000
set_option autoImplicit false
namespace TL
open PySem L2 PyProof.Rows PySem.Spec
section
variable {X : Cx} {tg e : Expr} {td : TE} {apos cpos : Pos} {pins : List (Addr × Obj)} {σ : L2.St} {H : Hp} {s : Shared}
def iDkL (J : Addr → Obj → List (Key × V) → It) (td : TE) : TI := fun σ H R => td σ H fun x H1 => ∃ d kvs, x = .ref d ∧ Rd H1 d (.dK kvs) ∧ ∀ o H2, (H2 = H1 ∨ H1 d = some (.dK kvs) ∧ H2 = upd H1 d (.frz o (.dK kvs))) → H2 d = some (.frz o (.dK kvs)) → R (J d o kvs) H2
theorem froze {J : Addr → Obj → List (Key × V) → It} {R : It → Hp → Prop} {d : Addr} {kvs : List (Key × V)} (I1 : Inv X pins σ H s) (hr : Rd H d (.dK kvs)) (q : ∀ o H2, (H2 = H ∨ H d = some (.dK kvs) ∧ H2 = upd H d (.frz o (.dK kvs))) → H2 d = some (.frz o (.dK kvs)) → R (J d o kvs) H2) :
    ∃ o H2, Inv X pins σ H2 s ∧ H2 d = some (.frz o (.dK kvs)) ∧ R (J d o kvs) H2 := by
  rcases hr with hd | ⟨o, hd⟩
  · obtain ⟨od, I2⟩ := I1.lock hd trivial
    exact ⟨od, _, I2, upd_same, q od _ (.inr ⟨hd, rfl⟩) upd_same⟩
  · exact ⟨o, _, I1, hd, q o _ (.inl rfl) hd⟩
theorem pi_valuesL (he : PE X e td) (hbase : attributeBase e "values" X.env (eval e X.env) = eval e X.env := by rfl) (hline : (apos.endLine == cpos.line) = true := by rfl) : PI X tg (.Call (.Attribute e "values" apos) [] [] cpos) (iDkL Itd td) := by
  refine ⟨fun pins s σ H R I h => ?_⟩
  refine wpAny_Call_method (T := "dict") (id := "dict.values") hbase rfl hline PySem.F.plainAttrs_dict PySem.F.slot_dict_values PySem.F.type_dict_values (thn (he.run pins s σ H _ I h) fun u s1 ⟨x, H1, I1, rx, d, kvs, ex, hr, q⟩ => ?_)
  subst ex
  obtain rfl : u = Value.ref d := rx
  obtain ⟨o, H2, I2, hd, q2⟩ := froze I1 hr q
  obtain ⟨hs, hgd, hx, es, ep, vs, hdt, hsz, kv, hm⟩ := I2.frzK hd
  have hl : kvs.length = vs.length := Paired.length kv
  refine ⟨hm.dictOf.typeIs, hm.dictOf.mapOf.noDict, ?_⟩
  have I3 : Inv X pins σ H2 { s1 with heap := s1.heap.push { cls := .type "dict_values", data := .fields #[.ref d] } } := I2.kept (t' := s1.toks) fun b ob q => Heap.get?_push_of_some _ q
  have fin : wpAny (model X.prog X.w) X.A (pyIter (.ref s1.heap.objs.size)) (PIE X pins σ tg R) X.xe { s1 with heap := s1.heap.push { cls := .type "dict_values", data := .fields #[.ref d] } } := by
    refine wpAny_pyIter_values (d := d) (knd := mixKind X.prog X.w) ⟨_, Heap.get?_push_size _ rfl, rfl, rfl⟩ (hm.push _) (pi_one (tk := s1.toks) I3 _ (turn_vals _ hdt) ⟨_, Heap.get?_push_size _ rfl, rfl, ?_⟩ q2)
    rw [hl] <;> rfl
  show wpAny _ _ (callWith cpos (.builtin "dict.values") [.ref d] [] []) _ X.xe s1
  exact method_meetsIn PySem.F.slot_dict_values PySem.F.entry_dict_values rfl (PySem.evalArgs_none ⟨rfl, hm.dictOf.typeIs, PySem.F.args_dict_values_1 _, _, meets_dict_values (mixKind X.prog X.w) d hs, ⟨vs, hm.dictOf⟩, fin⟩)
end
section
variable {K : PySem.W.Frag} {mg : Str → Option Value} {T : List Tb} {φ : Num} {st : Store} {H : Hp}
theorem Stp.freeze {d : Addr} {o : Obj} {kvs : List (Key × V)} (h : H d = some (.dK kvs)) : Stp φ st H φ st (upd H d (.frz o (.dK kvs))) :=
  ⟨List.prefix_rfl, ⟨fun a q => q, fun a q => .inl q⟩, fun a u e n t => by
    by_cases z : a = d
    · subst z
      rw [h] at e; cases e
      exact .inr ⟨rfl, _, upd_same, rfl⟩
    · rw [upd_ne z]; exact .inl e, fun a l => .inl l, fun a q => by
    by_cases z : a = d
    · subst z; rw [upd_same]; exact fun q => nomatch q
    · rw [upd_ne z]; exact q, fun a ob u e => by
    by_cases z : a = d
    · subst z; rw [h] at e; cases e
    · rw [upd_ne z]; exact e⟩
theorem StR.freeze (s : StR K mg T φ st H) {d : Addr} {o : Obj} {kvs : List (Key × V)} (h : H d = some (.dK kvs)) (nl : ¬ Av φ st d) : StR K mg T φ st (upd H d (.frz o (.dK kvs))) := by
  refine ⟨s.len, s.nd, fun a q => ⟨?_, (s.av a q).2⟩, fun n c a e1 e2 => ?_, fun t ht => ?_⟩
  · obtain ⟨o', e, w⟩ := (s.av a q).1
    exact ⟨o', by rw [upd_ne (fun z => nl (.inr (by rw [← z]; exact q)))]; exact e, w⟩
  · have hc := s.cell n c a e1 e2
    have m := (Stp.freeze (φ := φ) (st := st) (o := o) h).mon
    by_cases z : a = d
    · subst z
      cases c with
      | dead => show upd H a _ a ≠ none; rw [upd_same]; exact fun q => nomatch q
      | _ => exact absurd (.inl ⟨n, _, e1, rfl, e2⟩) nl
    · exact hc.mon' m List.prefix_rfl (upd_ne z)
  · obtain ⟨ps, h1, h2, h3⟩ := s.tabs t ht
    refine ⟨ps, by rw [upd_ne (fun z => by rw [z, h] at h1; cases h1)]; exact h1, h2, fun pos cv q e1 e2 => ?_⟩
    obtain ⟨c, rfl, e⟩ := h3 pos cv q e1 e2
    exact ⟨c, rfl, by rw [upd_ne (fun z => by rw [z, h] at e; cases e)]; exact e⟩
end
def dkvD : PyData → Option (List (Key × PyData))
  | .dict kvs => dkv kvs
  | _ => none
def ksD (m : List (Key × PyData)) : List PyData := m.map fun p => keyD p.1
def vsD (m : List (Key × PyData)) : List PyData := m.map fun p => p.2
def iDkW (f : List (Key × PyData) → List PyData) (m : EM) : IM := fun sl st => (m sl st).bind fun v st1 => R.opt (((plainD v).bind dkvD).map f) st1
section
variable {X : Cx} {T : List Tb} {W : XK} {tg e : Expr} {apos cpos : Pos}
theorem zip_at {m : List (Key × PyData)} {vs : List V} (hl : vs.length = m.length) {i : Nat} {k : Key} {v : V} (h : ((m.map (·.1)).zip vs)[i]? = some (k, v)) : ∃ d, m[i]? = some (k, d) ∧ vs[i]? = some v := by
  rw [List.getElem?_zip_eq_some] at h
  obtain ⟨h1, h2⟩ := h
  rw [List.getElem?_map] at h1
  obtain ⟨p, e1, e2⟩ := Option.map_eq_some_iff.mp h1
  refine ⟨p.2, ?_, h2⟩
  rw [e1]
  obtain ⟨p1, p2⟩ := p
  simp only at e2
  rw [e2]
theorem dr_key {K : PySem.W.Frag} {O : Addr → Prop} {H : Hp} : ∀ k : Key, DR K O H (keyD k) (kV k)
  | .inl _ => rfl
  | .inr _ => rfl
theorem itr_vals {φ1 : Num} {st1 : Store} {H1 : Hp} {m : List (Key × PyData)} {d : Addr} {o : Obj} {vs : List V} (h : H1 d = some (.frz o (.dK ((m.map (·.1)).zip vs)))) (hl : vs.length = m.length) (hd : DRs X.K (Av φ1 st1) H1 (m.map (·.2)) vs) : ItR X T φ1 st1 H1 (vsD m) (Itd d o ((m.map (·.1)).zip vs)) := by
  intro i φ st H s r
  have hH := s.frz _ _ _ h
  have hD := DRs.mon s.mon _ _ hd
  have hlen : ((m.map (·.1)).zip vs).length = m.length := by simp [hl]
  have hks : (vsD m).length = m.length := by simp [vsD]
  refine ⟨fun hi => ⟨⟨hH, by omega⟩, fun u H' q => ?_⟩, fun hi => ⟨hH, by omega⟩⟩
  obtain ⟨rfl, k, e⟩ := q
  obtain ⟨dd, e1, e2⟩ := zip_at hl e
  refine ⟨Gr.refl _, dd, by simp [vsD, e1], ?_⟩
  obtain ⟨v, e3, e4⟩ := DRs.at hD (i := i) (x := dd) (by simp [e1])
  rw [e2] at e3
  cases e3
  exact e4
theorem dk_read {m : EM} {f : List (Key × PyData) → List PyData} {J : Addr → Obj → List (Key × V) → It} {σ : L2.St} {H : Hp} {Rr : It → Hp → Prop}
    (hJ : ∀ (φ1 : Num) (st1 : Store) (H1 : Hp) (mm : List (Key × PyData)) (d : Addr) (o : Obj) (vs : List V), H1 d = some (.frz o (.dK ((mm.map (·.1)).zip vs))) → vs.length = mm.length → DRs X.K (Av φ1 st1) H1 (mm.map (·.2)) vs → ItR X T φ1 st1 H1 (f mm) (J d o ((mm.map (·.1)).zip vs)))
    (h : tI X T W (iDkW f m) σ H Rr) : iDkL J (tE X T W m) σ H Rr := by
  obtain ⟨φ, sl, st, h0, h⟩ := h
  refine (tE_bindI h0 h).mono fun u H1 ⟨φ1, st1, v, a1, v1, s1, p1⟩ => ?_
  cases v with
  | box n => simp only [plainD, Option.bind, Option.map, R.opt_none] at p1; exact p1.elim
  | d x =>
    cases x with
    | dict kvs =>
      cases em : dkv kvs with
      | none => simp only [plainD, Option.bind, dkvD, em, Option.map, R.opt_none] at p1; exact p1.elim
      | some mm =>
        simp only [plainD, Option.bind, dkvD, em, Option.map, R.opt_some] at p1
        have ek := dkv_is em
        subst ek
        obtain ⟨a, o, vs, rfl, ⟨hr, hn⟩, hk, hd⟩ := (show DR X.K (Av φ1 st1) H1 (.dict (ofKv mm)) u from v1).d_dict
        rw [ofKv_keys] at hk
        obtain ⟨hl, rfl⟩ := hk.dk
        have hd' := DRv.drs.mp hd
        rw [ofKv_vals] at hd'
        have hl' : vs.length = mm.length := by simpa using hl
        refine ⟨a, _, rfl, hr, fun ob H2 hc hf => ?_⟩
        rcases hc with rfl | ⟨hd1, rfl⟩
        · exact p1 φ1 _ _ .refl a1.s (hJ _ _ _ _ _ _ _ hf hl' hd')
        · have sf : Stp φ1 st1 H1 φ1 st1 (upd H1 a (.frz ob (.dK ((mm.map (·.1)).zip vs)))) := Stp.freeze hd1
          exact p1 φ1 _ _ sf (a1.s.freeze hd1 hn) (hJ _ _ _ _ _ _ _ hf hl' (DRs.mon sf.mon _ _ hd'))
    | _ => simp only [plainD, Option.bind, dkvD, Option.map, R.opt_none] at p1; exact p1.elim
theorem I_values {m : EM} (h : E X T W e m) (hbase : attributeBase e "values" X.env (eval e X.env) = eval e X.env := by rfl) (hline : (apos.endLine == cpos.line) = true := by rfl) : I X T W tg (.Call (.Attribute e "values" apos) [] [] cpos) (iDkW vsD m) :=
  ⟨PI.imp (pi_valuesL h.run hbase hline) fun σ H R q => dk_read (fun _ _ _ _ _ _ _ h hl hd => itr_vals h hl hd) q⟩
end
end TL
end

section
set_option Elab.async false
set_option linter.all false
set_option maxRecDepth 100000
set_option maxHeartbeats 1000000
set_option autoImplicit false
namespace TL
open PySem L2 PyProof.Rows PySem.Spec
section
variable {α β κ : Type} [DecidableEq κ]
def putG (m : List (κ × α)) (k : κ) (v : α) : List (κ × α) :=
  if (m.any fun kv => decide (kv.1 = k)) = true then m.map (fun kv => if kv.1 = k then (kv.1, v) else kv) else m ++ [(k, v)]
def mergeG (m more : List (κ × α)) : List (κ × α) := more.foldl (fun acc kv => putG acc kv.1 kv.2) m
end
section
variable {κ : Type} [DecidableEq κ] {K : PySem.W.Frag} {O : Addr → Prop} {H : Hp}
def RelM (K : PySem.W.Frag) (O : Addr → Prop) (H : Hp) (m : List (κ × PyData)) (kvs : List (κ × V)) : Prop := Paired (fun (p : κ × PyData) (q : κ × V) => p.1 = q.1 ∧ DR K O H p.2 q.2) m kvs
theorem pAny {m : List (κ × PyData)} {kvs : List (κ × V)} {k : κ} (h : RelM K O H m kvs) : (m.any fun kv => decide (kv.1 = k)) = (kvs.any fun kv => decide (kv.1 = k)) := by
  unfold RelM at h
  induction h with
  | nil => rfl
  | cons h t ih => simp only [List.any_cons, h.1, ih]
theorem RelM.rep {k : κ} {d : PyData} {v : V} (hv : DR K O H d v) {m : List (κ × PyData)} {kvs : List (κ × V)} (h : RelM K O H m kvs) : RelM K O H (m.map (fun kv => if kv.1 = k then (kv.1, d) else kv)) (kvs.map (fun kv => if kv.1 = k then (kv.1, v) else kv)) := by
  unfold RelM at h ⊢
  induction h with
  | nil => exact .nil
  | @cons p q ps qs h t ih =>
    simp only [List.map_cons]
    refine .cons ?_ ih
    by_cases e : p.1 = k
    · rw [if_pos e, if_pos (h.1 ▸ e)]; exact ⟨h.1, hv⟩
    · rw [if_neg e, if_neg (h.1 ▸ e)]; exact h
theorem RelM.app {k : κ} {d : PyData} {v : V} (hv : DR K O H d v) {m : List (κ × PyData)} {kvs : List (κ × V)} (h : RelM K O H m kvs) : RelM K O H (m ++ [(k, d)]) (kvs ++ [(k, v)]) := by
  unfold RelM at h ⊢
  induction h with
  | nil => exact .cons ⟨rfl, hv⟩ .nil
  | cons h t ih => exact .cons h ih
theorem RelM.put {m : List (κ × PyData)} {kvs : List (κ × V)} {k : κ} {d : PyData} {v : V} (h : RelM K O H m kvs) (hv : DR K O H d v) : RelM K O H (putG m k d) (putK kvs k v) := by
  unfold putG putK
  rw [pAny h]
  split
  · exact h.rep hv
  · exact h.app hv
theorem RelM.merge {more : List (Key × PyData)} {mk : List (Key × V)} (h2 : RelM K O H more mk) : ∀ {m : List (Key × PyData)} {kvs : List (Key × V)}, RelM K O H m kvs → RelM K O H (mergeG m more) (mergeK kvs mk) := by
  unfold RelM at h2
  induction h2 with
  | nil => intro m kvs h; exact h
  | @cons p q ps qs h t ih =>
    intro m kvs hm
    have := hm.put (k := p.1) h.2
    show RelM K O H (mergeG (putG m p.1 p.2) ps) (mergeK (putK kvs q.1 q.2) qs)
    rw [← h.1]; exact ih this
theorem RelM.keys {m : List (κ × PyData)} {kvs : List (κ × V)} (h : RelM K O H m kvs) : kvs = (m.map (·.1)).zip (kvs.map (·.2)) ∧ DRs K O H (m.map (·.2)) (kvs.map (·.2)) ∧ kvs.length = m.length := by
  unfold RelM at h
  induction h with
  | nil => exact ⟨rfl, rfl, rfl⟩
  | @cons p q ps qs h t ih =>
    obtain ⟨h1, h2, h3⟩ := ih
    refine ⟨?_, ?_, by simp [h3]⟩
    · simp only [List.map_cons, List.zip_cons_cons]
      rw [← h1, h.1]
    · simp only [List.map_cons]
      exact ⟨_, _, rfl, h.2, h2⟩
theorem RelM.of {m : List (κ × PyData)} : ∀ {vs : List V}, vs.length = m.length → DRs K O H (m.map (·.2)) vs → RelM K O H m ((m.map (·.1)).zip vs) := by
  induction m with
  | nil => intro vs _ _; exact .nil
  | cons p ps ih =>
    intro vs hl hd
    obtain ⟨v, r, rfl, h1, h2⟩ := hd
    exact .cons ⟨rfl, h1⟩ (ih (by simpa using hl) h2)
end
section
variable {X : Cx} {T : List Tb} {D : DI} {k : Nat} {W : XK} {φ : Num} {st : Store} {H : Hp}
theorem DR.dct {m : List (Key × PyData)} {kvs : List (Key × V)} {p : Addr} (r : StR X.K X.mg T φ st H) (hp : H p = none) (h : RelM X.K (Av φ st) H m kvs) : Gr H (upd H p (.dK kvs)) ∧ DR X.K (Av φ st) (upd H p (.dK kvs)) (.dict (ofKv m)) (.ref p) := by
  have g := Gr.upd (o := .dK kvs) hp
  obtain ⟨h1, h2, h3⟩ := h.keys
  refine ⟨g, ?_⟩
  unfold DR
  refine ⟨p, .dK kvs, kvs.map (·.2), rfl, ⟨.inl upd_same, r.fr hp⟩, ⟨by simp [ofKv, h3], .inl ⟨m.map (·.1), by rw [ofKv_keys], by rw [← h1]⟩⟩, DRv.drs.mpr ?_⟩
  rw [ofKv_vals]
  exact DRs.mon (g.step (φ := φ) (st := st)).mon _ _ h2
theorem OkD.dct {m : List (Key × PyData)} {kvs : List (Key × V)} {p : Addr} {Q : VK} (h : OkD X T φ st H (.dict (ofKv m)) Q) (r : StR X.K X.mg T φ st H) (hp : H p = Option.none) (hv : RelM X.K (Av φ st) H m kvs) : Q (.ref p) (upd H p (.dK kvs)) := by
  obtain ⟨g, q⟩ := DR.dct r hp hv
  exact h _ _ g q
def pairD : PyData → Option (Key × PyData)
  | .tuple [k, v] => (keyIO k).map fun k' => (k', v)
  | _ => none
def pairsD : List PyData → Option (List (Key × PyData))
  | [] => some []
  | x :: xs => (pairD x).bind fun p => (pairsD xs).map (p :: ·)
def oDictC : List PyData → Option PyData
  | [.list xs] => (pairsD xs).map fun m => .dict (ofKv (mergeG [] m))
  | [.dict kvs] => (dkv kvs).map fun m => .dict (ofKv m)
  | _ => none
theorem pairD_is {x : PyData} {p : Key × PyData} (h : pairD x = some p) : x = .tuple [keyD p.1, p.2] := by
  unfold pairD at h
  split at h
  · obtain ⟨k', e, rfl⟩ := Option.map_eq_some_iff.mp h
    rw [keyIO_is e]
  · cases h
theorem pairs_read {K : PySem.W.Frag} {O : Addr → Prop} {H : Hp} : ∀ {xs : List PyData} {m : List (Key × PyData)} {vs : List V}, pairsD xs = some m → DRs K O H xs vs → ∃ (ps : List Addr) (kvs : List (Key × V)), vs = ps.map V.ref ∧ Paired (fun p (kv : Key × V) => SqT K H p [kV kv.1, kv.2]) ps kvs ∧ RelM K O H m kvs
  | [], m, vs, h, hd => by
    cases h
    have : vs = [] := hd
    subst this
    exact ⟨[], [], rfl, .nil, .nil⟩
  | x :: xs, m, vs, h, hd => by
    unfold pairsD at h
    obtain ⟨p, e1, h⟩ := Option.bind_eq_some_iff.mp h
    obtain ⟨m', e2, rfl⟩ := Option.map_eq_some_iff.mp h
    obtain ⟨v, r, rfl, h1, h2⟩ := hd
    rw [pairD_is e1] at h1
    obtain ⟨ps, kvs, rfl, hp, hr⟩ := pairs_read e2 h2
    obtain ⟨a, us, rfl, ht, u1, r1, rfl, k1, u2, r2, rfl, k2, r3⟩ := h1
    have r3 : r2 = [] := r3
    subst r3
    have ek : u1 = kV p.1 := by
      cases hk : p.1 with
      | inl i => rw [hk] at k1; exact k1
      | inr i => rw [hk] at k1; exact k1
    subst ek
    exact ⟨a :: ps, (p.1, u2) :: kvs, rfl, .cons ht.sq hp, .cons ⟨rfl, k2⟩ hr⟩
theorem call_dict' (ci : Cin D k X) : CallR X (.type "dict") (rn X T oDictC) := by
  rintro pins s σ H xs us Q I rv ⟨φ, st, as, d, r, pr, e, ok⟩
  unfold oDictC at e
  split at e
  · obtain ⟨m, e1, rfl⟩ := Option.map_eq_some_iff.mp e
    obtain ⟨x, rfl, vx⟩ := paired1 pr
    obtain ⟨p, vs, rfl, hl, hd⟩ := vx.list r
    obtain ⟨ps, kvs, rfl, hp, hr⟩ := pairs_read e1 hd
    have hm : RelM X.K (Av φ st) H (mergeG [] m) (mergeK [] kvs) := hr.merge .nil
    exact call_dictP ci.calm pins s σ H _ us Q I rv ⟨p, ps, kvs, rfl, hl.sq, hp, fun q hq => ok.dct r hq hm⟩
  · obtain ⟨m, e1, rfl⟩ := Option.map_eq_some_iff.mp e
    obtain ⟨x, rfl, vx⟩ := paired1 pr
    rw [dkv_is e1] at vx
    obtain ⟨a, vs, rfl, hr, hd, hl⟩ := vx.dict r
    exact call_dictD pins s σ H _ us Q I rv ⟨a, _, rfl, hr, fun q hq => ok.dct r hq (RelM.of hl hd)⟩
  · cases e
end
end TL
end

section
set_option Elab.async false
set_option linter.all false
set_option maxRecDepth 100000
set_option maxHeartbeats 1000000
set_option autoImplicit false
namespace TL
open PySem L2 PyProof.Rows PySem.Spec PySem.SeqAt
open PySem.W (dataLt alike AlikeAll iter_listW cmpIn_lt cmpIn_gt moved_old readsAll_atA readsAll_len argBest_fold)
section
variable {prog : Program} {w : World} {A : Around} {E : Value → Shared → Prop} {s : Shared}
end
section
variable {X : Cx} {T : List Tb} {D : DI} {k : Nat} {W : XK}
end
end TL
end

section
set_option Elab.async false
set_option linter.all false
set_option maxRecDepth 100000
set_option maxHeartbeats 2000000
set_option autoImplicit false
namespace TL
open PySem PySem.Spec PyProof.Rows L2
open PySem.W (dataLt alike)
open Sem (wp)
structure KeyJ (prog : Program) (w : World) (A : Around) (q S : Addr) (wr : List Addr) (G : Array GenState → Array GenState → Prop) (n : Nat) (P : Nat → Value → Prop) (St : Nat → Shared → Prop) (M : Nat → Option (Nat × Value) → Shared → Prop) (M2 : Nat → Option (Nat × Value) → Value → Shared → Prop) (bt : Nat → Nat → Bool) : Prop where
  keep : ∀ i c s s', M i c s → Moved (S :: wr) G s s' → M i c s'
  turn : ∀ i c v (s : Shared) (o : Obj) (Q : Value → Shared → Prop) (E : Value → Shared → Prop), i < n → P i v → M i c s → St (i + 1) s → s.heap.get? S = some o → (∀ u, o.data ≠ .cell u) →
    (∀ kx s', M2 i c kx s' → St (i + 1) s' → s'.heap.get? S = some o → Q kx s') → wpAny (model prog w) A (PySem.call (.ref q) [v]) Q E s
  cmp : ∀ i b kb kx (s : Shared) (Q : Value → Shared → Prop) (E : Value → Shared → Prop), M2 i (some (b, kb)) kx s → Q (.bool (bt i b)) s → wpAny (model prog w) A (richCompare .Lt kx kb) Q E s
  new : ∀ i c kx s, M2 i c kx s → M (i + 1) (some (i, kx)) s
  old : ∀ i c kx s, M2 i c kx s → M (i + 1) c s
section
variable {prog : Program} {w : World} {A : Around} {R : Result → Shared → Prop} {I q : Addr} {fp wr : List Addr} {G : Array GenState → Array GenState → Prop} {n : Nat} {P : Nat → Value → Prop} {St : Nat → Shared → Prop} {M : Nat → Option (Nat × Value) → Shared → Prop} {M2 : Nat → Option (Nat × Value) → Value → Shared → Prop} {bt : Nat → Nat → Bool}
end
end TL
end

section
set_option Elab.async false
set_option linter.all false
set_option maxRecDepth 100000
set_option maxHeartbeats 2000000
set_option autoImplicit false
namespace TL
open PySem PySem.Spec PyProof.Rows L2
open PySem.W (dataLt alike rcLt_alike)
section
variable {X : Cx} {pins : List (Addr × Obj)} {σ : L2.St} {H : Hp} {s : Shared} {T : List Tb} {D : DI} {k : Nat}
structure MKd (X : Cx) (pins : List (Addr × Obj)) (σ : L2.St) (T : List Tb) (pi : Nat) (m : EM) (sl : Slots) (ds ksF : List PyData) (stF : Store) (φ0 : Num) (st0 : Store) (H0 : Hp) (S It : Addr) (i : Nat) (c : Option (Nat × Value)) (s' : Shared) (φ' : Num) (sti : Store) (H' : Hp) : Prop where
  inv : Inv X pins σ H' s'
  str : StR X.K X.mg T φ' sti H'
  stp : Stp φ0 st0 H0 φ' sti H'
  fS : FpOk X pins H' S
  fI : FpOk X pins H' It
  kg : keyG pi m sl (ds.drop i) sti = .ok (ksF.drop i) stF
  best : ∀ b kb, c = some (b, kb) → b < ksF.length ∧ ∃ x', RelV x' kb ∧ DR X.K (Av φ' sti) H' (ksF.getD b .none) x'
end
end TL
end

section
set_option Elab.async false
set_option linter.all false
set_option maxRecDepth 100000
set_option maxHeartbeats 1000000
set_option autoImplicit false
namespace TL
open PySem L2 PyProof.Rows PySem.Spec
section
variable {X : Cx} {T : List Tb} {D : DI} {k : Nat} {W : XK}
theorem E_dnew {pos : Pos} : E X T W (.Dict [] [] pos) (mC (.dict [])) := by
  refine ⟨PE.imp pe_dnewK ?_⟩
  rintro σ H Q ⟨φ, sl, st, h0, h⟩ p hp
  have h' : EPost X.K X.mg T W φ st H Q (.ok (.d (.dict [])) st) := h
  obtain ⟨g, q⟩ := DR.dct (m := []) (kvs := []) h0.s hp .nil
  exact h' φ _ _ g.step (h0.s.gr g) q
end
end TL
end

section
set_option Elab.async false
set_option linter.all false
set_option maxRecDepth 100000
set_option maxHeartbeats 1000000
set_option autoImplicit false
namespace TL
open PySem L2 PyProof.Rows PySem.Spec
open PySem.W (alike dataLt AllAlike Sortable dataLe EachIs)
mutual
theorem reads_there {h : Heap} : ∀ {v : Value} {d : PyData} {as : List Addr}, Reads h v d as → ∀ a ∈ as, ∃ o, h.get? a = some o
  | _, _, _, .none, a, ha => by cases ha
  | _, _, _, .bool _, a, ha => by cases ha
  | _, _, _, .int _ _, a, ha => by cases ha
  | _, _, _, .str _ _, a, ha => by cases ha
  | _, _, _, .list h1 _ _ h4, a, ha => by
    rcases List.mem_cons.mp ha with e | ha
    · rw [e]; exact ⟨_, h1⟩
    · exact reads_thereAll h4 a ha
  | _, _, _, .tuple _ _ _ h4, a, ha => reads_thereAll h4 a ha
  | _, _, _, .dict h1 _ _ h4 h5, a, ha => by
    rcases List.mem_cons.mp ha with e | ha
    · rw [e]; exact ⟨_, h1⟩
    · rcases List.mem_append.mp ha with ha | ha
      · exact reads_thereAll h4 a ha
      · exact reads_thereAll h5 a ha
theorem reads_thereAll {h : Heap} : ∀ {vs : List Value} {ds : List PyData} {as : List Addr}, ReadsAll h vs ds as → ∀ a ∈ as, ∃ o, h.get? a = some o
  | _, _, _, .nil, a, ha => by cases ha
  | _, _, _, .cons h1 h2, a, ha => by
    rcases List.mem_append.mp ha with ha | ha
    · exact reads_there h1 a ha
    · exact reads_thereAll h2 a ha
end
theorem each_fresh {h : Heap} {o : Obj} {vs : List Value} {ds : List PyData} (e : EachIs (fun v b => ∃ as, Reads h v (id b) as) vs ds) : EachIs (fun v b => ∃ as, Reads (h.push o) v (id b) as ∧ h.objs.size ∉ as) vs ds :=
  e.mono fun v b ⟨as, r⟩ => ⟨as, PyProof.Rows.Reads.keeps (fun _ _ e => Heap.get?_push_of_some _ e) r, fun hm => by
    obtain ⟨o', ho⟩ := reads_there r _ hm
    exact Nat.lt_irrefl _ (Heap.lt_size ho)⟩
section
variable {X : Cx} {T : List Tb} {D : DI} {k : Nat} {W : XK}
theorem drs_keys {K : PySem.W.Frag} {O : Addr → Prop} {H : Hp} : ∀ m : List (Key × PyData), DRs K O H (ksD m) (m.map fun p => kV p.1)
  | [] => rfl
  | p :: m => ⟨_, _, rfl, dr_key p.1, drs_keys m⟩
theorem sort_new (ci : Cin D k X) {φ : Num} {st : Store} {H : Hp} {σ : L2.St} {pins : List (Addr × Obj)} {s : Shared} {h' : Heap} {tk : Nat} {Q : VK} {vs : List V} {us : List Value} {ds : List PyData} (I1 : Inv X pins σ H { s with heap := h', toks := tk })
    (hd : DRs X.K (Av φ st) H ds vs) (rv : Vals vs us) (hok : sortOk ds = true) (ok : ∀ p vs', H p = none → DRs X.K (Av φ st) H (ds.mergeSort (dataLe false id)) vs' → Q (.ref p) (upd H p (.lst vs'))) :
    wpAny (model X.prog X.w) X.A.in1 (call (.builtin "list.sort") [.ref h'.objs.size]) (fun _ s' => EP X pins σ Q (.ref h'.objs.size) s') X.xe { s with heap := h'.push { cls := .type "list", data := .seq us.toArray }, toks := tk } := by
  obtain ⟨h1, h2, h3, h4, h5⟩ := sortOk_of hok
  have ee := each_of hd rv
  have er := each_fresh (o := { cls := .type "list", data := .seq us.toArray }) (each_reads I1 h3 ee)
  have hoL : (h'.push { cls := .type "list", data := .seq us.toArray }).get? h'.objs.size = some (PyProof.Rows.seqObj "list" us.toArray 0) := Heap.get?_push_size _ rfl
  refine PySem.W.list_sort_data (enc := id) (R := RD X.K (Av φ st) H) hoL ee er (by simpa using h1) (by simpa using h2) h5 (fun b hb => ?_) fun out hl' ho => ?_
  · have a := h4 b hb
    have c := ci.units
    show X.A.units + 1 + 1 + b.depth < cLine
    omega
  · obtain ⟨vs', rv', hd'⟩ := of_each ho
    obtain ⟨ep, he⟩ := PyProof.Rows.sortedHeap_at (vs := us) (out := out.toArray) hoL
    have hlen : vs'.length ≤ sizeLine := by rw [hd'.length, List.length_mergeSort]; exact h5
    refine ⟨.ref h'.objs.size, upd H h'.objs.size (.lst vs'), I1.laid (t' := tk) (fun b u e => ?_) (Nat.le_refl _) (show ObjOk X.prog X.w _ _ _ (.lst vs') from ⟨hlen, out, ep, rv', he⟩), rfl, ok _ _ (I1.hok.fresh (Nat.le_refl _)) hd'⟩
    have hb : b < h'.objs.size := Heap.lt_size e
    rw [PyProof.Rows.sortedHeap_old (Nat.ne_of_lt hb) (by rw [size_push']; exact Nat.lt_succ_of_lt hb)]
    exact Heap.get?_push_of_some _ e
def oSortK : List PyData → Option PyData
  | [.dict kvs] => (dkv kvs).bind fun m => if sortOk (ksD m) = true then some (.list ((ksD m).mergeSort (dataLe false id))) else none
  | _ => none
theorem call_sortedK' (ci : Cin D k X) : CallR X (.builtin "sorted") (rn X T oSortK) := by
  rintro pins s σ H xs us Q I rv ⟨φ, st, as, d, r, pr, e, ok⟩
  unfold oSortK at e
  split at e
  · obtain ⟨m, em, e⟩ := Option.bind_eq_some_iff.mp e
    split at e
    · rename_i hok
      cases e
      have ek := dkv_is em
      subst ek
      obtain ⟨x, rfl, vx⟩ := paired1 pr
      obtain ⟨a, vs, rfl, hr, hd, hl⟩ := vx.dict r
      rw [Vals.ref1 rv]
      obtain ⟨z, lo, ws, rel, dd⟩ := dk_rd I.hok hr
      obtain ⟨ep, hat⟩ := dd.dictAt
      have hlw : ws.length = m.length := by rw [← rel.length]; simp [hl]
      have h16 : ws.length ≤ sizeLine := by rw [← rel.length]; exact z
      have hkeys : ws.map (·.1) = m.map (·.1) := by
        rw [← rel.keys, List.map_fst_zip (by simp [hl])]
      refine Calls.call_function_entry PyProof.Rows.kind_sorted PyProof.Rows.plain_sorted PyProof.Rows.entry_sorted (PyProof.Rows.args_sorted1 _) ?_
      unfold Builtin.«sorted»
      refine wpAny_bind (m := checkCount "sorted" 1 1 _) (wpAny_pure ?_)
      refine wpAny_bind (PySem.W.kdu_collect (A := X.A.in1) (PySem.W.kdl_dict (knd := mixKind X.prog X.w) (kvs := ws) (ep := ep) lo) (I.ok.hd ci.calm) hat h16 fun h' tk acc hk hacc => ?_)
      have hal : acc.toList.length = ws.length := by rw [Array.length_toList, hacc.1]
      have hv : Vals (ws.map fun p => kV p.1) acc.toList := keys_at hal fun j v e => by
        obtain ⟨k, x, e1, e2⟩ := hacc.2 j v (by rw [← Array.getElem?_toList]; exact e)
        exact ⟨k, x, e1, e2⟩
      have ew : (ws.map fun p => kV p.1) = m.map fun p => kV p.1 := by
        have := congrArg (List.map kV) hkeys
        rw [List.map_map, List.map_map] at this
        exact this
      rw [ew] at hv
      have I1 : Inv X pins σ H { s with heap := h', toks := tk } := I.kept hk
      refine wpAny_bind (wpAny_newList ?_ (by rw [hal]; exact h16))
      refine wpAny_bind (wpAny_holding (wpAny_mono (sort_new ci I1 (drs_keys m) hv hok (Q := Q) fun p vs' hp hd' => ok.lst r hp hd') (fun _ s' x => ?_) fun _ _ e => e))
      exact wpAny_pure ⟨_, rfl, x⟩
    · cases e
  · cases e
end
end TL
end

section
set_option Elab.async false
set_option linter.all false
set_option maxRecDepth 100000
set_option maxHeartbeats 1000000
set_option autoImplicit false
namespace TL
open PySem L2 PyProof.Rows PySem.Spec
open PySem.W (alike dataLt AllAlike Sortable dataLe EachIs)
section
variable {X : Cx} {T : List Tb} {D : DI} {k : Nat} {W : XK}
end
end TL
end

section
set_option Elab.async false
set_option linter.all false
set_option maxRecDepth 100000
set_option maxHeartbeats 1000000
set_option autoImplicit false
namespace TL
open PySem L2 PyProof.Rows PySem.Spec
section
variable {X : Cx} {T : List Tb} {D : DI} {k : Nat} {W : XK}
end
end TL
end

section
set_option Elab.async false
set_option linter.all false
set_option maxRecDepth 100000
set_option maxHeartbeats 1000000
set_option autoImplicit false
namespace TL
open PySem L2 PyProof.Rows PySem.Spec
section
variable {X : Cx} {T : List Tb} {D : DI} {k : Nat} {W : XK}
end
end TL
end

section
set_option Elab.async false
set_option linter.all false
set_option maxRecDepth 100000
set_option maxHeartbeats 1000000
set_option autoImplicit false
namespace TL
open PySem L2
section
variable {X : Cx} {T : List Tb} {D : DI} {k : Nat} {W : XK} {pos : Pos}
def sRaiseA (c : Str) (m : EM) : SM := fun sl st => aS (m sl st) sl fun _ st1 => .exn c sl st1
theorem S_raiseA {c : Str} {p pos pos2 : Pos} {e : Expr} {m : EM} (ci : Cin D k X) (tk : Takes X fun c d _ H => W c d H) (hc : ExnOk X.K X.mg c) (hg : D.g c = true) (h : E X T W e m)
    (he : starEach [e] X.env = (false, eval e X.env) :: starEach [] X.env := by rfl) : S X T W (.Raise (some (.Call (.Name c p) [e] [] pos2)) none pos) (sRaiseA c m) := by
  obtain ⟨C, h1, h2, h3, h4, h5⟩ := hc
  obtain ⟨g1, g2, g3⟩ := ci.gl hg
  refine ⟨PS.imp (ps_raise ci.calm tk (pmk_ownA PySem.F.excBase_ValueError h2 h1 h3 (raises_own h4 h5) g1 (pa_cons h.run pa_nil he) g2 he (by rfl))) ?_⟩
  rintro D σ H ⟨φ, sl, st, h0, h⟩
  refine (tE_bindS h0 h).mono fun u H1 ⟨φ1, st1, v, a1, v1, s1, p1⟩ => ?_
  exact ⟨by rw [sizeLine_eq]; show 1 ≤ 16777216; omega, p1 φ1 H1 σ C .refl a1.s a1.l h1⟩
end
end TL
end

section
set_option Elab.async false
set_option linter.all false
set_option maxRecDepth 100000
set_option maxHeartbeats 1000000
set_option autoImplicit false
namespace TL
open PySem L2
section
variable {X : Cx} {T : List Tb} {D : DI} {k : Nat} {W : XK}
end
end TL
end

section
set_option Elab.async false
set_option linter.all false
set_option maxRecDepth 100000
set_option maxHeartbeats 1000000
set_option autoImplicit false
namespace TL
open PySem L2
section
variable {X : Cx} {T : List Tb} {D : DI} {k : Nat} {W : XK}
end
end TL
end

section
set_option Elab.async false
set_option linter.all false
set_option maxRecDepth 100000
set_option maxHeartbeats 1000000
set_option autoImplicit false
namespace TL
open PySem L2 PyProof.Rows PySem.Spec
open PySem.W (alike dataLt AllAlike Sortable dataLe EachIs)
section
variable {prog : Program} {w : World} {A : Around} {E : Value → Shared → Prop} {s : Shared}
end
section
variable {X : Cx} {T : List Tb} {D : DI} {k : Nat} {W : XK}
end
end TL
end

section
set_option Elab.async false
set_option linter.all false
set_option maxRecDepth 100000
set_option maxHeartbeats 1000000
set_option autoImplicit false
namespace TL
open PySem L2 PyProof.Rows PySem.Spec
section
variable {prog : Program} {w : World} {A : Around} {E : Value → Shared → Prop} {s : Shared}
end
section
variable {X : Cx} {T : List Tb} {D : DI} {k : Nat} {W : XK}
end
end TL
end

section
set_option Elab.async false
set_option linter.all false
set_option maxRecDepth 100000
set_option maxHeartbeats 1000000
set_option autoImplicit false
namespace TL
open PySem L2 PyProof.Rows PySem.Spec
open PySem.W (alike dataLt AllAlike Sortable dataLe EachIs)
section
variable {X : Cx} {T : List Tb} {D : DI} {k : Nat} {W : XK}
end
end TL
end

section
set_option Elab.async false
set_option linter.all false
set_option maxRecDepth 100000
set_option maxHeartbeats 1000000
set_option autoImplicit false
namespace TL
open PySem L2
section
variable {X : Cx} {T : List Tb} {D : DI} {k : Nat} {W : XK}
end
end TL
end

section
set_option Elab.async false
set_option linter.all false
set_option maxRecDepth 100000
set_option maxHeartbeats 1000000
set_option autoImplicit false
namespace TL
open PySem L2 PyProof.Rows PySem.Spec
section
variable {X : Cx} {T : List Tb} {D : DI} {k : Nat} {W : XK}
end
end TL
end

section
set_option Elab.async false
set_option linter.all false
set_option maxRecDepth 100000
set_option maxHeartbeats 1000000
set_option autoImplicit false
namespace TL
open PySem L2 PyProof.Rows
section
variable {X : Cx} {T : List Tb} {W : XK} {σ : L2.St} {H : Hp}
variable {a b c d : Expr} {op op' op'' : CmpOp} {pos : Pos} {ta tb tc td : TE}
end
end TL
end

section
set_option Elab.async false
set_option linter.all false
set_option maxRecDepth 100000
set_option maxHeartbeats 1000000
set_option autoImplicit false
namespace TL
open PySem L2 PyProof.Rows PySem.Spec
section
variable {X : Cx} {T : List Tb} {D : DI} {k : Nat} {W : XK}
end
end TL
end

section
set_option Elab.async false
set_option linter.all false
set_option maxRecDepth 100000
set_option maxHeartbeats 1000000
set_option autoImplicit false
namespace TL
open PySem L2 PyProof.Rows PySem.Spec PySem.SeqAt
open PySem.W (dataLt alike AlikeAll iter_tupleW cmpIn_lt cmpIn_gt moved_old readsAll_atA readsAll_len argBest_fold)
section
variable {prog : Program} {w : World} {A : Around} {E : Value → Shared → Prop} {s : Shared}
end
section
variable {X : Cx} {T : List Tb} {D : DI} {k : Nat} {W : XK}
end
end TL
end

section
set_option Elab.async false
set_option linter.all false
set_option maxRecDepth 100000
set_option maxHeartbeats 1000000
set_option autoImplicit false
namespace TL
open PySem L2
section
variable {D : DI} {k : Nat} {X : Cx} {T : List Tb} {W : XK}
end
end TL
end

section
set_option Elab.async false
set_option linter.all false
set_option maxRecDepth 100000
set_option maxHeartbeats 1000000
set_option autoImplicit false
namespace TL
open PySem L2 PyProof.Rows PySem.Spec
section
variable {X : Cx} {T : List Tb} {D : DI} {k : Nat} {W : XK}
end
end TL
end

section
set_option Elab.async false
set_option linter.all false
set_option maxRecDepth 100000
set_option maxHeartbeats 1000000
set_option autoImplicit false
namespace TL
open PySem L2 PyProof.Rows PySem.Spec
open Sem (wp)
section
variable {prog : Program} {w : World} {A : Around} {E : Value → Shared → Prop} {s : Shared}
end
section
variable {X : Cx} {T : List Tb} {D : DI} {k : Nat} {W : XK}
end
end TL
end

section
set_option Elab.async false
set_option linter.all false
set_option maxRecDepth 100000
set_option maxHeartbeats 1000000
set_option autoImplicit false
namespace TL
open PySem L2 PyProof.Rows PySem.Spec
section
variable {X : Cx} {T : List Tb} {D : DI} {k : Nat} {W : XK}
end
end TL
end

section
set_option Elab.async false
set_option linter.all false
set_option maxRecDepth 100000
set_option maxHeartbeats 1000000
set_option autoImplicit false
namespace TL
open PySem L2 PyProof.Rows PySem.Spec
section
variable {X : Cx} {T : List Tb} {D : DI} {k : Nat} {W : XK}
end
end TL
end

section
set_option Elab.async false
set_option linter.all false
set_option maxRecDepth 100000
set_option maxHeartbeats 1000000
set_option autoImplicit false
namespace TL
open PySem L2 PyProof.Rows PySem.Spec
section
variable {X : Cx} {T : List Tb} {D : DI} {k : Nat} {W : XK}
end
end TL
end

section
set_option Elab.async false
set_option linter.all false
set_option maxRecDepth 100000
set_option maxHeartbeats 1000000
set_option autoImplicit false
namespace TL
open PySem L2 PyProof.Rows PySem.Spec
def frzS (i : Nat) : SM := fun sl st =>
  match sl[i]? with
  | some (some (.box n)) => match st[n]? with
    | some (.lst xs) => .nx (sl.set i (some (.d (.list xs)))) (st.set n .dead)
    | some (.dic kvs) => .nx (sl.set i (some (.d (.dict kvs)))) (st.set n .dead)
    | _ => .stuck
  | _ => .stuck
section
variable {K : PySem.W.Frag} {mg : Str → Option Value} {T : List Tb} {φ : Num} {st : Store} {H : Hp} {n : Nat}
theorem live_dead {x : Addr} (h : Live φ (st.set n .dead) x) : Live φ st x := by
  obtain ⟨i, d, e1, e2, e3⟩ := h
  by_cases hi : n = i
  · subst hi
    rw [List.getElem?_set] at e1
    simp only [if_true] at e1
    split at e1
    · cases e1; cases e2
    · cases e1
  · rw [List.getElem?_set_ne hi] at e1
    exact ⟨i, d, e1, e2, e3⟩
theorem mon_dead : Mon (Av φ st) H (Av φ (st.set n .dead)) H := ⟨fun a u e _ _ => .inl e, fun a _ h l => h (l.imp live_dead id)⟩
theorem VR.dead {v : Val} {u : V} (h : VR K φ st H v u) : VR K φ (st.set n .dead) H v u := by
  cases v with
  | d x => exact DR.mon mon_dead x u h
  | box m => exact h
theorem FR.dead : ∀ {fs : List (Str × Val)} {us : List (Str × V)}, FR K φ st H fs us → FR K φ (st.set n .dead) H fs us
  | [], _, h => h
  | (f, v) :: r, _, ⟨u, t, e, h1, h2⟩ => ⟨u, t, e, VR.dead h1, FR.dead h2⟩
theorem StR.dead (s : StR K mg T φ st H) : StR K mg T φ (st.set n .dead) H := by
  refine ⟨by rw [List.length_set]; exact s.len, s.nd, s.av, fun m c a e1 e2 => ?_, s.tabs⟩
  by_cases hm : n = m
  · subst hm
    rw [List.getElem?_set] at e1
    simp only [if_true] at e1
    split at e1
    · rename_i hlt
      cases e1
      have := s.cell n _ a (List.getElem?_eq_getElem hlt) e2
      show H a ≠ none
      revert this
      cases st[n] with
      | lst xs => rintro ⟨vs, h1, h2⟩; rw [h1]; exact fun z => nomatch z
      | dic kvs => rintro ⟨o, vs, h1, h2⟩; rw [h1]; exact fun z => nomatch z
      | ldic kvs => rintro ⟨ob, o, vs, h1, h2⟩; rw [h1]; exact fun z => nomatch z
      | obj c fs => rintro ⟨C, dx, us, h0, h1, h2⟩; rw [h1]; exact fun z => nomatch z
      | lbs ns => rintro ⟨vs, h1, h2⟩; rw [h1]; exact fun z => nomatch z
      | dbs ks ns => rintro ⟨o, vs, h1, h2, h3⟩; rw [h1]; exact fun z => nomatch z
      | dead => exact fun h => h
    · cases e1
  · rw [List.getElem?_set_ne hm] at e1
    have := s.cell m c a e1 e2
    cases c with
    | lst xs => obtain ⟨vs, h1, h2⟩ := this; exact ⟨vs, h1, DRs.mon mon_dead _ _ h2⟩
    | dic kvs => obtain ⟨o, vs, h1, h2, h3⟩ := this; exact ⟨o, vs, h1, h2, DRs.mon mon_dead _ _ h3⟩
    | ldic kvs => obtain ⟨ob, o, vs, h1, h2, h3⟩ := this; exact ⟨ob, o, vs, h1, h2, DRs.mon mon_dead _ _ h3⟩
    | obj c fs => obtain ⟨C, dx, us, h0, h1, h2⟩ := this; exact ⟨C, dx, us, h0, h1, FR.dead h2⟩
    | lbs ns => exact this
    | dbs ks ns => exact this
    | dead => exact this
theorem Stp.dead : Stp φ st H φ (st.set n .dead) H := ⟨List.prefix_rfl, ⟨fun _ h => h, fun _ h => .inl h⟩, fun a u h _ _ => .inl h, fun a l => .inl (live_dead l), fun a h => h, fun a ob u h => h⟩
theorem dead_av (s : StR K mg T φ st H) {a : Addr} (e : φ.ids[n]? = some a) : ¬ Av φ (st.set n .dead) a := by
  rintro (⟨m, c, e1, e2, e3⟩ | l)
  · obtain ⟨l1, q1⟩ := List.getElem?_eq_some_iff.mp e3
    obtain ⟨l2, q2⟩ := List.getElem?_eq_some_iff.mp e
    have hm : m = n := (List.getElem_inj s.nd).mp (q1.trans q2.symm)
    subst hm
    rw [List.getElem?_set] at e1
    simp only [if_true] at e1
    split at e1
    · cases e1; cases e2
    · cases e1
  · exact (s.av a l).2 (List.mem_of_getElem? e)
theorem frz_lst {xs : List PyData} {u : V} (s : StR K mg T φ st H) (ec : st[n]? = some (.lst xs)) (h : VR K φ st H (.box n) u) : VR K φ (st.set n .dead) H (.d (.list xs)) u := by
  obtain ⟨a, e, rfl⟩ := h
  obtain ⟨vs, h1, h2⟩ := s.cell n _ a ec e
  show DR _ _ _ _ _
  unfold DR
  exact ⟨a, vs, rfl, .inl ⟨.inl h1, dead_av s e⟩, DRs.mon mon_dead _ _ h2⟩
theorem frz_dic {kvs : List (PyData × PyData)} {u : V} (s : StR K mg T φ st H) (ec : st[n]? = some (.dic kvs)) (h : VR K φ st H (.box n) u) : VR K φ (st.set n .dead) H (.d (.dict kvs)) u := by
  obtain ⟨a, e, rfl⟩ := h
  obtain ⟨o, vs, h1, h2, h3⟩ := s.cell n _ a ec e
  show DR _ _ _ _ _
  unfold DR
  exact ⟨a, o, vs, rfl, ⟨.inl h1, dead_av s e⟩, h2, DRv.drs.mpr (DRs.mon mon_dead _ _ h3)⟩
theorem SlR.frz {sl : Slots} {σ : L2.St} {i : Nat} {x : PyData} (h : SlR K φ st H sl σ) (hi : sl[i]? = some (some (.box n))) (hx : ∀ u, VR K φ st H (.box n) u → VR K φ (st.set n .dead) H (.d x) u) : SlR K φ (st.set n .dead) H (sl.set i (some (.d x))) σ := by
  refine ⟨by rw [List.length_set]; exact h.1, fun j v e => ?_⟩
  by_cases hj : i = j
  · subst hj
    rw [List.getElem?_set] at e
    simp only [if_true] at e
    split at e
    · cases e
      obtain ⟨u, e1, r⟩ := h.2 i _ hi
      exact ⟨u, e1, hx u r⟩
    · cases e
  · rw [List.getElem?_set_ne hj] at e
    obtain ⟨u, e1, r⟩ := h.2 j v e
    exact ⟨u, e1, VR.dead r⟩
end
section
variable {X : Cx} {T : List Tb} {D : DI} {k : Nat} {W : XK}
theorem SPost.frz {i : Nat} {φ : Num} {st : Store} {H : Hp} {D : Ends} {r : SR} (h : SPost X.K X.mg T W φ st H D (r.then (frzS i))) : SPost X.K X.mg T W φ st H D r := by
  cases r with
  | nx sl1 st1 =>
    have h : SPost X.K X.mg T W φ st H D (frzS i sl1 st1) := h
    intro φ1 H1 σ1 s1 r1 l1
    unfold frzS at h
    split at h
    · rename_i n e
      split at h
      · rename_i xs ec
        exact h φ1 H1 σ1 (s1.trans Stp.dead) r1.dead (l1.frz e fun u => frz_lst r1 ec)
      · rename_i kvs ec
        exact h φ1 H1 σ1 (s1.trans Stp.dead) r1.dead (l1.frz e fun u => frz_dic r1 ec)
      · exact h.elim
    · exact h.elim
  | rt v st1 => exact h
  | bk sl1 st1 => exact h
  | ct sl1 st1 => exact h
  | exn c sl1 st1 => exact h
  | stuck => exact h
end
end TL
end

section
set_option Elab.async false
set_option linter.all false
set_option maxRecDepth 100000
set_option maxHeartbeats 1000000
set_option autoImplicit false
namespace TL
open PySem L2 PyProof.Rows PySem.Spec
section
variable {K : PySem.W.Frag} {mg : Str → Option Value} {T : List Tb} {φ φ' : Num} {st st2 : Store} {H H' : Hp} {n : Nat} {a : Addr} {kvs : List (PyData × PyData)}
end
section
variable {X : Cx} {T : List Tb} {D : DI} {k : Nat} {W : XK}
variable {tg e : Expr} {apos cpos : Pos}
end
end TL
end

section
set_option Elab.async false
set_option linter.all false
set_option maxRecDepth 100000
set_option maxHeartbeats 2000000
set_option autoImplicit false
namespace TL
open PySem PySem.Spec PyProof.Rows L2
open PySem.W (dataLt alike rcLt_alike)
section
variable {X : Cx} {pins : List (Addr × Obj)} {σ : L2.St} {H : Hp} {s : Shared} {T : List Tb} {D : DI} {k : Nat}
end
end TL
end

section
set_option Elab.async false
set_option linter.all false
set_option maxRecDepth 100000
set_option maxHeartbeats 1000000
set_option autoImplicit false
namespace TL
open PySem L2 PyProof.Rows PySem.Spec
section
variable {prog : Program} {w : World} {A : Around} {E : Value → Shared → Prop} {s : Shared} {r d : Addr} {es : Array DictEntry} {ep : Nat}
end
section
variable {X : Cx} {T : List Tb} {D : DI} {k : Nat} {W : XK}
end
end TL
end

section
set_option Elab.async false
set_option linter.all false
set_option maxRecDepth 100000
set_option maxHeartbeats 1000000
set_option autoImplicit false
namespace TL
open PySem L2 PyProof.Rows
def dropG {α : Type} (m : List (Key × α)) (k : Key) : List (Key × α) := m.filter fun kv => decide (kv.1 ≠ k)
section
variable {K : PySem.W.Frag} {O : Addr → Prop} {H : Hp}
theorem RelM.drop {m : List (Key × PyData)} {kvs : List (Key × V)} (h : RelM K O H m kvs) (k : Key) : RelM K O H (dropG m k) (dropK kvs k) := by
  unfold RelM at h ⊢
  induction h with
  | nil => exact .nil
  | @cons a m b kvs e r ih =>
    obtain ⟨e1, e2⟩ := e
    unfold dropG dropK at ih ⊢
    by_cases c : a.1 = k
    · rw [List.filter_cons_of_neg (by simpa using c), List.filter_cons_of_neg (by rw [← e1]; simpa using c)]
      exact ih
    · rw [List.filter_cons_of_pos (by simpa using c), List.filter_cons_of_pos (by rw [← e1]; simpa using c)]
      exact .cons ⟨e1, e2⟩ ih
end
section
variable {X : Cx} {T : List Tb} {D : DI} {k : Nat} {W : XK}
end
end TL
end

section
set_option Elab.async false
set_option linter.all false
set_option maxRecDepth 100000
set_option maxHeartbeats 1000000
set_option autoImplicit false
namespace TL
open PySem L2 PyProof.Rows PySem.Spec
section
variable {X : Cx} {T : List Tb} {D : DI} {k : Nat} {W : XK}
end
end TL
end

section
set_option Elab.async false
set_option linter.all false
set_option maxRecDepth 100000
set_option maxHeartbeats 1000000
set_option autoImplicit false
namespace TL
open PySem L2 PyProof.Rows PySem.Spec
section
variable {X : Cx} {T : List Tb} {D : DI} {k : Nat} {W : XK}
end
end TL
end

section
set_option Elab.async false
set_option linter.all false
set_option maxRecDepth 100000
set_option maxHeartbeats 2000000
set_option autoImplicit false
namespace TL
open PySem PySem.Spec PyProof.Rows L2
open PySem.Calls
open PySem.W (alike dataLt AllAlike Sortable dataLe EachIs KeepsBut KeyedOut sortVals dataKind SortsAt)
section
variable {X : Cx} {pins : List (Addr × Obj)} {σ : L2.St} {H : Hp} {s : Shared} {T : List Tb} {D : DI} {k : Nat}
end
end TL
end

section
set_option Elab.async false
set_option linter.all false
set_option maxRecDepth 100000
set_option maxHeartbeats 1000000
set_option autoImplicit false
namespace TL
open PySem L2
section
variable {X : Cx} {T : List Tb} {D : DI} {k : Nat} {W : XK}
end
end TL
end

section
set_option Elab.async false
set_option linter.all false
set_option maxRecDepth 100000
set_option maxHeartbeats 1000000
set_option autoImplicit false
namespace TL
open PySem L2 PyProof.Rows PySem.Spec
section
variable {X : Cx} {T : List Tb} {D : DI} {k : Nat} {W : XK}
end
end TL
end

section
set_option Elab.async false
set_option linter.all false
set_option maxRecDepth 100000
set_option maxHeartbeats 1000000
set_option autoImplicit false
namespace TL
open PySem L2 PyProof.Rows PySem.Spec
section
variable {X : Cx} {T : List Tb} {D : DI} {k : Nat} {W : XK}
end
end TL
end

section
set_option Elab.async false
set_option linter.all false
set_option maxRecDepth 100000
set_option maxHeartbeats 1000000
set_option autoImplicit false
namespace TL
open PySem L2 PyProof.Rows PySem.Spec
theorem BR.at {φ : Num} : ∀ {ns : List Nat} {vs : List V} {i n : Nat}, BR φ ns vs → ns[i]? = some n → ∃ a, vs[i]? = some (.ref a) ∧ φ.ids[n]? = some a
  | [], _, _, _, _, e => by simp at e
  | m :: ns, _, 0, n, ⟨a, r, q, h1, h2⟩, e => by
    simp at e; subst e; rw [q]; exact ⟨a, rfl, h1⟩
  | m :: ns, _, i + 1, n, ⟨a, r, q, h1, h2⟩, e => by
    rw [q]; simp at e ⊢; exact BR.at h2 e
theorem BR.length {φ : Num} : ∀ {ns : List Nat} {vs : List V}, BR φ ns vs → vs.length = ns.length
  | [], _, h => by rw [show _ = _ from h]; rfl
  | m :: ns, _, ⟨a, r, q, h1, h2⟩ => by rw [q]; simp [BR.length h2]
section
variable {X : Cx} {T : List Tb} {D : DI} {k : Nat} {W : XK}
end
section
variable {K : PySem.W.Frag} {mg : Str → Option Value} {T : List Tb} {φ : Num} {st : Store} {H : Hp} {n : Nat}
end
section
variable {X : Cx} {T : List Tb} {D : DI} {k : Nat} {W : XK}
end
end TL
end

section
set_option Elab.async false
set_option linter.all false
set_option maxRecDepth 100000
set_option maxHeartbeats 1000000
set_option autoImplicit false
namespace TL
open PySem L2 PyProof.Rows PySem.Spec
section
variable {prog : Program} {w : World} {A : Around} {E : Value → Shared → Prop} {s : Shared} {r d : Addr} {es : Array DictEntry} {ep : Nat}
end
section
variable {X : Cx} {T : List Tb} {D : DI} {k : Nat} {W : XK}
end
end TL
end

section
set_option Elab.async false
set_option linter.all false
set_option maxRecDepth 100000
set_option maxHeartbeats 1000000
set_option autoImplicit false
namespace TL
open PySem L2 PyProof.Rows PySem.Spec
section
variable {X : Cx} {T : List Tb} {D : DI} {k : Nat} {W : XK}
end
end TL
end

section
set_option Elab.async false
set_option linter.all false
set_option maxRecDepth 100000
set_option maxHeartbeats 1000000
set_option autoImplicit false
namespace PySem.SeqAt
open AutoSeq1 (wpAny_loadPart')
open MeetsSeq MeetsSeq2 MeetsSeq3 SeqRoads2
section
variable {prog : Program} {w : World}
end
end PySem.SeqAt
namespace TL
open PySem L2 PyProof.Rows PySem.Spec
section
variable {X : Cx} {T : List Tb} {D : DI} {k : Nat} {W : XK}
end
end TL
end

section
set_option Elab.async false
set_option linter.all false
set_option maxRecDepth 100000
set_option maxHeartbeats 1000000
set_option autoImplicit false
namespace TL
open PySem PySem.Spec PyProof.Rows L2
open PySem.W (alike dataLt AllAlike Sortable dataLe EachIs dataKind sortVals SortsAt dataKind_some dataKind_inv each_map bound_map)
section
variable {X : Cx} {T : List Tb} {D : DI} {k : Nat} {W : XK}
end
end TL
end

section
set_option Elab.async false
set_option linter.all false
set_option maxRecDepth 100000
set_option maxHeartbeats 1000000
set_option autoImplicit false
namespace TL
open PySem L2 PyProof.Rows PySem.Spec
section
variable {K : PySem.W.Frag} {O : Addr → Prop} {H : Hp}
end
section
variable {X : Cx} {T : List Tb} {φ : Num} {st : Store} {H : Hp}
end
section
variable {X : Cx} {T : List Tb} {D : DI} {k : Nat} {W : XK}
end
end TL
end

section
set_option Elab.async false
set_option linter.all false
set_option maxRecDepth 100000
set_option maxHeartbeats 1000000
set_option autoImplicit false
namespace TL
open PySem L2 PyProof.Rows PySem.Spec
section
variable {X : Cx} {T : List Tb} {D : DI} {k : Nat} {W : XK}
end
end TL
end

section
set_option Elab.async false
set_option linter.all false
set_option maxRecDepth 100000
set_option maxHeartbeats 1000000
set_option autoImplicit false
namespace TL
open PySem L2 PyProof.Rows PySem.Spec
open PySem.W (alike dataLt AllAlike Sortable dataLe EachIs)
section
variable {K : PySem.W.Frag} {mg : Str → Option Value} {T : List Tb} {φ : Num} {st : Store} {H H0 : Hp}
end
section
variable {X : Cx} {T : List Tb} {D : DI} {k : Nat} {W : XK}
structure RawT (X : Cx) (T : List Tb) (φ : Num) (st : Store) (H : Hp) (s : Shared) (a : Addr) (m : List (List Key × PyData)) (vs : List V) (es : Array DictEntry) (ep : Nat) (ku : List V) : Prop where
  nsys : (a == sysModules) = false
  raw : DT.Raw s.heap a es ep
  size : es.size = m.length
  line : m.length ≤ sizeLine
  at' : ∀ (j : Nat) (e : DictEntry), es[j]? = some e → ∃ u v, ku[j]? = some u ∧ vs[j]? = some v ∧ RelV u e.key ∧ RelV v e.val
  klen : ku.length = m.length
  keys : DRs X.K (Av φ st) H (m.map fun p => tupD p.1) ku
end
section
variable {K : PySem.W.Frag} {mg : Str → Option Value} {T : List Tb} {φ : Num} {st : Store} {H : Hp}
end
section
variable {X : Cx} {T : List Tb} {W : XK} {tg e : Expr}
end
end TL
end

section
set_option Elab.async false
set_option linter.all false
set_option maxRecDepth 100000
set_option maxHeartbeats 1000000
set_option autoImplicit false
namespace TL
open PySem L2 PyProof.Rows PySem.Spec
section
variable {X : Cx} {T : List Tb} {D : DI} {k : Nat} {W : XK} {φ : Num} {st : Store} {H : Hp}
end
section
variable {X : Cx} {T : List Tb} {D : DI} {k : Nat} {W : XK} {φ : Num} {st : Store} {H : Hp}
end
section
variable {X : Cx} {T : List Tb} {D : DI} {k : Nat} {W : XK}
end
end TL
end

section
set_option Elab.async false
set_option linter.all false
set_option maxRecDepth 100000
set_option maxHeartbeats 1000000
set_option autoImplicit false
namespace TL
open PySem L2 PyProof.Rows PySem.Spec
section
variable {prog : Program} {w : World} {K : Type} [DecidableEq K] {knd : HeapKind prog w K} {A : Around} {E : Value → Shared → Prop} {s : Shared}
end
section
variable {X : Cx} {T : List Tb} {D : DI} {k : Nat} {W : XK}
end
end TL
end

section
set_option Elab.async false
set_option linter.all false
set_option maxRecDepth 100000
set_option maxHeartbeats 1000000
set_option autoImplicit false
namespace TL
open PySem L2 PyProof.Rows PySem.Spec
section
variable {prog : Program} {w : World} {A : Around} {E : Value → Shared → Prop} {s : Shared}
end
section
variable {X : Cx} {T : List Tb} {D : DI} {k : Nat} {W : XK}
end
end TL
end

section
set_option Elab.async false
set_option linter.all false
set_option maxRecDepth 100000
set_option maxHeartbeats 1000000
set_option autoImplicit false
namespace TL
open PySem L2 PyProof.Rows PySem.Spec PyProof.V
open SeqAt (rc_eq_decline_or rc_ne_decline_or)
open AutoSeq1 (wpAny_loadPart')
section
variable {prog : Program} {w : World} {K : Type} [DecidableEq K] {knd : KeyKind prog w K} {A : Around} {E : Value → Shared → Prop} {s : Shared}
end
section
variable {X : Cx} {T : List Tb} {D : DI} {k : Nat} {W : XK}
end
end TL
end

section
set_option Elab.async false
set_option linter.all false
set_option maxRecDepth 100000
set_option maxHeartbeats 1000000
set_option autoImplicit false
namespace TL
open PySem L2 PyProof.Rows PySem.Spec
section
variable {X : Cx} {T : List Tb} {D : DI} {k : Nat} {W : XK}
end
end TL
end

section
set_option Elab.async false
set_option linter.all false
set_option maxRecDepth 100000
set_option maxHeartbeats 1000000
set_option autoImplicit false
namespace TL
open PySem L2 PyProof.Rows PySem.Spec
def PDR (φ : Num) (H : Hp) : Nat → List Key → List V → Prop
  | _, [], vs => vs = []
  | b, k :: ks, vs => ∃ p q r, vs = .ref p :: r ∧ H p = some (.tup [kV k, .ref q]) ∧ φ.ids[b]? = some q ∧ PDR φ H (b + 1) ks r
theorem PDR.mon {φ φ' : Num} {H H' : Hp} (h : ∀ p us, H p = some (.tup us) → H' p = some (.tup us)) (hp : φ.ids <+: φ'.ids) : ∀ {ks : List Key} {b : Nat} {vs : List V}, PDR φ H b ks vs → PDR φ' H' b ks vs
  | [], _, _, z => z
  | k :: ks, b, _, ⟨p, q, r, e, h1, h2, h3⟩ => ⟨p, q, r, e, h p _ h1, by
      obtain ⟨l, hl⟩ := hp
      have hn := (List.getElem?_eq_some_iff.mp h2).1
      rw [← hl, List.getElem?_append_left hn]; exact h2, PDR.mon h hp h3⟩
theorem PDR.length {φ : Num} {H : Hp} : ∀ {ks : List Key} {b : Nat} {vs : List V}, PDR φ H b ks vs → vs.length = ks.length
  | [], _, _, z => by rw [show _ = [] from z]; rfl
  | k :: ks, b, _, ⟨p, q, r, e, h1, h2, h3⟩ => by rw [e]; simp [h3.length]
section
variable {X : Cx} {T : List Tb} {D : DI} {k : Nat} {W : XK}
def valN (ks : List Key) (ns : List Nat) (k : Key) : Option Nat := ((ks.zip ns).find? fun p => decide (p.1 = k)).map (·.2)
theorem BR.valV {φ : Num} {k : Key} {n : Nat} : ∀ {ks : List Key} {ns : List Nat} {vs : List V}, BR φ ns vs → valN ks ns k = some n → ∃ a, valV (ks.zip vs) k = some (.ref a) ∧ φ.ids[n]? = some a
  | [], _, _, _, e => by simp [valN] at e
  | x :: ks, [], _, _, e => by simp [valN] at e
  | x :: ks, m :: ns, _, ⟨a, r, q, h1, h2⟩, e => by
    subst q
    by_cases z : x = k
    · have e1 : valN (x :: ks) (m :: ns) k = some m := by simp [valN, List.find?_cons, z]
      rw [e1] at e; cases e
      rw [List.zip_cons_cons, valV_pos (p := (x, _)) z]
      exact ⟨a, rfl, h1⟩
    · have e1 : valN (x :: ks) (m :: ns) k = valN ks ns k := by simp [valN, List.find?_cons, z]
      rw [e1] at e
      rw [List.zip_cons_cons, valV_neg (p := (x, _)) z]
      exact BR.valV h2 e
end
end TL
end

section
set_option Elab.async false
set_option linter.all false
set_option maxRecDepth 100000
set_option maxHeartbeats 1000000
set_option autoImplicit false
namespace TL
open PySem L2 PyProof.Rows PySem.Spec
section
variable {X : Cx} {T : List Tb} {D : DI} {k : Nat} {W : XK}
end
end TL
end

section
set_option Elab.async false
set_option linter.all false
set_option maxRecDepth 100000
set_option maxHeartbeats 1000000
set_option autoImplicit false
namespace TL
open PySem PySem.Spec PyProof.Rows L2
section
variable {X : Cx} {pins : List (Addr × Obj)} {σ : L2.St} {H : Hp} {s : Shared} {T : List Tb}
theorem pe_actK {Ng : List Str} {qg a : Str} {sg : Scope} {g f c' : Addr} {cdg : Value} {params : Arguments} {body : Expr} {scope : Scope} {k i : Nat} {pn : List (Addr × Obj)} {xe : Value → Shared → Prop} {Wz : WX} {Ech : XK} {tb : TE} {p1 p2 : Pos}
    (J0 : Inv X pins σ H s) (Ls : LamX.LamS X.env.scope scope)
    (hbind : ∀ (q : Str) (cl : List (Str × Addr)) (pm cv ctv : Value), bindArgs (PySem.W.kla_fn "<lambda>" q params body scope cl pm cv ctv) ⟨[], []⟩ = pure [])
    (tkz : Takes ((cxOf C8.CX0 X.prog X.w X.K X.mg X.base Ng qg sg g cdg X.A X.stack s H C8.E0).tr pn xe) Wz) (hWz : ∀ cls d σ' H', Ech cls d H' → Wz cls d σ' H') (hrm : Room (k + 1) (X.A.deeper (envOfC qg sg s.heap.objs.size g cdg)))
    (hbd : ∀ (A : Around) (outer : List Env) (s2 : Shared) (H2 : Hp), Room k (A.deeper (LamX.lamEnv X scope s2.heap.objs.size f c')) → PE (LamX.lamCx X A outer s2 H2 Ech scope f c') body tb)
    (hNi : Ng[i]? = some a) (hva : Vis sg a) (hda : (a == ("__debug__" : Str)) = false) (hca : (a == ("__classdict__" : Str)) = false) :
    PE ((cxOf C8.CX0 X.prog X.w X.K X.mg X.base Ng qg sg g cdg X.A X.stack s H C8.E0).tr pn xe) (.Call (.Name a p1) [] [] p2)
      (fun σz HZ Q => σz[i]? = some (some (.ref f)) ∧ HZ f = some (LamO f (X.env.qual ++ "<lambda>") params body scope (cloFrom X.env.cells scope.names []) c') ∧ HZ c' = some (LamX.CodeO c' (X.env.qual ++ "<lambda>")) ∧ tb σ HZ Q) := by
  refine ⟨fun pz sz σz HZ Q IZ ⟨at0, lam0, cod0, q0⟩ => ?_⟩
  refine wpAny_Call_Name_kw (thn ((pe_var (pos := p1) (i := i) hNi hva hda hca).run pz sz σz HZ (fun v H1 => v = .ref f ∧ H1 = HZ) IZ ⟨.ref f, at0, rfl, rfl⟩) fun u s1 hu => ?_)
  obtain ⟨v, H1, I1, rv1, ev, eH⟩ := hu
  subst ev eH
  obtain rfl : u = Value.ref f := rv1
  obtain ⟨⟨pm, ctv, obf⟩, _⟩ := I1.hok f _ lam0
  refine PySem.W.callWith_F0 ⟨_, _, _, _, obf⟩ ?_
  have between : Un (frs X.stack) [] H H1 s.heap s1.heap := I1.base
  obtain ⟨⟨oc, vs, t, hoc, hdc, hvc⟩, _⟩ := I1.hok c' _ cod0
  have ran : codeAny (model X.prog X.w) (X.A.deeper (envOfC qg sg s.heap.objs.size g cdg)) (.call (.ref f) ⟨[], []⟩) (L2.CR (L2.CX X.prog X.w) (envOfC qg sg s.heap.objs.size g cdg :: X.stack) X.prog X.w H1 s1 Q Ech) s1 := by
    refine PySem.W.kla_callFunE hrm.depth obf rfl Ls.co Ls.gen rfl ⟨c', oc, vs, t, rfl, hoc, hdc, hvc⟩ ?_
    rw [hbind]
    refine wpAny_pure (wpAny_newFunctionEnv (fun y hy => (Ls.own y hy).2) (fun y hy => absurd hy (by simp)) (fun h₁ hns hsb => ⟨I1.nolimit.fresh _ hsb, ?_⟩) Ls.kind)
    show codeAny _ _ (.expr body (LamX.lamEnv X scope s1.heap.objs.size f c')) _ _
    have stays : ∀ b o, s1.heap.get? b = some o → h₁.get? b = some o := fun b o e => hsb.extBut b o (Nat.ne_of_lt (Heap.lt_size e)) (Heap.get?_push_of_some _ e)
    have J1 := LamX.lam_start2 (A := X.A.deeper (envOfC qg sg s.heap.objs.size g cdg)) (outer := envOfC qg sg s.heap.objs.size g cdg :: X.stack) (E := Ech) (f := f) (c' := c') (tk := s1.toks + ([] : List (Str × Value)).length) J0 Ls I1.env0 hrm.hd between hns stays
    refine PySem.W.kla_codeExpr (wpAny_mono ((hbd _ _ s1 H1 (hrm.deeper _)).run [] _ _ H1 Q J1 q0) (fun v s' hq => ?_) fun e s' hq => hq)
    obtain ⟨w', H', J', rv, q⟩ := hq
    exact ⟨w', H', J'.os, J'.bare, J'.base, J'.hok, rv, q⟩
  have lets : Passes (L2.CX X.prog X.w) ((cxOf C8.CX0 X.prog X.w X.K X.mg X.base Ng qg sg g cdg X.A X.stack s H C8.E0).tr pn xe) Ech := passes_call tkz hWz
  refine wpAny_call (codeAny_mono ran fun r s' hq => ?_)
  cases r with
  | error e => exact lets pz σz H1 s1 e s' I1 hq
  | ok fl =>
    cases fl with
    | ret u => exact I1.after hq
    | next => exact False.elim hq
    | brk => exact False.elim hq
    | cont => exact False.elim hq
end
def ClsV (X : Cx) (c : Str) (v : V) (cv : Value) : Prop := Gl X c ∧ c ≠ "__name__" ∧ (c == ("__debug__" : Str)) = false ∧ (X.mg c = some cv ∨ (X.mg c = none ∧ bootBuiltins c = some cv)) ∧ RelV v cv ∧ ∀ u, RelV v u → u = cv
theorem pe_cls {X : Cx} {c : Str} {v : V} {cv : Value} {pos : Pos} (h : ClsV X c v cv) : PE X (.Name c pos) (tC v) := by
  obtain ⟨h1, h2, h3, h4 | ⟨h4, h5⟩, h6, _⟩ := h
  · exact pe_glob h1 h4 h6 h3
  · exact pe_bltn h1 h4 h5 h6 h2 h3
inductive IsEs (e : Str) : List Expr → List Str → Prop
  | nil : IsEs e [] []
  | cons {p p1 p2 pos : Pos} {c : Str} {es : List Expr} {cs : List Str} (r : IsEs e es cs) : IsEs e (.Call (.Name "isinstance" p) [.Name e p1, .Name c p2] [] pos :: es) (c :: cs)
section
variable {X : Cx} {a C : Addr} {oe : Obj} {pn : List (Addr × Obj)} {e : Str} {ie : Nat} {b : Str → Bool}
theorem pa_isEs (hx : ExcC X.K C) (hz : Zc (.ref C) none oe) (hf : ∃ vs, oe.data = .fields vs) (hg : Gl X "isinstance") (hm : X.mg "isinstance" = none) (hN : X.N[ie]? = some e) (hv : Vis X.env.scope e) (hd : (e == ("__debug__" : Str)) = false) (hcd : (e == ("__classdict__" : Str)) = false) :
    ∀ {es : List Expr} {cs : List Str}, IsEs e es cs → (∀ c ∈ cs, ∃ v cv, ClsV X c v cv ∧ PySem.W.kitOne X.K (.ref C) cv = some (b c)) →
      PA (X.suite a ((a, oe) :: pn)) es (fun σ H Q => σ[ie]? = some (some (.ref a)) ∧ Q (cs.map fun c => .bl (b c)) H)
  | _, _, .nil, _ => PA.imp pa_nil fun σ H Q h => h.2
  | _, _, .cons (p := p) (p1 := p1) (p2 := p2) (pos := pos) (c := c) r, h => by
    obtain ⟨v, cv, k1, k2⟩ := h c List.mem_cons_self
    have k1' : ClsV (X.suite a ((a, oe) :: pn)) c v cv := k1
    have ih := pa_isEs hx hz hf hg hm hN hv hd hcd r fun c' hc' => h c' (List.mem_cons_of_mem _ hc')
    have call := pe_callB (X := X.suite a ((a, oe) :: pn)) (x := "isinstance") (p := p) (pos := pos) (call_isE hx hz hf) hg hm rfl (pa_cons (pe_var (pos := p1) (i := ie) hN hv hd hcd) (pa_cons (pe_cls (pos := p2) k1') pa_nil)) (by decide) (by decide)
    refine PA.imp (pa_cons call ih) ?_
    rintro σ H Q ⟨h1, h2⟩
    exact ⟨.ref a, h1, v, cv, b c, rfl, k1.2.2.2.2.2, k2, h1, h2⟩
theorem drs_bools {K : PySem.W.Frag} {O : Addr → Prop} {H : Hp} (b : Str → Bool) : ∀ cs : List Str, DRs K O H (cs.map fun c => .bool (b c)) (cs.map fun c => .bl (b c))
  | [] => rfl
  | c :: cs => ⟨_, _, rfl, rfl, drs_bools b cs⟩
theorem pe_isLst {T : List Tb} (hx : ExcC X.K C) (hz : Zc (.ref C) none oe) (hf : ∃ vs, oe.data = .fields vs) (hg : Gl X "isinstance") (hm : X.mg "isinstance" = none) (hN : X.N[ie]? = some e) (hv : Vis X.env.scope e) (hd : (e == ("__debug__" : Str)) = false) (hcd : (e == ("__classdict__" : Str)) = false)
    {es : List Expr} {cs : List Str} {pos : Pos} (r : IsEs e es cs) (h : ∀ c ∈ cs, ∃ v cv, ClsV X c v cv ∧ PySem.W.kitOne X.K (.ref C) cv = some (b c)) (hl : cs.length ≤ lineN) :
    PE (X.suite a ((a, oe) :: pn)) (.List es pos) (fun σ H Q => σ[ie]? = some (some (.ref a)) ∧ ∃ φ st, StR X.K X.mg T φ st H ∧ ∀ H' u, Gr H H' → DR X.K (Av φ st) H' (.list (cs.map fun c => .bool (b c))) u → Q u H') := by
  refine PE.imp (pe_lst (pa_isEs hx hz hf hg hm hN hv hd hcd r h)) ?_
  rintro σ H Q ⟨h1, φ, st, s0, q⟩
  refine ⟨h1, by rw [List.length_map]; rw [lineN_eq] at hl; exact hl, fun p hp => q _ _ (Gr.upd hp) ⟨p, _, rfl, .inl ⟨.inl upd_same, not_av s0 hp⟩, drs_bools b cs⟩⟩
end
end TL
end

section
set_option Elab.async false
set_option linter.all false
set_option maxRecDepth 100000
set_option maxHeartbeats 1000000
set_option autoImplicit false
namespace TL
open PySem PySem.Spec PyProof.Rows L2
theorem PSs.of {X : Cx} {b : List Stmt} {t t' : TS} (h : PSs X b t) (i : ∀ D σ H, σ.length = X.N.length → t' D σ H → t D σ H) : PSs X b t' := ⟨fun p s σ H D I q => h.run p s σ H D I (i D σ H I.len q)⟩
theorem oAdd_l {xs ys : List PyData} (h : xs.length + ys.length ≤ lineN) : oAdd (.list xs) (.list ys) = some (.list (xs ++ ys)) := by
  show (if xs.length + ys.length ≤ lineN then some (PyData.list (xs ++ ys)) else none) = _
  rw [if_pos h]
inductive UBody (a e sm pf : Str) (es1 es2 es3 : List Expr) : List Stmt → Prop
  | mk {p1 p2 p3 p4 p5 p6 p7 p8 p9 p10 p11 p12 p13 p14 p15 p16 p17 p18 p19 p20 : Pos} : UBody a e sm pf es1 es2 es3
    [.Try [.Expr (.Call (.Name a p1) [] [] p2) p3] [.ExceptHandler (some (.Name pf p4)) (some e) [.Assign [.Name sm p5] (.List es1 p6) p7, .Assign [.Name sm p8] (.BinOp (.Name sm p9) .Add (.List es2 p10) p11) p12, .Return (some (.BinOp (.Name sm p13) .Add (.List es3 p14) p15)) p16] p17] [] [] p18,
      .Return (some (.List [] p19)) p20]
section
variable {X : Cx} {T : List Tb} {a C : Addr} {oe : Obj} {pn : List (Addr × Obj)} {e sm : Str} {ie is : Nat} {b : Str → Bool}
theorem pss_suite (hx : ExcC X.K C) (hz : Zc (.ref C) none oe) (hf : ∃ vs, oe.data = .fields vs) (hg : Gl X "isinstance") (hm : X.mg "isinstance" = none) (hnd : X.N.Nodup) (hN : X.N[ie]? = some e) (hv : Vis X.env.scope e) (hd : (e == ("__debug__" : Str)) = false) (hcd : (e == ("__classdict__" : Str)) = false)
    (hNs : X.N[is]? = some sm) (hls : X.env.scope.names.lookup sm = some .local) (hds : (sm == ("__debug__" : Str)) = false) (hcds : (sm == ("__classdict__" : Str)) = false) (hne : is ≠ ie)
    {es1 es2 es3 : List Expr} {cs1 cs2 cs3 : List Str} {q1 q2 q3 q4 q5 q6 q7 q8 q9 q10 q11 q12 : Pos} (r1 : IsEs e es1 cs1) (r2 : IsEs e es2 cs2) (r3 : IsEs e es3 cs3)
    (h : ∀ c ∈ cs1 ++ cs2 ++ cs3, ∃ v cv, ClsV X c v cv ∧ PySem.W.kitOne X.K (.ref C) cv = some (b c)) (hl : (cs1 ++ cs2 ++ cs3).length ≤ lineN) :
    PSs (X.suite a ((a, oe) :: pn)) [.Assign [.Name sm q1] (.List es1 q2) q3, .Assign [.Name sm q4] (.BinOp (.Name sm q5) .Add (.List es2 q6) q7) q8, .Return (some (.BinOp (.Name sm q9) .Add (.List es3 q10) q11)) q12]
      (fun D σ H => (∃ σ0 : L2.St, σ = σ0.set ie (some (.ref a))) ∧ ∃ φ st, StR X.K X.mg T φ st H ∧ ∀ H' u, Gr H H' → DR X.K (Av φ st) H' (.list ((cs1 ++ cs2 ++ cs3).map fun c => .bool (b c))) u → D.rt u H') := by
  rw [List.length_append, List.length_append] at hl
  have l1 := pe_isLst (T := T) (a := a) (pn := pn) (pos := q2) hx hz hf hg hm hN hv hd hcd r1 (fun c hc => h c (List.mem_append_left _ (List.mem_append_left _ hc))) (by omega)
  have l2 := pe_isLst (T := T) (a := a) (pn := pn) (pos := q6) hx hz hf hg hm hN hv hd hcd r2 (fun c hc => h c (List.mem_append_left _ (List.mem_append_right _ hc))) (by omega)
  have l3 := pe_isLst (T := T) (a := a) (pn := pn) (pos := q10) hx hz hf hg hm hN hv hd hcd r3 (fun c hc => h c (List.mem_append_right _ hc)) (by omega)
  have loc : Loc X.env.scope sm := .inl hls
  have vis : Vis X.env.scope sm := .inl hls
  have hls' : (X.suite a ((a, oe) :: pn)).env.scope.names.lookup sm = some .local := hls
  have s1 := ps_set (X := X.suite a ((a, oe) :: pn)) (pos' := q1) (pos := q3) hnd hNs loc l1 rfl (.inr hls')
  have s2 := ps_set (X := X.suite a ((a, oe) :: pn)) (pos' := q4) (pos := q8) hnd hNs loc (pe_op (pos := q7) (op_add' (T := T)) (pe_var (pos := q5) (i := is) hNs vis hds hcds) l2) rfl (.inr hls')
  have s3 := ps_ret (X := X.suite a ((a, oe) :: pn)) (pos := q12) (pe_op (pos := q11) (op_add' (T := T)) (pe_var (pos := q9) (i := is) hNs vis hds hcds) l3)
  refine PSs.of (pss_cons s1 (pss_cons s2 (pss_one s3))) ?_
  rintro D σ H hlen ⟨⟨σ0, rfl⟩, φ, st, s0, q⟩
  rw [List.length_set] at hlen
  have hlen : σ0.length = X.N.length := hlen
  have hi : ie < σ0.length := by rw [hlen]; exact (List.getElem?_eq_some_iff.mp hN).1
  have hj : is < σ0.length := by rw [hlen]; exact (List.getElem?_eq_some_iff.mp hNs).1
  have e1 : (σ0.set ie (some (.ref a)))[ie]? = some (some (V.ref a)) := by rw [List.getElem?_set_self hi]
  refine ⟨e1, φ, st, s0, fun H1 u1 g1 d1 => ?_⟩
  have e2 : ((σ0.set ie (some (.ref a))).set is (some u1))[ie]? = some (some (V.ref a)) := by rw [List.getElem?_set_ne hne]; exact e1
  have f2 : ((σ0.set ie (some (.ref a))).set is (some u1))[is]? = some (some u1) := by rw [List.getElem?_set_self (by rw [List.length_set]; exact hj)]
  refine ⟨u1, f2, e2, φ, st, s0.gr g1, fun H2 u2 g2 d2 => ?_⟩
  refine ⟨φ, st, .list (cs1.map fun c => .bool (b c)), .list (cs2.map fun c => .bool (b c)), _, (s0.gr g1).gr g2, ⟨.d (.list (cs1.map fun c => .bool (b c))), DR.mon (g2.step (φ := φ) (st := st)).mon _ _ d1, rfl⟩, ⟨.d (.list (cs2.map fun c => .bool (b c))), d2, rfl⟩, oAdd_l (by rw [List.length_map, List.length_map]; omega), fun H3 u3 g3 d3 => ?_⟩
  have e4 : (((σ0.set ie (some (.ref a))).set is (some u1)).set is (some u3))[ie]? = some (some (V.ref a)) := by rw [List.getElem?_set_ne hne]; exact e2
  have f4 : (((σ0.set ie (some (.ref a))).set is (some u1)).set is (some u3))[is]? = some (some u3) := by rw [List.getElem?_set_self (by rw [List.length_set, List.length_set]; exact hj)]
  refine ⟨u3, f4, e4, φ, st, ((s0.gr g1).gr g2).gr g3, fun H4 u4 g4 d4 => ?_⟩
  refine ⟨φ, st, .list ((cs1.map fun c => .bool (b c)) ++ cs2.map fun c => .bool (b c)), .list (cs3.map fun c => .bool (b c)), _, (((s0.gr g1).gr g2).gr g3).gr g4, ⟨.d (.list ((cs1.map fun c => .bool (b c)) ++ cs2.map fun c => .bool (b c))), DR.mon (g4.step (φ := φ) (st := st)).mon _ _ d3, rfl⟩, ⟨.d (.list (cs3.map fun c => .bool (b c))), d4, rfl⟩, oAdd_l (by rw [List.length_append, List.length_map, List.length_map, List.length_map]; omega), fun H5 u5 g5 d5 => ?_⟩
  refine q H5 u5 ((((g1.trans g2).trans g3).trans g4).trans g5) ?_
  rw [List.map_append, List.map_append]
  exact d5
end
def underL (tests : List Str) (c : Str) : List PyData := tests.map fun t => .bool (decide (c = t) || decide (t = "ValueError"))
def mUnder (es tests : List Str) (m : EM) : EM := fun sl st =>
  left st.length <|
    match m sl st with
    | .ok _ st1 => .ok (.d (.list [])) st1
    | .exn c st1 => if c ∈ es then .ok (.d (.list (underL tests c))) st1 else .stuck
    | .stuck => .stuck
structure UnD where
  g : Addr
  pg : Arguments
  sg : Scope
  dV : Value
  kV : Value
  doc : Value
  pm : Value
  cdv : Value
  ct : Value
  oc : Value
  an : Option Addr
  od : Option Addr
  osl : Array (Option Value)
  N : List Str
  a : Str
  e : Str
  sm : Str
  pf : Str
  ie : Nat
  is : Nat
  body : List Stmt
  es1 : List Expr
  es2 : List Expr
  es3 : List Expr
  cs1 : List Str
  cs2 : List Str
  cs3 : List Str
  CP : Addr
structure UnD.Ok (u : UnD) (K : PySem.W.Frag) (mg : Str → Option Value) (x : Str) (es tests : List Str) : Prop where
  mgx : mg x = some (.ref u.g)
  kp : PySem.W.keepIn K (.ref u.g) = true
  lk : K.lookup u.g = some ⟨u.oc, u.od, .func (PySem.W.fnOf x x u.pg u.body u.sg u.dV u.kV u.doc u.pm u.an u.cdv u.ct), u.osl⟩
  cd : PySem.W.codeIn K u.cdv x = true
  bs : L2.Binds K (PySem.W.fnOf x x u.pg u.body u.sg u.dV u.kV u.doc u.pm u.an u.cdv u.ct) [u.a] []
  S : FnScope u.N [u.a] u.sg
  nd : u.N.Nodup
  Na : u.N[0]? = some u.a
  Ne : u.N[u.ie]? = some u.e
  Ns : u.N[u.is]? = some u.sm
  ne : u.is ≠ u.ie
  la : u.sg.names.lookup u.a = some .local
  le : u.sg.names.lookup u.e = some .local
  ls : u.sg.names.lookup u.sm = some .local
  da : (u.a == ("__debug__" : Str)) = false ∧ (u.a == ("__classdict__" : Str)) = false
  de : (u.e == ("__debug__" : Str)) = false ∧ (u.e == ("__classdict__" : Str)) = false
  ds : (u.sm == ("__debug__" : Str)) = false ∧ (u.sm == ("__classdict__" : Str)) = false
  B : UBody u.a u.e u.sm u.pf u.es1 u.es2 u.es3 u.body
  r1 : IsEs u.e u.es1 u.cs1
  r2 : IsEs u.e u.es2 u.cs2
  r3 : IsEs u.e u.es3 u.cs3
  eqT : tests = u.cs1 ++ u.cs2 ++ u.cs3
  few : tests.length ≤ lineN
  gi : u.sg.names.lookup ("isinstance" : Str) = some .globalImplicit
  mi : mg "isinstance" = none
  gp : u.sg.names.lookup u.pf = some .globalImplicit ∧ (u.pf == ("__debug__" : Str)) = false
  mp : mg u.pf = some (.ref u.CP)
  exc : ∀ c ∈ es, ∀ C, mg c = some (.ref C) → ExcC K C ∧ PySem.W.exmOne K (.ref C) (.ref u.CP) = some true ∧
    ∀ t ∈ tests, ∃ v cv, (u.sg.names.lookup t = some .globalImplicit ∧ t ≠ "__name__" ∧ (t == ("__debug__" : Str)) = false ∧ (mg t = some cv ∨ (mg t = none ∧ bootBuiltins t = some cv)) ∧ RelV v cv ∧ ∀ u, RelV v u → u = cv) ∧ PySem.W.kitOne K (.ref C) cv = some (decide (c = t) || decide (t = "ValueError"))
structure UnderOk (K : PySem.W.Frag) (mg : Str → Option Value) (x : Str) (es tests : List Str) : Prop where
  at_ : ∃ u : UnD, u.Ok K mg x es tests
def LamK (X : Cx) (T : List Tb) (D : DI) (k : Nat) (H : Hp) (v : V) (m : EM) : Prop :=
  ∃ (f c' : Addr) (params : Arguments) (body : Expr) (scope : Scope), v = .ref f ∧ H f = some (LamO f (X.env.qual ++ "<lambda>") params body scope (cloFrom X.env.cells scope.names []) c') ∧ H c' = some (LamX.CodeO c' (X.env.qual ++ "<lambda>")) ∧ LamX.lamSB D.sc scope = true ∧
    (∀ (q : Str) (cl : List (Str × Addr)) (pm cv ctv : Value), bindArgs (PySem.W.kla_fn "<lambda>" q params body scope cl pm cv ctv) ⟨[], []⟩ = pure []) ∧
    (∀ (A : Around) (outer : List Env) (s : Shared) (H : Hp) (W' : XK) (f c' : Addr), Cin ⟨D.N, scope, []⟩ k (LamX.lamCx X A outer s H W' scope f c') → Takes (LamX.lamCx X A outer s H W' scope f c') (fun c d _ H => W' c d H) → E (LamX.lamCx X A outer s H W' scope f c') T W' body m)
section
variable {D : DI} {k : Nat} {X : Cx} {T : List Tb} {W : XK}
theorem pe_under {x wn kn : Str} {iw ik : Nat} {es tests : List Str} {p p2 p3 p4 pos : Pos} (ci : Cin D (k + 2) X) (hx : UnderOk X.K X.mg x es tests) (hg : D.g x = true) (hw : D.v iw wn = true) (hk : D.v ik kn = true) :
    PE X (.Call (.Name x p) [.Subscript (.Name wn p2) (.Name kn p3) p4] [] pos) (fun σ H Q => ∃ (φ : Num) (sl : Slots) (st : Store) (L : Addr) (vs : List V) (j : Nat) (f : V) (m : EM), At X.K X.mg T φ sl st σ H ∧ σ[iw]? = some (some (.ref L)) ∧ H L = some (.lst vs) ∧ σ[ik]? = some (some (.int (j : Int))) ∧
      vs[j]? = some f ∧ LamK X T D k H f m ∧ EPost X.K X.mg T W φ st H Q (mUnder es tests m sl st)) := by
  obtain ⟨u, U⟩ := hx
  obtain ⟨g1, g2, g3⟩ := ci.gl hg
  obtain ⟨w1, w2, w3, w4⟩ := ci.vis hw
  obtain ⟨k1, k2, k3, k4⟩ := ci.vis hk
  refine ⟨fun pins s σ H Q I h => ?_⟩
  obtain ⟨φ, sl, st, L, vs, j, f, m, at_, hL1, hL2, hj, hf, hlam, h⟩ := h
  refine wpAny_Call_Name_kw (ld_glob I g1 U.mgx ?_ g2)
  refine PySem.W.callWith_K (h₀ := X.base) I.ok.mod.kin U.kp ?_ (by rfl) (by rfl)
  show wpAny _ _ (spliced ((false, eval (.Subscript (.Name wn p2) (.Name kn p3) p4) X.env) :: backTo pos (starEach [] X.env))) _ _ s
  refine Calls.spliced_cons (thn ((pe_ix (pos := p4) (ix_list (X := X)) (pe_var (pos := p2) (i := iw) w1 w2 w3 w4) (pe_var (pos := p3) (i := ik) k1 k2 k3 k4) (fun _ _ => rfl)).run pins s σ H (fun v H1 => v = f ∧ H1 = H) I
    ⟨.ref L, hL1, .int (j : Int), hj, L, vs, (j : Int), f, rfl, rfl, .inl (.inl hL2), ?_, rfl, rfl⟩) fun uf s' ⟨v, H1, I1, rv1, ev, eH⟩ => ?_)
  · have hj' : j < vs.length := (List.getElem?_eq_some_iff.mp hf).1
    unfold atI ixN
    rw [if_pos (Int.natCast_nonneg j), if_pos (by omega)]
    simpa using hf
  subst ev eH
  obtain ⟨f, c', params, body, scope, rfl, hlam, hcod, L0, hbind, hb⟩ := hlam
  have Ls : LamX.LamS X.env.scope scope := by rw [ci.sc]; exact LamX.lamS_by L0
  obtain rfl : uf = Value.ref f := rv1
  refine Calls.spliced_nil ⟨I1.kIn, ?_⟩
  have rc : codeAny (model X.prog X.w) X.A (.call (.ref u.g) ⟨[.ref f], []⟩) (L2.CR C8.CX0 X.stack X.prog X.w H1 s' Q C8.E0) s' := by
    refine LamX.run_ofS (N := u.N) (ps := [u.a]) (us := [.ref f]) (vs := [.ref f]) U.lk U.cd U.S ci.room I1.env0 (U.bs s' [.ref f] I1.kIn rfl) (.cons rfl .nil) rfl fun hr' => ?_
    obtain ⟨Z, hZ⟩ : ∃ Z, Z = cxOf C8.CX0 X.prog X.w X.K X.mg X.base u.N x u.sg u.g u.cdv X.A X.stack s' H1 C8.E0 := ⟨_, rfl⟩
    have rB := U.B
    revert rB
    generalize u.body = bodyU
    intro rB
    cases rB with
    | @mk p1 p2 p3 p4 p5 p6 p7 p8 p9 p10 p11 p12 p13 p14 p15 p16 p17 p18 p19 p20 =>
    have tr := ps_try_as (X := (cxOf C8.CX0 X.prog X.w X.K X.mg X.base u.N x u.sg u.g u.cdv X.A X.stack s' H1 C8.E0).nox) (x := u.pf) (n := u.e) (c := .ref u.CP) (i := u.ie) (np := p4) (pos' := p17) (pos := p18) (Wout := fun _ _ _ _ => False)
      (body := [.Expr (.Call (.Name u.a p1) [] [] p2) p3])
      (tb := fun Wz Dz σz HZ => ∃ Ech : XK, (∀ cls d σ' H', Ech cls d H' → Wz cls d σ' H') ∧ σz[0]? = some (some (V.ref f)) ∧ HZ f = some (LamO f (X.env.qual ++ "<lambda>") params body scope (cloFrom X.env.cells scope.names []) c') ∧
        HZ c' = some (LamX.CodeO c' (X.env.qual ++ "<lambda>")) ∧ tE X T Ech m σ HZ (fun _ H2 => Dz.nx σz H2))
      (ts := fun a cls d Dz σz HZ => (∃ σ0 : L2.St, σz = σ0.set u.ie (some (.ref a))) ∧ ∃ φ st c C, cls = Value.ref C ∧ d = none ∧ c ∈ es ∧ X.mg c = some (.ref C) ∧ StR X.K X.mg T φ st HZ ∧ ∀ H' w, Gr HZ H' → DR X.K (Av φ st) H' (.list (underL tests c)) w → Dz.rt w H')
      rfl rfl U.nd U.Ne U.le ⟨U.gp.1, U.gp.2, .inl U.mp⟩ LamX.takes0 (fun Wz pn xe tk po => ?_) (suite := [.Assign [.Name u.sm p8] (.BinOp (.Name u.sm p9) .Add (.List u.es2 p10) p11) p12, .Return (some (.BinOp (.Name u.sm p13) .Add (.List u.es3 p14) p15)) p16]) (b₀ := .Assign [.Name u.sm p5] (.List u.es1 p6) p7) (fun a oe cls d pn hz hf => ?_)
    · have rt := pss_one (ps_ret (X := (cxOf C8.CX0 X.prog X.w X.K X.mg X.base u.N x u.sg u.g u.cdv X.A X.stack s' H1 C8.E0).nox) (pos := p20) (pe_lst (pos := p19) pa_nil))
      refine ⟨_, (pss_cons tr rt).nox, ?_⟩
      refine ⟨fun cls d H' => ∀ σ', wAs X.K (.ref u.CP) u.ie _ (fun _ _ _ _ => False) _ cls d σ' H', fun cls d σ' H' hh => hh σ', rfl, hlam, hcod, φ, sl, st, at_, ?_⟩
      have h1 := left_post at_.s.len h
      revert h1
      cases m sl st with
      | stuck => exact fun h => h
      | ok v st1 =>
        intro h1 φ2 H2 w2 s2 r2 v2
        refine ⟨Nat.zero_le _, fun p hp => ?_⟩
        exact h1 φ2 _ (.ref p) (s2.trans (Gr.upd hp).step) (r2.gr (Gr.upd hp)) ⟨p, [], rfl, .inl ⟨.inl upd_same, not_av r2 hp⟩, rfl⟩
      | exn cn st1 =>
        intro h1 φ2 H2 C s2 r2 hC σ'
        dsimp only at h1
        split at h1
        · rename_i hcn
          obtain ⟨q1, q2, q3⟩ := U.exc cn hcn C hC
          refine ⟨true, q2, fun _ a ha => ⟨⟨σ', rfl⟩, φ2, st1, cn, C, rfl, rfl, hcn, hC, r2, fun H' w g d => ?_⟩, fun z => by cases z⟩
          exact h1 φ2 H' w (s2.trans g.step) (r2.gr g) d
        · exact h1.elim
    · refine ⟨fun pz s2 σ2 H2 D2 I2 h2 => ?_⟩
      obtain ⟨Ech, hW, r1, r2, r3, r4⟩ := h2
      have hp := pe_actK (X := X) (f := f) (c' := c') (i := 0) (a := u.a) (p1 := p1) (p2 := p2) (k := k) (Ng := u.N) (qg := x) (sg := u.sg) (g := u.g) (cdg := u.cdv) (tb := tE X T Ech m) (pn := pn) (xe := xe) (Wz := Wz) (Ech := Ech) I1 Ls hbind tk hW hr'
        (fun A outer s3 H3 hr2 => (hb A outer s3 H3 Ech f c' ⟨ci.N, rfl, ci.nd, hr2, rfl, fun _ h => (by cases h), passes_of rfl⟩ (takes_of rfl rfl rfl rfl)).run) U.Na (.inl U.la) U.da.1 U.da.2
      exact (pss_one (ps_expr (pos := p3) hp)).run pz s2 σ2 H2 D2 I2 ⟨r1, r2, r3, r4⟩
    · refine ⟨fun pz s2 σ2 H2 D2 I2 h2 => ?_⟩
      obtain ⟨h0, φ2, st2, c, C, rfl, rfl, hc, hC, r2, q⟩ := h2
      obtain ⟨q1, q2, q3⟩ := U.exc c hc C hC
      exact (pss_suite (X := (cxOf C8.CX0 X.prog X.w X.K X.mg X.base u.N x u.sg u.g u.cdv X.A X.stack s' H1 C8.E0).nox) (T := T) (b := fun t => decide (c = t) || decide (t = "ValueError")) q1 hz hf U.gi U.mi U.nd U.Ne (.inl U.le) U.de.1 U.de.2 U.Ns U.ls U.ds.1 U.ds.2 U.ne U.r1 U.r2 U.r3
        (fun t ht => q3 t (by rw [U.eqT]; exact ht)) (by rw [← U.eqT]; exact U.few)).run pz s2 σ2 H2 D2 I2 ⟨h0, φ2, st2, r2, fun H' w g d => q H' w g (by rw [underL, U.eqT]; exact d)⟩
  refine wpAny_call (codeAny_mono rc fun r s2 hq => ?_)
  cases r with
  | error e => exact (show False from hq).elim
  | ok fl =>
    cases fl with
    | ret u => exact I1.after hq
    | next => exact False.elim hq
    | brk => exact False.elim hq
    | cont => exact False.elim hq
end
end TL
end

section
set_option Elab.async false
set_option linter.all false
set_option maxRecDepth 100000
set_option maxHeartbeats 1000000
set_option autoImplicit false
namespace TL
open PySem PySem.Spec PyProof.Rows L2
inductive Lms (X : Cx) (T : List Tb) (D : DI) (k : Nat) (t : Tb) : List Expr → List EM → Prop
  | nil : Lms X T D k t [] []
  | cons {params : Arguments} {body : Expr} {scope : Scope} {lpos : Pos} {m : EM} {es : List Expr} {ms : List EM} (hnm : t.nm lpos.line lpos.col = some (X.env.qual ++ "<lambda>")) (L0 : LamX.lamSB D.sc scope = true) (hdef : defaultsOf params X.env = ([], []))
      (hbind : ∀ (q : Str) (cl : List (Str × Addr)) (pm cv ctv : Value), bindArgs (PySem.W.kla_fn "<lambda>" q params body scope cl pm cv ctv) ⟨[], []⟩ = pure [])
      (hb : ∀ (A : Around) (outer : List Env) (s : Shared) (H : Hp) (W' : XK) (f c' : Addr), Cin ⟨D.N, scope, []⟩ k (LamX.lamCx X A outer s H W' scope f c') → Takes (LamX.lamCx X A outer s H W' scope f c') (fun c d _ H => W' c d H) → E (LamX.lamCx X A outer s H W' scope f c') T W' body m)
      (r : Lms X T D k t es ms) : Lms X T D k t (.Lambda params body scope lpos :: es) (m :: ms)
section
variable {D : DI} {k : Nat} {X : Cx} {T : List Tb} {W : XK} {t : Tb}
theorem ext_dead {K : PySem.W.Frag} {mg : Str → Option Value} {φ : Num} {st : Store} {H : Hp} (s : StR K mg T φ st H) {a : Addr} {ψ : Heap → Prop} (h : H a = some (.ext ψ)) : ¬ Live φ st a := fun l => by
  obtain ⟨n, c, q1, q2, q3⟩ := l
  have := s.cell n c a q1 q3
  cases c with
  | lst _ => obtain ⟨_, z, _⟩ := this; rw [h] at z; cases z
  | dic _ => obtain ⟨o, _, z, dk, _⟩ := this; rw [h] at z; cases z; have := dk.dic; cases this
  | ldic _ => obtain ⟨_, o, _, z, _⟩ := this; rw [h] at z; cases z
  | obj _ _ => obtain ⟨_, _, _, _, z, _⟩ := this; rw [h] at z; cases z
  | lbs _ => obtain ⟨_, z, _⟩ := this; rw [h] at z; cases z
  | dbs _ _ => obtain ⟨o, _, z, dk, _⟩ := this; rw [h] at z; cases z; have := dk.dic; cases this
  | dead => cases q2
theorem keep_ext {K : PySem.W.Frag} {mg : Str → Option Value} {φ φ' : Num} {st st' : Store} {H H' : Hp} (s : StR K mg T φ st H) (p : Stp φ st H φ' st' H') {a : Addr} {ψ : Heap → Prop} (h : H a = some (.ext ψ)) : H' a = some (.ext ψ) := by
  rcases p.keep a _ h (ext_dead s h) rfl with z | ⟨z, _⟩
  · exact z
  · cases z
theorem LamK.mon {φ φ' : Num} {st st' : Store} {H H' : Hp} {v : V} {m : EM} (s : StR X.K X.mg T φ st H) (p : Stp φ st H φ' st' H') (h : LamK X T D k H v m) : LamK X T D k H' v m := by
  obtain ⟨f, c', params, body, scope, h1, h2, h3, h4⟩ := h
  exact ⟨f, c', params, body, scope, h1, keep_ext s p h2, keep_ext s p h3, h4⟩
theorem pe_lamK {params : Arguments} {body : Expr} {scope : Scope} {lpos : Pos} {m : EM} (ci : Cin D (k + 2) X) (ho : Home X T t) (hnm : t.nm lpos.line lpos.col = some (X.env.qual ++ "<lambda>")) (L0 : LamX.lamSB D.sc scope = true) (hdef : defaultsOf params X.env = ([], []))
    (hbind : ∀ (q : Str) (cl : List (Str × Addr)) (pm cv ctv : Value), bindArgs (PySem.W.kla_fn "<lambda>" q params body scope cl pm cv ctv) ⟨[], []⟩ = pure [])
    (hb : ∀ (A : Around) (outer : List Env) (s : Shared) (H : Hp) (W' : XK) (f c' : Addr), Cin ⟨D.N, scope, []⟩ k (LamX.lamCx X A outer s H W' scope f c') → Takes (LamX.lamCx X A outer s H W' scope f c') (fun c d _ H => W' c d H) → E (LamX.lamCx X A outer s H W' scope f c') T W' body m) :
    PE X (.Lambda params body scope lpos) (fun σ H Q => ∃ φ st, StR X.K X.mg T φ st H ∧ ∀ v H', StR X.K X.mg T φ st H' → Stp φ st H φ st H' → LamK X T D k H' v m → Q v H') := by
  refine ⟨fun pins s σ H Q I h => ?_⟩
  obtain ⟨φ, st, r0, h⟩ := h
  have Ls : LamX.LamS X.env.scope scope := by rw [ci.sc]; exact LamX.lamS_by L0
  obtain ⟨⟨c, TB, hcode⟩, htT, hone⟩ := ho
  refine mk_lam (t := t) I TB hcode htT hone hnm r0.tabs hdef (Ls.has I.ok) fun f c' pm' ctv H1 s' I1 ex T1 hf hfn hfr _ _ hsz hco => ?_
  have fo : FpOk X pins H1 f := I.fpOk hsz hfn
  have I2 := inv_track (o := LamO f (X.env.qual ++ "<lambda>") params body scope (cloFrom X.env.cells scope.names []) c') I1 fo ⟨⟨pm', ctv, hf⟩, ⟨_, hf⟩, fun h1 h2 ⟨pm, ctv, e⟩ st => ⟨pm, ctv, st _ e⟩⟩ ⟨_, hf⟩
  have g := Gr.upd (o := LamO f (X.env.qual ++ "<lambda>") params body scope (cloFrom X.env.cells scope.names []) c') hfn
  exact ⟨.ref f, _, I2, rfl, h (.ref f) _ ((ex.str r0 T1).gr g) (ex.stp.trans g.step) ⟨f, c', params, body, scope, rfl, upd_same, g _ _ hco, L0, hbind, hb⟩⟩
theorem pa_lams (ci : Cin D (k + 2) X) (ho : Home X T t) : ∀ {es : List Expr} {ms : List EM}, Lms X T D k t es ms →
    PA X es (fun σ H Q => ∃ φ st, StR X.K X.mg T φ st H ∧ ∀ vs H', StR X.K X.mg T φ st H' → Stp φ st H φ st H' → Paired (fun m v => LamK X T D k H' v m) ms vs → Q vs H')
  | _, _, .nil => PA.imp pa_nil fun σ H Q ⟨φ, st, r, h⟩ => h [] H r .refl .nil
  | _, _, .cons (lpos := lpos) (m := m) (ms := ms) hnm L0 hdef hbind hb r => by
    refine PA.imp (pa_cons (pe_lamK (lpos := lpos) ci ho hnm L0 hdef hbind hb) (pa_lams ci ho r)) ?_
    rintro σ H Q ⟨φ, st, r0, h⟩
    refine ⟨φ, st, r0, fun v H1 r1 s1 l1 => ⟨φ, st, r1, fun vs H2 r2 s2 l2 => ?_⟩⟩
    exact h (v :: vs) H2 r2 (s1.trans s2) (.cons (l1.mon r1 s2) l2)
theorem paired_at {α β : Type} {G : α → β → Prop} : ∀ {l : List α} {r : List β} {j : Nat} {x : α}, Paired G l r → l[j]? = some x → ∃ y, r[j]? = some y ∧ G x y
  | _, _, _, _, .nil, e => by simp at e
  | _, _, 0, _, .cons h _, e => by simp at e; subst e; exact ⟨_, rfl, h⟩
  | _, _, j + 1, _, .cons _ t, e => by
    obtain ⟨y, e1, g⟩ := paired_at (j := j) t (by simpa using e)
    exact ⟨y, by simpa using e1, g⟩
theorem SlR.gone {K : PySem.W.Frag} {φ : Num} {st : Store} {H : Hp} {sl : Slots} {σ : L2.St} {i : Nat} {x : Option V} (h : SlR K φ st H sl σ) : SlR K φ st H (sl.set i none) (σ.set i x) := by
  refine ⟨by simpa using h.1, fun j w e => ?_⟩
  by_cases hj : i = j
  · subst hj
    by_cases hi : i < sl.length
    · rw [List.getElem?_set_self hi] at e
      cases e
    · rw [List.getElem?_eq_none (by simpa using hi)] at e
      cases e
  · rw [List.getElem?_set_ne hj] at e
    rw [List.getElem?_set_ne hj]
    exact h.2 j w e
def whatsR (sl : Slots) : Val → Store → SR := fun w st =>
  match w with
  | .d (.bool b) => if b = true then .rt (.d (.bool false)) st else .nx sl st
  | _ => .stuck
def whatsK (ik : Nat) (es tests : List Str) (ms : List EM) (mb : EM) (sl : Slots) : Val → Store → SR := fun v st =>
  match v with
  | .d (.int i) => if 0 ≤ i then
      match ms[i.toNat]? with
      | some m => aS (mP2 oNe (mUnder es tests m) mb (sl.set ik (some v)) st) (sl.set ik (some v)) (whatsR (sl.set ik (some v)))
      | none => .stuck
    else .stuck
  | _ => .stuck
def sWhats (iw ik : Nat) (es tests : List Str) (ms : List EM) (mk mb : EM) : SM := fun sl st =>
  aS (mk (sl.set iw none) st) (sl.set iw none) (whatsK ik es tests ms mb (sl.set iw none))
theorem Ss_whats {x wn kn : Str} {iw ik : Nat} {es tests : List Str} {les : List Expr} {ms : List EM} {ek b : Expr} {mk mb : EM} {q1 q2 q3 q4 q5 q6 q7 q8 q9 q10 q11 q12 q13 q14 : Pos} {jj : Nat} (ci : Cin D (k + 2) X) (ho : Home X T t) (hx : UnderOk X.K X.mg x es tests) (hg : D.g x = true)
    (hw : D.v iw wn = true) (hk : D.v ik kn = true) (hw' : D.s iw wn = true) (hk' : D.s ik kn = true) (hne : iw ≠ ik) (hl : Lms X T D k t les ms) (hms : ms.length ≤ lineN) (hke : E X T W ek mk) (hb : E X T W b mb)
    (hs1 : swapsWith (.List les q2) (some (.Name wn q1)) q3.line X.env = pure false := by rfl) (hs2 : swapsWith ek (some (.Name kn q4)) q5.line X.env = pure false := by rfl) (hm : behindInMarks .NotEq b = false := by rfl) :
    Ss X T W [.Assign [.Name wn q1] (.List les q2) q3, .Assign [.Name kn q4] ek q5, .If (.Compare (.Call (.Name x q6) [.Subscript (.Name wn q7) (.Name kn q8) q9] [] q10) [.NotEq] [b] q11) [.Return (some (.Constant (.bool false) jj q12)) q13] [] q14] (sWhats iw ik es tests ms mk mb) := by
  obtain ⟨w1, w2, w3⟩ := ci.put hw'
  obtain ⟨k1, k2, k3⟩ := ci.put hk'
  have s1 := ps_set (pos' := q1) (pos := q3) ci.nd w1 w2 (pe_lst (pos := q2) (pa_lams ci ho hl)) hs1 w3
  have s2 := ps_set (pos' := q4) (pos := q5) ci.nd k1 k2 hke.run hs2 k3
  have s3 := ps_if (pos := q14) (pt_cmpR (pos := q11) (op_ne' (T := T) ci) (pe_under (T := T) (W := W) (p := q6) (p2 := q7) (p3 := q8) (p4 := q9) (pos := q10) ci hx hg hw hk) hb.run hm) (pss_one (ps_ret (pos := q13) (pe_bl (b := false) (j := jj) (pos := q12)))) pss_nil
  refine ⟨PSs.of (pss_cons s1 (pss_cons s2 (pss_one s3))) ?_⟩
  rintro D' σ H hlen ⟨φ, sl, st, h0, h⟩
  have hi : iw < σ.length := by rw [hlen]; exact (List.getElem?_eq_some_iff.mp w1).1
  have hj : ik < σ.length := by rw [hlen]; exact (List.getElem?_eq_some_iff.mp k1).1
  refine ⟨φ, st, h0.s, fun vs H1 r1 s1' pr => ⟨by rw [← paired_len pr]; rw [lineN_eq] at hms; exact hms, fun p hp => ?_⟩⟩
  have g := Gr.upd (o := .lst vs) hp
  have rr2 := r1.gr g
  have s2' := s1'.trans (g.step (φ := φ) (st := st))
  have a2 : At X.K X.mg T φ (sl.set iw none) st (σ.set iw (some (.ref p))) (upd H1 p (.lst vs)) := ⟨rr2, (h0.l.mon s2').gone⟩
  have h2 := SPost.shift s2' h
  refine (tE_bindS a2 h2).mono fun u H3 ⟨φ3, st3, v, a3, v3, s3', p3⟩ => ?_
  unfold whatsK at p3
  split at p3
  case h_2 => exact p3.elim
  rename_i i
  split at p3
  case isFalse => exact p3.elim
  rename_i hi0
  split at p3
  case h_2 => exact p3.elim
  rename_i m hm1
  obtain rfl : u = .int i := v3
  obtain ⟨f, hf1, hf2⟩ := paired_at pr hm1
  have hf3 : LamK X T D k H3 f m := (hf2.mon r1 (g.step (φ := φ) (st := st))).mon rr2 s3'
  have hp3 : H3 p = some (.lst vs) := by
    rcases s3'.keep p _ upd_same (not_live r1 hp) rfl with z | ⟨z, _⟩
    · exact z
    · cases z
  have ej : ((i.toNat : Nat) : Int) = i := Int.toNat_of_nonneg hi0
  have a4 : At X.K X.mg T φ3 ((sl.set iw none).set ik (some (.d (.int i)))) st3 ((σ.set iw (some (.ref p))).set ik (some (.int i))) H3 := ⟨a3.s, a3.l.set (v := .d (.int i)) rfl⟩
  have f1 : ((σ.set iw (some (.ref p))).set ik (some (.int i)))[iw]? = some (some (.ref p)) := by rw [List.getElem?_set_ne (fun z => hne z.symm), List.getElem?_set_self hi]
  have f2 : ((σ.set iw (some (.ref p))).set ik (some (.int i)))[ik]? = some (some (.int ((i.toNat : Nat) : Int))) := by rw [ej, List.getElem?_set_self (by rw [List.length_set]; exact hj)]
  have q4 := (tE_bindS a4 p3)
  have q5 : tOp (r2 X T oNe) (tE X T W (mUnder es tests m)) (tE X T W mb) _ H3 (fun x H4 => ∃ b, x = .bl b ∧ (if b = true then D'.rt (.bl false) H4 else D'.nx ((σ.set iw (some (.ref p))).set ik (some (.int i))) H4)) := two (q4.mono fun x H4 ⟨φ4, st4, w, a5, v5, s5, p5⟩ => by
    unfold whatsR at p5
    split at p5
    case h_2 => exact p5.elim
    rename_i bb
    obtain rfl : x = .bl bb := v5
    refine ⟨bb, rfl, ?_⟩
    cases bb with
    | true => exact p5 φ4 H4 (.bl false) .refl a5.s rfl
    | false => exact p5 φ4 H4 _ .refl a5.s a5.l)
  obtain ⟨φ6, sl6, st6, a6, e6⟩ := q5
  exact ⟨φ6, sl6, st6, p, vs, i.toNat, f, m, a6, f1, hp3, f2, hf1, hf3, e6⟩
end
end TL
end

section
set_option Elab.async false
set_option linter.all false
set_option maxRecDepth 100000
set_option maxHeartbeats 1000000
set_option autoImplicit false
namespace TL
open PySem L2
def excB (K : PySem.W.Frag) (D : Addr) : Bool :=
  decide (PySem.W.findIn K (.ref D) "__getattribute__" = some (some (.builtin "BaseException.__getattribute__"))) && (decide (PySem.W.findIn K (.ref D) "__getattr__" = some none) && (decide (PySem.W.subIn K (.ref D) (.type "BaseException") = some true) && (PySem.W.hasDictIn K D &&
    (decide (PySem.W.findIn K (.ref D) "__class__" = some (some (.builtin "object.__class__"))) && (decide (PySem.W.specialIn K (.builtin "object.__class__") "__get__" = some (some (.builtin "getset_descriptor.__get__"))) && (decide (PySem.W.takesIn K (.builtin "object.__class__") = some true) && decide (PySem.W.mroIn K D (.type "object") = some true)))))))
theorem excB_ok {K : PySem.W.Frag} {D : Addr} (h : excB K D = true) : ExcC K D := by
  unfold excB at h
  simp only [Bool.and_eq_true, decide_eq_true_eq] at h
  obtain ⟨h1, h2, h3, h4, h5, h6, h7, h8⟩ := h
  exact ⟨h1, h2, h3, h4, h5, h6, h7, h8⟩
def clsO (K : PySem.W.Frag) (t : Str) : Value := if t = "ValueError" then .type "ValueError" else .ref (He.ga K t)
def undB (K : PySem.W.Frag) (es tests : List Str) (pf : Str) : Bool :=
  es.all fun c => excB K (He.ga K c) && (decide (PySem.W.exmOne K (.ref (He.ga K c)) (.ref (He.ga K pf)) = some true) && tests.all fun t => decide (PySem.W.kitOne K (.ref (He.ga K c)) (clsO K t) = some (decide (c = t) || decide (t = "ValueError"))))
def undS (sc : Scope) (a e sm pf : Str) (N tests : List Str) (ie is : Nat) : Bool :=
  decide N.Nodup && (decide (N[0]? = some a) && (decide (N[ie]? = some e) && (decide (N[is]? = some sm) && (decide (is ≠ ie) && (decide (sc.names.lookup a = some .local) && (decide (sc.names.lookup e = some .local) && (decide (sc.names.lookup sm = some .local) &&
    (decide ((a == ("__debug__" : Str)) = false ∧ (a == ("__classdict__" : Str)) = false) && (decide ((e == ("__debug__" : Str)) = false ∧ (e == ("__classdict__" : Str)) = false) && (decide ((sm == ("__debug__" : Str)) = false ∧ (sm == ("__classdict__" : Str)) = false) &&
    (decide (sc.names.lookup ("isinstance" : Str) = some .globalImplicit) && (decide (sc.names.lookup pf = some .globalImplicit ∧ (pf == ("__debug__" : Str)) = false) && tests.all fun t => decide (sc.names.lookup t = some .globalImplicit ∧ t ≠ "__name__" ∧ (t == ("__debug__" : Str)) = false)))))))))))))
theorem under_of {K : PySem.W.Frag} {mg : Str → Option Value} {x a e sm pf : Str} {s : Stmt} {g : Addr} {fd : FuncData} {N es tests cs1 cs2 cs3 : List Str} {es1 es2 es3 : List Expr} {ie is : Nat} (F : FunD K x x (defArgs s) (defBody s) (defScope s) [] [] g fd) (hm : mg x = some (.ref g)) (b : L2.Binds K fd [a] [])
    (S : FnScope N [a] (defScope s)) (B : UBody a e sm pf es1 es2 es3 (defBody s)) (r1 : IsEs e es1 cs1) (r2 : IsEs e es2 cs2) (r3 : IsEs e es3 cs3) (ht : tests = cs1 ++ cs2 ++ cs3) (few : tests.length ≤ lineN) (hs : undS (defScope s) a e sm pf N tests ie is = true)
    (mi : mg "isinstance" = none) (mv : mg "ValueError" = none) (mp : mg pf = some (.ref (He.ga K pf))) (hC : ∀ c ∈ es, mg c = some (.ref (He.ga K c))) (hT : ∀ t ∈ tests, t = "ValueError" ∨ mg t = some (.ref (He.ga K t))) (hx : undB K es tests pf = true) : UnderOk K mg x es tests := by
  obtain ⟨oc, od, dV, kV, doc, pm, an, cdv, ct, osl, rfl, lk, hcdi, _, _⟩ := F.ex
  unfold undS at hs
  simp only [Bool.and_eq_true, decide_eq_true_eq, List.all_eq_true] at hs
  obtain ⟨s1, s2, s3, s4, s5, s6, s7, s8, s9, s10, s11, s12, s13, s14⟩ := hs
  unfold undB at hx
  simp only [Bool.and_eq_true, decide_eq_true_eq, List.all_eq_true] at hx
  refine ⟨⟨g, defArgs s, defScope s, dV, kV, doc, pm, cdv, ct, oc, an, od, osl, N, a, e, sm, pf, ie, is, defBody s, es1, es2, es3, cs1, cs2, cs3, He.ga K pf⟩, hm, F.kp, lk, hcdi, b, S, s1, s2, s3, s4, s5, s6, s7, s8, s9, s10, s11, B, r1, r2, r3, ht, few, s12, mi, s13, mp, fun c hc C hCm => ?_⟩
  have e0 := hC c hc
  rw [hCm] at e0
  obtain rfl : C = He.ga K c := by injection e0 with e0; injection e0
  obtain ⟨h1, h2, h3⟩ := hx c hc
  refine ⟨excB_ok h1, h2, fun t hT' => ?_⟩
  have h4 := h3 t hT'
  unfold clsO at h4
  by_cases hv : t = "ValueError"
  · subst hv
    rw [if_pos rfl] at h4
    exact ⟨.ty "ValueError", .type "ValueError", ⟨(s14 _ hT').1, (s14 _ hT').2.1, (s14 _ hT').2.2, .inr ⟨mv, rfl⟩, rfl, fun u hu => hu⟩, h4⟩
  · rw [if_neg hv] at h4
    rcases hT t hT' with q | q
    · exact absurd q hv
    · exact ⟨.ref (He.ga K t), .ref (He.ga K t), ⟨(s14 _ hT').1, (s14 _ hT').2.1, (s14 _ hT').2.2, .inl q, rfl, fun u hu => hu⟩, h4⟩
end TL
end

section
set_option Elab.async false
set_option linter.all false
set_option maxRecDepth 100000
set_option maxHeartbeats 4000000
set_option autoImplicit false
namespace K21
open PySem L2 TL
def top (i : Nat) : Stmt := PySem.Challenge.pw_pipehall_k21_refusals_apart.main.body.getD i (.Pass ⟨0, 0, 0, 0⟩)
def toldT : List (Str × Str) := [("BadSize", "size"), ("BadPipe", "pipe"), ("BadPlan", "plan"), ("NoSuch", "no such"), ("NoRoom", "no room"), ("NoWay", "no way"), ("BadDeed", "deed")]
def undE : List Str := ["BadDeed", "BadPipe", "BadPlan", "BadSize", "NoRoom", "NoSuch", "NoWay"]
def undT : List Str := ["BadDeed", "BadPipe", "BadPlan", "BadSize", "NoRoom", "NoSuch", "NoWay", "ValueError"]
def N_boiler_init : List Str := ["self", "room", "logs"]
def m_boiler_init : SM := sSeq (sIf (tOr (tOfE (mP2 oLt (mVar 1) (mC (.int 1)))) (tOfE (mP2 oLt (mVar 2) (mC (.int 0))))) (sRaise "BadPlan") (sNil)) (sSeq (sFld "Boiler" (mVar 0) "room" (mVar 1)) (sSeq (sFld "Boiler" (mVar 0) "logs" (mVar 2)) (sSeq (sFld "Boiler" (mVar 0) "water" (mC (.int 0))) (sSeq (sFld "Boiler" (mVar 0) "heat" (mC (.int 0))) (sFld "Boiler" (mVar 0) "steam" (mC (.int 0)))))))
def f_boiler_init : FM := fnOf 3 m_boiler_init
def N_boiler_fill : List Str := ["self", "much"]
def m_boiler_fill : SM := sSeq (sIf (tOfE (mP2 oLt (mVar 1) (mC (.int 1)))) (sRaise "BadSize") (sNil)) (sSeq (sIf (tOfE (mP2 oGt (mP2 oAdd (mFld "Boiler" (mVar 0) "water") (mVar 1)) (mFld "Boiler" (mVar 0) "room"))) (sRaise "NoRoom") (sNil)) (sSeq (sAugFld "Boiler" (mVar 0) "water" oAdd1 (mVar 1)) (sRet (mFld "Boiler" (mVar 0) "water"))))
def f_boiler_fill : FM := fnOf 2 m_boiler_fill
def N_garden_init : List Str := ["self", "rows", "columns", "tap", "hose"]
def m_garden_init : SM := sSeq (sIf (tOr (tOfE (mP2 oLt (mPn oMin (aCons (mVar 1) (aCons (mVar 2) (aNil)))) (mC (.int 1)))) (tOr (tNot (tOfE (mChain oLe oLt (mC (.int 0)) (mP2 oIx (mVar 3) (mC (.int 0))) (mVar 1)))) (tNot (tOfE (mChain oLe oLt (mC (.int 0)) (mP2 oIx (mVar 3) (mC (.int 1))) (mVar 2)))))) (sRaise "BadPlan") (sNil)) (sSeq (sIf (tOfE (mP2 oLt (mVar 4) (mC (.int 0)))) (sRaise "BadPipe") (sNil)) (sSeq (sFld "Garden" (mVar 0) "rows" (mVar 1)) (sSeq (sFld "Garden" (mVar 0) "columns" (mVar 2)) (sSeq (sFld "Garden" (mVar 0) "tap" (mPn oTuple (aCons (mVar 3) (aNil)))) (sSeq (sFld "Garden" (mVar 0) "hose" (mVar 4)) (sSeq (sFld "Garden" (mVar 0) "needs" (mC (.dict []))) (sSeq (sFld "Garden" (mVar 0) "had" (mC (.dict []))) (sFld "Garden" (mVar 0) "walls" (mDisp pTup (aNil))))))))))
def f_garden_init : FM := fnOf 5 m_garden_init
def N_run_init : List Str := ["self", "wide"]
def m_run_init : SM := sSeq (sIf (tOfE (mP2 oLt (mVar 1) (mC (.int 1)))) (sRaise "BadPipe") (sNil)) (sSeq (sFld "Run" (mVar 0) "wide" (mVar 1)) (sSeq (sFld "Run" (mVar 0) "pieces" (mDisp pTup (aNil))) (sFld "Run" (mVar 0) "tight" (mDisp pTup (aNil)))))
def f_run_init : FM := fnOf 2 m_run_init
def N_run_unscrew : List Str := ["self", "name", "one"]
def m_run_unscrew : SM := sSeq (sIf (tOfE (mP2 oEq (mFld "Run" (mVar 0) "pieces") (mDisp pTup (aNil)))) (sRaise "BadDeed") (sNil)) (sSeq (sSet 1 (mP2 oIx (mP2 oIx (mFld "Run" (mVar 0) "pieces") (mP1 oNeg (mC (.int 1)))) (mC (.int 0)))) (sSeq (sFld "Run" (mVar 0) "pieces" (mSl (mFld "Run" (mVar 0) "pieces") none (some (mP1 oNeg (mC (.int 1)))))) (sSeq (sFld "Run" (mVar 0) "tight" (mPn oTuple (aCons (mComp [2] (.name 2) (iSeq (mFld "Run" (mVar 0) "tight")) (tOfE (mP2 oNe (mVar 2) (mVar 1))) (mVar 2)) (aNil)))) (sRet (mVar 1)))))
def f_run_unscrew : FM := fnOf 3 m_run_unscrew
def N_pump_init : List Str := ["self", "lift", "stroke", "washer"]
def m_pump_init : SM := sSeq (sIf (tOfE (mP2 oLt (mPn oMin (aCons (mVar 1) (aCons (mVar 2) (aCons (mVar 3) (aNil))))) (mC (.int 1)))) (sRaise "BadPlan") (sNil)) (sSeq (sFld "Pump" (mVar 0) "lift" (mVar 1)) (sSeq (sFld "Pump" (mVar 0) "stroke" (mVar 2)) (sSeq (sFld "Pump" (mVar 0) "washer" (mVar 3)) (sSeq (sFld "Pump" (mVar 0) "left" (mVar 3)) (sSeq (sFld "Pump" (mVar 0) "well" (mC (.int 0))) (sSeq (sFld "Pump" (mVar 0) "lifted" (mC (.int 0))) (sFld "Pump" (mVar 0) "strokes" (mC (.int 0)))))))))
def f_pump_init : FM := fnOf 4 m_pump_init
def N_pump_rain : List Str := ["self", "much"]
def m_pump_rain : SM := sSeq (sIf (tOfE (mP2 oLt (mVar 1) (mC (.int 1)))) (sRaise "BadSize") (sNil)) (sSeq (sAugFld "Pump" (mVar 0) "well" oAdd1 (mVar 1)) (sRet (mFld "Pump" (mVar 0) "well")))
def f_pump_rain : FM := fnOf 2 m_pump_rain
def N_pump_work : List Str := ["self", "strokes", "deep", "found", "turn", "part"]
def m_pump_work : SM := sSeq (sIf (tOr (tOfE (mP2 oLt (mVar 1) (mC (.int 1)))) (tOfE (mP2 oLt (mVar 2) (mC (.int 0))))) (sRaise "BadSize") (sNil)) (sSeq (sIf (tOfE (mP2 oGt (mVar 2) (mFld "Pump" (mVar 0) "lift"))) (sRaise "NoWay") (sNil)) (sSeq (sSet 3 (mC (.int 0))) (sSeq (sFor (.name 4) (iPn pRange1 (aCons (mVar 1) (aNil))) (sSeq (sAugFld "Pump" (mVar 0) "strokes" oAdd1 (mC (.int 1))) (sIf (tOfE (mP2 oGt (mFld "Pump" (mVar 0) "left") (mC (.int 0)))) (sSeq (sSet 5 (mPn oMin (aCons (mFld "Pump" (mVar 0) "stroke") (aCons (mFld "Pump" (mVar 0) "well") (aNil))))) (sSeq (sAugFld "Pump" (mVar 0) "well" oSub (mVar 5)) (sSeq (sAug 3 oAdd1 (mVar 5)) (sAugFld "Pump" (mVar 0) "left" oSub (mC (.int 1)))))) (sNil)))) (sSeq (sAugFld "Pump" (mVar 0) "lifted" oAdd1 (mVar 3)) (sRet (mVar 3))))))
def f_pump_work : FM := fnOf 6 m_pump_work
def N_tower_force : List Str := ["self", "name"]
def m_tower_force : SM := sSeq (sIf (tOfE (mP2 oNotIn (mVar 1) (mFld "Tower" (mVar 0) "houses"))) (sRaiseA "NoSuch" (mVar 1)) (sNil)) (sRet (mPn oMax (aCons (mC (.int 0)) (aCons (mP2 oSub (mFld "Tower" (mVar 0) "high") (mP2 oDix (mFld "Tower" (mVar 0) "houses") (mVar 1))) (aNil)))))
def f_tower_force : FM := fnOf 2 m_tower_force
def N_law_dice : List Str := ["cell"]
def m_law_dice : SM := sSeq (sIf (tOfE (mChain oLt oLt (mP2 oSub (mC (.int 0)) (mC (.int 10))) (mVar 0) (mC (.int 10)))) (sRet (mOwn (mDisp pLst (aCons (mPn oAbs (aCons (mVar 0) (aNil))) (aCons (mC (.int 0)) (aCons (mC (.int 2)) (aNil))))))) (sNil)) (sRet (mOwn (mDisp pLst (aCons (mVar 0) (aCons (mP2 oAdd (mC (.int 1)) (mP2 oMod (mPn oInt (aCons (mVar 0) (aNil))) (mC (.int 1009)))) (aCons (mPn oInt (aCons (mP2 oGe (mVar 0) (mP2 oPow (mC (.int 10)) (mC (.int 18)))) (aNil))) (aNil)))))))
def f_law_dice : FM := fnOfB 1 m_law_dice
def N_law_roll : List Str := ["dice", "many", "found"]
def m_law_roll : SM := sSeq (sIf (tOr (tOfE (mP2 oEq (mP2 oIx (mVar 0) (mC (.int 2))) (mC (.int 2)))) (tAnd (tOfE (mP2 oEq (mP2 oIx (mVar 0) (mC (.int 2))) (mC (.int 1)))) (tOfE (mP2 oGt (mP2 oIx (mVar 0) (mC (.int 0))) (mC (.int 0)))))) (sSeq (sSet 2 (mP2 oMod (mPn oInt (aCons (mP2 oIx (mVar 0) (mC (.int 0))) (aNil))) (mVar 1))) (sSeq (sSetIx (mP2 oDiv (mP2 oIx (mVar 0) (mC (.int 0))) (mVar 1)) (mVar 0) (mC (.int 0))) (sRet (mVar 2)))) (sNil)) (sSeq (sSetIx (mC (.int 0)) (mVar 0) (mC (.int 2))) (sSeq (sSetIx (mP2 oMod (mPn oInt (aCons (mP2 oAdd (mP2 oAdd (mP2 oMul (mP2 oIx (mVar 0) (mC (.int 0))) (mC (.int 48271))) (mP2 oMul (mP2 oIx (mVar 0) (mC (.int 1))) (mC (.int 69621)))) (mC (.int 11))) (aNil))) (mC (.int 2147483647))) (mVar 0) (mC (.int 0))) (sSeq (sSetIx (mP2 oAdd (mP2 oIx (mVar 0) (mC (.int 1))) (mC (.int 1))) (mVar 0) (mC (.int 1))) (sRet (mP2 oMod (mPn oInt (aCons (mP2 oAdd (mP2 oDiv (mP2 oIx (mVar 0) (mC (.int 0))) (mC (.int 7))) (mP2 oIx (mVar 0) (mC (.int 0)))) (aNil))) (mVar 1))))))
def f_law_roll : FM := fnOf 3 m_law_roll
def N_tower_init : List Str := ["self", "high", "room", "houses", "floor", "name"]
def m_tower_init : SM := sSeq (sIf (tOr (tOfE (mP2 oLt (mPn oMin (aCons (mVar 1) (aCons (mVar 2) (aNil)))) (mC (.int 1)))) (tOr (tOfE (mP2 oIn (mC (.str "")) (mVar 3))) (tOfE (mAnyG [4] (.name 4) (iDkW vsD (mVar 3)) (TL.tYes) (mP2 oLt (mVar 4) (mC (.int 0))))))) (sRaise "BadPlan") (sNil)) (sSeq (sFld "Tower" (mVar 0) "high" (mVar 1)) (sSeq (sFld "Tower" (mVar 0) "room" (mVar 2)) (sSeq (sFld "Tower" (mVar 0) "houses" (mPn oDictC (aCons (mComp [5] (.name 5) (iSeq (mPn oSortK (aCons (mVar 3) (aNil)))) (TL.tYes) (mDisp pTup (aCons (mVar 5) (aCons (mP2 oDix (mVar 3) (mVar 5)) (aNil))))) (aNil)))) (sSeq (sFld "Tower" (mVar 0) "stored" (mC (.int 0))) (sSeq (sFld "Tower" (mVar 0) "hour" (mC (.int 0))) (sFld "Tower" (mVar 0) "lacked" (mC (.dict []))))))))
def f_tower_init : FM := fnOf 6 m_tower_init
def nm_tower_init : Nat → Nat → Option Str := fun _ _ => none
def N_law : List Str := ["script", "dice", "whats", "k", "many", "j"]
def m_law : SM := sSeq (sSet 4 (mP2 oAdd (mC (.int 1)) (mCall f_law_roll (aCons (mVar 1) (aCons (mC (.int 90)) (aNil)))))) (sWhats 2 3 undE undT [mMeth "Run" "unscrew" f_run_unscrew (mMake "Run" f_run_init (aCons (mVar 4) (aNil))) aNil, mMake "Run" f_run_init (aCons (mP2 oSub (mC (.int 1)) (mVar 4)) (aNil)), mMake "Garden" f_garden_init (aCons (mP2 oSub (mC (.int 1)) (mVar 4)) (aCons (mC (.int 1)) (aCons (mDisp pTup (aCons (mC (.int 0)) (aCons (mC (.int 0)) (aNil)))) (aCons (mC (.int 1)) (aNil))))), mMeth "Pump" "rain" f_pump_rain (mMake "Pump" f_pump_init (aCons (mVar 4) (aCons (mC (.int 1)) (aCons (mC (.int 1)) (aNil))))) (aCons (mP2 oSub (mC (.int 1)) (mVar 4)) (aNil)), mMeth "Boiler" "fill" f_boiler_fill (mMake "Boiler" f_boiler_init (aCons (mVar 4) (aCons (mC (.int 1)) (aNil)))) (aCons (mP2 oAdd (mVar 4) (mC (.int 1))) (aNil)), mMeth "Tower" "force" f_tower_force (mMake "Tower" f_tower_init (aCons (mVar 4) (aCons (mC (.int 1)) (aCons (mC (.dict [])) (aNil))))) (aCons (mC (.str "a")) (aNil)), mMeth "Pump" "work" f_pump_work (mMake "Pump" f_pump_init (aCons (mVar 4) (aCons (mC (.int 1)) (aCons (mC (.int 1)) (aNil))))) (aCons (mC (.int 1)) (aCons (mP2 oAdd (mVar 4) (mC (.int 1))) (aNil)))] (mCall f_law_roll (aCons (mVar 1) (aCons (mC (.int 7)) (aNil)))) (mP2 oAdd (mComp [5] (.name 5) (iPn pRange1 (aCons (mC (.int 7)) (aNil))) (TL.tYes) (mP2 oEq (mVar 5) (mVar 3))) (mDisp pLst (aCons (mC (.bool true)) (aNil)))))
def nm_law : Nat → Nat → Option Str := fun _ _ => some (("law.<locals>." : Str) ++ "<lambda>")
structure Pg (K : PySem.W.Frag) (mg : Str → Option Value) : Prop where
  b_abs : mg "abs" = none
  b_any : mg "any" = none
  b_dict : mg "dict" = none
  b_int : mg "int" = none
  b_max : mg "max" = none
  b_min : mg "min" = none
  b_range : mg "range" = none
  b_sorted : mg "sorted" = none
  b_tuple : mg "tuple" = none
  x_BadDeed : ExnOk K mg "BadDeed"
  x_BadPipe : ExnOk K mg "BadPipe"
  x_BadPlan : ExnOk K mg "BadPlan"
  x_BadSize : ExnOk K mg "BadSize"
  x_NoRoom : ExnOk K mg "NoRoom"
  x_NoSuch : ExnOk K mg "NoSuch"
  x_NoWay : ExnOk K mg "NoWay"
  f_Boiler_heat : FldOk K mg "Boiler" "heat"
  f_Boiler_logs : FldOk K mg "Boiler" "logs"
  f_Boiler_room : FldOk K mg "Boiler" "room"
  f_Boiler_steam : FldOk K mg "Boiler" "steam"
  f_Boiler_water : FldOk K mg "Boiler" "water"
  f_Garden_columns : FldOk K mg "Garden" "columns"
  f_Garden_had : FldOk K mg "Garden" "had"
  f_Garden_hose : FldOk K mg "Garden" "hose"
  f_Garden_needs : FldOk K mg "Garden" "needs"
  f_Garden_rows : FldOk K mg "Garden" "rows"
  f_Garden_tap : FldOk K mg "Garden" "tap"
  f_Garden_walls : FldOk K mg "Garden" "walls"
  f_Pump_left : FldOk K mg "Pump" "left"
  f_Pump_lift : FldOk K mg "Pump" "lift"
  f_Pump_lifted : FldOk K mg "Pump" "lifted"
  f_Pump_stroke : FldOk K mg "Pump" "stroke"
  f_Pump_strokes : FldOk K mg "Pump" "strokes"
  f_Pump_washer : FldOk K mg "Pump" "washer"
  f_Pump_well : FldOk K mg "Pump" "well"
  f_Run_pieces : FldOk K mg "Run" "pieces"
  f_Run_tight : FldOk K mg "Run" "tight"
  f_Run_wide : FldOk K mg "Run" "wide"
  f_Tower_high : FldOk K mg "Tower" "high"
  f_Tower_hour : FldOk K mg "Tower" "hour"
  f_Tower_houses : FldOk K mg "Tower" "houses"
  f_Tower_lacked : FldOk K mg "Tower" "lacked"
  f_Tower_room : FldOk K mg "Tower" "room"
  f_Tower_stored : FldOk K mg "Tower" "stored"
  under : UnderOk K mg "_law_under" undE undT
  b_isinstance : mg "isinstance" = none
  b_ValueError : mg "ValueError" = none
abbrev s_boiler_init : Stmt := inClass (top 11) 0
theorem sc_boiler_init : FnScope N_boiler_init ["self", "room", "logs"] (defScope s_boiler_init) := ⟨rfl, rfl, rfl, by decide +kernel, rfl, by decide +kernel, by decide +kernel⟩
theorem ok_boiler_init {P : Program} {w : World} {K : PySem.W.Frag} {mg : Str → Option Value} {base : Heap} {T : List Tb} {f c : Addr} {fd : FuncData} (F : FunC K "__init__" "Boiler.__init__" s_boiler_init f c fd) (G : Pg K mg) : FnOk P w K mg base (L2.CX P w) 1 f fd ["self", "room", "logs"] (spF K mg T 3 f_boiler_init) :=
  fn_okC (N := N_boiler_init) (cl := []) (m := m_boiler_init) F sc_boiler_init (fun A outer s0 H W ci tk => Ss_cons (S_if (Ew.t (Ew_or (Et_cmp (op_lt' ci) (E_var ci (i := 1) (by decide +kernel)) (E_int)) (Ew_or1 (Et_cmp (op_lt' ci) (E_var ci (i := 2) (by decide +kernel)) (E_int))))) (Ss_one (S_raise ci tk G.x_BadPlan (by rfl))) (Ss_nil)) (Ss_cons (S_fld G.f_Boiler_room (E_var ci (i := 0) (by decide +kernel)) (E_var ci (i := 1) (by decide +kernel))) (Ss_cons (S_fld G.f_Boiler_logs (E_var ci (i := 0) (by decide +kernel)) (E_var ci (i := 2) (by decide +kernel))) (Ss_cons (S_fld G.f_Boiler_water (E_var ci (i := 0) (by decide +kernel)) (E_int)) (Ss_cons (S_fld G.f_Boiler_heat (E_var ci (i := 0) (by decide +kernel)) (E_int)) (Ss_one (S_fld G.f_Boiler_steam (E_var ci (i := 0) (by decide +kernel)) (E_int))))))))
abbrev s_boiler_fill : Stmt := inClass (top 11) 1
theorem sc_boiler_fill : FnScope N_boiler_fill ["self", "much"] (defScope s_boiler_fill) := ⟨rfl, rfl, rfl, by decide +kernel, rfl, by decide +kernel, by decide +kernel⟩
theorem ok_boiler_fill {P : Program} {w : World} {K : PySem.W.Frag} {mg : Str → Option Value} {base : Heap} {T : List Tb} {f c : Addr} {fd : FuncData} (F : FunC K "fill" "Boiler.fill" s_boiler_fill f c fd) (G : Pg K mg) : FnOk P w K mg base (L2.CX P w) 1 f fd ["self", "much"] (spF K mg T 2 f_boiler_fill) :=
  fn_okC (N := N_boiler_fill) (cl := []) (m := m_boiler_fill) F sc_boiler_fill (fun A outer s0 H W ci tk => Ss_cons (S_if (Et_cmp (op_lt' ci) (E_var ci (i := 1) (by decide +kernel)) (E_int)) (Ss_one (S_raise ci tk G.x_BadSize (by rfl))) (Ss_nil)) (Ss_cons (S_if (Et_cmp (op_gt' ci) (E_bin op_add' (E_fld G.f_Boiler_water (E_var ci (i := 0) (by decide +kernel))) (E_var ci (i := 1) (by decide +kernel))) (E_fld G.f_Boiler_room (E_var ci (i := 0) (by decide +kernel)))) (Ss_one (S_raise ci tk G.x_NoRoom (by rfl))) (Ss_nil)) (Ss_cons (S_augfld G.f_Boiler_water iop_add' (E_var ci (i := 0) (by decide +kernel)) (E_var ci (i := 1) (by decide +kernel))) (Ss_one (S_ret (E_fld G.f_Boiler_water (E_var ci (i := 0) (by decide +kernel))))))))
abbrev s_garden_init : Stmt := inClass (top 13) 0
theorem sc_garden_init : FnScope N_garden_init ["self", "rows", "columns", "tap", "hose"] (defScope s_garden_init) := ⟨rfl, rfl, rfl, by decide +kernel, rfl, by decide +kernel, by decide +kernel⟩
theorem ok_garden_init {P : Program} {w : World} {K : PySem.W.Frag} {mg : Str → Option Value} {base : Heap} {T : List Tb} {f c : Addr} {fd : FuncData} (F : FunC K "__init__" "Garden.__init__" s_garden_init f c fd) (G : Pg K mg) : FnOk P w K mg base (L2.CX P w) 1 f fd ["self", "rows", "columns", "tap", "hose"] (spF K mg T 5 f_garden_init) :=
  fn_okC (N := N_garden_init) (cl := []) (m := m_garden_init) F sc_garden_init (fun A outer s0 H W ci tk => Ss_cons (S_if (Ew.t (Ew_or (Et_cmp (op_lt' ci) (E_blt ci (call_min' ci) (by rfl) (G.b_min) (by rfl) (Ea_cons (E_var ci (i := 1) (by decide +kernel)) (Ea_cons (E_var ci (i := 2) (by decide +kernel)) (Ea_nil)))) (E_int)) (Ew_or (Et_not (Et_chain (op_le' ci) (op_lt' ci) (E_int) (E_ix ix' (E_var ci (i := 3) (by decide +kernel)) (E_int)) (E_var ci (i := 1) (by decide +kernel)))) (Ew_or1 (Et_not (Et_chain (op_le' ci) (op_lt' ci) (E_int) (E_ix ix' (E_var ci (i := 3) (by decide +kernel)) (E_int)) (E_var ci (i := 2) (by decide +kernel)))))))) (Ss_one (S_raise ci tk G.x_BadPlan (by rfl))) (Ss_nil)) (Ss_cons (S_if (Et_cmp (op_lt' ci) (E_var ci (i := 4) (by decide +kernel)) (E_int)) (Ss_one (S_raise ci tk G.x_BadPipe (by rfl))) (Ss_nil)) (Ss_cons (S_fld G.f_Garden_rows (E_var ci (i := 0) (by decide +kernel)) (E_var ci (i := 1) (by decide +kernel))) (Ss_cons (S_fld G.f_Garden_columns (E_var ci (i := 0) (by decide +kernel)) (E_var ci (i := 2) (by decide +kernel))) (Ss_cons (S_fld G.f_Garden_tap (E_var ci (i := 0) (by decide +kernel)) (E_bty ci call_tuple' (by rfl) (G.b_tuple) (by rfl) (Ea_cons (E_var ci (i := 3) (by decide +kernel)) (Ea_nil)))) (Ss_cons (S_fld G.f_Garden_hose (E_var ci (i := 0) (by decide +kernel)) (E_var ci (i := 4) (by decide +kernel))) (Ss_cons (S_fld G.f_Garden_needs (E_var ci (i := 0) (by decide +kernel)) (E_dnew)) (Ss_cons (S_fld G.f_Garden_had (E_var ci (i := 0) (by decide +kernel)) (E_dnew)) (Ss_one (S_fld G.f_Garden_walls (E_var ci (i := 0) (by decide +kernel)) (E_tup (Ea_nil))))))))))))
abbrev s_run_init : Stmt := inClass (top 15) 0
theorem sc_run_init : FnScope N_run_init ["self", "wide"] (defScope s_run_init) := ⟨rfl, rfl, rfl, by decide +kernel, rfl, by decide +kernel, by decide +kernel⟩
theorem ok_run_init {P : Program} {w : World} {K : PySem.W.Frag} {mg : Str → Option Value} {base : Heap} {T : List Tb} {f c : Addr} {fd : FuncData} (F : FunC K "__init__" "Run.__init__" s_run_init f c fd) (G : Pg K mg) : FnOk P w K mg base (L2.CX P w) 1 f fd ["self", "wide"] (spF K mg T 2 f_run_init) :=
  fn_okC (N := N_run_init) (cl := []) (m := m_run_init) F sc_run_init (fun A outer s0 H W ci tk => Ss_cons (S_if (Et_cmp (op_lt' ci) (E_var ci (i := 1) (by decide +kernel)) (E_int)) (Ss_one (S_raise ci tk G.x_BadPipe (by rfl))) (Ss_nil)) (Ss_cons (S_fld G.f_Run_wide (E_var ci (i := 0) (by decide +kernel)) (E_var ci (i := 1) (by decide +kernel))) (Ss_cons (S_fld G.f_Run_pieces (E_var ci (i := 0) (by decide +kernel)) (E_tup (Ea_nil))) (Ss_one (S_fld G.f_Run_tight (E_var ci (i := 0) (by decide +kernel)) (E_tup (Ea_nil)))))))
abbrev s_run_unscrew : Stmt := inClass (top 15) 4
theorem sc_run_unscrew : FnScope N_run_unscrew ["self"] (defScope s_run_unscrew) := ⟨rfl, rfl, rfl, by decide +kernel, rfl, by decide +kernel, by decide +kernel⟩
theorem ok_run_unscrew {P : Program} {w : World} {K : PySem.W.Frag} {mg : Str → Option Value} {base : Heap} {T : List Tb} {f c : Addr} {fd : FuncData} (F : FunC K "unscrew" "Run.unscrew" s_run_unscrew f c fd) (G : Pg K mg) : FnOk P w K mg base (L2.CX P w) 1 f fd ["self"] (spF K mg T 1 f_run_unscrew) :=
  fn_okC (N := N_run_unscrew) (cl := ["name"]) (m := m_run_unscrew) F sc_run_unscrew (fun A outer s0 H W ci tk => Ss_cons (S_if (Et_cmp (op_eq' ci) (E_fld G.f_Run_pieces (E_var ci (i := 0) (by decide +kernel))) (E_tup (Ea_nil))) (Ss_one (S_raise ci tk G.x_BadDeed (by rfl))) (Ss_nil)) (Ss_cons (S_set ci (i := 1) (by decide +kernel) (E_ix ix' (E_ix ix' (E_fld G.f_Run_pieces (E_var ci (i := 0) (by decide +kernel))) (E_un un_neg' (E_int))) (E_int))) (Ss_cons (S_fld G.f_Run_pieces (E_var ci (i := 0) (by decide +kernel)) (E_sl (E_fld G.f_Run_pieces (E_var ci (i := 0) (by decide +kernel))) .none (.some (E_un un_neg' (E_int))))) (Ss_cons (S_fld G.f_Run_tight (E_var ci (i := 0) (by decide +kernel)) (E_bty ci call_tuple' (by rfl) (G.b_tuple) (by rfl) (Ea_cons (E_comp ci (own := [("one", 2)]) (by decide +kernel) (by decide) (I_seq (E_fld G.f_Run_tight (E_var ci (i := 0) (by decide +kernel)))) (fun _ _ _ _ _ ci => G_name ci (i := 2) (by decide +kernel)) (fun _ _ _ _ _ ci => Ets_one (Et_cmp (op_ne' ci) (E_var ci (i := 2) (by decide +kernel)) (E_var ci (i := 1) (by decide +kernel)))) (fun _ _ _ _ _ ci => E_var ci (i := 2) (by decide +kernel))) (Ea_nil)))) (Ss_one (S_ret (E_var ci (i := 1) (by decide +kernel))))))))
abbrev s_pump_init : Stmt := inClass (top 17) 0
theorem sc_pump_init : FnScope N_pump_init ["self", "lift", "stroke", "washer"] (defScope s_pump_init) := ⟨rfl, rfl, rfl, by decide +kernel, rfl, by decide +kernel, by decide +kernel⟩
theorem ok_pump_init {P : Program} {w : World} {K : PySem.W.Frag} {mg : Str → Option Value} {base : Heap} {T : List Tb} {f c : Addr} {fd : FuncData} (F : FunC K "__init__" "Pump.__init__" s_pump_init f c fd) (G : Pg K mg) : FnOk P w K mg base (L2.CX P w) 1 f fd ["self", "lift", "stroke", "washer"] (spF K mg T 4 f_pump_init) :=
  fn_okC (N := N_pump_init) (cl := []) (m := m_pump_init) F sc_pump_init (fun A outer s0 H W ci tk => Ss_cons (S_if (Et_cmp (op_lt' ci) (E_blt ci (call_min' ci) (by rfl) (G.b_min) (by rfl) (Ea_cons (E_var ci (i := 1) (by decide +kernel)) (Ea_cons (E_var ci (i := 2) (by decide +kernel)) (Ea_cons (E_var ci (i := 3) (by decide +kernel)) (Ea_nil))))) (E_int)) (Ss_one (S_raise ci tk G.x_BadPlan (by rfl))) (Ss_nil)) (Ss_cons (S_fld G.f_Pump_lift (E_var ci (i := 0) (by decide +kernel)) (E_var ci (i := 1) (by decide +kernel))) (Ss_cons (S_fld G.f_Pump_stroke (E_var ci (i := 0) (by decide +kernel)) (E_var ci (i := 2) (by decide +kernel))) (Ss_cons (S_fld G.f_Pump_washer (E_var ci (i := 0) (by decide +kernel)) (E_var ci (i := 3) (by decide +kernel))) (Ss_cons (S_fld G.f_Pump_left (E_var ci (i := 0) (by decide +kernel)) (E_var ci (i := 3) (by decide +kernel))) (Ss_cons (S_fld G.f_Pump_well (E_var ci (i := 0) (by decide +kernel)) (E_int)) (Ss_cons (S_fld G.f_Pump_lifted (E_var ci (i := 0) (by decide +kernel)) (E_int)) (Ss_one (S_fld G.f_Pump_strokes (E_var ci (i := 0) (by decide +kernel)) (E_int))))))))))
abbrev s_pump_rain : Stmt := inClass (top 17) 1
theorem sc_pump_rain : FnScope N_pump_rain ["self", "much"] (defScope s_pump_rain) := ⟨rfl, rfl, rfl, by decide +kernel, rfl, by decide +kernel, by decide +kernel⟩
theorem ok_pump_rain {P : Program} {w : World} {K : PySem.W.Frag} {mg : Str → Option Value} {base : Heap} {T : List Tb} {f c : Addr} {fd : FuncData} (F : FunC K "rain" "Pump.rain" s_pump_rain f c fd) (G : Pg K mg) : FnOk P w K mg base (L2.CX P w) 1 f fd ["self", "much"] (spF K mg T 2 f_pump_rain) :=
  fn_okC (N := N_pump_rain) (cl := []) (m := m_pump_rain) F sc_pump_rain (fun A outer s0 H W ci tk => Ss_cons (S_if (Et_cmp (op_lt' ci) (E_var ci (i := 1) (by decide +kernel)) (E_int)) (Ss_one (S_raise ci tk G.x_BadSize (by rfl))) (Ss_nil)) (Ss_cons (S_augfld G.f_Pump_well iop_add' (E_var ci (i := 0) (by decide +kernel)) (E_var ci (i := 1) (by decide +kernel))) (Ss_one (S_ret (E_fld G.f_Pump_well (E_var ci (i := 0) (by decide +kernel)))))))
abbrev s_pump_work : Stmt := inClass (top 17) 2
theorem sc_pump_work : FnScope N_pump_work ["self", "strokes", "deep"] (defScope s_pump_work) := ⟨rfl, rfl, rfl, by decide +kernel, rfl, by decide +kernel, by decide +kernel⟩
theorem ok_pump_work {P : Program} {w : World} {K : PySem.W.Frag} {mg : Str → Option Value} {base : Heap} {T : List Tb} {f c : Addr} {fd : FuncData} (F : FunC K "work" "Pump.work" s_pump_work f c fd) (G : Pg K mg) : FnOk P w K mg base (L2.CX P w) 1 f fd ["self", "strokes", "deep"] (spF K mg T 3 f_pump_work) :=
  fn_okC (N := N_pump_work) (cl := []) (m := m_pump_work) F sc_pump_work (fun A outer s0 H W ci tk => Ss_cons (S_if (Ew.t (Ew_or (Et_cmp (op_lt' ci) (E_var ci (i := 1) (by decide +kernel)) (E_int)) (Ew_or1 (Et_cmp (op_lt' ci) (E_var ci (i := 2) (by decide +kernel)) (E_int))))) (Ss_one (S_raise ci tk G.x_BadSize (by rfl))) (Ss_nil)) (Ss_cons (S_if (Et_cmp (op_gt' ci) (E_var ci (i := 2) (by decide +kernel)) (E_fld G.f_Pump_lift (E_var ci (i := 0) (by decide +kernel)))) (Ss_one (S_raise ci tk G.x_NoWay (by rfl))) (Ss_nil)) (Ss_cons (S_set ci (i := 3) (by decide +kernel) (E_int)) (Ss_cons (S_for ci (I_range1 ci (by rfl) (G.b_range) (Ea_cons (E_var ci (i := 1) (by decide +kernel)) (Ea_nil))) (G_name ci (i := 4) (by decide +kernel)) (Ss_cons (S_augfld G.f_Pump_strokes iop_add' (E_var ci (i := 0) (by decide +kernel)) (E_int)) (Ss_one (S_if (Et_cmp (op_gt' ci) (E_fld G.f_Pump_left (E_var ci (i := 0) (by decide +kernel))) (E_int)) (Ss_cons (S_set ci (i := 5) (by decide +kernel) (E_blt ci (call_min' ci) (by rfl) (G.b_min) (by rfl) (Ea_cons (E_fld G.f_Pump_stroke (E_var ci (i := 0) (by decide +kernel))) (Ea_cons (E_fld G.f_Pump_well (E_var ci (i := 0) (by decide +kernel))) (Ea_nil))))) (Ss_cons (S_augfld G.f_Pump_well iop_sub' (E_var ci (i := 0) (by decide +kernel)) (E_var ci (i := 5) (by decide +kernel))) (Ss_cons (S_aug ci (i := 3) (by decide +kernel) iop_add' (E_var ci (i := 5) (by decide +kernel))) (Ss_one (S_augfld G.f_Pump_left iop_sub' (E_var ci (i := 0) (by decide +kernel)) (E_int)))))) (Ss_nil))))) (Ss_cons (S_augfld G.f_Pump_lifted iop_add' (E_var ci (i := 0) (by decide +kernel)) (E_var ci (i := 3) (by decide +kernel))) (Ss_one (S_ret (E_var ci (i := 3) (by decide +kernel)))))))))
abbrev s_tower_force : Stmt := inClass (top 19) 1
theorem sc_tower_force : FnScope N_tower_force ["self", "name"] (defScope s_tower_force) := ⟨rfl, rfl, rfl, by decide +kernel, rfl, by decide +kernel, by decide +kernel⟩
theorem ok_tower_force {P : Program} {w : World} {K : PySem.W.Frag} {mg : Str → Option Value} {base : Heap} {T : List Tb} {f c : Addr} {fd : FuncData} (F : FunC K "force" "Tower.force" s_tower_force f c fd) (G : Pg K mg) : FnOk P w K mg base (L2.CX P w) 1 f fd ["self", "name"] (spF K mg T 2 f_tower_force) :=
  fn_okC (N := N_tower_force) (cl := []) (m := m_tower_force) F sc_tower_force (fun A outer s0 H W ci tk => Ss_cons (S_if (Et_cmp (op_notIn' ci) (E_var ci (i := 1) (by decide +kernel)) (E_fld G.f_Tower_houses (E_var ci (i := 0) (by decide +kernel)))) (Ss_one (S_raiseA ci tk G.x_NoSuch (by rfl) (E_var ci (i := 1) (by decide +kernel)))) (Ss_nil)) (Ss_one (S_ret (E_blt ci (call_max' ci) (by rfl) (G.b_max) (by rfl) (Ea_cons (E_int) (Ea_cons (E_bin op_sub' (E_fld G.f_Tower_high (E_var ci (i := 0) (by decide +kernel))) (E_dix ci (E_fld G.f_Tower_houses (E_var ci (i := 0) (by decide +kernel))) (E_var ci (i := 1) (by decide +kernel)) (fun _ _ => rfl))) (Ea_nil)))))))
abbrev s_law_dice : Stmt := top 21
theorem sc_law_dice : FnScope N_law_dice ["cell"] (defScope s_law_dice) := ⟨rfl, rfl, rfl, by decide +kernel, rfl, by decide +kernel, by decide +kernel⟩
theorem ok_law_dice {P : Program} {w : World} {K : PySem.W.Frag} {mg : Str → Option Value} {base : Heap} {T : List Tb} {f c : Addr} {fd : FuncData} (F : FunC K "_law_dice" "_law_dice" s_law_dice f c fd) (G : Pg K mg) : FnOk P w K mg base (L2.CX P w) 1 f fd ["cell"] (spF K mg T 1 f_law_dice) :=
  fn_okB (N := N_law_dice) (cl := []) (m := m_law_dice) F sc_law_dice (fun A outer s0 H W ci tk => Ss_cons (S_if (Et_chain (op_lt' ci) (op_lt' ci) (E_bin op_sub' (E_int) (E_int)) (E_var ci (i := 0) (by decide +kernel)) (E_int)) (Ss_one (S_ret (E_ownL (Ea_cons (E_blt ci call_abs' (by rfl) (G.b_abs) (by rfl) (Ea_cons (E_var ci (i := 0) (by decide +kernel)) (Ea_nil))) (Ea_cons (E_int) (Ea_cons (E_int) (Ea_nil))))))) (Ss_nil)) (Ss_one (S_ret (E_ownL (Ea_cons (E_var ci (i := 0) (by decide +kernel)) (Ea_cons (E_bin op_add' (E_int) (E_bin op_mod' (E_bty ci call_int' (by rfl) (G.b_int) (by rfl) (Ea_cons (E_var ci (i := 0) (by decide +kernel)) (Ea_nil))) (E_int))) (Ea_cons (E_bty ci call_int' (by rfl) (G.b_int) (by rfl) (Ea_cons (E_cmp (op_ge' ci) (E_var ci (i := 0) (by decide +kernel)) (E_bin op_pow' (E_int) (E_int))) (Ea_nil))) (Ea_nil))))))))
abbrev s_law_roll : Stmt := top 22
theorem sc_law_roll : FnScope N_law_roll ["dice", "many"] (defScope s_law_roll) := ⟨rfl, rfl, rfl, by decide +kernel, rfl, by decide +kernel, by decide +kernel⟩
theorem ok_law_roll {P : Program} {w : World} {K : PySem.W.Frag} {mg : Str → Option Value} {base : Heap} {T : List Tb} {f c : Addr} {fd : FuncData} (F : FunC K "_law_roll" "_law_roll" s_law_roll f c fd) (G : Pg K mg) : FnOk P w K mg base (L2.CX P w) 1 f fd ["dice", "many"] (spF K mg T 2 f_law_roll) :=
  fn_okC (N := N_law_roll) (cl := []) (m := m_law_roll) F sc_law_roll (fun A outer s0 H W ci tk => Ss_cons (S_if (Ew.t (Ew_or (Et_cmp (op_eq' ci) (E_ix ix' (E_var ci (i := 0) (by decide +kernel)) (E_int)) (E_int)) (Ew_or1 (Ew.t (Ew_and (Et_cmp (op_eq' ci) (E_ix ix' (E_var ci (i := 0) (by decide +kernel)) (E_int)) (E_int)) (Ew_and1 (Et_cmp (op_gt' ci) (E_ix ix' (E_var ci (i := 0) (by decide +kernel)) (E_int)) (E_int)))))))) (Ss_cons (S_set ci (i := 2) (by decide +kernel) (E_bin op_mod' (E_bty ci call_int' (by rfl) (G.b_int) (by rfl) (Ea_cons (E_ix ix' (E_var ci (i := 0) (by decide +kernel)) (E_int)) (Ea_nil))) (E_var ci (i := 1) (by decide +kernel)))) (Ss_cons (S_setix (E_bin op_div' (E_ix ix' (E_var ci (i := 0) (by decide +kernel)) (E_int)) (E_var ci (i := 1) (by decide +kernel))) (E_var ci (i := 0) (by decide +kernel)) (E_int)) (Ss_one (S_ret (E_var ci (i := 2) (by decide +kernel)))))) (Ss_nil)) (Ss_cons (S_setix (E_int) (E_var ci (i := 0) (by decide +kernel)) (E_int)) (Ss_cons (S_setix (E_bin op_mod' (E_bty ci call_int' (by rfl) (G.b_int) (by rfl) (Ea_cons (E_bin op_add' (E_bin op_add' (E_bin op_mul' (E_ix ix' (E_var ci (i := 0) (by decide +kernel)) (E_int)) (E_int)) (E_bin op_mul' (E_ix ix' (E_var ci (i := 0) (by decide +kernel)) (E_int)) (E_int))) (E_int)) (Ea_nil))) (E_int)) (E_var ci (i := 0) (by decide +kernel)) (E_int)) (Ss_cons (S_setix (E_bin op_add' (E_ix ix' (E_var ci (i := 0) (by decide +kernel)) (E_int)) (E_int)) (E_var ci (i := 0) (by decide +kernel)) (E_int)) (Ss_one (S_ret (E_bin op_mod' (E_bty ci call_int' (by rfl) (G.b_int) (by rfl) (Ea_cons (E_bin op_add' (E_bin op_div' (E_ix ix' (E_var ci (i := 0) (by decide +kernel)) (E_int)) (E_int)) (E_ix ix' (E_var ci (i := 0) (by decide +kernel)) (E_int))) (Ea_nil))) (E_var ci (i := 1) (by decide +kernel)))))))))
abbrev s_tower_init : Stmt := inClass (top 19) 0
theorem sc_tower_init : FnScope N_tower_init ["self", "high", "room", "houses"] (defScope s_tower_init) := ⟨rfl, rfl, rfl, by decide +kernel, rfl, by decide +kernel, by decide +kernel⟩
theorem ok_tower_init {P : Program} {w : World} {K : PySem.W.Frag} {mg : Str → Option Value} {base : Heap} {T : List Tb} {f c P_ : Addr} {fd : FuncData} (F : FunC K "__init__" "Tower.__init__" s_tower_init f c fd) (G : Pg K mg) (hh : HomeOk base mg T c ⟨P_, nm_tower_init⟩) : FnOk P w K mg base (L2.CX P w) 2 f fd ["self", "high", "room", "houses"] (spF K mg T 4 f_tower_init) :=
  fn_okC (N := N_tower_init) (cl := ["houses"]) (m := m_tower_init) F sc_tower_init (fun A outer s0 H W ci tk => have ho := hh.home; Ss_cons (S_if (Ew.t (Ew_or (Et_cmp (op_lt' ci) (E_blt ci (call_min' ci) (by rfl) (G.b_min) (by rfl) (Ea_cons (E_var ci (i := 1) (by decide +kernel)) (Ea_cons (E_var ci (i := 2) (by decide +kernel)) (Ea_nil)))) (E_int)) (Ew_or (Et_cmp (op_in' ci) (E_str) (E_var ci (i := 3) (by decide +kernel))) (Ew_or1 (Et_val (E_anyG (own := [4]) ci ho (by rfl) (by rfl) (G.b_any) (by rfl) (by decide +kernel) (by decide) (I_values (E_var ci (i := 3) (by decide +kernel))) (fun _ _ _ _ ci => G_name ci (i := 4) (by decide +kernel)) (fun _ _ _ _ ci => Ets_nil) (fun _ _ _ _ ci => E_cmp (op_lt' ci) (E_var ci (i := 4) (by decide +kernel)) (E_int)))))))) (Ss_one (S_raise ci tk G.x_BadPlan (by rfl))) (Ss_nil)) (Ss_cons (S_fld G.f_Tower_high (E_var ci (i := 0) (by decide +kernel)) (E_var ci (i := 1) (by decide +kernel))) (Ss_cons (S_fld G.f_Tower_room (E_var ci (i := 0) (by decide +kernel)) (E_var ci (i := 2) (by decide +kernel))) (Ss_cons (S_fld G.f_Tower_houses (E_var ci (i := 0) (by decide +kernel)) (E_bty ci (call_dict' ci) (by rfl) (G.b_dict) (by rfl) (Ea_cons (E_comp ci (own := [("name", 5)]) (by decide +kernel) (by decide) (I_seq (E_blt ci (call_sortedK' ci) (by rfl) (G.b_sorted) (by rfl) (Ea_cons (E_var ci (i := 3) (by decide +kernel)) (Ea_nil)))) (fun _ _ _ _ _ ci => G_name ci (i := 5) (by decide +kernel)) (fun _ _ _ _ _ ci => Ets_nil) (fun _ _ _ _ _ ci => E_tup (Ea_cons (E_var ci (i := 5) (by decide +kernel)) (Ea_cons (E_dix ci (E_var ci (i := 3) (by decide +kernel)) (E_var ci (i := 5) (by decide +kernel)) (fun _ _ => rfl)) (Ea_nil))))) (Ea_nil)))) (Ss_cons (S_fld G.f_Tower_stored (E_var ci (i := 0) (by decide +kernel)) (E_int)) (Ss_cons (S_fld G.f_Tower_hour (E_var ci (i := 0) (by decide +kernel)) (E_int)) (Ss_one (S_fld G.f_Tower_lacked (E_var ci (i := 0) (by decide +kernel)) (E_dnew)))))))))
abbrev s_law_rounds : Stmt := top 23
theorem sc_law_rounds : FnScope N_rounds ["script", "most"] (defScope s_law_rounds) := ⟨rfl, rfl, rfl, by decide +kernel, rfl, by decide +kernel, by decide +kernel⟩
theorem ok_law_rounds {P : Program} {w : World} {K : PySem.W.Frag} {mg : Str → Option Value} {base : Heap} {T : List Tb} {f c : Addr} {fd : FuncData} {good : Int → Int → Int → Int → Prop} (F : FunC K "_law_rounds" "_law_rounds" s_law_rounds f c fd) (c_law_dice : CallOk P w K mg base T "_law_dice" 1 f_law_dice 1) (hD : DiceOk f_law_dice good) : FnOk P w K mg base (L2.CX P w) 2 f fd ["script", "most"] (spR K mg T good) :=
  rounds_ok F sc_law_rounds rfl (by decide +kernel) (by decide +kernel) (by decide +kernel) (by decide +kernel) (by decide +kernel) (by decide +kernel) (by decide +kernel) (by decide +kernel) c_law_dice hD
abbrev s_law : Stmt := top 25
theorem sc_law : FnScope N_law ["script"] (defScope s_law) := ⟨rfl, rfl, rfl, by decide +kernel, rfl, by decide +kernel, by decide +kernel⟩
theorem ok_law {P : Program} {w : World} {K : PySem.W.Frag} {mg : Str → Option Value} {base : Heap} {T : List Tb} {f c P_ fR : Addr} {fd fdR : FuncData} {good : Int → Int → Int → Int → Prop} (F : FunC K "law" "law" s_law f c fd) (G : Pg K mg) (hh : HomeOk base mg T c ⟨P_, nm_law⟩) (c_pump_work : MethOk P w K mg base T "Pump" "work" 2 f_pump_work 1) (c_pump_init : MakeOk P w K mg base T "Pump" 3 f_pump_init 1) (c_tower_force : MethOk P w K mg base T "Tower" "force" 1 f_tower_force 1) (c_tower_init : MakeOk P w K mg base T "Tower" 3 f_tower_init 2) (c_boiler_fill : MethOk P w K mg base T "Boiler" "fill" 1 f_boiler_fill 1) (c_boiler_init : MakeOk P w K mg base T "Boiler" 2 f_boiler_init 1) (c_pump_rain : MethOk P w K mg base T "Pump" "rain" 1 f_pump_rain 1) (c_garden_init : MakeOk P w K mg base T "Garden" 4 f_garden_init 1) (c_run_init : MakeOk P w K mg base T "Run" 1 f_run_init 1) (c_run_unscrew : MethOk P w K mg base T "Run" "unscrew" 0 f_run_unscrew 1) (c_law_roll : CallOk P w K mg base T "_law_roll" 2 f_law_roll 1) (hmR : mg "_law_rounds" = some (.ref fR)) (hkR : PySem.W.keepIn K (.ref fR) = true) (hbR : Binds K fdR ["script", "most"] []) (R : FnOk P w K mg base (L2.CX P w) 2 fR fdR ["script", "most"] (spR K mg T good))
  (plain : ∀ z a b c, good z a b c → lawGood (m_law (none :: some (.box 0) :: List.replicate 4 none) [.lst [.int a, .int b, .int c]])) : FnOk P w K mg base (L2.CX P w) 6 f fd ["script"] (spLaw K mg T) :=
  law_ok (N := N_law) (cl := ["k", "many"]) (k := 5) F sc_law (by decide) (fun A outer s0 H W ci tk => have ho := hh.home; law_body ci tk (by decide +kernel) (by decide +kernel) (by decide +kernel) hmR hkR hbR (R.mono (by omega)) (m := m_law) (Ss_cons (S_set ci (i := 4) (by decide +kernel) (E_bin op_add' (E_int) (E_call ci tk c_law_roll (by omega) (by rfl) (len_cons (len_cons len_nil)) (Ea_cons (E_var ci (i := 1) (by decide +kernel)) (Ea_cons (E_int) (Ea_nil)))))) (Ss_whats (iw := 2) (ik := 3) ci ho G.under (by rfl) (by decide +kernel) (by decide +kernel) (by decide +kernel) (by decide +kernel) (by decide) (.cons (by rfl) (by decide +kernel) (by rfl) (fun _ _ _ _ _ => rfl) (fun _ _ _ _ _ _ _ ci tk => E_meth0 ci tk c_run_unscrew (by omega) (E_make ci tk c_run_init (by omega) (by rfl) (len_cons len_nil) (Ea_cons (E_var ci (i := 4) (by decide +kernel)) (Ea_nil)))) (.cons (by rfl) (by decide +kernel) (by rfl) (fun _ _ _ _ _ => rfl) (fun _ _ _ _ _ _ _ ci tk => E_make ci tk c_run_init (by omega) (by rfl) (len_cons len_nil) (Ea_cons (E_bin op_sub' (E_int) (E_var ci (i := 4) (by decide +kernel))) (Ea_nil))) (.cons (by rfl) (by decide +kernel) (by rfl) (fun _ _ _ _ _ => rfl) (fun _ _ _ _ _ _ _ ci tk => E_make ci tk c_garden_init (by omega) (by rfl) (len_cons (len_cons (len_cons (len_cons len_nil)))) (Ea_cons (E_bin op_sub' (E_int) (E_var ci (i := 4) (by decide +kernel))) (Ea_cons (E_int) (Ea_cons (E_tup (Ea_cons (E_int) (Ea_cons (E_int) (Ea_nil)))) (Ea_cons (E_int) (Ea_nil)))))) (.cons (by rfl) (by decide +kernel) (by rfl) (fun _ _ _ _ _ => rfl) (fun _ _ _ _ _ _ _ ci tk => E_meth ci tk c_pump_rain (by omega) (len_cons len_nil) (E_make ci tk c_pump_init (by omega) (by rfl) (len_cons (len_cons (len_cons len_nil))) (Ea_cons (E_var ci (i := 4) (by decide +kernel)) (Ea_cons (E_int) (Ea_cons (E_int) (Ea_nil))))) (Ea_cons (E_bin op_sub' (E_int) (E_var ci (i := 4) (by decide +kernel))) (Ea_nil))) (.cons (by rfl) (by decide +kernel) (by rfl) (fun _ _ _ _ _ => rfl) (fun _ _ _ _ _ _ _ ci tk => E_meth ci tk c_boiler_fill (by omega) (len_cons len_nil) (E_make ci tk c_boiler_init (by omega) (by rfl) (len_cons (len_cons len_nil)) (Ea_cons (E_var ci (i := 4) (by decide +kernel)) (Ea_cons (E_int) (Ea_nil)))) (Ea_cons (E_bin op_add' (E_var ci (i := 4) (by decide +kernel)) (E_int)) (Ea_nil))) (.cons (by rfl) (by decide +kernel) (by rfl) (fun _ _ _ _ _ => rfl) (fun _ _ _ _ _ _ _ ci tk => E_meth ci tk c_tower_force (by omega) (len_cons len_nil) (E_make ci tk c_tower_init (by omega) (by rfl) (len_cons (len_cons (len_cons len_nil))) (Ea_cons (E_var ci (i := 4) (by decide +kernel)) (Ea_cons (E_int) (Ea_cons (E_dnew) (Ea_nil))))) (Ea_cons (E_str) (Ea_nil))) (.cons (by rfl) (by decide +kernel) (by rfl) (fun _ _ _ _ _ => rfl) (fun _ _ _ _ _ _ _ ci tk => E_meth ci tk c_pump_work (by omega) (len_cons (len_cons len_nil)) (E_make ci tk c_pump_init (by omega) (by rfl) (len_cons (len_cons (len_cons len_nil))) (Ea_cons (E_var ci (i := 4) (by decide +kernel)) (Ea_cons (E_int) (Ea_cons (E_int) (Ea_nil))))) (Ea_cons (E_int) (Ea_cons (E_bin op_add' (E_var ci (i := 4) (by decide +kernel)) (E_int)) (Ea_nil)))) (.nil)))))))) (by decide) (E_call ci tk c_law_roll (by omega) (by rfl) (len_cons (len_cons len_nil)) (Ea_cons (E_var ci (i := 1) (by decide +kernel)) (Ea_cons (E_int) (Ea_nil)))) (E_bin op_add' (E_comp ci (own := [("j", 5)]) (by decide +kernel) (by decide) (I_range1 ci (by rfl) (G.b_range) (Ea_cons (E_int) (Ea_nil))) (fun _ _ _ _ _ ci => G_name ci (i := 5) (by decide +kernel)) (fun _ _ _ _ _ ci => Ets_nil) (fun _ _ _ _ _ ci => E_cmp (op_eq' ci) (E_var ci (i := 5) (by decide +kernel)) (E_var ci (i := 3) (by decide +kernel)))) (E_lst (Ea_cons (E_bool) (Ea_nil)))))) (show 2 ≤ N_law.length by decide) plain)
abbrev s_law_under : Stmt := top 24
theorem sc_law_under : FnScope ["what", "e", "some"] ["what"] (defScope s_law_under) := ⟨rfl, rfl, rfl, by decide +kernel, rfl, by decide +kernel, by decide +kernel⟩
def D_boiler_init : He.DefD := ⟨("Boiler", some "__init__"), "__init__", "Boiler.__init__", defArgs s_boiler_init, defBody s_boiler_init, defScope s_boiler_init, [], []⟩
def D_boiler_fill : He.DefD := ⟨("Boiler", some "fill"), "fill", "Boiler.fill", defArgs s_boiler_fill, defBody s_boiler_fill, defScope s_boiler_fill, [], []⟩
def D_garden_init : He.DefD := ⟨("Garden", some "__init__"), "__init__", "Garden.__init__", defArgs s_garden_init, defBody s_garden_init, defScope s_garden_init, [], []⟩
def D_run_init : He.DefD := ⟨("Run", some "__init__"), "__init__", "Run.__init__", defArgs s_run_init, defBody s_run_init, defScope s_run_init, [], []⟩
def D_run_unscrew : He.DefD := ⟨("Run", some "unscrew"), "unscrew", "Run.unscrew", defArgs s_run_unscrew, defBody s_run_unscrew, defScope s_run_unscrew, [], []⟩
def D_pump_init : He.DefD := ⟨("Pump", some "__init__"), "__init__", "Pump.__init__", defArgs s_pump_init, defBody s_pump_init, defScope s_pump_init, [], []⟩
def D_pump_rain : He.DefD := ⟨("Pump", some "rain"), "rain", "Pump.rain", defArgs s_pump_rain, defBody s_pump_rain, defScope s_pump_rain, [], []⟩
def D_pump_work : He.DefD := ⟨("Pump", some "work"), "work", "Pump.work", defArgs s_pump_work, defBody s_pump_work, defScope s_pump_work, [], []⟩
def D_tower_force : He.DefD := ⟨("Tower", some "force"), "force", "Tower.force", defArgs s_tower_force, defBody s_tower_force, defScope s_tower_force, [], []⟩
def D_law_dice : He.DefD := ⟨("_law_dice", none), "_law_dice", "_law_dice", defArgs s_law_dice, defBody s_law_dice, defScope s_law_dice, [], []⟩
def D_law_roll : He.DefD := ⟨("_law_roll", none), "_law_roll", "_law_roll", defArgs s_law_roll, defBody s_law_roll, defScope s_law_roll, [], []⟩
def D_tower_init : He.DefD := ⟨("Tower", some "__init__"), "__init__", "Tower.__init__", defArgs s_tower_init, defBody s_tower_init, defScope s_tower_init, [], []⟩
def D_law_under : He.DefD := ⟨("_law_under", none), "_law_under", "_law_under", defArgs s_law_under, defBody s_law_under, defScope s_law_under, [], []⟩
def D_law_rounds : He.DefD := ⟨("_law_rounds", none), "_law_rounds", "_law_rounds", defArgs s_law_rounds, defBody s_law_rounds, defScope s_law_rounds, [], []⟩
def D_law : He.DefD := ⟨("law", none), "law", "law", defArgs s_law, defBody s_law, defScope s_law, [], []⟩
def fn : List He.DefD := [D_boiler_init, D_boiler_fill, D_garden_init, D_run_init, D_run_unscrew, D_pump_init, D_pump_rain, D_pump_work, D_tower_force, D_law_dice, D_law_roll, D_tower_init, D_law_under, D_law_rounds, D_law]
def fa : List He.Fa := [.glo "_law_dice", .glo "_law_roll", .glo "_law_under", .glo "_law_rounds", .glo "law", .glo "BadDeed", .glo "BadPipe", .glo "BadPlan", .glo "BadSize", .glo "NoRoom", .glo "NoSuch", .glo "NoWay", .glo "Boiler", .glo "Garden", .glo "Pump", .glo "Run", .glo "Tower", .glo "PipeFault", .free "ValueError", .free "abs", .free "any", .free "dict", .free "int", .free "isinstance", .free "max", .free "min", .free "range", .free "sorted", .free "tuple", .exc "BadDeed", .exc "BadPipe", .exc "BadPlan", .exc "BadSize", .exc "NoRoom", .exc "NoSuch", .exc "NoWay", .cls "Boiler", .cls "Garden", .cls "Pump", .cls "Run", .cls "Tower", .noat "Boiler" "heat", .noat "Boiler" "logs", .noat "Boiler" "room", .noat "Boiler" "steam", .noat "Boiler" "water", .noat "Garden" "columns", .noat "Garden" "had", .noat "Garden" "hose", .noat "Garden" "needs", .noat "Garden" "rows", .noat "Garden" "tap", .noat "Garden" "walls", .noat "Pump" "left", .noat "Pump" "lift", .noat "Pump" "lifted", .noat "Pump" "stroke", .noat "Pump" "strokes", .noat "Pump" "washer", .noat "Pump" "well", .noat "Run" "pieces", .noat "Run" "tight", .noat "Run" "wide", .noat "Tower" "high", .noat "Tower" "hour", .noat "Tower" "houses", .noat "Tower" "lacked", .noat "Tower" "room", .noat "Tower" "stored", .mkr "Boiler", .meth "Boiler" "fill", .mkr "Garden", .mkr "Run", .meth "Run" "unscrew", .mkr "Pump", .meth "Pump" "rain", .meth "Pump" "work", .meth "Tower" "force", .mkr "Tower"]
def tn : List (He.Defn × (Nat → Nat → Option Str)) := [(("Tower", some "__init__"), nm_tower_init), (("law", none), nm_law)]
def tf : List He.Defn := tn.map (·.1)
def ex (K : PySem.W.Frag) : Bool := decide ((tn.map fun q => (He.cT K q.1).2)).Nodup && undB K undE undT "PipeFault"
theorem facts {w : World} {K : PySem.W.Frag} {h : Heap} {mg : Str → Option Value} {f : Addr} {good : Int → Int → Int → Int → Prop} (X : K.In h) (G0 : h.Ns mainGlobals mg) (hfa : mg ("law" : Str) = some (.ref f)) (c : He.SaysX fa fn [] tf ex w h K) (hD : DiceOk f_law_dice good)
    (plain : ∀ z a b c, good z a b c → lawGood (m_law (none :: some (.box 0) :: List.replicate 4 none) [.lst [.int a, .int b, .int c]])) : LamX.LawAtS PySem.Challenge.rw_pipehall_k21_refusals_apart w K (L2.CX (PySem.Challenge.rw_pipehall_k21_refusals_apart).prog w) 6 63 "script" mg f h := by
  have cd : He.SaysD fa fn K := c.t.d
  obtain ⟨fd_boiler_init, F_boiler_init⟩ := cd.def_ 0 (d := D_boiler_init) rfl
  have b_boiler_init : L2.Binds K fd_boiler_init ["self", "room", "logs"] [] := FunD.bindsN F_boiler_init fun _ _ _ _ _ _ us hl => match us, hl with | [_, _, _], _ => rfl
  obtain ⟨fd_boiler_fill, F_boiler_fill⟩ := cd.def_ 1 (d := D_boiler_fill) rfl
  have b_boiler_fill : L2.Binds K fd_boiler_fill ["self", "much"] [] := FunD.bindsN F_boiler_fill fun _ _ _ _ _ _ us hl => match us, hl with | [_, _], _ => rfl
  obtain ⟨fd_garden_init, F_garden_init⟩ := cd.def_ 2 (d := D_garden_init) rfl
  have b_garden_init : L2.Binds K fd_garden_init ["self", "rows", "columns", "tap", "hose"] [] := FunD.bindsN F_garden_init fun _ _ _ _ _ _ us hl => match us, hl with | [_, _, _, _, _], _ => rfl
  obtain ⟨fd_run_init, F_run_init⟩ := cd.def_ 3 (d := D_run_init) rfl
  have b_run_init : L2.Binds K fd_run_init ["self", "wide"] [] := FunD.bindsN F_run_init fun _ _ _ _ _ _ us hl => match us, hl with | [_, _], _ => rfl
  obtain ⟨fd_run_unscrew, F_run_unscrew⟩ := cd.def_ 4 (d := D_run_unscrew) rfl
  have b_run_unscrew : L2.Binds K fd_run_unscrew ["self"] [] := FunD.bindsN F_run_unscrew fun _ _ _ _ _ _ us hl => match us, hl with | [_], _ => rfl
  obtain ⟨fd_pump_init, F_pump_init⟩ := cd.def_ 5 (d := D_pump_init) rfl
  have b_pump_init : L2.Binds K fd_pump_init ["self", "lift", "stroke", "washer"] [] := FunD.bindsN F_pump_init fun _ _ _ _ _ _ us hl => match us, hl with | [_, _, _, _], _ => rfl
  obtain ⟨fd_pump_rain, F_pump_rain⟩ := cd.def_ 6 (d := D_pump_rain) rfl
  have b_pump_rain : L2.Binds K fd_pump_rain ["self", "much"] [] := FunD.bindsN F_pump_rain fun _ _ _ _ _ _ us hl => match us, hl with | [_, _], _ => rfl
  obtain ⟨fd_pump_work, F_pump_work⟩ := cd.def_ 7 (d := D_pump_work) rfl
  have b_pump_work : L2.Binds K fd_pump_work ["self", "strokes", "deep"] [] := FunD.bindsN F_pump_work fun _ _ _ _ _ _ us hl => match us, hl with | [_, _, _], _ => rfl
  obtain ⟨fd_tower_force, F_tower_force⟩ := cd.def_ 8 (d := D_tower_force) rfl
  have b_tower_force : L2.Binds K fd_tower_force ["self", "name"] [] := FunD.bindsN F_tower_force fun _ _ _ _ _ _ us hl => match us, hl with | [_, _], _ => rfl
  obtain ⟨fd_law_dice, F_law_dice⟩ := cd.def_ 9 (d := D_law_dice) rfl
  have b_law_dice : L2.Binds K fd_law_dice ["cell"] [] := FunD.bindsN F_law_dice fun _ _ _ _ _ _ us hl => match us, hl with | [_], _ => rfl
  obtain ⟨fd_law_roll, F_law_roll⟩ := cd.def_ 10 (d := D_law_roll) rfl
  have b_law_roll : L2.Binds K fd_law_roll ["dice", "many"] [] := FunD.bindsN F_law_roll fun _ _ _ _ _ _ us hl => match us, hl with | [_, _], _ => rfl
  obtain ⟨fd_tower_init, F_tower_init⟩ := cd.def_ 11 (d := D_tower_init) rfl
  have b_tower_init : L2.Binds K fd_tower_init ["self", "high", "room", "houses"] [] := FunD.bindsN F_tower_init fun _ _ _ _ _ _ us hl => match us, hl with | [_, _, _, _], _ => rfl
  obtain ⟨fd_law_under, F_law_under⟩ := cd.def_ 12 (d := D_law_under) rfl
  have b_law_under : L2.Binds K fd_law_under ["what"] [] := FunD.bindsN F_law_under fun _ _ _ _ _ _ us hl => match us, hl with | [_], _ => rfl
  obtain ⟨fd_law_rounds, F_law_rounds⟩ := cd.def_ 13 (d := D_law_rounds) rfl
  have b_law_rounds : L2.Binds K fd_law_rounds ["script", "most"] [] := FunD.bindsN F_law_rounds fun _ _ _ _ _ _ us hl => match us, hl with | [_, _], _ => rfl
  obtain ⟨fd_law, F_law⟩ := cd.def_ 14 (d := D_law) rfl
  have b_law : L2.Binds K fd_law ["script"] [] := FunD.bindsN F_law fun _ _ _ _ _ _ us hl => match us, hl with | [_], _ => rfl
  have hmore : decide ((tn.map fun q => (He.cT K q.1).2)).Nodup = true ∧ undB K undE undT "PipeFault" = true := by have := c.more; unfold ex at this; rwa [Bool.and_eq_true] at this
  have hex := hmore.2
  have G : Pg K mg := {
    b_ValueError := He.free_ok X G0 (cd.fact 18 (f := .free "ValueError") rfl)
    b_abs := He.free_ok X G0 (cd.fact 19 (f := .free "abs") rfl)
    b_any := He.free_ok X G0 (cd.fact 20 (f := .free "any") rfl)
    b_dict := He.free_ok X G0 (cd.fact 21 (f := .free "dict") rfl)
    b_int := He.free_ok X G0 (cd.fact 22 (f := .free "int") rfl)
    b_isinstance := He.free_ok X G0 (cd.fact 23 (f := .free "isinstance") rfl)
    b_max := He.free_ok X G0 (cd.fact 24 (f := .free "max") rfl)
    b_min := He.free_ok X G0 (cd.fact 25 (f := .free "min") rfl)
    b_range := He.free_ok X G0 (cd.fact 26 (f := .free "range") rfl)
    b_sorted := He.free_ok X G0 (cd.fact 27 (f := .free "sorted") rfl)
    b_tuple := He.free_ok X G0 (cd.fact 28 (f := .free "tuple") rfl)
    x_BadDeed := (by obtain ⟨h1, h2, h3, h4⟩ := He.exc_ok (cd.fact 29 (f := .exc "BadDeed") rfl); exact ⟨_, He.glo_ok X G0 (cd.fact 5 (f := .glo "BadDeed") rfl), h1, h2, h3, h4⟩)
    x_BadPipe := (by obtain ⟨h1, h2, h3, h4⟩ := He.exc_ok (cd.fact 30 (f := .exc "BadPipe") rfl); exact ⟨_, He.glo_ok X G0 (cd.fact 6 (f := .glo "BadPipe") rfl), h1, h2, h3, h4⟩)
    x_BadPlan := (by obtain ⟨h1, h2, h3, h4⟩ := He.exc_ok (cd.fact 31 (f := .exc "BadPlan") rfl); exact ⟨_, He.glo_ok X G0 (cd.fact 7 (f := .glo "BadPlan") rfl), h1, h2, h3, h4⟩)
    x_BadSize := (by obtain ⟨h1, h2, h3, h4⟩ := He.exc_ok (cd.fact 32 (f := .exc "BadSize") rfl); exact ⟨_, He.glo_ok X G0 (cd.fact 8 (f := .glo "BadSize") rfl), h1, h2, h3, h4⟩)
    x_NoRoom := (by obtain ⟨h1, h2, h3, h4⟩ := He.exc_ok (cd.fact 33 (f := .exc "NoRoom") rfl); exact ⟨_, He.glo_ok X G0 (cd.fact 9 (f := .glo "NoRoom") rfl), h1, h2, h3, h4⟩)
    x_NoSuch := (by obtain ⟨h1, h2, h3, h4⟩ := He.exc_ok (cd.fact 34 (f := .exc "NoSuch") rfl); exact ⟨_, He.glo_ok X G0 (cd.fact 10 (f := .glo "NoSuch") rfl), h1, h2, h3, h4⟩)
    x_NoWay := (by obtain ⟨h1, h2, h3, h4⟩ := He.exc_ok (cd.fact 35 (f := .exc "NoWay") rfl); exact ⟨_, He.glo_ok X G0 (cd.fact 11 (f := .glo "NoWay") rfl), h1, h2, h3, h4⟩)
    f_Boiler_heat := ⟨_, He.glo_ok X G0 (cd.fact 12 (f := .glo "Boiler") rfl), He.cls_ok (cd.fact 36 (f := .cls "Boiler") rfl), He.noat_ok (cd.fact 41 (f := .noat "Boiler" "heat") rfl)⟩
    f_Boiler_logs := ⟨_, He.glo_ok X G0 (cd.fact 12 (f := .glo "Boiler") rfl), He.cls_ok (cd.fact 36 (f := .cls "Boiler") rfl), He.noat_ok (cd.fact 42 (f := .noat "Boiler" "logs") rfl)⟩
    f_Boiler_room := ⟨_, He.glo_ok X G0 (cd.fact 12 (f := .glo "Boiler") rfl), He.cls_ok (cd.fact 36 (f := .cls "Boiler") rfl), He.noat_ok (cd.fact 43 (f := .noat "Boiler" "room") rfl)⟩
    f_Boiler_steam := ⟨_, He.glo_ok X G0 (cd.fact 12 (f := .glo "Boiler") rfl), He.cls_ok (cd.fact 36 (f := .cls "Boiler") rfl), He.noat_ok (cd.fact 44 (f := .noat "Boiler" "steam") rfl)⟩
    f_Boiler_water := ⟨_, He.glo_ok X G0 (cd.fact 12 (f := .glo "Boiler") rfl), He.cls_ok (cd.fact 36 (f := .cls "Boiler") rfl), He.noat_ok (cd.fact 45 (f := .noat "Boiler" "water") rfl)⟩
    f_Garden_columns := ⟨_, He.glo_ok X G0 (cd.fact 13 (f := .glo "Garden") rfl), He.cls_ok (cd.fact 37 (f := .cls "Garden") rfl), He.noat_ok (cd.fact 46 (f := .noat "Garden" "columns") rfl)⟩
    f_Garden_had := ⟨_, He.glo_ok X G0 (cd.fact 13 (f := .glo "Garden") rfl), He.cls_ok (cd.fact 37 (f := .cls "Garden") rfl), He.noat_ok (cd.fact 47 (f := .noat "Garden" "had") rfl)⟩
    f_Garden_hose := ⟨_, He.glo_ok X G0 (cd.fact 13 (f := .glo "Garden") rfl), He.cls_ok (cd.fact 37 (f := .cls "Garden") rfl), He.noat_ok (cd.fact 48 (f := .noat "Garden" "hose") rfl)⟩
    f_Garden_needs := ⟨_, He.glo_ok X G0 (cd.fact 13 (f := .glo "Garden") rfl), He.cls_ok (cd.fact 37 (f := .cls "Garden") rfl), He.noat_ok (cd.fact 49 (f := .noat "Garden" "needs") rfl)⟩
    f_Garden_rows := ⟨_, He.glo_ok X G0 (cd.fact 13 (f := .glo "Garden") rfl), He.cls_ok (cd.fact 37 (f := .cls "Garden") rfl), He.noat_ok (cd.fact 50 (f := .noat "Garden" "rows") rfl)⟩
    f_Garden_tap := ⟨_, He.glo_ok X G0 (cd.fact 13 (f := .glo "Garden") rfl), He.cls_ok (cd.fact 37 (f := .cls "Garden") rfl), He.noat_ok (cd.fact 51 (f := .noat "Garden" "tap") rfl)⟩
    f_Garden_walls := ⟨_, He.glo_ok X G0 (cd.fact 13 (f := .glo "Garden") rfl), He.cls_ok (cd.fact 37 (f := .cls "Garden") rfl), He.noat_ok (cd.fact 52 (f := .noat "Garden" "walls") rfl)⟩
    f_Pump_left := ⟨_, He.glo_ok X G0 (cd.fact 14 (f := .glo "Pump") rfl), He.cls_ok (cd.fact 38 (f := .cls "Pump") rfl), He.noat_ok (cd.fact 53 (f := .noat "Pump" "left") rfl)⟩
    f_Pump_lift := ⟨_, He.glo_ok X G0 (cd.fact 14 (f := .glo "Pump") rfl), He.cls_ok (cd.fact 38 (f := .cls "Pump") rfl), He.noat_ok (cd.fact 54 (f := .noat "Pump" "lift") rfl)⟩
    f_Pump_lifted := ⟨_, He.glo_ok X G0 (cd.fact 14 (f := .glo "Pump") rfl), He.cls_ok (cd.fact 38 (f := .cls "Pump") rfl), He.noat_ok (cd.fact 55 (f := .noat "Pump" "lifted") rfl)⟩
    f_Pump_stroke := ⟨_, He.glo_ok X G0 (cd.fact 14 (f := .glo "Pump") rfl), He.cls_ok (cd.fact 38 (f := .cls "Pump") rfl), He.noat_ok (cd.fact 56 (f := .noat "Pump" "stroke") rfl)⟩
    f_Pump_strokes := ⟨_, He.glo_ok X G0 (cd.fact 14 (f := .glo "Pump") rfl), He.cls_ok (cd.fact 38 (f := .cls "Pump") rfl), He.noat_ok (cd.fact 57 (f := .noat "Pump" "strokes") rfl)⟩
    f_Pump_washer := ⟨_, He.glo_ok X G0 (cd.fact 14 (f := .glo "Pump") rfl), He.cls_ok (cd.fact 38 (f := .cls "Pump") rfl), He.noat_ok (cd.fact 58 (f := .noat "Pump" "washer") rfl)⟩
    f_Pump_well := ⟨_, He.glo_ok X G0 (cd.fact 14 (f := .glo "Pump") rfl), He.cls_ok (cd.fact 38 (f := .cls "Pump") rfl), He.noat_ok (cd.fact 59 (f := .noat "Pump" "well") rfl)⟩
    f_Run_pieces := ⟨_, He.glo_ok X G0 (cd.fact 15 (f := .glo "Run") rfl), He.cls_ok (cd.fact 39 (f := .cls "Run") rfl), He.noat_ok (cd.fact 60 (f := .noat "Run" "pieces") rfl)⟩
    f_Run_tight := ⟨_, He.glo_ok X G0 (cd.fact 15 (f := .glo "Run") rfl), He.cls_ok (cd.fact 39 (f := .cls "Run") rfl), He.noat_ok (cd.fact 61 (f := .noat "Run" "tight") rfl)⟩
    f_Run_wide := ⟨_, He.glo_ok X G0 (cd.fact 15 (f := .glo "Run") rfl), He.cls_ok (cd.fact 39 (f := .cls "Run") rfl), He.noat_ok (cd.fact 62 (f := .noat "Run" "wide") rfl)⟩
    f_Tower_high := ⟨_, He.glo_ok X G0 (cd.fact 16 (f := .glo "Tower") rfl), He.cls_ok (cd.fact 40 (f := .cls "Tower") rfl), He.noat_ok (cd.fact 63 (f := .noat "Tower" "high") rfl)⟩
    f_Tower_hour := ⟨_, He.glo_ok X G0 (cd.fact 16 (f := .glo "Tower") rfl), He.cls_ok (cd.fact 40 (f := .cls "Tower") rfl), He.noat_ok (cd.fact 64 (f := .noat "Tower" "hour") rfl)⟩
    f_Tower_houses := ⟨_, He.glo_ok X G0 (cd.fact 16 (f := .glo "Tower") rfl), He.cls_ok (cd.fact 40 (f := .cls "Tower") rfl), He.noat_ok (cd.fact 65 (f := .noat "Tower" "houses") rfl)⟩
    f_Tower_lacked := ⟨_, He.glo_ok X G0 (cd.fact 16 (f := .glo "Tower") rfl), He.cls_ok (cd.fact 40 (f := .cls "Tower") rfl), He.noat_ok (cd.fact 66 (f := .noat "Tower" "lacked") rfl)⟩
    f_Tower_room := ⟨_, He.glo_ok X G0 (cd.fact 16 (f := .glo "Tower") rfl), He.cls_ok (cd.fact 40 (f := .cls "Tower") rfl), He.noat_ok (cd.fact 67 (f := .noat "Tower" "room") rfl)⟩
    f_Tower_stored := ⟨_, He.glo_ok X G0 (cd.fact 16 (f := .glo "Tower") rfl), He.cls_ok (cd.fact 40 (f := .cls "Tower") rfl), He.noat_ok (cd.fact 68 (f := .noat "Tower" "stored") rfl)⟩
    under := under_of (x := "_law_under") (s := s_law_under) (N := ["what", "e", "some"]) (ie := 1) (is := 2) F_law_under (He.glo_ok X G0 (cd.fact 2 (f := .glo "_law_under") rfl)) b_law_under sc_law_under .mk (.cons (.cons (.cons (.cons .nil)))) (.cons (.cons (.cons .nil))) (.cons .nil) (by decide +kernel) (by decide +kernel) (by decide +kernel) (He.free_ok X G0 (cd.fact 23 (f := .free "isinstance") rfl)) (He.free_ok X G0 (cd.fact 18 (f := .free "ValueError") rfl)) (He.glo_ok X G0 (cd.fact 17 (f := .glo "PipeFault") rfl))
      (fun c hc => by simp only [undE, List.mem_cons, List.not_mem_nil, or_false] at hc; rcases hc with rfl | rfl | rfl | rfl | rfl | rfl | rfl
        <;> first | exact (He.glo_ok X G0 (cd.fact 5 (f := .glo "BadDeed") rfl)) | exact (He.glo_ok X G0 (cd.fact 6 (f := .glo "BadPipe") rfl)) | exact (He.glo_ok X G0 (cd.fact 7 (f := .glo "BadPlan") rfl)) | exact (He.glo_ok X G0 (cd.fact 8 (f := .glo "BadSize") rfl)) | exact (He.glo_ok X G0 (cd.fact 9 (f := .glo "NoRoom") rfl)) | exact (He.glo_ok X G0 (cd.fact 10 (f := .glo "NoSuch") rfl)) | exact (He.glo_ok X G0 (cd.fact 11 (f := .glo "NoWay") rfl)))
      (fun c hc => by simp only [undT, List.mem_cons, List.not_mem_nil, or_false] at hc; rcases hc with rfl | rfl | rfl | rfl | rfl | rfl | rfl | rfl
        <;> first | exact .inl rfl | exact .inr (He.glo_ok X G0 (cd.fact 5 (f := .glo "BadDeed") rfl)) | exact .inr (He.glo_ok X G0 (cd.fact 6 (f := .glo "BadPipe") rfl)) | exact .inr (He.glo_ok X G0 (cd.fact 7 (f := .glo "BadPlan") rfl)) | exact .inr (He.glo_ok X G0 (cd.fact 8 (f := .glo "BadSize") rfl)) | exact .inr (He.glo_ok X G0 (cd.fact 9 (f := .glo "NoRoom") rfl)) | exact .inr (He.glo_ok X G0 (cd.fact 10 (f := .glo "NoSuch") rfl)) | exact .inr (He.glo_ok X G0 (cd.fact 11 (f := .glo "NoWay") rfl))) hex }
  have ehf := hfa.symm.trans (He.glo_ok X G0 (cd.fact 4 (f := .glo "law") rfl))
  cases ehf
  have nd : (tn.map fun q => (He.cT K q.1).2).Nodup := of_decide_eq_true hmore.1
  refine ⟨fd_law, tf.map (He.cT K), spLaw K mg (tabsT K tn), fun p hp => ?_, fun p hp => ?_, fun p hp => ?_, fun s v => FunD.bindsA (ps := ["script"]) F_law (fun _ _ _ _ _ _ us hl => match us, hl with | [_], _ => rfl) s [v] rfl, fun H a ns hl _ hT hS => ⟨a, ns, rfl, hS, str0 fun t ht => ?_, fun _ => rfl⟩, fun base KX' G' TB => ?_⟩
  · obtain ⟨q, hq, rfl⟩ := List.mem_map.mp hp; exact c.empty q hq
  · obtain ⟨q, hq, rfl⟩ := List.mem_map.mp hp; exact c.out q hq
  · obtain ⟨q, hq, rfl⟩ := List.mem_map.mp hp; exact PySem.W.codeHd_of_K X (c.hd q hq)
  · obtain ⟨q, hq, rfl⟩ := List.mem_map.mp ht; exact hT (He.cT K q.1) (List.mem_map.mpr ⟨q.1, List.mem_map.mpr ⟨q, hq, rfl⟩, rfl⟩)
  · have hh := homes (base := base) (mg := mg) nd (fun p hp => TB p (by obtain ⟨q, hq, rfl⟩ := List.mem_map.mp hp; exact List.mem_map.mpr ⟨q.1, List.mem_map.mpr ⟨q, hq, rfl⟩, rfl⟩))
    have c_boiler_init : MakeOk (PySem.Challenge.rw_pipehall_k21_refusals_apart).prog w K mg base (tabsT K tn) "Boiler" 2 f_boiler_init 1 := ⟨_, _, _, _, He.glo_ok X G0 (cd.fact 12 (f := .glo "Boiler") rfl), He.mkr_ok (cd.fact 69 (f := .mkr "Boiler") rfl), b_boiler_init, (ok_boiler_init (P := (PySem.Challenge.rw_pipehall_k21_refusals_apart).prog) (w := w) (base := base) (T := tabsT K tn) (funC_of (p := ("Boiler", some "__init__")) (x := "__init__") (qual := "Boiler.__init__") (s := s_boiler_init) F_boiler_init) G )⟩
    have c_boiler_fill : MethOk (PySem.Challenge.rw_pipehall_k21_refusals_apart).prog w K mg base (tabsT K tn) "Boiler" "fill" 1 f_boiler_fill 1 := ⟨_, _, _, _, He.glo_ok X G0 (cd.fact 12 (f := .glo "Boiler") rfl), He.cls_ok (cd.fact 36 (f := .cls "Boiler") rfl), He.meth_ok (cd.fact 70 (f := .meth "Boiler" "fill") rfl), b_boiler_fill, (ok_boiler_fill (P := (PySem.Challenge.rw_pipehall_k21_refusals_apart).prog) (w := w) (base := base) (T := tabsT K tn) (funC_of (p := ("Boiler", some "fill")) (x := "fill") (qual := "Boiler.fill") (s := s_boiler_fill) F_boiler_fill) G )⟩
    have c_garden_init : MakeOk (PySem.Challenge.rw_pipehall_k21_refusals_apart).prog w K mg base (tabsT K tn) "Garden" 4 f_garden_init 1 := ⟨_, _, _, _, He.glo_ok X G0 (cd.fact 13 (f := .glo "Garden") rfl), He.mkr_ok (cd.fact 71 (f := .mkr "Garden") rfl), b_garden_init, (ok_garden_init (P := (PySem.Challenge.rw_pipehall_k21_refusals_apart).prog) (w := w) (base := base) (T := tabsT K tn) (funC_of (p := ("Garden", some "__init__")) (x := "__init__") (qual := "Garden.__init__") (s := s_garden_init) F_garden_init) G )⟩
    have c_run_init : MakeOk (PySem.Challenge.rw_pipehall_k21_refusals_apart).prog w K mg base (tabsT K tn) "Run" 1 f_run_init 1 := ⟨_, _, _, _, He.glo_ok X G0 (cd.fact 15 (f := .glo "Run") rfl), He.mkr_ok (cd.fact 72 (f := .mkr "Run") rfl), b_run_init, (ok_run_init (P := (PySem.Challenge.rw_pipehall_k21_refusals_apart).prog) (w := w) (base := base) (T := tabsT K tn) (funC_of (p := ("Run", some "__init__")) (x := "__init__") (qual := "Run.__init__") (s := s_run_init) F_run_init) G )⟩
    have c_run_unscrew : MethOk (PySem.Challenge.rw_pipehall_k21_refusals_apart).prog w K mg base (tabsT K tn) "Run" "unscrew" 0 f_run_unscrew 1 := ⟨_, _, _, _, He.glo_ok X G0 (cd.fact 15 (f := .glo "Run") rfl), He.cls_ok (cd.fact 39 (f := .cls "Run") rfl), He.meth_ok (cd.fact 73 (f := .meth "Run" "unscrew") rfl), b_run_unscrew, (ok_run_unscrew (P := (PySem.Challenge.rw_pipehall_k21_refusals_apart).prog) (w := w) (base := base) (T := tabsT K tn) (funC_of (p := ("Run", some "unscrew")) (x := "unscrew") (qual := "Run.unscrew") (s := s_run_unscrew) F_run_unscrew) G )⟩
    have c_pump_init : MakeOk (PySem.Challenge.rw_pipehall_k21_refusals_apart).prog w K mg base (tabsT K tn) "Pump" 3 f_pump_init 1 := ⟨_, _, _, _, He.glo_ok X G0 (cd.fact 14 (f := .glo "Pump") rfl), He.mkr_ok (cd.fact 74 (f := .mkr "Pump") rfl), b_pump_init, (ok_pump_init (P := (PySem.Challenge.rw_pipehall_k21_refusals_apart).prog) (w := w) (base := base) (T := tabsT K tn) (funC_of (p := ("Pump", some "__init__")) (x := "__init__") (qual := "Pump.__init__") (s := s_pump_init) F_pump_init) G )⟩
    have c_pump_rain : MethOk (PySem.Challenge.rw_pipehall_k21_refusals_apart).prog w K mg base (tabsT K tn) "Pump" "rain" 1 f_pump_rain 1 := ⟨_, _, _, _, He.glo_ok X G0 (cd.fact 14 (f := .glo "Pump") rfl), He.cls_ok (cd.fact 38 (f := .cls "Pump") rfl), He.meth_ok (cd.fact 75 (f := .meth "Pump" "rain") rfl), b_pump_rain, (ok_pump_rain (P := (PySem.Challenge.rw_pipehall_k21_refusals_apart).prog) (w := w) (base := base) (T := tabsT K tn) (funC_of (p := ("Pump", some "rain")) (x := "rain") (qual := "Pump.rain") (s := s_pump_rain) F_pump_rain) G )⟩
    have c_pump_work : MethOk (PySem.Challenge.rw_pipehall_k21_refusals_apart).prog w K mg base (tabsT K tn) "Pump" "work" 2 f_pump_work 1 := ⟨_, _, _, _, He.glo_ok X G0 (cd.fact 14 (f := .glo "Pump") rfl), He.cls_ok (cd.fact 38 (f := .cls "Pump") rfl), He.meth_ok (cd.fact 76 (f := .meth "Pump" "work") rfl), b_pump_work, (ok_pump_work (P := (PySem.Challenge.rw_pipehall_k21_refusals_apart).prog) (w := w) (base := base) (T := tabsT K tn) (funC_of (p := ("Pump", some "work")) (x := "work") (qual := "Pump.work") (s := s_pump_work) F_pump_work) G )⟩
    have c_tower_force : MethOk (PySem.Challenge.rw_pipehall_k21_refusals_apart).prog w K mg base (tabsT K tn) "Tower" "force" 1 f_tower_force 1 := ⟨_, _, _, _, He.glo_ok X G0 (cd.fact 16 (f := .glo "Tower") rfl), He.cls_ok (cd.fact 40 (f := .cls "Tower") rfl), He.meth_ok (cd.fact 77 (f := .meth "Tower" "force") rfl), b_tower_force, (ok_tower_force (P := (PySem.Challenge.rw_pipehall_k21_refusals_apart).prog) (w := w) (base := base) (T := tabsT K tn) (funC_of (p := ("Tower", some "force")) (x := "force") (qual := "Tower.force") (s := s_tower_force) F_tower_force) G )⟩
    have c_law_dice : CallOk (PySem.Challenge.rw_pipehall_k21_refusals_apart).prog w K mg base (tabsT K tn) "_law_dice" 1 f_law_dice 1 := ⟨_, _, _, He.glo_ok X G0 (cd.fact 0 (f := .glo "_law_dice") rfl), F_law_dice.kp, b_law_dice, (ok_law_dice (P := (PySem.Challenge.rw_pipehall_k21_refusals_apart).prog) (w := w) (base := base) (T := tabsT K tn) (funC_of (p := ("_law_dice", none)) (x := "_law_dice") (qual := "_law_dice") (s := s_law_dice) F_law_dice) G )⟩
    have c_law_roll : CallOk (PySem.Challenge.rw_pipehall_k21_refusals_apart).prog w K mg base (tabsT K tn) "_law_roll" 2 f_law_roll 1 := ⟨_, _, _, He.glo_ok X G0 (cd.fact 1 (f := .glo "_law_roll") rfl), F_law_roll.kp, b_law_roll, (ok_law_roll (P := (PySem.Challenge.rw_pipehall_k21_refusals_apart).prog) (w := w) (base := base) (T := tabsT K tn) (funC_of (p := ("_law_roll", none)) (x := "_law_roll") (qual := "_law_roll") (s := s_law_roll) F_law_roll) G )⟩
    have c_tower_init : MakeOk (PySem.Challenge.rw_pipehall_k21_refusals_apart).prog w K mg base (tabsT K tn) "Tower" 3 f_tower_init 2 := ⟨_, _, _, _, He.glo_ok X G0 (cd.fact 16 (f := .glo "Tower") rfl), He.mkr_ok (cd.fact 78 (f := .mkr "Tower") rfl), b_tower_init, (ok_tower_init (P := (PySem.Challenge.rw_pipehall_k21_refusals_apart).prog) (w := w) (base := base) (T := tabsT K tn) (funC_of (p := ("Tower", some "__init__")) (x := "__init__") (qual := "Tower.__init__") (s := s_tower_init) F_tower_init) G (hh (("Tower", some "__init__"), nm_tower_init) (by simp [tn])) )⟩
    exact ok_law (P := (PySem.Challenge.rw_pipehall_k21_refusals_apart).prog) (w := w) (base := base) (T := tabsT K tn) (funC_of (p := ("law", none)) (x := "law") (qual := "law") (s := s_law) F_law) G (hh (("law", none), nm_law) (by simp [tn])) c_pump_work c_pump_init c_tower_force c_tower_init c_boiler_fill c_boiler_init c_pump_rain c_garden_init c_run_init c_run_unscrew c_law_roll (He.glo_ok X G0 (cd.fact 3 (f := .glo "_law_rounds") rfl)) F_law_rounds.kp b_law_rounds (ok_law_rounds (P := (PySem.Challenge.rw_pipehall_k21_refusals_apart).prog) (w := w) (base := base) (T := tabsT K tn) (funC_of (p := ("_law_rounds", none)) (x := "_law_rounds") (qual := "_law_rounds") (s := s_law_rounds) F_law_rounds) c_law_dice hD) plain
end K21
end

section
set_option Elab.async false
set_option linter.all false
set_option maxRecDepth 100000
set_option maxHeartbeats 4000000
set_option autoImplicit false
namespace K21
open PySem TL
def hits (c : Str) (xs : List PyData) : R Val → Prop
  | .exn c' (.lst ys :: _) => c' = c ∧ ys = xs
  | _ => False
theorem und {m : EM} {sl : Slots} {xs : List PyData} {c : Str} (hc : c ∈ undE) (h : hits c xs (m sl [.lst xs])) : mUnder undE undT m sl [.lst xs] = .ok (.d (.list (underL undT c))) [.lst xs] := by
  unfold mUnder
  generalize m sl [.lst xs] = r at h
  match r, h with
  | .exn c' (.lst ys :: rest), h =>
    obtain ⟨rfl, rfl⟩ := h
    simp only [if_pos hc]
    cases rest with
    | nil => rfl
    | cons x r => rfl
section
variable (d : Val) (k i : Int) (xs : List PyData) (h1 : 1 ≤ i) (h2 : i ≤ 90)
include h1 h2
theorem c0 : hits "BadDeed" xs (mMeth "Run" "unscrew" f_run_unscrew (mMake "Run" f_run_init (aCons (mVar 4) aNil)) aNil [none, some d, none, some (.d (.int k)), some (.d (.int i)), none] [.lst xs]) := by
  have a1 : ¬ i < 1 := by omega
  have e0 : PyData.eqv (.tuple []) (.tuple []) = true := by decide +kernel
  simp (decide := true) [hits, e0, mMeth, mMake, aCons, aNil, mVar, f_run_init, m_run_init, fnOf, sSeq, sIf, tOfE, mP2, mC, oLt, a1, sNil, sFld, aS, putFld, setF, mDisp, pTup, datas, lineN, left, leave, leaveX, isObj, getF, f_run_unscrew, m_run_unscrew, mFld, fldOf, deref, oEq, R.opt, SR.opt, sRaise, boxBelow, frozen, cellBelow]
theorem c1 : hits "BadPipe" xs (mMake "Run" f_run_init (aCons (mP2 oSub (mC (.int 1)) (mVar 4)) (aNil)) [none, some d, none, some (.d (.int k)), some (.d (.int i)), none] [.lst xs]) := by
  have a1 : 1 - i < 1 := by omega
  simp (decide := true) [hits, mMeth, mMake, aCons, aNil, mVar, f_run_init, m_run_init, fnOf, sSeq, sIf, tOfE, mP2, mC, oLt, oSub, a1, sNil, sFld, aS, putFld, setF, mDisp, pTup, datas, lineN, left, leave, leaveX, isObj, getF, f_run_unscrew, m_run_unscrew, mFld, fldOf, deref, oEq, R.opt, SR.opt, sRaise, boxBelow, frozen, cellBelow]
theorem c2 : hits "BadPlan" xs (mMake "Garden" f_garden_init (aCons (mP2 oSub (mC (.int 1)) (mVar 4)) (aCons (mC (.int 1)) (aCons (mDisp pTup (aCons (mC (.int 0)) (aCons (mC (.int 0)) (aNil)))) (aCons (mC (.int 1)) (aNil))))) [none, some d, none, some (.d (.int k)), some (.d (.int i)), none] [.lst xs]) := by
  have a1 : minI (1 - i) [1] < 1 := by simp [minI]; omega
  simp (decide := true) [hits, mMeth, mMake, aCons, aNil, mVar, f_garden_init, m_garden_init, fnOf, sSeq, sIf, tOfE, tOr, mPn, derefs, oMin, mP2, mC, oLt, oSub, a1, sNil, sFld, aS, putFld, setF, mDisp, pTup, datas, lineN, left, leave, leaveX, isObj, getF, mFld, fldOf, deref, oEq, R.opt, SR.opt, sRaise, boxBelow, frozen, cellBelow]
theorem c3 : hits "BadSize" xs (mMeth "Pump" "rain" f_pump_rain (mMake "Pump" f_pump_init (aCons (mVar 4) (aCons (mC (.int 1)) (aCons (mC (.int 1)) (aNil))))) (aCons (mP2 oSub (mC (.int 1)) (mVar 4)) (aNil)) [none, some d, none, some (.d (.int k)), some (.d (.int i)), none] [.lst xs]) := by
  have a1 : ¬ minI i [1, 1] < 1 := by simp [minI]; omega
  have a2 : 1 - i < 1 := by omega
  simp (decide := true) [hits, mMeth, mMake, aCons, aNil, mVar, f_pump_init, m_pump_init, f_pump_rain, m_pump_rain, fnOf, sSeq, sIf, tOfE, tOr, mPn, derefs, oMin, mP2, mC, oLt, oSub, a1, a2, sNil, sFld, aS, putFld, setF, mDisp, pTup, datas, lineN, left, leave, leaveX, isObj, getF, mFld, fldOf, deref, oEq, R.opt, SR.opt, sRaise, boxBelow, frozen, cellBelow]
theorem c4 : hits "NoRoom" xs (mMeth "Boiler" "fill" f_boiler_fill (mMake "Boiler" f_boiler_init (aCons (mVar 4) (aCons (mC (.int 1)) (aNil)))) (aCons (mP2 oAdd (mVar 4) (mC (.int 1))) (aNil)) [none, some d, none, some (.d (.int k)), some (.d (.int i)), none] [.lst xs]) := by
  have a1 : ¬ i < 1 := by omega
  have a2 : ¬ i + 1 < 1 := by omega
  have a3 : i < i + 1 := by omega
  simp (decide := true) [hits, mMeth, mMake, aCons, aNil, mVar, f_boiler_init, m_boiler_init, f_boiler_fill, m_boiler_fill, fnOf, sSeq, sIf, tOfE, tOr, mPn, derefs, oMin, mP2, mC, oLt, oGt, oAdd, oSub, a1, a2, a3, sNil, sFld, aS, putFld, setF, mDisp, pTup, datas, lineN, left, leave, leaveX, isObj, getF, mFld, fldOf, deref, oEq, R.opt, SR.opt, sRaise, boxBelow, frozen, cellBelow]
theorem c5 : hits "NoSuch" xs (mMeth "Tower" "force" f_tower_force (mMake "Tower" f_tower_init (aCons (mVar 4) (aCons (mC (.int 1)) (aCons (mC (.dict [])) (aNil))))) (aCons (mC (.str "a")) (aNil)) [none, some d, none, some (.d (.int k)), some (.d (.int i)), none] [.lst xs]) := by
  have a1 : ¬ minI i [1] < 1 := by simp [minI]; omega
  have e1 : oIn (.str (Str.ofString "")) (.dict []) = some (.bool false) := rfl
  have e2 : oNotIn (.str (Str.ofString "a")) (.dict []) = some (.bool true) := rfl
  have e3 : oDictC [.list []] = some (.dict []) := rfl
  have e4 : oSortK [.dict []] = some (.list []) := by simp (decide := true) [oSortK, dkv, ksD, sortOk]
  simp (decide := true) [hits, mMeth, mMake, aCons, aNil, mVar, f_tower_init, m_tower_init, f_tower_force, m_tower_force, fnOf, sSeq, sIf, tOfE, tOr, mPn, derefs, oMin, mP2, mC, oLt, oGt, oAdd, oSub, a1, e1, e2, e3, e4, sNil, sFld, aS, putFld, setF, mDisp, pTup, datas, lineN, left, leave, leaveX, isObj, getF, mFld, fldOf, deref, oEq, R.opt, SR.opt, sRaise, sRaiseA, boxBelow, frozen, cellBelow, mAnyG, iDkW, plainD, dkvD, dkv, vsD, anyG, noX, wipeS, mComp, iSeq, dataOf, seqD, compR, compL, pLst]
theorem c6 : hits "NoWay" xs (mMeth "Pump" "work" f_pump_work (mMake "Pump" f_pump_init (aCons (mVar 4) (aCons (mC (.int 1)) (aCons (mC (.int 1)) (aNil))))) (aCons (mC (.int 1)) (aCons (mP2 oAdd (mVar 4) (mC (.int 1))) (aNil))) [none, some d, none, some (.d (.int k)), some (.d (.int i)), none] [.lst xs]) := by
  have a1 : ¬ minI i [1, 1] < 1 := by simp [minI]; omega
  have a2 : ¬ i + 1 < 0 := by omega
  have a3 : i < i + 1 := by omega
  simp (decide := true) [hits, mMeth, mMake, aCons, aNil, mVar, f_pump_init, m_pump_init, f_pump_work, m_pump_work, fnOf, sSeq, sIf, tOfE, tOr, mPn, derefs, oMin, mP2, mC, oLt, oGt, oAdd, oSub, a1, a2, a3, sNil, sFld, aS, putFld, setF, mDisp, pTup, datas, lineN, left, leave, leaveX, isObj, getF, mFld, fldOf, deref, oEq, R.opt, SR.opt, sRaise, boxBelow, frozen, cellBelow]
end
end K21
end

section
set_option Elab.async false
set_option linter.all false
set_option maxRecDepth 100000
set_option maxHeartbeats 4000000
set_option autoImplicit false
namespace K21
open PySem TL
theorem roll_ok (a b c n : Int) (h1 : 0 < n) (h2 : n < 1073741824) : ∃ r a' b' c', f_law_roll [.box 0, .d (.int n)] [.lst [.int a, .int b, .int c]] = .ok (.d (.int r)) [.lst [.int a', .int b', .int c']] ∧ 0 ≤ r ∧ r < n := by
  have w1 : wideI 48271 = true := by decide
  have w2 : wideI 69621 = true := by decide
  have hm (x : Int) : 0 ≤ x % n ∧ x % n < n := ⟨Int.emod_nonneg _ (by omega), Int.emod_lt_of_pos _ h1⟩
  by_cases q : c = 2 ∨ (c = 1 ∧ 0 < a)
  · refine ⟨a % n, a / n, b, c, ?_, hm a⟩
    rcases q with q | ⟨q, qa⟩
    · subst q
      simp (decide := true) [f_law_roll, m_law_roll, fnOf, sSeq, sIf, tOr, tAnd, tOfE, mP2, mVar, mC, oEq, oIx, oGt, L2.atI, L2.ixN, deref, R.opt, sSet, sRet, sSetIx, aS, mPn, aCons, aNil, derefs, oInt, oMod, oDiv, boxL, dataOf, left, leave, h1, h2, sNil]
    · subst q
      simp (decide := true) [f_law_roll, m_law_roll, fnOf, sSeq, sIf, tOr, tAnd, tOfE, mP2, mVar, mC, oEq, oIx, oGt, L2.atI, L2.ixN, deref, R.opt, sSet, sRet, sSetIx, aS, mPn, aCons, aNil, derefs, oInt, oMod, oDiv, boxL, dataOf, left, leave, h1, h2, sNil, qa]
  · have q1 : ¬ c = 2 := fun z => q (.inl z)
    have q2 : c = 1 → ¬ 0 < a := fun z y => q (.inr ⟨z, y⟩)
    refine ⟨((a * 48271 + b * 69621 + 11) % 2147483647 / 7 + (a * 48271 + b * 69621 + 11) % 2147483647) % n, (a * 48271 + b * 69621 + 11) % 2147483647, b + 1, 0, ?_, hm _⟩
    by_cases q3 : c = 1
    · have q4 : ¬ 0 < a := q2 q3
      subst q3
      simp (decide := true) [f_law_roll, m_law_roll, fnOf, sSeq, sIf, tOr, tAnd, tOfE, mP2, mVar, mC, oEq, oIx, oGt, L2.atI, L2.ixN, deref, R.opt, sSet, sRet, sSetIx, aS, mPn, aCons, aNil, derefs, oInt, oMod, oDiv, oMul, oAdd, w1, w2, boxL, dataOf, left, leave, h1, h2, sNil, q4]
    · simp (decide := true) [f_law_roll, m_law_roll, fnOf, sSeq, sIf, tOr, tAnd, tOfE, mP2, mVar, mC, oEq, oIx, oGt, L2.atI, L2.ixN, deref, R.opt, sSet, sRet, sSetIx, aS, mPn, aCons, aNil, derefs, oInt, oMod, oDiv, oMul, oAdd, w1, w2, boxL, dataOf, left, leave, h1, h2, sNil, q1, q3]
end K21
end

section
set_option Elab.async false
set_option linter.all false
set_option maxRecDepth 100000
set_option maxHeartbeats 4000000
set_option autoImplicit false
namespace K21
open PySem TL
abbrev mB : EM := mP2 oAdd (mComp [5] (.name 5) (iPn pRange1 (aCons (mC (.int 7)) (aNil))) (TL.tYes) (mP2 oEq (mVar 5) (mVar 3))) (mDisp pLst (aCons (mC (.bool true)) (aNil)))
def bits (k : Nat) : PyData := .list ((List.range 7).map (fun (j : Nat) => .bool (decide ((j : Int) = (k : Int)))) ++ [.bool true])
theorem small7 : smallI 7 = true := by decide +kernel
theorem mB_ok (d : Val) (k : Nat) (i : Int) (xs : List PyData) : mB [none, some d, none, some (.d (.int (k : Int))), some (.d (.int i)), none] [.lst xs] = .ok (.d (bits k)) [.lst xs] := by
  simp (decide := true) [mB, mP2, mComp, iPn, aCons, aNil, mC, datas, pRange1, small7, rangeN, compR, compL, noX, wipeS, Tg.put, tYes, mVar, oEq, deref, R.opt, pLst, mDisp, oAdd, lineN, bits, List.range, List.range.loop]
theorem row_ok : ∀ (k : Nat) (c : Str), undE[k]? = some c → PyData.list (underL undT c) = bits k := by
  intro k c h
  have hk : k < 7 := (List.getElem?_eq_some_iff.mp h).1
  have h7 : k = 0 ∨ k = 1 ∨ k = 2 ∨ k = 3 ∨ k = 4 ∨ k = 5 ∨ k = 6 := by omega
  rcases h7 with rfl | rfl | rfl | rfl | rfl | rfl | rfl <;> (cases h; rfl)
theorem ne_b : ∀ k : Nat, k < 7 → (SeqAt.shaped (bits k) && PyData.eqv (bits k) (bits k)) = true := by decide +kernel
theorem ne_ok (k : Nat) (h : k < 7) : oNe (bits k) (bits k) = some (.bool false) := by
  have hb := ne_b k h
  rw [Bool.and_eq_true] at hb
  show (if (SeqAt.shaped (bits k) && SeqAt.shaped (bits k)) = true then some (PyData.bool (!PyData.eqv (bits k) (bits k))) else none) = _
  rw [hb.1, hb.2]
  rfl
theorem plain0 (z a b c : Int) : TL.lawGood (m_law (none :: some (.box 0) :: List.replicate 4 none) [.lst [.int a, .int b, .int c]]) := by
  obtain ⟨r, a1, b1, c1', e1, r0, r1⟩ := roll_ok a b c 90 (by decide) (by decide)
  obtain ⟨q, a2, b2, c2', e2, q0, q1⟩ := roll_ok a1 b1 c1' 7 (by decide) (by decide)
  have s1 : mP2 oAdd (mC (.int 1)) (mCall f_law_roll (aCons (mVar 1) (aCons (mC (.int 90)) (aNil)))) [none, some (.box 0), none, none, none, none] [.lst [.int a, .int b, .int c]] = .ok (.d (.int (1 + r))) [.lst [.int a1, .int b1, .int c1']] := by
    have : mCall f_law_roll (aCons (mVar 1) (aCons (mC (.int 90)) (aNil))) [none, some (.box 0), none, none, none, none] [.lst [.int a, .int b, .int c]] = .ok (.d (.int r)) [.lst [.int a1, .int b1, .int c1']] := e1
    unfold mP2
    simp only [mC, R.bind_ok]
    rw [this]
    rfl
  have s2 : mCall f_law_roll (aCons (mVar 1) (aCons (mC (.int 7)) (aNil))) [none, some (.box 0), none, none, some (.d (.int (1 + r))), none] [.lst [.int a1, .int b1, .int c1']] = .ok (.d (.int q)) [.lst [.int a2, .int b2, .int c2']] := e2
  obtain ⟨k, rfl⟩ : ∃ k : Nat, q = (k : Int) := ⟨q.toNat, by omega⟩
  have hk : k < 7 := by omega
  have h1 : 1 ≤ 1 + r := by omega
  have h2 : 1 + r ≤ 90 := by omega
  have key : ∀ (m : EM) (cn : Str), undE[k]? = some cn → hits cn [.int a2, .int b2, .int c2'] (m [none, some (.box 0), none, some (.d (.int (k : Int))), some (.d (.int (1 + r))), none] [.lst [.int a2, .int b2, .int c2']]) →
      aS (mP2 oNe (mUnder undE undT m) mB [none, some (.box 0), none, some (.d (.int (k : Int))), some (.d (.int (1 + r))), none] [.lst [.int a2, .int b2, .int c2']]) [none, some (.box 0), none, some (.d (.int (k : Int))), some (.d (.int (1 + r))), none] (whatsR [none, some (.box 0), none, some (.d (.int (k : Int))), some (.d (.int (1 + r))), none]) =
        .nx [none, some (.box 0), none, some (.d (.int (k : Int))), some (.d (.int (1 + r))), none] [.lst [.int a2, .int b2, .int c2']] := by
    intro m cn hcn hh
    have u := und (List.mem_of_getElem? hcn) hh
    unfold mP2
    rw [u, R.bind_ok]
    have v := mB_ok (.box 0) k (1 + r) [.int a2, .int b2, .int c2']
    show aS ((mB _ _).bind _) _ _ = _
    rw [v, R.bind_ok, deref_d, deref_d, row_ok k cn hcn]
    simp only [Option.bind_some, ne_ok k hk, Option.map_some, R.opt_some, aS_ok]
    rfl
  unfold m_law sSeq sSet
  show lawGood ((aS (mP2 oAdd (mC (.int 1)) (mCall f_law_roll (aCons (mVar 1) (aCons (mC (.int 90)) (aNil)))) [none, some (.box 0), none, none, none, none] [.lst [.int a, .int b, .int c]]) _ _).then _)
  rw [s1, aS_ok, SR.then_nx]
  unfold sWhats
  show lawGood (aS (mCall f_law_roll (aCons (mVar 1) (aCons (mC (.int 7)) (aNil))) [none, some (.box 0), none, none, some (.d (.int (1 + r))), none] [.lst [.int a1, .int b1, .int c1']]) _ _)
  rw [s2, aS_ok]
  unfold whatsK
  simp only []
  rw [if_pos (Int.natCast_nonneg k)]
  rw [Int.toNat_natCast]
  have h7 : k = 0 ∨ k = 1 ∨ k = 2 ∨ k = 3 ∨ k = 4 ∨ k = 5 ∨ k = 6 := by omega
  rcases h7 with rfl | rfl | rfl | rfl | rfl | rfl | rfl
  · have := key _ "BadDeed" rfl (c0 (.box 0) 0 (1 + r) _ h1 h2)
    show lawGood (aS (mP2 oNe (mUnder undE undT _) mB _ _) _ _)
    exact (congrArg lawGood this).mpr trivial
  · have := key _ "BadPipe" rfl (c1 (.box 0) 1 (1 + r) _ h1 h2)
    show lawGood (aS (mP2 oNe (mUnder undE undT _) mB _ _) _ _)
    exact (congrArg lawGood this).mpr trivial
  · have := key _ "BadPlan" rfl (c2 (.box 0) 2 (1 + r) _ h1 h2)
    show lawGood (aS (mP2 oNe (mUnder undE undT _) mB _ _) _ _)
    exact (congrArg lawGood this).mpr trivial
  · have := key _ "BadSize" rfl (c3 (.box 0) 3 (1 + r) _ h1 h2)
    show lawGood (aS (mP2 oNe (mUnder undE undT _) mB _ _) _ _)
    exact (congrArg lawGood this).mpr trivial
  · have := key _ "NoRoom" rfl (c4 (.box 0) 4 (1 + r) _ h1 h2)
    show lawGood (aS (mP2 oNe (mUnder undE undT _) mB _ _) _ _)
    exact (congrArg lawGood this).mpr trivial
  · have := key _ "NoSuch" rfl (c5 (.box 0) 5 (1 + r) _ h1 h2)
    show lawGood (aS (mP2 oNe (mUnder undE undT _) mB _ _) _ _)
    exact (congrArg lawGood this).mpr trivial
  · have := key _ "NoWay" rfl (c6 (.box 0) 6 (1 + r) _ h1 h2)
    show lawGood (aS (mP2 oNe (mUnder undE undT _) mB _ _) _ _)
    exact (congrArg lawGood this).mpr trivial
end K21
end

section
set_option maxHeartbeats 4000000
namespace K21
open PySem L2 TL
def goodD (z a b c : Int) : Prop := True
theorem dice_ok : DiceOk f_law_dice goodD := by
  intro z st
  by_cases h : (-10:Int) < z
  · by_cases h2 : z < 10
    · refine ⟨if z < 0 then -z else z, 0, 2, trivial, ?_⟩
      simp [f_law_dice, fnOfB, m_law_dice, sSeq, sIf, sRet, tOfE, mChain, mP2, mC, mVar, oSub, oLt, h, h2, aS, mOwn, mDisp, pLst, aCons, aNil, mPn, oAbs, derefs, datas, sNil, lineN]
    · refine ⟨z, 1 + z % 1009, if (10:Int)^18 ≤ z then 1 else 0, trivial, ?_⟩
      simp [f_law_dice, fnOfB, m_law_dice, sSeq, sIf, sRet, tOfE, mChain, mP2, mC, mVar, oSub, oLt, h, h2, aS, mOwn, mDisp, pLst, aCons, aNil, mPn, oAbs, derefs, datas, sNil, lineN, oInt, oAdd, oMod, oGe, oPow]
  · refine ⟨z, 1 + z % 1009, if (10:Int)^18 ≤ z then 1 else 0, trivial, ?_⟩
    simp [f_law_dice, fnOfB, m_law_dice, sSeq, sIf, sRet, tOfE, mChain, mP2, mC, mVar, oSub, oLt, h, aS, mOwn, mDisp, pLst, aCons, aNil, mPn, oAbs, derefs, datas, sNil, lineN, oInt, oAdd, oMod, oGe, oPow]
theorem plain (z a b c : Int) (_ : goodD z a b c) : TL.lawGood (m_law (none :: some (.box 0) :: List.replicate 4 none) [.lst [.int a, .int b, .int c]]) := plain0 z a b c
end K21
end
namespace K21
open PySem L2 TL
abbrev R : PySem.W.OpenRow := PySem.W.OpenLaw.row PySem.Challenge.rw_pipehall_k21_refusals_apart
abbrev hk : PySem.W.Hook := He.hookX 6 fa fn [] tf ex
def ob (s : PySem.W.SharedT) : He.AlX := He.obsX 6 fa fn [] tf ex (HandSHeadRun.getT s)
theorem ob_eq (s : PySem.W.SharedT) : ob s = hk.obs s.abs := He.obsX_eq (HandSHeadRun.getT_eq s)
theorem run (w : World) : HandSHeadRun.RunEq R (PySem.W.view R.prog [25]) hk ob 6000 ["_wall", "PipeFault", "BadPipe", "BadPlan", "BadSize", "NoSuch", "NoRoom", "NoWay", "BadDeed", "Boiler", "Garden", "Run", "Pump", "Tower", "_law_dice", "_law_roll", "_law_rounds", "_law_under"] w := by
  intro os
  kernel_rfl
end K21
open PySem PySem.W PySem.Calls PyProof.Rows
set_option maxHeartbeats 8000000 in
theorem PySem.Challenge.cw_pipehall_k21_refusals_apart_holds : PySem.Challenge.rw_pipehall_k21_refusals_apart.Holds := by
  w_on; o_law
  refine HandSHeadRun.head_any (r := OpenLaw.row PySem.Challenge.rw_pipehall_k21_refusals_apart) (q := view (OpenLaw.row PySem.Challenge.rw_pipehall_k21_refusals_apart).prog [25]) (H := K21.hk) (ob := K21.ob) (M := 6000) (loose := ["_wall", "PipeFault", "BadPipe", "BadPlan", "BadSize", "NoSuch", "NoRoom", "NoWay", "BadDeed", "Boiler", "Garden", "Run", "Pump", "Tower", "_law_dice", "_law_roll", "_law_rounds", "_law_under"]) (d := HandSHeadRun.topDef (OpenLaw.row PySem.Challenge.rw_pipehall_k21_refusals_apart).prog 25) (kwd := []) K21.ob_eq
    (by kernel_rfl) (fun s => by kernel_rfl) K21.run (by kernel_rfl) (by kernel_rfl) (by kernel_rfl) (by rfl) (by first | assumption | decide +kernel) (by decide +kernel) ⟨rfl, rfl, rfl, rfl, rfl, by decide +kernel⟩ ?hw ?hc
  case hw => w_witness2
  case hc =>
    refine LamX.walk_ofTsE (l := PySem.Challenge.rw_pipehall_k21_refusals_apart) (n := 63) (k := 6) (x := "script") (CX := fun w => L2.CX (PySem.Challenge.rw_pipehall_k21_refusals_apart).prog w) rfl (by decide) (by kernel_rfl) ⟨rfl, by decide, by decide⟩ ?F (fun _ _ _ _ _ ⟨_, _, _, _, _, _, _, _, _, _, _, _, z⟩ => z)
    intro w mg fa h Y G hmg0
    obtain ⟨K, KX, c⟩ := Y
    have hmg : mg ("law" : PySem.Str) = some (.ref fa) := by
      have e : (HandSHeadRun.topDef (OpenLaw.row PySem.Challenge.rw_pipehall_k21_refusals_apart).prog 25).name = ("law" : PySem.Str) := by kernel_rfl
      rw [← e]
      exact hmg0
    exact ⟨K, KX, K21.facts KX G hmg c K21.dice_ok K21.plain⟩
