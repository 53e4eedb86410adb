import PyProof.Rows.All
import Wide.All
import OpenK.AllK
import Wide.FinOn
import HandS.ForMost
import HandS.ForExc
import HandS.CallSlots
import HandS.Rev
import KE.GoesMore
import HandS.IsInst
import HandS.Style
import HandS.TupAny
import HandS.SortInts
import HandS.More
import HandS.WideBits
import PyProof.StrBlock2
import KE.KEqDict
import HandS.Dict
import HandS.Defaults
import KE.KStateDown
import Lean
import HandS.Head0
import HandS.Head1
import HandS.Head2
import HandS.HeadEnd
import HandS.HeadHook1
import HandS.HeadHook2
import HandS.EndBits
import HandS.Text
import HandS.DictEq
import HandS.Finally
import HandS.Zip
import HandS.Strs
import PyProof.ListCopy
import KE.KRevSl
import HandS.Codes
import HandS.SetFor
import PySem.Challenge.RW_btreelog_k08_a_key_comes_or_goes
set_option Elab.async false
set_option autoImplicit false
set_option linter.all false
set_option maxRecDepth 100000
set_option maxHeartbeats 0
/-! BLSem: a small machine of values: data by value, lists, dicts and instances by number. -/
namespace BL
open PySem

inductive D where
  | non | bl (b : Bool) | int (i : Int) | str (s : Str) | tup (xs : List D) | scr (ns : List Int) | ref (n : Nat)

inductive Ob where
  | lst (xs : List D) | dct (kvs : List (Int × D)) | ins (fs : List (Str × D))

abbrev Mem := List Ob
abbrev Loc := List (Option D)

/-- how an expression ends -/
inductive Rz (α : Type) where
  | ok (a : α) (M : Mem) | ex (c : Str) (M : Mem)

def bnd {α β : Type} (r : Option (Rz α)) (f : α → Mem → Option (Rz β)) : Option (Rz β) := match r with
  | some (.ok a M) => f a M
  | some (.ex c M) => some (.ex c M)
  | none => none
@[simp] theorem bnd_ok {α β : Type} (a : α) (M : Mem) (f : α → Mem → Option (Rz β)) : bnd (some (.ok a M)) f = f a M := (rfl)
@[simp] theorem bnd_ex {α β : Type} (c : Str) (M : Mem) (f : α → Mem → Option (Rz β)) : bnd (some (.ex c M)) f = some (.ex c M) := (rfl)
@[simp] theorem bnd_none {α β : Type} (f : α → Mem → Option (Rz β)) : bnd none f = none := (rfl)
theorem bnd_some {α β : Type} {r : Option (Rz α)} {f : α → Mem → Option (Rz β)} {z : Rz β} (h : bnd r f = some z) :
    (∃ a M, r = some (.ok a M) ∧ f a M = some z) ∨ ∃ c M, r = some (.ex c M) ∧ z = .ex c M := by
  cases r with
  | none => cases h
  | some r =>
    cases r with
    | ok a M => exact .inl ⟨a, M, rfl, h⟩
    | ex c M => exact .inr ⟨c, M, rfl, (Option.some.inj h).symm⟩

/-- a step that raises nothing -/
def ret {α : Type} (r : Option (α × Mem)) : Option (Rz α) := match r with
  | some (a, M) => some (.ok a M)
  | none => none
@[simp] theorem ret_some {α : Type} (a : α) (M : Mem) : ret (some (a, M)) = some (.ok a M) := (rfl)
@[simp] theorem ret_none {α : Type} : ret (none : Option (α × Mem)) = none := (rfl)
theorem ret_eq {α : Type} {r : Option (α × Mem)} {z : Rz α} (h : ret r = some z) : ∃ a M, r = some (a, M) ∧ z = .ok a M := by
  cases r with
  | none => cases h
  | some p => exact ⟨p.1, p.2, rfl, (Option.some.inj h).symm⟩

abbrev GE := Loc → Mem → Option (Rz D)
abbrev GT := Loc → Mem → Option (Rz Bool)
abbrev GA := Loc → Mem → Option (Rz (List D))
inductive Fl where
  | nx (L : Loc) | bk (L : Loc) | ct (L : Loc) | rt (d : D) | ex (c : Str) (L : Loc)
abbrev GS := Loc → Mem → Option (Fl × Mem)
abbrev Fn := List D → Mem → Option (Rz D)

/-! ### expressions -/
def mVar (i : Nat) : GE := fun L M => match L[i]? with
  | some (some d) => some (.ok d M)
  | _ => none
def mC (d : D) : GE := fun _ M => some (.ok d M)
abbrev Op2 := D → D → Mem → Option (D × Mem)
abbrev Op1 := D → Mem → Option (D × Mem)
abbrev OpN := List D → Mem → Option (D × Mem)
abbrev OpM := D → List D → Mem → Option (D × Mem)
def mBin (op : Op2) (a b : GE) : GE := fun L M => bnd (a L M) fun x M1 => bnd (b L M1) fun y M2 => ret (op x y M2)
def mUn (op : Op1) (a : GE) : GE := fun L M => bnd (a L M) fun x M1 => ret (op x M1)
def mChain (op op2 : Op2) (a b c : GE) : GE := fun L M => bnd (a L M) fun x M1 => bnd (b L M1) fun y M2 => bnd (ret (op x y M2)) fun z M3 => match z with
  | .bl true => bnd (c L M3) fun w M4 => ret (op2 y w M4)
  | .bl false => some (.ok (.bl false) M3)
  | _ => none
def mNil : GA := fun _ M => some (.ok [] M)
def mCons (a : GE) (r : GA) : GA := fun L M => bnd (a L M) fun x M1 => bnd (r L M1) fun xs M2 => some (.ok (x :: xs) M2)
/-- a built-in called -/
def mCB (op : OpN) (as : GA) : GE := fun L M => bnd (as L M) fun xs M1 => ret (op xs M1)
/-- a def called -/
def mCall (f : Fn) (as : GA) : GE := fun L M => bnd (as L M) fun xs M1 => f xs M1
/-- a method of a built-in type -/
def mMt (op : OpM) (o : GE) (as : GA) : GE := fun L M => bnd (o L M) fun x M1 => bnd (as L M1) fun xs M2 => ret (op x xs M2)
/-- an own method -/
def mMeth (f : Fn) (o : GE) (as : GA) : GE := fun L M => bnd (o L M) fun x M1 => bnd (as L M1) fun xs M2 => f (x :: xs) M2
/-- a display's length -/
def oTup : OpN := fun xs M => if xs.length ≤ 1000 then some (.tup xs, M) else none
def oLst : OpN := fun xs M => if xs.length ≤ 1000 then some (.ref M.length, M ++ [.lst xs]) else none
def mTup (as : GA) : GE := mCB oTup as
def mLst (as : GA) : GE := mCB oLst as
def mDnew : GE := fun _ M => some (.ok (.ref M.length) (M ++ [.dct []]))

/-! ### tests -/
def mT (a : GE) : GT := fun L M => bnd (a L M) fun x M1 => match x with
  | .bl b => some (.ok b M1)
  | _ => none
def mAnd (a b : GT) : GT := fun L M => bnd (a L M) fun x M1 => if x = true then b L M1 else some (.ok false M1)
def mOr (a b : GT) : GT := fun L M => bnd (a L M) fun x M1 => if x = true then some (.ok true M1) else b L M1
def mNot (a : GT) : GT := fun L M => bnd (a L M) fun x M1 => some (.ok (!x) M1)
def mAndV (a b : GE) : GE := fun L M => bnd (a L M) fun x M1 => match x with
  | .bl true => b L M1
  | .bl false => some (.ok (.bl false) M1)
  | _ => none
def mOrV (a b : GE) : GE := fun L M => bnd (a L M) fun x M1 => match x with
  | .bl false => b L M1
  | .bl true => some (.ok (.bl true) M1)
  | _ => none
def mNotV (a : GE) : GE := fun L M => bnd (a L M) fun x M1 => match x with
  | .bl b => some (.ok (.bl (!b)) M1)
  | _ => none
def mIf (t : GT) (a b : GE) : GE := fun L M => bnd (t L M) fun c M1 => if c = true then a L M1 else b L M1

/-! ### statements -/
def bndS {α : Type} (L : Loc) (r : Option (Rz α)) (f : α → Mem → Option (Fl × Mem)) : Option (Fl × Mem) := match r with
  | some (.ok a M) => f a M
  | some (.ex c M) => some (.ex c L, M)
  | none => none
@[simp] theorem bndS_ok {α : Type} (L : Loc) (a : α) (M : Mem) (f : α → Mem → Option (Fl × Mem)) : bndS L (some (.ok a M)) f = f a M := (rfl)
@[simp] theorem bndS_ex {α : Type} (L : Loc) (c : Str) (M : Mem) (f : α → Mem → Option (Fl × Mem)) : bndS L (some (.ex c M)) f = some (.ex c L, M) := (rfl)
@[simp] theorem bndS_none {α : Type} (L : Loc) (f : α → Mem → Option (Fl × Mem)) : bndS L none f = none := (rfl)
theorem bndS_some {α : Type} {L : Loc} {r : Option (Rz α)} {f : α → Mem → Option (Fl × Mem)} {z : Fl × Mem} (h : bndS L r f = some z) :
    (∃ a M, r = some (.ok a M) ∧ f a M = some z) ∨ ∃ c M, r = some (.ex c M) ∧ z = (.ex c L, M) := by
  cases r with
  | none => cases h
  | some r =>
    cases r with
    | ok a M => exact .inl ⟨a, M, rfl, h⟩
    | ex c M => exact .inr ⟨c, M, rfl, (Option.some.inj h).symm⟩
def thenS (r : Option (Fl × Mem)) (f : Loc → Mem → Option (Fl × Mem)) : Option (Fl × Mem) := match r with
  | some (.nx L, M) => f L M
  | r => r
@[simp] theorem thenS_nx (L : Loc) (M : Mem) (f : Loc → Mem → Option (Fl × Mem)) : thenS (some (.nx L, M)) f = f L M := (rfl)
@[simp] theorem thenS_rt (d : D) (M : Mem) (f : Loc → Mem → Option (Fl × Mem)) : thenS (some (.rt d, M)) f = some (.rt d, M) := (rfl)
@[simp] theorem thenS_ex (c : Str) (L : Loc) (M : Mem) (f : Loc → Mem → Option (Fl × Mem)) : thenS (some (.ex c L, M)) f = some (.ex c L, M) := (rfl)
@[simp] theorem thenS_bk (L : Loc) (M : Mem) (f : Loc → Mem → Option (Fl × Mem)) : thenS (some (.bk L, M)) f = some (.bk L, M) := (rfl)
@[simp] theorem thenS_ct (L : Loc) (M : Mem) (f : Loc → Mem → Option (Fl × Mem)) : thenS (some (.ct L, M)) f = some (.ct L, M) := (rfl)
@[simp] theorem thenS_none (f : Loc → Mem → Option (Fl × Mem)) : thenS none f = none := (rfl)
def mSkip : GS := fun L M => some (.nx L, M)
def mSeq (a b : GS) : GS := fun L M => thenS (a L M) b
/-- a target's store -/
abbrev GG := D → Loc → Option Loc
def mName (i : Nat) : GG := fun d L => some (L.set i (some d))
def mName2 (i j : Nat) : GG := fun d L => match d with
  | .tup [x, y] => some ((L.set i (some x)).set j (some y))
  | _ => none
def mSet (i : Nat) (e : GE) : GS := fun L M => bndS L (e L M) fun d M1 => some (.nx (L.set i (some d)), M1)
def mRet (e : GE) : GS := fun L M => bndS L (e L M) fun d M1 => some (.rt d, M1)
def mRetN : GS := fun _ M => some (.rt .non, M)
def mExpr (e : GE) : GS := fun L M => bndS L (e L M) fun _ M1 => some (.nx L, M1)
def mIte (t : GT) (a b : GS) : GS := fun L M => bndS L (t L M) fun c M1 => if c = true then a L M1 else b L M1
/-- o[i] = e: e first, then o, then i -/
def mPut (op : D → D → D → Mem → Option Mem) (o i e : GE) : GS := fun L M => bndS L (e L M) fun v M1 => bndS L (o L M1) fun x M2 => bndS L (i L M2) fun k M3 =>
  match op x k v M3 with
  | some M4 => some (.nx L, M4)
  | none => none
/-- o.f = e -/
def mFldPut (op : D → D → Mem → Option Mem) (o e : GE) : GS := fun L M => bndS L (e L M) fun v M1 => bndS L (o L M1) fun x M2 =>
  match op x v M2 with
  | some M3 => some (.nx L, M3)
  | none => none
def mRaise (c : Str) : GS := fun L M => some (.ex c L, M)

/-! ### loops -/
/-- what is walked: its items; of a list in the memory: where it stands (it may not change meanwhile) -/
structure Src where
  items : List D
  guard : Option (Nat × List D) := none
def Src.ok (s : Src) (M : Mem) : Prop := match s.guard with
  | none => True
  | some (n, xs) => M[n]? = some (.lst xs)
abbrev GI := Loc → Mem → Option (Rz Src)
open Classical in
noncomputable def forG (ok : Mem → Prop) (g : GG) (body : GS) : List D → GS
  | [], L, M => if ok M then some (.nx L, M) else none
  | d :: ds, L, M => if ok M then (match g d L with
    | none => none
    | some L1 => match body L1 M with
      | some (.nx L2, M2) => forG ok g body ds L2 M2
      | some (.ct L2, M2) => forG ok g body ds L2 M2
      | some (.bk L2, M2) => some (.nx L2, M2)
      | r => r) else none
noncomputable def mFor (it : GI) (g : GG) (body : GS) : GS := fun L M => bndS L (it L M) fun s M1 => forG s.ok g body s.items L M1
def whileF (t : GT) (body : GS) : Nat → GS
  | 0, _, _ => none
  | n + 1, L, M => bndS L (t L M) fun c M1 => if c = true then (match body L M1 with
      | some (.nx L2, M2) => whileF t body n L2 M2
      | some (.ct L2, M2) => whileF t body n L2 M2
      | some (.bk L2, M2) => some (.nx L2, M2)
      | r => r) else some (.nx L, M1)
open Classical in
noncomputable def mWhile (t : GT) (body : GS) : GS := fun L M => if h : ∃ n, (whileF t body n L M).isSome = true then whileF t body (Classical.choose h) L M else none
/- the items that a comprehension makes: nothing may be raised in it -/
def okO {α : Type} (r : Option (Rz α)) : Option (α × Mem) := match r with
  | some (.ok a M) => some (a, M)
  | _ => none
@[simp] theorem okO_ok {α : Type} (a : α) (M : Mem) : okO (some (.ok a M)) = some (a, M) := (rfl)
@[simp] theorem okO_ex {α : Type} (c : Str) (M : Mem) : okO (some (.ex c M) : Option (Rz α)) = none := (rfl)
@[simp] theorem okO_none {α : Type} : okO (none : Option (Rz α)) = none := (rfl)
theorem okO_some {α : Type} {r : Option (Rz α)} {p : α × Mem} (h : okO r = some p) : r = some (.ok p.1 p.2) := by
  cases r with
  | none => cases h
  | some r =>
    cases r with
    | ok a M =>
      have e := Option.some.inj h
      subst e
      rfl
    | ex c M => cases h
def wipeL (L : Loc) : List Nat → Loc
  | [] => L
  | v :: vs => (wipeL L vs).set v none
open Classical in
noncomputable def lcG (ok : Mem → Prop) (g : GG) (tt : GT) (e : GE) (L : Loc) : List D → Mem → Option (List D × Mem)
  | [], M => if ok M then some ([], M) else none
  | d :: ds, M => if ok M then (g d L).bind fun L1 => (okO (tt L1 M)).bind fun p => if p.1 = true then
      (okO (e L1 p.2)).bind fun q => (lcG ok g tt e L ds q.2).bind fun z => some (q.1 :: z.1, z.2)
    else lcG ok g tt e L ds p.2
    else none
def oLstBig : OpN := fun xs M => if xs.length < 16000000 then some (.ref M.length, M ++ [.lst xs]) else none
noncomputable def mLc (it : GI) (g : GG) (tt : GT) (e : GE) (vs : List Nat) : GE := fun L M => bnd (it L M) fun s M1 => ret ((lcG s.ok g tt e (wipeL L vs) s.items M1).bind fun p => oLstBig p.1 p.2)
def mYes : GT := fun _ M => some (.ok true M)

/-! ### defs -/
def Fl.end : Fl → Mem → Option (Rz D)
  | .nx _, M => some (.ok .non M)
  | .rt d, M => some (.ok d M)
  | .ex c _, M => some (.ex c M)
  | _, _ => none
@[simp] theorem Fl.end_nx (L : Loc) (M : Mem) : Fl.end (.nx L) M = some (.ok .non M) := (rfl)
@[simp] theorem Fl.end_rt (d : D) (M : Mem) : Fl.end (.rt d) M = some (.ok d M) := (rfl)
@[simp] theorem Fl.end_ex (c : Str) (L : Loc) (M : Mem) : Fl.end (.ex c L) M = some (.ex c M) := (rfl)
def endS (r : Option (Fl × Mem)) : Option (Rz D) := match r with
  | some (f, M) => f.end M
  | none => none
@[simp] theorem endS_some (f : Fl) (M : Mem) : endS (some (f, M)) = f.end M := (rfl)
/-- a def of k parameters and n names -/
def mDef (k n : Nat) (body : GS) : Fn := fun ds M => if ds.length = k then endS (body (ds.map some ++ List.replicate (n - k) none) M) else none
end BL
/-! BLRel: what of the heap a memory tells; the rules of the machine over the layer's. -/
namespace BL
open PySem L2

/-- a tuple that stands for ever -/
def TupAt (K : PySem.W.Frag) (H : Hp) (a : Addr) (xs : List V) : Prop :=
  H a = some (.tup xs) ∨
    ∃ (o : Obj) (its : Array Value) (n : Nat), K.lookup a = some o ∧ o.cls = .type "tuple" ∧ o.data = .seq its n ∧ its.size ≤ sizeLine ∧ Vals xs its.toList
/-- the script -/
def ScrAt (K : PySem.W.Frag) (H : Hp) (a : Addr) (ns : List Int) : Prop :=
  (∃ o, H a = some (.frz o (.lst (ns.map V.int)))) ∨
    ∃ (o : Obj) (its : Array Value) (n : Nat), K.lookup a = some o ∧ o.cls = .type "list" ∧ o.dict = none ∧ o.data = .seq its n ∧ its.size ≤ sizeLine ∧ Vals (ns.map V.int) its.toList
theorem TupAt.seq {K : PySem.W.Frag} {H : Hp} {a : Addr} {xs : List V} (h : TupAt K H a xs) : SqT K H a xs := by
  rcases h with h | h
  · exact .inl (.inl h)
  · exact .inr h
theorem ScrAt.seq {K : PySem.W.Frag} {H : Hp} {a : Addr} {ns : List Int} (h : ScrAt K H a ns) : SqL K H a (ns.map V.int) := by
  rcases h with ⟨o, h⟩ | h
  · exact .inl (.inr ⟨o, h⟩)
  · exact .inr h

mutual
/-- the value v is the datum d -/
def DV (K : PySem.W.Frag) (i : List Addr) (H : Hp) : D → V → Prop
  | .non, v => v = .non
  | .bl b, v => v = .bl b
  | .int k, v => v = .int k
  | .str s, v => v = .str s
  | .tup ds, v => ∃ a vs, v = .ref a ∧ TupAt K H a vs ∧ DLs K i H ds vs
  | .scr ns, v => ∃ a, v = .ref a ∧ ScrAt K H a ns
  | .ref n, v => ∃ a, i[n]? = some a ∧ v = .ref a
def DLs (K : PySem.W.Frag) (i : List Addr) (H : Hp) : List D → List V → Prop
  | [], vs => vs = []
  | d :: ds, vs => ∃ v r, vs = v :: r ∧ DV K i H d v ∧ DLs K i H ds r
end
/-- a dict's entries -/
def DKs (K : PySem.W.Frag) (i : List Addr) (H : Hp) : List (Int × D) → List (Key × V) → Prop
  | [], vs => vs = []
  | (k, d) :: ds, vs => ∃ v r, vs = (.inl k, v) :: r ∧ DV K i H d v ∧ DKs K i H ds r
/-- an instance's fields -/
def DFs (K : PySem.W.Frag) (i : List Addr) (H : Hp) : List (Str × D) → List (Str × V) → Prop
  | [], vs => vs = []
  | (k, d) :: ds, vs => ∃ v r, vs = (k, v) :: r ∧ DV K i H d v ∧ DFs K i H ds r
def ObR (K : PySem.W.Frag) (C : Addr) (i : List Addr) (H : Hp) (a : Addr) : Ob → Prop
  | .lst ds => ∃ vs, H a = some (.lst vs) ∧ DLs K i H ds vs
  | .dct kvs => ∃ vs, H a = some (.dK vs) ∧ DKs K i H kvs vs
  | .ins fs => ∃ dx vs, H a = some (.ins C dx vs) ∧ DFs K i H fs vs
structure MemR (K : PySem.W.Frag) (C : Addr) (i : List Addr) (M : Mem) (H : Hp) : Prop where
  len : i.length = M.length
  nd : i.Nodup
  ob : ∀ (n : Nat) o a, M[n]? = some o → i[n]? = some a → ObR K C i H a o
/-- the locals -/
structure LocR (K : PySem.W.Frag) (i : List Addr) (H : Hp) (L : Loc) (σ : L2.St) : Prop where
  len : L.length = σ.length
  at_ : ∀ (n : Nat) d, L[n]? = some (some d) → ∃ v, σ[n]? = some (some v) ∧ DV K i H d v
/-- how the heap may go on -/
structure Gro (i : List Addr) (H : Hp) (i' : List Addr) (H' : Hp) : Prop where
  pre : ∃ l, i' = i ++ l
  new : ∀ a ∈ i', a ∈ i ∨ H a = none
  fr : ∀ a o, H a = some o → a ∉ i → H' a = some o
  tups : ∀ a xs, H a = some (.tup xs) → H' a = some (.tup xs)
  frzs : ∀ a o u, H a = some (.frz o u) → H' a = some (.frz o u)

/-- what the data lean on -/
structure Mon (i : List Addr) (H : Hp) (i' : List Addr) (H' : Hp) : Prop where
  pre : ∃ l, i' = i ++ l
  tups : ∀ a xs, H a = some (.tup xs) → H' a = some (.tup xs)
  frzs : ∀ a o u, H a = some (.frz o u) → H' a = some (.frz o u)
theorem Gro.mon {i i' : List Addr} {H H' : Hp} (e : Gro i H i' H') : Mon i H i' H' := ⟨e.pre, e.tups, e.frzs⟩
section
variable {K : PySem.W.Frag} {C : Addr} {i i' i'' : List Addr} {H H' H'' : Hp} {M M' : Mem}
theorem Gro.refl : Gro i H i H := ⟨⟨[], by simp⟩, fun a h => .inl h, fun _ _ h _ => h, fun _ _ h => h, fun _ _ _ h => h⟩
theorem Gro.trans (a : Gro i H i' H') (b : Gro i' H' i'' H'') : Gro i H i'' H'' := by
  obtain ⟨l, e⟩ := a.pre
  obtain ⟨l2, e2⟩ := b.pre
  refine ⟨⟨l ++ l2, by rw [e2, e, List.append_assoc]⟩, fun x hx => ?_, fun x o h hn => ?_, fun x xs h => b.tups x xs (a.tups x xs h), fun x o u h => b.frzs x o u (a.frzs x o u h)⟩
  · rcases b.new x hx with h | h
    · exact a.new x h
    · by_cases hi : x ∈ i
      · exact .inl hi
      · refine .inr ?_
        cases q : H x with
        | none => rfl
        | some o =>
          rw [a.fr x o q hi] at h
          cases h
  · refine b.fr x o (a.fr x o h hn) fun hx => ?_
    rcases a.new x hx with z | z
    · exact hn z
    · rw [z] at h
      cases h
theorem TupAt.mono {a : Addr} {xs : List V} (e : Mon i H i' H') (h : TupAt K H a xs) : TupAt K H' a xs := by
  rcases h with h | h
  · exact .inl (e.tups _ _ h)
  · exact .inr h
theorem ScrAt.mono {a : Addr} {xs : List Int} (e : Mon i H i' H') (h : ScrAt K H a xs) : ScrAt K H' a xs := by
  rcases h with ⟨o, h⟩ | h
  · exact .inl ⟨o, e.frzs _ _ _ h⟩
  · exact .inr h
theorem Mon.ix (e : Mon i H i' H') {n : Nat} {a : Addr} (h : i[n]? = some a) : i'[n]? = some a := by
  obtain ⟨l, el⟩ := e.pre
  rw [el, List.getElem?_append_left (List.getElem?_eq_some_iff.mp h).1]
  exact h
mutual
theorem dv_mono (e : Mon i H i' H') : ∀ (d : D) (v : V), DV K i H d v → DV K i' H' d v
  | .non, v, h => by simpa only [DV] using h
  | .bl _, v, h => by simpa only [DV] using h
  | .int _, v, h => by simpa only [DV] using h
  | .str _, v, h => by simpa only [DV] using h
  | .tup ds, v, h => by
    simp only [DV] at h ⊢
    obtain ⟨a, vs, h1, h2, h3⟩ := h
    exact ⟨a, vs, h1, h2.mono e, dl_mono e ds vs h3⟩
  | .scr _, v, h => by
    simp only [DV] at h ⊢
    obtain ⟨a, h1, h2⟩ := h
    exact ⟨a, h1, h2.mono e⟩
  | .ref _, v, h => by
    simp only [DV] at h ⊢
    obtain ⟨a, h1, h2⟩ := h
    exact ⟨a, e.ix h1, h2⟩
theorem dl_mono (e : Mon i H i' H') : ∀ (ds : List D) (vs : List V), DLs K i H ds vs → DLs K i' H' ds vs
  | [], vs, h => by simpa only [DLs] using h
  | d :: ds, vs, h => by
    simp only [DLs] at h ⊢
    obtain ⟨v, r, h1, h2, h3⟩ := h
    exact ⟨v, r, h1, dv_mono e d v h2, dl_mono e ds r h3⟩
end
theorem DV.mono {d : D} {v : V} (h : DV K i H d v) (e : Gro i H i' H') : DV K i' H' d v := dv_mono e.mon d v h
theorem DLs.mono {d : List D} {v : List V} (h : DLs K i H d v) (e : Gro i H i' H') : DLs K i' H' d v := dl_mono e.mon d v h
theorem dk_mono (e : Mon i H i' H') : ∀ {ds : List (Int × D)} {vs : List (Key × V)}, DKs K i H ds vs → DKs K i' H' ds vs
  | [], vs, h => by simpa only [DKs] using h
  | (k, d) :: ds, vs, h => by
    simp only [DKs] at h ⊢
    obtain ⟨v, r, h1, h2, h3⟩ := h
    exact ⟨v, r, h1, dv_mono e d v h2, dk_mono e h3⟩
theorem df_mono (e : Mon i H i' H') : ∀ {ds : List (Str × D)} {vs : List (Str × V)}, DFs K i H ds vs → DFs K i' H' ds vs
  | [], vs, h => by simpa only [DFs] using h
  | (k, d) :: ds, vs, h => by
    simp only [DFs] at h ⊢
    obtain ⟨v, r, h1, h2, h3⟩ := h
    exact ⟨v, r, h1, dv_mono e d v h2, df_mono e h3⟩
theorem DKs.mono {d : List (Int × D)} {v : List (Key × V)} (h : DKs K i H d v) (e : Gro i H i' H') : DKs K i' H' d v := dk_mono e.mon h
theorem DFs.mono {d : List (Str × D)} {v : List (Str × V)} (h : DFs K i H d v) (e : Gro i H i' H') : DFs K i' H' d v := df_mono e.mon h
theorem loc_mono {L : Loc} {σ : L2.St} (e : Mon i H i' H') (h : LocR K i H L σ) : LocR K i' H' L σ := ⟨h.len, fun n d hn => by
  obtain ⟨v, h1, h2⟩ := h.at_ n d hn
  exact ⟨v, h1, dv_mono e d v h2⟩⟩
theorem LocR.mono {L : Loc} {σ : L2.St} (e : Gro i H i' H') (h : LocR K i H L σ) : LocR K i' H' L σ := loc_mono e.mon h
theorem LocR.set {L : Loc} {σ : L2.St} (h : LocR K i H L σ) (n : Nat) {d : D} {v : V} (r : DV K i H d v) : LocR K i H (L.set n (some d)) (σ.set n (some v)) := by
  refine ⟨by simp [h.len], fun m d' hm => ?_⟩
  by_cases e : n = m
  · subst e
    have hl : n < L.length := by
      have := (List.getElem?_eq_some_iff.mp hm).1
      simpa using this
    rw [List.getElem?_set_self hl] at hm
    have e1 : d = d' := Option.some.inj (Option.some.inj hm)
    subst e1
    exact ⟨v, by rw [List.getElem?_set_self (by rw [← h.len]; exact hl)], r⟩
  · rw [List.getElem?_set_ne e] at hm
    obtain ⟨v', h1, h2⟩ := h.at_ m d' hm
    exact ⟨v', by rw [List.getElem?_set_ne e]; exact h1, h2⟩
theorem LocR.forget {L : Loc} {σ : L2.St} (h : LocR K i H L σ) (n : Nat) : LocR K i H (L.set n none) (σ.set n none) := by
  refine ⟨by simp [h.len], fun m d' hm => ?_⟩
  by_cases e : n = m
  · subst e
    have hl : n < L.length := by
      have := (List.getElem?_eq_some_iff.mp hm).1
      simpa using this
    rw [List.getElem?_set_self hl] at hm
    cases hm
  · rw [List.getElem?_set_ne e] at hm
    obtain ⟨v', h1, h2⟩ := h.at_ m d' hm
    exact ⟨v', by rw [List.getElem?_set_ne e]; exact h1, h2⟩
/-- the objects stay where nothing of them changes -/
theorem ob_mono (e : Mon i H i' H') {a : Addr} {o : Ob} (k : ∀ u, H a = some u → H' a = some u) (h : ObR K C i H a o) : ObR K C i' H' a o := by
  cases o with
  | lst ds =>
    obtain ⟨vs, h1, h2⟩ := h
    exact ⟨vs, k _ h1, dl_mono e ds vs h2⟩
  | dct kvs =>
    obtain ⟨vs, h1, h2⟩ := h
    exact ⟨vs, k _ h1, dk_mono e h2⟩
  | ins fs =>
    obtain ⟨dx, vs, h1, h2⟩ := h
    exact ⟨dx, vs, k _ h1, df_mono e h2⟩
theorem ObR.mono (e : Gro i H i' H') {a : Addr} {o : Ob} (k : ∀ u, H a = some u → H' a = some u) (h : ObR K C i H a o) : ObR K C i' H' a o := ob_mono e.mon k h
theorem MemR.there (h : MemR K C i M H) {a : Addr} (ha : a ∈ i) : ∃ (n : Nat) (o : Ob), M[n]? = some o ∧ i[n]? = some a ∧ ObR K C i H a o := by
  obtain ⟨n, hn, e⟩ := List.getElem_of_mem ha
  have h1 : i[n]? = some a := by rw [List.getElem?_eq_getElem hn, e]
  have h2 : n < M.length := by rw [← h.len]; exact hn
  exact ⟨n, M[n], List.getElem?_eq_getElem h2, h1, h.ob n _ a (List.getElem?_eq_getElem h2) h1⟩
def MutO : HO → Prop
  | .lst _ => True
  | .dK _ => True
  | .ins _ _ _ => True
  | _ => False
theorem ObR.mut {a : Addr} {o : Ob} (h : ObR K C i H a o) : ∃ u, H a = some u ∧ MutO u := by
  cases o with
  | lst ds =>
    obtain ⟨vs, h1, h2⟩ := h
    exact ⟨_, h1, trivial⟩
  | dct kvs =>
    obtain ⟨vs, h1, h2⟩ := h
    exact ⟨_, h1, trivial⟩
  | ins fs =>
    obtain ⟨dx, vs, h1, h2⟩ := h
    exact ⟨_, h1, trivial⟩
theorem MemR.not_tup (h : MemR K C i M H) {a : Addr} {xs : List V} (e : H a = some (.tup xs)) : a ∉ i := fun ha => by
  obtain ⟨n, o, _, _, q⟩ := h.there ha
  obtain ⟨u, h1, h2⟩ := q.mut
  rw [e] at h1
  cases h1
  exact h2
theorem MemR.not_frz (h : MemR K C i M H) {a : Addr} {ob : Obj} {u : HO} (e : H a = some (.frz ob u)) : a ∉ i := fun ha => by
  obtain ⟨n, o, _, _, q⟩ := h.there ha
  obtain ⟨u, h1, h2⟩ := q.mut
  rw [e] at h1
  cases h1
  exact h2
/-- something new that is not told in the memory -/
theorem ext_new {p : Addr} {o : HO} (h : H p = none) : Gro i H i (upd H p o) :=
  ⟨⟨[], by simp⟩, fun _ h => .inl h, fun a u e _ => by rw [upd_ne (ne_of_none e h)]; exact e, fun a u e => by rw [upd_ne (ne_of_none e h)]; exact e, fun a o u e => by rw [upd_ne (ne_of_none e h)]; exact e⟩
theorem MemR.ne (h : MemR K C i M H) {p : Addr} (hp : H p = none) : p ∉ i := fun ha => by
  obtain ⟨n, o, _, _, q⟩ := h.there ha
  obtain ⟨u, h1, h2⟩ := q.mut
  rw [hp] at h1
  cases h1
theorem MemR.keep (h : MemR K C i M H) (e : Gro i H i H') (k : ∀ a u, a ∈ i → H a = some u → H' a = some u) : MemR K C i M H' :=
  ⟨h.len, h.nd, fun n o a h1 h2 => (h.ob n o a h1 h2).mono e fun u => k a u (List.mem_of_getElem? h2)⟩
theorem MemR.new (h : MemR K C i M H) {p : Addr} {o : HO} (hp : H p = none) : MemR K C i M (upd H p o) :=
  h.keep (ext_new hp) fun a u _ e => by rw [upd_ne (ne_of_none e hp)]; exact e
/-- a new object, told -/
theorem ext_laid {p : Addr} {o : HO} (h : H p = none) : Gro i H (i ++ [p]) (upd H p o) :=
  ⟨⟨[p], rfl⟩, fun a ha => by
    rcases List.mem_append.mp ha with z | z
    · exact .inl z
    · have : a = p := by simpa using z
      subst this
      exact .inr h, fun a u e _ => by rw [upd_ne (ne_of_none e h)]; exact e, fun a u e => by rw [upd_ne (ne_of_none e h)]; exact e, fun a o u e => by rw [upd_ne (ne_of_none e h)]; exact e⟩
theorem MemR.laid (h : MemR K C i M H) {p : Addr} {o : HO} {ob : Ob} (hp : H p = none) (r : ObR K C (i ++ [p]) (upd H p o) p ob) : MemR K C (i ++ [p]) (M ++ [ob]) (upd H p o) := by
  refine ⟨by simp [h.len], ?_, fun n o' a h1 h2 => ?_⟩
  · rw [List.nodup_append]
    refine ⟨h.nd, by simp, fun a ha b hb => ?_⟩
    have : b = p := by simpa using hb
    subst this
    intro e
    subst e
    exact h.ne hp ha
  · by_cases hn : n < M.length
    · rw [List.getElem?_append_left hn] at h1
      rw [List.getElem?_append_left (by rw [h.len]; exact hn)] at h2
      exact (h.ob n o' a h1 h2).mono (ext_laid hp) fun u e => by rw [upd_ne (ne_of_none e hp)]; exact e
    · have e1 : n = M.length := by
        have := (List.getElem?_eq_some_iff.mp h1).1
        simp at this
        omega
      subst e1
      rw [List.getElem?_append_right (Nat.le_refl _), Nat.sub_self] at h1
      rw [List.getElem?_append_right (by rw [h.len]; exact Nat.le_refl _), h.len, Nat.sub_self] at h2
      have e2 : ob = o' := Option.some.inj h1
      have e3 : p = a := Option.some.inj h2
      subst e2 e3
      exact r
/-- an object written -/
theorem ext_write (h : MemR K C i M H) {n : Nat} {a : Addr} {o : HO} (ha : i[n]? = some a) : Gro i H i (upd H a o) := by
  have hm : a ∈ i := List.mem_of_getElem? ha
  refine ⟨⟨[], by simp⟩, fun _ h => .inl h, fun b u e hb => ?_, fun b xs e => ?_, fun b ob u e => ?_⟩
  · rw [upd_ne fun z => hb (by rw [z]; exact hm)]
    exact e
  · rw [upd_ne fun z => h.not_tup e (by rw [z]; exact hm)]
    exact e
  · rw [upd_ne fun z => h.not_frz e (by rw [z]; exact hm)]
    exact e
theorem MemR.write (h : MemR K C i M H) {n : Nat} {a : Addr} {o : HO} {ob : Ob} (ha : i[n]? = some a) (r : ObR K C i (upd H a o) a ob) : MemR K C i (M.set n ob) (upd H a o) := by
  refine ⟨by simp [h.len], h.nd, fun m o' b h1 h2 => ?_⟩
  by_cases e : n = m
  · subst e
    have hl : n < M.length := by rw [← h.len]; exact (List.getElem?_eq_some_iff.mp ha).1
    rw [List.getElem?_set_self hl] at h1
    have e1 : ob = o' := Option.some.inj h1
    have e2 : a = b := Option.some.inj (ha.symm.trans h2)
    subst e1 e2
    exact r
  · rw [List.getElem?_set_ne e] at h1
    have hb : b ≠ a := fun z => by
      subst z
      exact e (nd_ix h.nd ha h2)
    exact (h.ob m o' b h1 h2).mono (ext_write h ha) fun u q => by rw [upd_ne hb]; exact q
end
end BL
/-! BLRule: the machine's steps are the layer's. -/
namespace BL
open PySem L2

section
variable (K : PySem.W.Frag) (mg : Str → Option Value) (C : Addr) (W : WX)
/-- how an end is met: the value b is told by a -/
def EndG {α β : Type} (R : List Addr → Hp → α → β → Prop) (i : List Addr) (H : Hp) (σ : L2.St) (Q : β → Hp → Prop) : Rz α → Prop
  | .ok a M' => ∀ i' H' b, Gro i H i' H' → MemR K C i' M' H' → R i' H' a b → Q b H'
  | .ex c M' => ∀ i' H' cc, mg c = some (.ref cc) → Gro i H i' H' → MemR K C i' M' H' → W (.ref cc) none σ H'
def SndG {α β : Type} (R : List Addr → Hp → α → β → Prop) (t : L2.St → Hp → (β → Hp → Prop) → Prop) (g : Loc → Mem → Option (Rz α)) : Prop :=
  ∀ i L M σ H r Q, MemR K C i M H → LocR K i H L σ → g L M = some r → EndG K mg C W R i H σ Q r → t σ H Q
/-- what the value is, what the truth is -/
abbrev RB : List Addr → Hp → Bool → Bool → Prop := fun _ _ b c => c = b
def EndS (i : List Addr) (H : Hp) (D : Ends) : Fl × Mem → Prop
  | (.nx L', M') => ∀ i' H' σ', Gro i H i' H' → MemR K C i' M' H' → LocR K i' H' L' σ' → D.nx σ' H'
  | (.bk L', M') => ∀ i' H' σ', Gro i H i' H' → MemR K C i' M' H' → LocR K i' H' L' σ' → D.bk σ' H'
  | (.ct L', M') => ∀ i' H' σ', Gro i H i' H' → MemR K C i' M' H' → LocR K i' H' L' σ' → D.ct σ' H'
  | (.rt d, M') => ∀ i' H' v, Gro i H i' H' → MemR K C i' M' H' → DV K i' H' d v → D.rt v H'
  | (.ex c L', M') => ∀ i' H' σ' cc, mg c = some (.ref cc) → Gro i H i' H' → MemR K C i' M' H' → LocR K i' H' L' σ' → W (.ref cc) none σ' H'
def SndS (t : TS) (g : GS) : Prop := ∀ i L M σ H D r, MemR K C i M H → LocR K i H L σ → g L M = some r → EndS K mg C W i H D r → t D σ H
/-- what is walked -/
def JR (i0 : List Addr) (H0 : Hp) (s : Src) (J : It) : Prop := ∀ i H M (n : Nat), Gro i0 H0 i H → MemR K C i M H → s.ok M →
  (∀ d, s.items[n]? = some d → J.go n H ∧ ∀ x H', J.yld n H x H' → Gro i H i H' ∧ MemR K C i M H' ∧ DV K i H' d x) ∧ (s.items.length ≤ n → J.stop n H)
def SndT (tg : TG) (g : GG) : Prop := ∀ i L M σ H d v L1 Q, MemR K C i M H → LocR K i H L σ → DV K i H d v → g d L = some L1 →
  (∀ i' H' σ1, Gro i H i' H' → MemR K C i' M H' → LocR K i' H' L1 σ1 → Q σ1 H') → tg v σ H Q
/-- a target within a comprehension, whose own slots are vs -/
def SndC (vs : List Nat) (tg : TG) (g : GG) : Prop := ∀ i L M σ H d v L1 Q, MemR K C i M H → LocR K i H (wipeL L vs) (wipe σ vs) → DV K i H d v → g d (wipeL L vs) = some L1 →
  (∀ i' H' σ1, Gro i H i' H' → MemR K C i' M H' → LocR K i' H' L1 σ1 → wipe σ1 vs = wipe σ vs → Q σ1 H') → tg v (wipe σ vs) H Q
end
section
variable (X : Cx) (C : Addr) (W : WX)
structure SE (e : Expr) (g : GE) : Prop where
  ex : ∃ t, PE X e t ∧ SndG X.K X.mg C W (DV X.K) t g
structure ST (e : Expr) (g : GT) : Prop where
  ex : ∃ t, PT X e t ∧ SndG X.K X.mg C W RB t g
structure SW (e : Expr) (g : GT) : Prop where
  ex : ∃ t, PW X e t ∧ SndG X.K X.mg C W RB t g
structure SA (es : List Expr) (g : GA) : Prop where
  ex : ∃ t, PA X es t ∧ SndG X.K X.mg C W (DLs X.K) t g
structure SI (tg iter : Expr) (g : GI) : Prop where
  ex : ∃ t, PI X tg iter t ∧ SndG X.K X.mg C W (JR X.K C) t g
structure SS (st : Stmt) (g : GS) : Prop where
  ex : ∃ t, PS X st t ∧ SndS X.K X.mg C W t g
structure SSs (st : List Stmt) (g : GS) : Prop where
  ex : ∃ t, PSs X st t ∧ SndS X.K X.mg C W t g
structure STg (tg : Expr) (g : GG) : Prop where
  ex : ∃ t, PG X tg t ∧ SndT X.K C t g
end

section
variable {K : PySem.W.Frag} {mg : Str → Option Value} {C : Addr} {W : WX}
theorem EndG.go {α β : Type} {R : List Addr → Hp → α → β → Prop} {i i' : List Addr} {H H' : Hp} {σ : L2.St} {Q : β → Hp → Prop} {r : Rz α} (e : Gro i H i' H') (h : EndG K mg C W R i H σ Q r) : EndG K mg C W R i' H' σ Q r := by
  cases r with
  | ok a M => exact fun j G b g m r => h j G b (e.trans g) m r
  | ex c M => exact fun j G cc q g m => h j G cc q (e.trans g) m
theorem EndS.go {i i' : List Addr} {H H' : Hp} {D : Ends} {r : Fl × Mem} (e : Gro i H i' H') (h : EndS K mg C W i H D r) : EndS K mg C W i' H' D r := by
  obtain ⟨f, M⟩ := r
  cases f with
  | nx L => exact fun j G b g m r => h j G b (e.trans g) m r
  | bk L => exact fun j G b g m r => h j G b (e.trans g) m r
  | ct L => exact fun j G b g m r => h j G b (e.trans g) m r
  | rt L => exact fun j G b g m r => h j G b (e.trans g) m r
  | ex c L => exact fun j G b cc q g m r => h j G b cc q (e.trans g) m r
/-- one after another -/
theorem SndG.step {α β γ δ : Type} {R : List Addr → Hp → α → β → Prop} {R2 : List Addr → Hp → γ → δ → Prop} {t : L2.St → Hp → (β → Hp → Prop) → Prop} {g : Loc → Mem → Option (Rz α)} (h : SndG K mg C W R t g)
    {i : List Addr} {L : Loc} {M : Mem} {σ : L2.St} {H : Hp} {r : Rz γ} {Q : δ → Hp → Prop} {f : α → Mem → Option (Rz γ)} {P : β → Hp → Prop} (m : MemR K C i M H) (l : LocR K i H L σ) (e : bnd (g L M) f = some r) (q : EndG K mg C W R2 i H σ Q r)
    (k : ∀ a M1 i' H' b, Gro i H i' H' → MemR K C i' M1 H' → LocR K i' H' L σ → R i' H' a b → f a M1 = some r → EndG K mg C W R2 i' H' σ Q r → P b H') : t σ H P := by
  rcases bnd_some e with ⟨a, M1, e1, e2⟩ | ⟨c, M1, e1, rfl⟩
  · exact h i L M σ H _ _ m l e1 fun i' H' b g m' rb => k a M1 i' H' b g m' (l.mono g) rb e2 (q.go g)
  · exact h i L M σ H _ _ m l e1 q
/-- a statement behind an expression -/
theorem SndG.stepS {α β : Type} {R : List Addr → Hp → α → β → Prop} {t : L2.St → Hp → (β → Hp → Prop) → Prop} {g : Loc → Mem → Option (Rz α)} (h : SndG K mg C W R t g)
    {i : List Addr} {L : Loc} {M : Mem} {σ : L2.St} {H : Hp} {r : Fl × Mem} {D : Ends} {f : α → Mem → Option (Fl × Mem)} {P : β → Hp → Prop} (m : MemR K C i M H) (l : LocR K i H L σ) (e : bndS L (g L M) f = some r) (q : EndS K mg C W i H D r)
    (k : ∀ a M1 i' H' b, Gro i H i' H' → MemR K C i' M1 H' → LocR K i' H' L σ → R i' H' a b → f a M1 = some r → EndS K mg C W i' H' D r → P b H') : t σ H P := by
  rcases bndS_some e with ⟨a, M1, e1, e2⟩ | ⟨c, M1, e1, rfl⟩
  · exact h i L M σ H _ _ m l e1 fun i' H' b g m' rb => k a M1 i' H' b g m' (l.mono g) rb e2 (q.go g)
  · exact h i L M σ H _ _ m l e1 fun i' H' cc hc g m' => q i' H' σ cc hc g m' (l.mono g)
end

/-! ### operations by values -/
section
variable (K : PySem.W.Frag) (C : Addr)
def rO (op : Op2) : R2 := fun x y H Q => ∃ i M dx dy d M', MemR K C i M H ∧ DV K i H dx x ∧ DV K i H dy y ∧ op dx dy M = some (d, M') ∧ ∀ i' H' z, Gro i H i' H' → MemR K C i' M' H' → DV K i' H' d z → Q z H'
def rO1 (op : Op1) : V → Hp → VK → Prop := fun x H Q => ∃ i M dx d M', MemR K C i M H ∧ DV K i H dx x ∧ op dx M = some (d, M') ∧ ∀ i' H' z, Gro i H i' H' → MemR K C i' M' H' → DV K i' H' d z → Q z H'
def rON (op : OpN) : List V → Hp → VK → Prop := fun xs H Q => ∃ i M ds d M', MemR K C i M H ∧ DLs K i H ds xs ∧ op ds M = some (d, M') ∧ ∀ i' H' z, Gro i H i' H' → MemR K C i' M' H' → DV K i' H' d z → Q z H'
def rOM (op : OpM) : V → List V → Hp → VK → Prop := fun x xs H Q => ∃ i M dx ds d M', MemR K C i M H ∧ DV K i H dx x ∧ DLs K i H ds xs ∧ op dx ds M = some (d, M') ∧ ∀ i' H' z, Gro i H i' H' → MemR K C i' M' H' → DV K i' H' d z → Q z H'
end
section
variable {K : PySem.W.Frag} {mg : Str → Option Value} {C : Addr} {W : WX}
theorem snd_ret {i : List Addr} {H : Hp} {σ : L2.St} {Q : VK} {o : Option (D × Mem)} {r : Rz D} (e : ret o = some r) (q : EndG K mg C W (DV K) i H σ Q r) : ∃ d M', o = some (d, M') ∧ ∀ i' H' z, Gro i H i' H' → MemR K C i' M' H' → DV K i' H' d z → Q z H' := by
  obtain ⟨d, M', e1, rfl⟩ := ret_eq e
  exact ⟨d, M', e1, q⟩
end

section
variable {X : Cx} {C : Addr} {W : WX} {a b c : Expr} {ga gb gc : GE} {pos : Pos}
theorem se_var {n : Nat} {e : Expr} (h : PE X e (tVar n)) : SE X C W e (mVar n) := ⟨_, h, fun i L M σ H r Q m l e q => by
  unfold mVar at e
  split at e
  · rename_i d hd
    cases e
    obtain ⟨v, h1, h2⟩ := l.at_ n d hd
    exact ⟨v, h1, q i H v Gro.refl m h2⟩
  · cases e⟩
theorem se_const {e : Expr} {d : D} {v : V} (h : PE X e (tC v)) (r : ∀ i H, DV X.K i H d v) : SE X C W e (mC d) := ⟨_, h, fun i L M σ H r' Q m l e q => by
  cases e
  exact q i H v Gro.refl m (r i H)⟩
theorem se_int {k : Int} {j pos} : SE X C W (.Constant (.int k) j pos) (mC (.int k)) := se_const pe_int fun _ _ => by simp only [DV]
theorem se_bl {k : Bool} {j pos} : SE X C W (.Constant (.bool k) j pos) (mC (.bl k)) := se_const pe_bl fun _ _ => by simp only [DV]
theorem se_str {k : Str} {j pos} : SE X C W (.Constant (.str k) j pos) (mC (.str k)) := se_const pe_str fun _ _ => by simp only [DV]
theorem se_non {j pos} : SE X C W (.Constant .none j pos) (mC .non) := se_const pe_non fun _ _ => by simp only [DV]
theorem se_bin {op : Operator} {f : Op2} (ho : OpR X (binaryOp op) (rO X.K C f)) (ha : SE X C W a ga) (hb : SE X C W b gb) : SE X C W (.BinOp a op b pos) (mBin f ga gb) := by
  obtain ⟨ta, pa, sa⟩ := ha.ex
  obtain ⟨tb, pb, sb⟩ := hb.ex
  refine ⟨_, pe_op ho pa pb, fun i L M σ H r Q m l e q => ?_⟩
  refine sa.step m l e q fun dx M1 i1 H1 x g1 m1 l1 rx e1 q1 => ?_
  refine sb.step m1 l1 e1 q1 fun dy M2 i2 H2 y g2 m2 l2 ry e2 q2 => ?_
  obtain ⟨d, M', h1, h2⟩ := snd_ret e2 q2
  exact ⟨i2, M2, dx, dy, d, M', m2, rx.mono g2, ry, h1, h2⟩
theorem se_un {op : UnaryOp} {f : Op1} (ho : UnR X (unaryOp op) (rO1 X.K C f)) (ha : SE X C W a ga) : SE X C W (.UnaryOp op a pos) (mUn f ga) := by
  obtain ⟨ta, pa, sa⟩ := ha.ex
  refine ⟨_, pe_un ho pa, fun i L M σ H r Q m l e q => ?_⟩
  refine sa.step m l e q fun dx M1 i1 H1 x g1 m1 l1 rx e1 q1 => ?_
  obtain ⟨d, M', h1, h2⟩ := snd_ret e1 q1
  exact ⟨i1, M1, dx, d, M', m1, rx, h1, h2⟩
/-- behind two operands: the operation, then what follows -/
theorem snd_bin2 {ta tb : TE} {f : Op2} (sa : SndG X.K X.mg C W (DV X.K) ta ga) (sb : SndG X.K X.mg C W (DV X.K) tb gb) : SndG X.K X.mg C W (DV X.K) (tOp (rO X.K C f) ta tb) (mBin f ga gb) := fun i L M σ H r Q m l e q => by
  refine sa.step m l e q fun dx M1 i1 H1 x g1 m1 l1 rx e1 q1 => ?_
  refine sb.step m1 l1 e1 q1 fun dy M2 i2 H2 y g2 m2 l2 ry e2 q2 => ?_
  obtain ⟨d, M', h1, h2⟩ := snd_ret e2 q2
  exact ⟨i2, M2, dx, dy, d, M', m2, rx.mono g2, ry, h1, h2⟩
theorem se_cmp {op : CmpOp} {f : Op2} (ho : OpR X (compareOp op) (rO X.K C f)) (ha : SE X C W a ga) (hb : SE X C W b gb) (hm : behindInMarks op b = false) : SE X C W (.Compare a [op] [b] pos) (mBin f ga gb) := by
  obtain ⟨ta, pa, sa⟩ := ha.ex
  obtain ⟨tb, pb, sb⟩ := hb.ex
  exact ⟨_, pe_cmpR ho pa pb hm, snd_bin2 sa sb⟩
/-- a value that is a truth, as a test -/
theorem snd_test {t : TE} (h : SndG X.K X.mg C W (DV X.K) t ga) : SndG X.K X.mg C W RB (fun σ H Q => t σ H fun x H1 => ∃ k, x = .bl k ∧ Q k H1) (mT ga) := fun i L M σ H r Q m l e q => by
  refine h.step m l e q fun dx M1 i1 H1 x g1 m1 l1 rx e1 q1 => ?_
  cases dx <;> first
    | cases e1
      done
    | skip
  rename_i b
  cases e1
  simp only [DV] at rx
  exact ⟨b, rx, q1 i1 H1 b Gro.refl m1 rfl⟩
theorem st_cmp {op : CmpOp} {f : Op2} (ho : OpR X (compareOp op) (rO X.K C f)) (ha : SE X C W a ga) (hb : SE X C W b gb) (hm : behindInMarks op b = false) : ST X C W (.Compare a [op] [b] pos) (mT (mBin f ga gb)) := by
  obtain ⟨ta, pa, sa⟩ := ha.ex
  obtain ⟨tb, pb, sb⟩ := hb.ex
  exact ⟨_, pt_cmpR ho pa pb hm, snd_test (snd_bin2 sa sb)⟩
theorem snd_chain {ta tb tc : TE} {f f2 : Op2} (sa : SndG X.K X.mg C W (DV X.K) ta ga) (sb : SndG X.K X.mg C W (DV X.K) tb gb) (sc : SndG X.K X.mg C W (DV X.K) tc gc) :
    SndG X.K X.mg C W (DV X.K) (tChain (rO X.K C f) (rO X.K C f2) ta tb tc) (mChain f f2 ga gb gc) := fun i L M σ H r Q m l e q => by
  refine sa.step m l e q fun dx M1 i1 H1 x g1 m1 l1 rx e1 q1 => ?_
  refine sb.step m1 l1 e1 q1 fun dy M2 i2 H2 y g2 m2 l2 ry e2 q2 => ?_
  rcases bnd_some e2 with ⟨d, M3, e3, e4⟩ | ⟨c, M3, e3, rfl⟩
  · obtain ⟨d', M', h1, h2⟩ := ret_eq e3
    cases h2
    refine ⟨i2, M2, dx, dy, _, _, m2, rx.mono g2, ry, h1, fun i3 H3 z g3 m3 rz => ?_⟩
    have l3 := l2.mono g3
    have q3 := q2.go g3
    cases d <;> first
      | cases e4
        done
      | skip
    rename_i b
    cases b with
    | true =>
      simp only [DV] at rz
      refine ⟨true, rz, ?_⟩
      refine sc.step m3 l3 e4 q3 fun dw M4 i4 H4 w g4 m4 l4 rw' e5 q5 => ?_
      obtain ⟨d, M', k1, k2⟩ := snd_ret e5 q5
      exact ⟨i4, M4, dy, dw, d, M', m4, (ry.mono g3).mono g4, rw', k1, k2⟩
    | false =>
      simp only [DV] at rz
      refine ⟨false, rz, ?_⟩
      cases e4
      exact q3 i3 H3 _ Gro.refl m3 (by simp only [DV])
  · obtain ⟨_, _, _, h2⟩ := ret_eq e3
    cases h2
theorem se_chain {op op' : CmpOp} {f f2 : Op2} (ho : OpR X (compareOp op) (rO X.K C f)) (ho' : OpR X (compareOp op') (rO X.K C f2)) (ha : SE X C W a ga) (hb : SE X C W b gb) (hc : SE X C W c gc)
    (hm : lastMarks [op, op'] [b, c] = false := by with_unfolding_all rfl) : SE X C W (.Compare a [op, op'] [b, c] pos) (mChain f f2 ga gb gc) := by
  obtain ⟨ta, pa, sa⟩ := ha.ex
  obtain ⟨tb, pb, sb⟩ := hb.ex
  obtain ⟨tc, pc, sc⟩ := hc.ex
  exact ⟨_, pe_chain ho ho' pa pb pc hm, snd_chain sa sb sc⟩
theorem st_chain {op op' : CmpOp} {f f2 : Op2} (ho : OpR X (compareOp op) (rO X.K C f)) (ho' : OpR X (compareOp op') (rO X.K C f2)) (ha : SE X C W a ga) (hb : SE X C W b gb) (hc : SE X C W c gc)
    (hm : lastMarks [op, op'] [b, c] = false := by with_unfolding_all rfl) : ST X C W (.Compare a [op, op'] [b, c] pos) (mT (mChain f f2 ga gb gc)) := by
  obtain ⟨ta, pa, sa⟩ := ha.ex
  obtain ⟨tb, pb, sb⟩ := hb.ex
  obtain ⟨tc, pc, sc⟩ := hc.ex
  exact ⟨_, pt_chain ho ho' pa pb pc hm, snd_test (snd_chain sa sb sc)⟩
theorem st_val (ha : SE X C W a ga) (he : ∀ whole, isTrue a X.env whole = (do let v ← whole; standAt a.pos; holding [v] (truthy v)) := by intro _; rfl) : ST X C W a (mT ga) := by
  obtain ⟨ta, pa, sa⟩ := ha.ex
  exact ⟨_, pt_val pa he, snd_test sa⟩
variable {ta tb : GT} {rest : List Expr}
theorem snd_and {t u : TT} (sa : SndG X.K X.mg C W RB t ta) (sb : SndG X.K X.mg C W RB u tb) : SndG X.K X.mg C W RB (tAnd t u) (mAnd ta tb) := fun i L M σ H r Q m l e q => by
  refine sa.step m l e q fun b M1 i1 H1 x g1 m1 l1 rx e1 q1 => ?_
  cases rx
  cases b with
  | true => exact sb i1 L M1 σ H1 r _ m1 l1 e1 q1
  | false =>
    cases e1
    exact q1 i1 H1 false Gro.refl m1 rfl
theorem snd_or {t u : TT} (sa : SndG X.K X.mg C W RB t ta) (sb : SndG X.K X.mg C W RB u tb) : SndG X.K X.mg C W RB (tOr t u) (mOr ta tb) := fun i L M σ H r Q m l e q => by
  refine sa.step m l e q fun b M1 i1 H1 x g1 m1 l1 rx e1 q1 => ?_
  cases rx
  cases b with
  | false => exact sb i1 L M1 σ H1 r _ m1 l1 e1 q1
  | true =>
    cases e1
    exact q1 i1 H1 true Gro.refl m1 rfl
theorem sw_and1 (ha : ST X C W a ta) : SW X C W (.BoolOp .And [a] pos) ta := by
  obtain ⟨t, p, s⟩ := ha.ex
  exact ⟨_, pw_and1 p, s⟩
theorem sw_or1 (ha : ST X C W a ta) : SW X C W (.BoolOp .Or [a] pos) ta := by
  obtain ⟨t, p, s⟩ := ha.ex
  exact ⟨_, pw_or1 p, s⟩
theorem sw_and (ha : ST X C W a ta) (hb : SW X C W (.BoolOp .And (b :: rest) pos) tb) : SW X C W (.BoolOp .And (a :: b :: rest) pos) (mAnd ta tb) := by
  obtain ⟨t, p, s⟩ := ha.ex
  obtain ⟨u, p2, s2⟩ := hb.ex
  exact ⟨_, pw_and p p2, snd_and s s2⟩
theorem sw_or (ha : ST X C W a ta) (hb : SW X C W (.BoolOp .Or (b :: rest) pos) tb) : SW X C W (.BoolOp .Or (a :: b :: rest) pos) (mOr ta tb) := by
  obtain ⟨t, p, s⟩ := ha.ex
  obtain ⟨u, p2, s2⟩ := hb.ex
  exact ⟨_, pw_or p p2, snd_or s s2⟩
theorem SW.st (h : SW X C W a ta) : ST X C W a ta := by
  obtain ⟨t, p, s⟩ := h.ex
  exact ⟨_, p.pt, s⟩
theorem st_not (ha : ST X C W a ta) : ST X C W (.UnaryOp .Not a pos) (mNot ta) := by
  obtain ⟨t, p, s⟩ := ha.ex
  refine ⟨_, pt_not p, fun i L M σ H r Q m l e q => ?_⟩
  refine s.step m l e q fun b M1 i1 H1 x g1 m1 l1 rx e1 q1 => ?_
  cases rx
  cases e1
  exact q1 i1 H1 _ Gro.refl m1 rfl
theorem se_one {op} (ha : SE X C W a ga) : SE X C W (.BoolOp op [a] pos) ga := by
  obtain ⟨t, p, s⟩ := ha.ex
  exact ⟨_, pe_one p, s⟩
theorem se_and (ha : SE X C W a ga) (hb : SE X C W (.BoolOp .And (b :: rest) pos) gb) : SE X C W (.BoolOp .And (a :: b :: rest) pos) (mAndV ga gb) := by
  obtain ⟨t, p, s⟩ := ha.ex
  obtain ⟨u, p2, s2⟩ := hb.ex
  refine ⟨_, pe_and p p2, fun i L M σ H r Q m l e q => ?_⟩
  refine s.step m l e q fun dx M1 i1 H1 x g1 m1 l1 rx e1 q1 => ?_
  cases dx <;> first
    | cases e1
      done
    | skip
  rename_i b
  simp only [DV] at rx
  refine ⟨b, rx, ?_⟩
  cases b with
  | true => exact s2 i1 L M1 σ H1 r _ m1 l1 e1 q1
  | false =>
    cases e1
    exact q1 i1 H1 _ Gro.refl m1 (by simp only [DV])
theorem se_or (ha : SE X C W a ga) (hb : SE X C W (.BoolOp .Or (b :: rest) pos) gb) : SE X C W (.BoolOp .Or (a :: b :: rest) pos) (mOrV ga gb) := by
  obtain ⟨t, p, s⟩ := ha.ex
  obtain ⟨u, p2, s2⟩ := hb.ex
  refine ⟨_, pe_or p p2, fun i L M σ H r Q m l e q => ?_⟩
  refine s.step m l e q fun dx M1 i1 H1 x g1 m1 l1 rx e1 q1 => ?_
  cases dx <;> first
    | cases e1
      done
    | skip
  rename_i b
  simp only [DV] at rx
  refine ⟨b, rx, ?_⟩
  cases b with
  | false => exact s2 i1 L M1 σ H1 r _ m1 l1 e1 q1
  | true =>
    cases e1
    exact q1 i1 H1 _ Gro.refl m1 (by simp only [DV])
theorem se_not (ha : SE X C W a ga) : SE X C W (.UnaryOp .Not a pos) (mNotV ga) := by
  obtain ⟨t, p, s⟩ := ha.ex
  refine ⟨_, pe_not p, fun i L M σ H r Q m l e q => ?_⟩
  refine s.step m l e q fun dx M1 i1 H1 x g1 m1 l1 rx e1 q1 => ?_
  cases dx <;> first
    | cases e1
      done
    | skip
  rename_i b
  simp only [DV] at rx
  refine ⟨b, rx, ?_⟩
  cases e1
  exact q1 i1 H1 _ Gro.refl m1 (by simp only [DV])
theorem se_if (hc : ST X C W c ta) (ha : SE X C W a ga) (hb : SE X C W b gb) : SE X C W (.IfExp c a b pos) (mIf ta ga gb) := by
  obtain ⟨t, p, s⟩ := hc.ex
  obtain ⟨u, p2, s2⟩ := ha.ex
  obtain ⟨v, p3, s3⟩ := hb.ex
  refine ⟨_, pe_ifExp p p2 p3, fun i L M σ H r Q m l e q => ?_⟩
  refine s.step m l e q fun b M1 i1 H1 x g1 m1 l1 rx e1 q1 => ?_
  cases rx
  cases b with
  | true => exact s2 i1 L M1 σ H1 r _ m1 l1 e1 q1
  | false => exact s3 i1 L M1 σ H1 r _ m1 l1 e1 q1
/-! ### arguments, calls -/
variable {es : List Expr} {gs : GA} {e : Expr}
theorem sa_nil : SA X C W [] mNil := ⟨_, pa_nil, fun i L M σ H r Q m l e q => by
  cases e
  exact q i H [] Gro.refl m (by simp only [DLs])⟩
theorem sa_cons (ha : SE X C W e ga) (hr : SA X C W es gs) (hs : starEach (e :: es) X.env = (false, eval e X.env) :: starEach es X.env := by rfl) : SA X C W (e :: es) (mCons ga gs) := by
  obtain ⟨t, p, s⟩ := ha.ex
  obtain ⟨u, p2, s2⟩ := hr.ex
  refine ⟨_, pa_cons p p2 hs, fun i L M σ H r Q m l e q => ?_⟩
  refine s.step m l e q fun dx M1 i1 H1 x g1 m1 l1 rx e1 q1 => ?_
  refine s2.step m1 l1 e1 q1 fun ds M2 i2 H2 xs g2 m2 l2 rs e2 q2 => ?_
  cases e2
  refine q2 i2 H2 _ Gro.refl m2 ?_
  simp only [DLs]
  exact ⟨x, xs, rfl, rx.mono g2, rs⟩
/-- a built-in -/
theorem snd_cb {t : TA} {f : OpN} (s : SndG X.K X.mg C W (DLs X.K) t gs) : SndG X.K X.mg C W (DV X.K) (tCB (rON X.K C f) t) (mCB f gs) := fun i L M σ H r Q m l e q => by
  refine s.step m l e q fun ds M1 i1 H1 xs g1 m1 l1 rs e1 q1 => ?_
  obtain ⟨d, M', h1, h2⟩ := snd_ret e1 q1
  exact ⟨i1, M1, ds, d, M', m1, rs, h1, h2⟩
variable {x : Str} {p apos : Pos} {id : String}
theorem se_cb {f : OpN} (hc : CallR X (.builtin id) (rON X.K C f)) (hg : Gl X x) (hm : X.mg x = none) (hv : bootBuiltins x = some (.builtin id)) (ha : SA X C W (e :: es) gs) (hn : x ≠ "__name__" := by decide) (hdb : (x == ("__debug__" : Str)) = false := by decide)
    (hs : starEach (e :: es) X.env = (false, eval e X.env) :: starEach es X.env := by rfl) (hpl : (backTo pos (starEach es X.env)).any (·.1) = false := by rfl) : SE X C W (.Call (.Name x p) (e :: es) [] pos) (mCB f gs) := by
  obtain ⟨t, p, s⟩ := ha.ex
  exact ⟨_, pe_callB hc hg hm hv p hn hdb hs hpl, snd_cb s⟩
theorem se_cty {f : OpN} {T : String} (hc : CallR X (.type T) (rON X.K C f)) (hg : Gl X x) (hm : X.mg x = none) (hv : bootBuiltins x = some (.type T)) (ha : SA X C W (e :: es) gs) (hn : x ≠ "__name__" := by decide) (hdb : (x == ("__debug__" : Str)) = false := by decide)
    (hs : starEach (e :: es) X.env = (false, eval e X.env) :: starEach es X.env := by rfl) (hpl : (backTo pos (starEach es X.env)).any (·.1) = false := by rfl) : SE X C W (.Call (.Name x p) (e :: es) [] pos) (mCB f gs) := by
  obtain ⟨t, p, s⟩ := ha.ex
  exact ⟨_, pe_callTy hc hg hm hv p hn hdb hs hpl, snd_cb s⟩
/-! ### displays -/
theorem DLs.length {K : PySem.W.Frag} {i : List Addr} {H : Hp} : ∀ {ds : List D} {vs : List V}, DLs K i H ds vs → ds.length = vs.length
  | [], vs, h => by
    simp only [DLs] at h
    subst h
    rfl
  | d :: ds, vs, h => by
    simp only [DLs] at h
    obtain ⟨v, r, h1, h2, h3⟩ := h
    subst h1
    rw [List.length_cons, List.length_cons, h3.length]
theorem se_tup {k} (ha : SA X C W es gs) : SE X C W (.Tuple es k pos) (mTup gs) := by
  obtain ⟨t, p, s⟩ := ha.ex
  refine ⟨_, pe_tup p, fun i L M σ H r Q m l e q => ?_⟩
  refine s.step m l e q fun ds M1 i1 H1 xs g1 m1 l1 rs e1 q1 => ?_
  unfold oTup at e1
  split at e1
  · rename_i hl
    cases e1
    refine ⟨by rw [← rs.length]; exact Nat.le_of_lt (small1000 hl), fun p hp => ?_⟩
    refine q1 i1 _ _ (ext_new hp) (m1.new hp) ?_
    simp only [DV]
    exact ⟨p, xs, rfl, .inl upd_same, rs.mono (ext_new hp)⟩
  · cases e1
theorem se_lst (ha : SA X C W es gs) : SE X C W (.List es pos) (mLst gs) := by
  obtain ⟨t, p, s⟩ := ha.ex
  refine ⟨_, pe_lst p, fun i L M σ H r Q m l e q => ?_⟩
  refine s.step m l e q fun ds M1 i1 H1 xs g1 m1 l1 rs e1 q1 => ?_
  unfold oLst at e1
  split at e1
  · rename_i hl
    cases e1
    refine ⟨by rw [← rs.length]; exact Nat.le_of_lt (small1000 hl), fun p hp => ?_⟩
    refine q1 _ _ _ (ext_laid hp) (m1.laid hp ⟨xs, upd_same, rs.mono (ext_laid hp)⟩) ?_
    simp only [DV]
    exact ⟨p, by rw [← m1.len, List.getElem?_append_right (Nat.le_refl _), Nat.sub_self]; rfl, rfl⟩
  · cases e1
theorem se_dnew : SE X C W (.Dict [] [] pos) mDnew := ⟨_, pe_dnewK, fun i L M σ H r Q m l e q => by
  cases e
  intro p hp
  refine q _ _ _ (ext_laid hp) (m.laid hp ⟨[], upd_same, by simp only [DKs]⟩) ?_
  simp only [DV]
  exact ⟨p, by rw [← m.len, List.getElem?_append_right (Nat.le_refl _), Nat.sub_self]; rfl, rfl⟩⟩
end
end BL
/-! BLStmt: calls, statements, loops, comprehensions, defs. -/
namespace BL
open PySem L2

/-! ### a def's promise by its machine -/
def spG (K : PySem.W.Frag) (mg : Str → Option Value) (C : Addr) (g : Fn) : Sp := fun vs H Q E =>
  ∃ i M ds r, MemR K C i M H ∧ DLs K i H ds vs ∧ g ds M = some r ∧ EndG K mg C (fun c d _ H' => E c d H') (DV K) i H [] Q r
theorem mDef_len {k n : Nat} {body : GS} {ds : List D} {M : Mem} {r : Rz D} (h : mDef k n body ds M = some r) : ds.length = k := by
  unfold mDef at h
  split at h
  · assumption
  · cases h
section
variable {X : Cx} {C : Addr} {W : WX} {e o : Expr} {es : List Expr} {go : GE} {gs : GA} {x m : Str} {p pos apos : Pos} {k : Nat} {f : Addr} {fd : FuncData} {ps : List Str} {g : Fn}
/-- what a callee may let out, here -/
abbrev Lets (X : Cx) (W : WX) : Prop := ∀ σ, PassesAt (L2.CX X.prog X.w) X σ (WE W σ)
theorem EndG.call {i i' : List Addr} {H : Hp} {σ : L2.St} {Q : VK} {r : Rz D} (q : EndG X.K X.mg C W (DV X.K) i H σ Q r) : EndG X.K X.mg C (fun c d _ H' => WE W σ c d H') (DV X.K) i H [] Q r := by
  cases r with
  | ok d M => exact q
  | ex c M => exact q
theorem se_call (F : FnOk X.prog X.w X.K X.mg X.base (L2.CX X.prog X.w) k f fd ps (spG X.K X.mg C g)) (hr : Room k X.A) (hx : Lets X W) (hg : Gl X x) (hm : X.mg x = some (.ref f)) (hk : PySem.W.keepIn X.K (.ref f) = true) (hb : Binds X.K fd ps [])
    (ha : SA X C W (e :: es) gs) (hdb : (x == ("__debug__" : Str)) = false := by decide) (he : starEach (e :: es) X.env = (false, eval e X.env) :: starEach es X.env := by rfl) (hpl : (backTo pos (starEach es X.env)).any (·.1) = false := by rfl) :
    SE X C W (.Call (.Name x p) (e :: es) [] pos) (mCall g gs) := by
  obtain ⟨t, pt, s⟩ := ha.ex
  refine ⟨_, pe_callS F hr hg hm hk hb hx pt hdb he hpl, fun i L M σ H r Q m l e q => ?_⟩
  refine s.step m l e q fun ds M1 i1 H1 vs g1 m1 l1 rs e1 q1 => ?_
  exact ⟨i1, M1, ds, r, m1, rs, e1, q1.call (i' := i1)⟩
/-- o.m(e, ..), what is raised wished for at the caller's slots -/
def tMethS (C : Addr) (m : Str) (sp : Sp) (E : L2.St → XK) (ta : TE) (t : TA) : TE := fun σ H Q => ta σ H fun x H1 => ∃ a dx fs, x = .ref a ∧ H1 a = some (.ins C dx fs) ∧ fs.lookup m = none ∧ t σ H1 fun vs H2 => sp (x :: vs) H2 Q (E σ)
theorem pe_methS {pl : Sem Bool} {ta : TE} {t : TA} {sp : Sp} {E : L2.St → XK} {CX : CXT} (he : PE X o ta) (c : Cls X.K C) (hm : Meth X.K C m f) (F : FnOk X.prog X.w X.K X.mg X.base CX k f fd ps sp) (hr : Room k X.A) (hb : Binds X.K fd ps [])
    (hx : ∀ σ, PassesAt CX X σ (E σ)) (ha : PA X (e :: es) t)
    (hst : starEach (e :: es) X.env = (false, eval e X.env) :: starEach es X.env := by rfl) (hpl : (backTo pos (starEach es X.env)).any (·.1) = false := by rfl)
    (ht : eval (.Call (.Attribute o m apos) (e :: es) [] pos) X.env = (do
      let ov ← eval o X.env
      standAt apos.atName
      let (f, first) ← holding [ov] (getMethod ov m pl)
      callWith pos f first (backTo pos (starEach (e :: es) X.env)) (backToKw pos (keywordEach [] X.env))) := by rfl) :
    PE X (.Call (.Attribute o m apos) (e :: es) [] pos) (tMethS C m sp E ta t) := by
  refine ⟨fun pins s σ H Q I h => ?_⟩
  refine PySem.W.methodCall_KW (pl := pl) (thn (he.run pins s σ H _ I h) fun u s1 ⟨x, H1, I1, rx, a, dx, fs, ex, ea, l, q⟩ => ?_) ht
  subst ex
  obtain rfl : u = Value.ref a := rx
  refine getmeth_ok I1 ea c hm l ?_
  refine PySem.W.callWith_K (first := [.ref a]) (h₀ := X.base) I.ok.mod.kin hm.kp (thn (ha.run pos pins s1 σ H1 _ I1 q) fun us s2 ⟨vs, H2, I2, r, q2⟩ => ⟨I2.kIn, ?_⟩) hst hpl
  exact run_fnS (us := .ref a :: us) (vs := .ref a :: vs) F hr hb (hx σ) I2 (.cons rfl r) q2
theorem pe_methS0 {pl : Sem Bool} {ta : TE} {sp : Sp} {E : L2.St → XK} {CX : CXT} (he : PE X o ta) (c : Cls X.K C) (hm : Meth X.K C m f) (F : FnOk X.prog X.w X.K X.mg X.base CX k f fd ps sp) (hr : Room k X.A) (hb : Binds X.K fd ps [])
    (hx : ∀ σ, PassesAt CX X σ (E σ))
    (ht : eval (.Call (.Attribute o m apos) [] [] pos) X.env = (do
      let ov ← eval o X.env
      standAt apos.atName
      let (f, first) ← holding [ov] (getMethod ov m pl)
      callWith pos f first (backTo pos (starEach [] X.env)) (backToKw pos (keywordEach [] X.env))) := by rfl) :
    PE X (.Call (.Attribute o m apos) [] [] pos) (tMethS C m sp E ta tNil) := by
  refine ⟨fun pins s σ H Q I h => ?_⟩
  refine PySem.W.methodCall_KW (pl := pl) (thn (he.run pins s σ H _ I h) fun u s1 ⟨x, H1, I1, rx, a, dx, fs, ex, ea, l, q⟩ => ?_) ht
  subst ex
  obtain rfl : u = Value.ref a := rx
  refine getmeth_ok I1 ea c hm l ?_
  exact PySem.W.callWith_K0 (first := [.ref a]) I1.kIn hm.kp (run_fnS (us := [.ref a]) (vs := [.ref a]) F hr hb (hx σ) I1 (.cons rfl .nil) q)
theorem PEw {X : Cx} {e : Expr} {t t' : TE} (h : PE X e t) (i : ∀ σ H Q, t' σ H Q → t σ H Q) : PE X e t' := ⟨fun pins s σ H Q I hw => h.run pins s σ H Q I (i σ H Q hw)⟩
/-- an instance's fields hold no method's name -/
theorem DFs.look {K : PySem.W.Frag} {i : List Addr} {H : Hp} (f : Str) : ∀ {fs : List (Str × D)} {vs : List (Str × V)}, DFs K i H fs vs → (fs.lookup f = none → vs.lookup f = none) ∧ ∀ d, fs.lookup f = some d → ∃ v, vs.lookup f = some v ∧ DV K i H d v
  | [], vs, h => by
    simp only [DFs] at h
    subst h
    exact ⟨fun _ => rfl, fun d e => by cases e⟩
  | (k, d) :: fs, vs, h => by
    simp only [DFs] at h
    obtain ⟨v, r, h1, h2, h3⟩ := h
    subst h1
    obtain ⟨n1, n2⟩ := DFs.look f h3
    by_cases e : (f == k) = true
    · have e1 : List.lookup f ((k, d) :: fs) = some d := by rw [List.lookup, e]
      have e2 : List.lookup f ((k, v) :: r) = some v := by rw [List.lookup, e]
      rw [e1, e2]
      exact ⟨fun z => (by cases z), fun d' z => ⟨v, rfl, by cases z; exact h2⟩⟩
    · have e' : (f == k) = false := by simpa using e
      have e1 : List.lookup f ((k, d) :: fs) = List.lookup f fs := by rw [List.lookup, e']
      have e2 : List.lookup f ((k, v) :: r) = List.lookup f r := by rw [List.lookup, e']
      rw [e1, e2]
      exact ⟨n1, n2⟩
theorem DFs.length {K : PySem.W.Frag} {i : List Addr} {H : Hp} : ∀ {fs : List (Str × D)} {vs : List (Str × V)}, DFs K i H fs vs → fs.length = vs.length
  | [], vs, h => by
    simp only [DFs] at h
    subst h
    rfl
  | (k, d) :: fs, vs, h => by
    simp only [DFs] at h
    obtain ⟨v, r, h1, h2, h3⟩ := h
    subst h1
    rw [List.length_cons, List.length_cons, h3.length]
/-- an own method: its receiver an instance that has no such field -/
def mMethI (nm : Str) (f : Fn) (o : GE) (as : GA) : GE := fun L M => bnd (o L M) fun x M1 => match x with
  | .ref n => (match M1[n]? with
    | some (.ins fs) => if fs.lookup nm = none then bnd (as L M1) fun xs M2 => f (x :: xs) M2 else none
    | _ => none)
  | _ => none
theorem snd_meth {ta : TE} {t : TA} (s : SndG X.K X.mg C W (DV X.K) ta go) (s2 : SndG X.K X.mg C W (DLs X.K) t gs) : SndG X.K X.mg C W (DV X.K) (tMethS C m (spG X.K X.mg C g) (WE W) ta t) (mMethI m g go gs) := fun i L M σ H r Q mm l e q => by
  refine s.step mm l e q fun dx M1 i1 H1 x g1 m1 l1 rx e1 q1 => ?_
  cases dx <;> first
    | cases e1
      done
    | skip
  rename_i n
  dsimp only at e1
  split at e1
  · rename_i fs hn
    split at e1
    · rename_i hl
      have rx0 := rx
      simp only [DV] at rx
      obtain ⟨a, ha, rfl⟩ := rx
      obtain ⟨dx, vs, h1, h2⟩ := m1.ob n _ a hn ha
      refine ⟨a, dx, vs, rfl, h1, (DFs.look m h2).1 hl, ?_⟩
      refine s2.step m1 l1 e1 q1 fun ds M2 i2 H2 xs g2 m2 l2 rs e2 q2 => ?_
      refine ⟨i2, M2, .ref n :: ds, r, m2, ?_, e2, q2.call (i' := i1)⟩
      simp only [DLs]
      exact ⟨_, _, rfl, rx0.mono g2, rs⟩
    · cases e1
  · cases e1
theorem se_meth {pl : Sem Bool} (he : SE X C W o go) (c : Cls X.K C) (hm : Meth X.K C m f) (F : FnOk X.prog X.w X.K X.mg X.base (L2.CX X.prog X.w) k f fd ps (spG X.K X.mg C g)) (hr : Room k X.A) (hx : Lets X W) (hb : Binds X.K fd ps []) (ha : SA X C W (e :: es) gs)
    (hst : starEach (e :: es) X.env = (false, eval e X.env) :: starEach es X.env := by rfl) (hpl : (backTo pos (starEach es X.env)).any (·.1) = false := by rfl)
    (ht : eval (.Call (.Attribute o m apos) (e :: es) [] pos) X.env = (do
      let ov ← eval o X.env
      standAt apos.atName
      let (f, first) ← holding [ov] (getMethod ov m pl)
      callWith pos f first (backTo pos (starEach (e :: es) X.env)) (backToKw pos (keywordEach [] X.env))) := by rfl) :
    SE X C W (.Call (.Attribute o m apos) (e :: es) [] pos) (mMethI m g go gs) := by
  obtain ⟨ta, p, s⟩ := he.ex
  obtain ⟨t, p2, s2⟩ := ha.ex
  exact ⟨_, pe_methS p c hm F hr hb hx p2 hst hpl ht, snd_meth s s2⟩
theorem se_meth0 {pl : Sem Bool} (he : SE X C W o go) (c : Cls X.K C) (hm : Meth X.K C m f) (F : FnOk X.prog X.w X.K X.mg X.base (L2.CX X.prog X.w) k f fd ps (spG X.K X.mg C g)) (hr : Room k X.A) (hx : Lets X W) (hb : Binds X.K fd ps [])
    (ht : eval (.Call (.Attribute o m apos) [] [] pos) X.env = (do
      let ov ← eval o X.env
      standAt apos.atName
      let (f, first) ← holding [ov] (getMethod ov m pl)
      callWith pos f first (backTo pos (starEach [] X.env)) (backToKw pos (keywordEach [] X.env))) := by rfl) :
    SE X C W (.Call (.Attribute o m apos) [] [] pos) (mMethI m g go mNil) := by
  obtain ⟨ta, p, s⟩ := he.ex
  obtain ⟨t, p2, s2⟩ := (sa_nil (X := X) (C := C) (W := W)).ex
  exact ⟨_, pe_methS0 p c hm F hr hb hx ht, snd_meth s fun i L M σ H r Q m l e q => by
    cases e
    exact q i H [] Gro.refl m (by simp only [DLs])⟩
/-- C(e, ..) -/
def mMake (f : Fn) (as : GA) : GE := fun L M => bnd (as L M) fun xs M1 => bnd (f (.ref M1.length :: xs) (M1 ++ [.ins []])) fun v M2 => match v with
  | .non => some (.ok (.ref M1.length) M2)
  | _ => none
theorem se_make {WE' : XK} (hW : ∀ c d σ H, WE' c d H → W c d σ H) (hW2 : ∀ c d σ H, W c d σ H → WE' c d H) (Mk : Mk X.K C f) (F : FnOk X.prog X.w X.K X.mg X.base (L2.CX X.prog X.w) k f fd ps (spG X.K X.mg C g)) (hr : Room (k + 1) X.A) (hx : Passes (L2.CX X.prog X.w) X WE') (hg : Gl X x) (hm : X.mg x = some (.ref C)) (hb : Binds X.K fd ps [])
    (ha : SA X C W (e :: es) gs) (hdb : (x == ("__debug__" : Str)) = false := by decide) (he : starEach (e :: es) X.env = (false, eval e X.env) :: starEach es X.env := by rfl) (hpl : (backTo pos (starEach es X.env)).any (·.1) = false := by rfl) :
    SE X C W (.Call (.Name x p) (e :: es) [] pos) (mMake g gs) := by
  obtain ⟨t, pt, s⟩ := ha.ex
  refine ⟨_, pe_make Mk F hr hg hm hb .nil hx pt hdb he hpl, fun i L M σ H r Q m l e q => ?_⟩
  refine s.step m l e q fun ds M1 i1 H1 vs g1 m1 l1 rs e1 q1 => ?_
  intro x dx nx ndx ne
  have nx' : upd H1 dx (.own x) x = none := by rw [upd_ne (Ne.symm ne)]; exact nx
  have ga : Gro i1 H1 (i1 ++ [x]) (upd (upd H1 dx (.own x)) x (.ins C dx [])) := (ext_new ndx).trans (ext_laid nx')
  have ma : MemR X.K C (i1 ++ [x]) (M1 ++ [.ins []]) (upd (upd H1 dx (.own x)) x (.ins C dx [])) := (m1.new ndx).laid nx' ⟨dx, [], upd_same, by simp only [DFs]⟩
  have rself : DV X.K (i1 ++ [x]) (upd (upd H1 dx (.own x)) x (.ins C dx [])) (.ref M1.length) (.ref x) := by
    simp only [DV]
    exact ⟨x, by rw [← m1.len, List.getElem?_append_right (Nat.le_refl _), Nat.sub_self]; rfl, rfl⟩
  rcases bnd_some e1 with ⟨v, M2, e2, e3⟩ | ⟨c, M2, e2, rfl⟩
  · refine ⟨i1 ++ [x], M1 ++ [.ins []], .ref M1.length :: ds, _, ma, ?_, e2, ?_⟩
    · simp only [DLs]
      exact ⟨_, _, rfl, rself, by rw [List.append_nil]; exact rs.mono ga⟩
    · cases v <;> first
        | cases e3
          done
        | skip
      cases e3
      intro i' H' b g2 m2 rb
      simp only [DV] at rb
      exact ⟨rb, q1 i' H' _ (ga.trans g2) m2 (rself.mono g2)⟩
  · refine ⟨i1 ++ [x], M1 ++ [.ins []], .ref M1.length :: ds, _, ma, ?_, e2, ?_⟩
    · simp only [DLs]
      exact ⟨_, _, rfl, rself, by rw [List.append_nil]; exact rs.mono ga⟩
    · intro i' H' cc hc g2 m2
      exact hW2 _ _ _ _ (q1 i' H' cc hc (ga.trans g2) m2)
/-! ### fields -/
def oFld (nm : Str) : Op1 := fun x M => match x with
  | .ref n => (match M[n]? with
    | some (.ins fs) => (match fs.lookup nm with
      | some d => some (d, M)
      | none => none)
    | _ => none)
  | _ => none
theorem se_fld {nm : Str} (he : SE X C W e go) (c : Cls X.K C) (n : NoAttr X.K C nm) (hb : attributeBase e nm X.env (eval e X.env) = eval e X.env := by rfl) : SE X C W (.Attribute e nm pos) (mUn (oFld nm) go) := by
  obtain ⟨ta, p, s⟩ := he.ex
  refine ⟨_, pe_fld p hb, fun i L M σ H r Q mm l e q => ?_⟩
  refine s.step mm l e q fun dx M1 i1 H1 x g1 m1 l1 rx e1 q1 => ?_
  obtain ⟨d, M', h1, h2⟩ := snd_ret e1 q1
  unfold oFld at h1
  split at h1
  · rename_i n'
    split at h1
    · rename_i fs hn
      split at h1
      · rename_i d' hd
        cases h1
        simp only [DV] at rx
        obtain ⟨a, ha, rfl⟩ := rx
        obtain ⟨dx, vs, k1, k2⟩ := m1.ob _ _ a hn ha
        obtain ⟨v, k3, k4⟩ := (DFs.look nm k2).2 _ hd
        exact ⟨a, C, dx, vs, v, rfl, k1, c, n, k3, h2 i1 H1 v Gro.refl m1 k4⟩
      · cases h1
    · cases h1
  · cases h1
def fput (f : Str) (v : D) : List (Str × D) → List (Str × D)
  | [] => [(f, v)]
  | (g, x) :: r => if g = f then (g, v) :: r else (g, x) :: fput f v r
theorem DFs.put {K : PySem.W.Frag} {i : List Addr} {H : Hp} {f : Str} {d : D} {v : V} (r : DV K i H d v) : ∀ {fs : List (Str × D)} {vs : List (Str × V)}, DFs K i H fs vs → DFs K i H (fput f d fs) (putF f v vs)
  | [], vs, h => by
    simp only [DFs] at h
    subst h
    simp only [fput, putF, DFs]
    exact ⟨v, [], rfl, r, rfl⟩
  | (k, d') :: fs, vs, h => by
    simp only [DFs] at h
    obtain ⟨v', r', h1, h2, h3⟩ := h
    subst h1
    simp only [fput, putF]
    by_cases e : k = f
    · rw [if_pos e, if_pos e]
      simp only [DFs]
      exact ⟨_, _, rfl, r, h3⟩
    · rw [if_neg e, if_neg e]
      simp only [DFs]
      exact ⟨_, _, rfl, h2, DFs.put r h3⟩
def oFldPut (nm : Str) : D → D → Mem → Option Mem := fun x v M => match x with
  | .ref n => (match M[n]? with
    | some (.ins fs) => if fs.length < 1000 then some (M.set n (.ins (fput nm v fs))) else none
    | _ => none)
  | _ => none
theorem ss_fld {nm : Str} {value : Expr} {gv : GE} {pos' : Pos} (hv : SE X C W value gv) (he : SE X C W e go) (c : Cls X.K C) (n : NoAttr X.K C nm) (hs : swapsWith value (some (.Attribute e nm pos')) pos.line X.env = pure false := by rfl) :
    SS X C W (.Assign [.Attribute e nm pos'] value pos) (mFldPut (oFldPut nm) go gv) := by
  obtain ⟨ta, p, s⟩ := he.ex
  obtain ⟨tv, p2, s2⟩ := hv.ex
  refine ⟨_, ps_fld p p2 hs, fun i L M σ H D r mm l e q => ?_⟩
  refine s2.stepS mm l e q fun dv M1 i1 H1 v g1 m1 l1 rv e1 q1 => ?_
  refine s.stepS m1 l1 e1 q1 fun dx M2 i2 H2 x g2 m2 l2 rx e2 q2 => ?_
  unfold oFldPut at e2
  cases dx <;> first
    | cases e2
      done
    | skip
  rename_i n'
  dsimp only at e2
  cases hn : M2[n']? with
  | none => rw [hn] at e2; cases e2
  | some ob =>
    rw [hn] at e2
    cases ob <;> first
      | cases e2
        done
      | skip
    rename_i fs
    dsimp only at e2
    by_cases hl : fs.length < 1000
    · rw [if_pos hl] at e2
      cases e2
      simp only [DV] at rx
      obtain ⟨a, ha, rfl⟩ := rx
      obtain ⟨dx, vs, k1, k2⟩ := m2.ob _ _ a hn ha
      have gw := ext_write (o := .ins C dx (putF nm v vs)) m2 ha
      refine ⟨a, C, dx, vs, rfl, k1, c, n, by rw [← DFs.length k2]; exact hl, ?_⟩
      exact q2 i2 _ σ gw (m2.write ha ⟨dx, _, upd_same, ((rv.mono g2).mono gw |> fun z => DFs.put z (k2.mono gw))⟩) (l2.mono gw)
    · rw [if_neg hl] at e2
      cases e2
end
end BL
/-! BLLoop: statements, loops, comprehensions, defs. -/
namespace BL
open PySem L2

section
variable {X : Cx} {C : Addr} {W : WX} {e o i c : Expr} {es : List Expr} {ge go gi : GE} {gt : GT} {gs : GA} {x : Str} {pos pos' : Pos} {st : Stmt} {rest body : List Stmt} {ga gb : GS}
/-! ### blocks -/
theorem sss_nil : SSs X C W [] mSkip := ⟨_, pss_nil, fun i L M σ H D r m l e q => by
  cases e
  exact q i H σ Gro.refl m l⟩
theorem sss_cons (h1 : SS X C W st ga) (h2 : SSs X C W rest gb) : SSs X C W (st :: rest) (mSeq ga gb) := by
  obtain ⟨t, p, s⟩ := h1.ex
  obtain ⟨u, p2, s2⟩ := h2.ex
  refine ⟨_, pss_cons p p2, fun i L M σ H D r m l e q => ?_⟩
  show t { D with nx := u D } σ H
  unfold mSeq at e
  cases e1 : ga L M with
  | none => rw [e1] at e; cases e
  | some z =>
    obtain ⟨f, M1⟩ := z
    rw [e1] at e
    cases f with
    | nx L1 => exact s i L M σ H _ _ m l e1 fun i' H' σ' g m' l' => s2 i' L1 M1 σ' H' D r m' l' e (q.go g)
    | rt d =>
      cases e
      exact s i L M σ H _ _ m l e1 q
    | bk L1 =>
      cases e
      exact s i L M σ H _ _ m l e1 q
    | ct L1 =>
      cases e
      exact s i L M σ H _ _ m l e1 q
    | ex c L1 =>
      cases e
      exact s i L M σ H _ _ m l e1 q
theorem sss_one (h1 : SS X C W st ga) : SSs X C W [st] ga := by
  obtain ⟨t, p, s⟩ := h1.ex
  exact ⟨_, pss_one p, s⟩
theorem ss_expr (he : SE X C W e ge) (hs : swapsWith e none pos.line X.env = pure false := by rfl) : SS X C W (.Expr e pos) (mExpr ge) := by
  obtain ⟨t, p, s⟩ := he.ex
  refine ⟨_, ps_expr p hs, fun i L M σ H D r m l e q => ?_⟩
  refine s.stepS m l e q fun dx M1 i1 H1 x g1 m1 l1 rx e1 q1 => ?_
  cases e1
  exact q1 i1 H1 σ Gro.refl m1 l1
theorem ss_ret (he : SE X C W e ge) : SS X C W (.Return (some e) pos) (mRet ge) := by
  obtain ⟨t, p, s⟩ := he.ex
  refine ⟨_, ps_ret p, fun i L M σ H D r m l e q => ?_⟩
  refine s.stepS m l e q fun dx M1 i1 H1 x g1 m1 l1 rx e1 q1 => ?_
  cases e1
  exact q1 i1 H1 x Gro.refl m1 rx
theorem ss_retN : SS X C W (.Return none pos) mRetN := ⟨_, ps_retN, fun i L M σ H D r m l e q => by
  cases e
  exact q i H .non Gro.refl m (by simp only [DV])⟩
theorem ss_if (hc : ST X C W c gt) (ha : SSs X C W body ga) (hb : SSs X C W rest gb) : SS X C W (.If c body rest pos) (mIte gt ga gb) := by
  obtain ⟨t, p, s⟩ := hc.ex
  obtain ⟨u, p2, s2⟩ := ha.ex
  obtain ⟨v, p3, s3⟩ := hb.ex
  refine ⟨_, ps_if p p2 p3, fun i L M σ H D r m l e q => ?_⟩
  refine s.stepS m l e q fun b M1 i1 H1 x g1 m1 l1 rx e1 q1 => ?_
  cases rx
  cases b with
  | true => exact s2 i1 L M1 σ H1 D r m1 l1 e1 q1
  | false => exact s3 i1 L M1 σ H1 D r m1 l1 e1 q1
theorem ss_set {n : Nat} (hN : X.N.Nodup) (hi : X.N[n]? = some x) (hx : L2.Loc X.env.scope x) (he : SE X C W e ge) (hs : swapsWith e (some (.Name x pos')) pos.line X.env = pure false := by rfl) (hf : X.fn x = true ∨ X.env.scope.names.lookup x = some .local := by first | exact .inl rfl | exact .inr rfl | assumption) :
    SS X C W (.Assign [.Name x pos'] e pos) (mSet n ge) := by
  obtain ⟨t, p, s⟩ := he.ex
  refine ⟨_, ps_set hN hi hx p hs hf, fun i L M σ H D r m l e q => ?_⟩
  refine s.stepS m l e q fun dx M1 i1 H1 x g1 m1 l1 rx e1 q1 => ?_
  cases e1
  exact q1 i1 H1 _ Gro.refl m1 (l1.set n rx)
/-! ### o[i] = e -/
def rOS (K : PySem.W.Frag) (C : Addr) (op : D → D → D → Mem → Option Mem) : TSet := fun x k v H Q => ∃ i M dx dk dv M', MemR K C i M H ∧ DV K i H dx x ∧ DV K i H dk k ∧ DV K i H dv v ∧ op dx dk dv M = some M' ∧ ∀ i' H', Gro i H i' H' → MemR K C i' M' H' → Q H'
theorem ss_put {op : D → D → D → Mem → Option Mem} (hop : PSet X (rOS X.K C op)) (ho : SE X C W o go) (hi : SE X C W i gi) (he : SE X C W e ge)
    (ha : ∀ v, assign (.Subscript o i pos') X.env v = (do
      let ov ← holding [v] (eval o X.env)
      let iv ← holding [v, ov] (eval i X.env)
      standAt pos'
      holding [v, ov, iv] (setItem ov iv v)
      release [v, ov, iv] []) := by intro _; rfl)
    (hs : swapsWithSole [.Subscript o i pos'] e pos.line X.env = pure false := by rfl) (hw : swappedStores [.Subscript o i pos'] e X.env = pure none := by rfl)
    (h1 : (assignEach [.Subscript o i pos'] X.env).map (·.2) = [assign (.Subscript o i pos') X.env] := by rfl) : SS X C W (.Assign [.Subscript o i pos'] e pos) (mPut op go gi ge) := by
  obtain ⟨t, p, s⟩ := he.ex
  obtain ⟨t2, p2, s2⟩ := ho.ex
  obtain ⟨t3, p3, s3⟩ := hi.ex
  refine ⟨_, ps_asg p (pg_sub p2 p3 hop ha) hs hw h1, fun i L M σ H D r m l e q => ?_⟩
  refine s.stepS m l e q fun dv M1 i1 H1 v g1 m1 l1 rv e1 q1 => ?_
  refine s2.stepS m1 l1 e1 q1 fun dx M2 i2 H2 x g2 m2 l2 rx e2 q2 => ?_
  refine s3.stepS m2 l2 e2 q2 fun dk M3 i3 H3 k g3 m3 l3 rk e3 q3 => ?_
  cases h : op dx dk dv M3 with
  | none =>
    rw [h] at e3
    cases e3
  | some M4 =>
    rw [h] at e3
    cases e3
    exact ⟨i3, M3, dx, dk, dv, M4, m3, rx.mono g3, rk, (rv.mono g2).mono g3, h, fun i' H' g m' => q3 i' H' σ g m' (l3.mono g)⟩
/-! ### raise -/
theorem ss_raise {cn : Str} {cc : Addr} (hc : X.calm = true) (tk : Takes X W) (hm : X.mg cn = some (.ref cc)) (he : PMk X e (fun _ H Q => Q (.ref cc) none H)) : SS X C W (.Raise (some e) none pos) (mRaise cn) :=
  ⟨_, ps_raise hc tk he, fun i L M σ H D r m l e q => by
    cases e
    exact q i H σ cc hm Gro.refl m l⟩
/-! ### targets -/
theorem stg_name {n : Nat} (hN : X.N.Nodup) (hi : X.N[n]? = some x) (hx : L2.Loc X.env.scope x) (hf : X.fn x = true ∨ X.env.scope.names.lookup x = some .local := by first | exact .inl rfl | exact .inr rfl | assumption) : STg X C (.Name x pos) (mName n) :=
  ⟨_, pg_name hN hi hx hf, fun i L M σ H d v L1 Q m l r e q => by
    cases e
    exact q i H _ Gro.refl m (l.set n r)⟩
theorem DV.tup2 {K : PySem.W.Frag} {i : List Addr} {H : Hp} {x y : D} {v : V} (r : DV K i H (.tup [x, y]) v) : ∃ a u w, v = .ref a ∧ TupAt K H a [u, w] ∧ DV K i H x u ∧ DV K i H y w := by
  simp only [DV, DLs] at r
  obtain ⟨a, vs, h1, h2, u, r1, h3, h4, w, r2, h5, h6, h7⟩ := r
  subst h7 h5 h3
  exact ⟨a, u, w, h1, h2, h4, h6⟩
theorem stg_name2 {x y : Str} {n k j : Nat} {p1 p2 : Pos} (hc : X.calm = true) (hN : X.N.Nodup) (hi : X.N[n]? = some x) (hx : L2.Loc X.env.scope x) (hj : X.N[k]? = some y) (hy : L2.Loc X.env.scope y)
    (hf : X.fn x = true ∨ X.env.scope.names.lookup x = some .local := by first | exact .inl rfl | exact .inr rfl | assumption) (hf2 : X.fn y = true ∨ X.env.scope.names.lookup y = some .local := by first | exact .inl rfl | exact .inr rfl | assumption)
    (hn : (assignEach [.Name x p1, .Name y p2] X.env).length = 2 := by rfl) (hst : (assignEach [.Name x p1, .Name y p2] X.env).findIdx? (·.1) = none := by rfl) : STg X C (.Tuple [.Name x p1, .Name y p2] j pos) (mName2 n k) :=
  ⟨_, pg_tup hc (pgs_cons (pg_name hN hi hx hf) (pgs_cons (pg_name hN hj hy hf2) pgs_nil)) hn hst, fun i L M σ H d v L1 Q m l r e q => by
    unfold mName2 at e
    split at e
    · cases e
      obtain ⟨a, u, w, rfl, h2, h3, h4⟩ := r.tup2
      exact ⟨a, [u, w], rfl, h2.seq, rfl, u, [w], rfl, w, [], rfl, rfl, q i H _ Gro.refl m ((l.set n h3).set k h4)⟩
    · cases e⟩
/-! ### for -/
theorem forG_sound {K : PySem.W.Frag} {mg : Str → Option Value} {src : Src} {g : GG} {tg : TG} {tb : TS} {i0 : List Addr} {H0 : Hp} {D : Ends} {J : It} {r0 : Fl × Mem} (st : SndT K C tg g) (sb : SndS K mg C W tb gb) (j : JR K C i0 H0 src J) (q : EndS K mg C W i0 H0 D r0)
    {L : Loc} {M : Mem} {σ : L2.St} (m : MemR K C i0 M H0) (l : LocR K i0 H0 L σ) (e : forG src.ok g gb src.items L M = some r0) :
    ∃ W' : Nat → Nat → L2.St → Hp → Prop, (∃ m, W' 0 m σ H0) ∧ ∀ i m σ H, W' i m σ H →
      (J.stop i H ∧ D.nx σ H) ∨ (J.go i H ∧ ∃ N : L2.St → Hp → Prop, (∀ σ' H', N σ' H' → ∃ m', m' < m ∧ W' (i + 1) m' σ' H') ∧ ∀ x H', J.yld i H x H' → tg x σ H' fun σ2 H2 => tb { D with nx := N, ct := N, bk := D.nx } σ2 H2) := by
  refine ⟨fun n k σ H => k = src.items.length - n ∧ n ≤ src.items.length ∧ ∃ i L M, Gro i0 H0 i H ∧ MemR K C i M H ∧ LocR K i H L σ ∧ forG src.ok g gb (src.items.drop n) L M = some r0, ⟨_, rfl, Nat.zero_le _, i0, L, M, Gro.refl, m, l, by simpa using e⟩, ?_⟩
  rintro n k σ H ⟨rfl, hn, i, L, M, gr, m, l, e⟩
  by_cases hlt : n < src.items.length
  · rw [List.drop_eq_getElem_cons hlt] at e
    unfold forG at e
    split at e
    · rename_i hok
      obtain ⟨j1, j2⟩ := j i H M n gr m hok
      obtain ⟨jg, jy⟩ := j1 src.items[n] (List.getElem?_eq_getElem hlt)
      cases hg : g src.items[n] L with
      | none =>
        rw [hg] at e
        cases e
      | some L1 =>
        rw [hg] at e
        dsimp only at e
        refine .inr ⟨jg, fun σ' H' => ∃ i L M, Gro i0 H0 i H' ∧ MemR K C i M H' ∧ LocR K i H' L σ' ∧ forG src.ok g gb (src.items.drop (n + 1)) L M = some r0, fun σ' H' ⟨i', L', M', z⟩ => ⟨src.items.length - (n + 1), by omega, rfl, hlt, i', L', M', z⟩, fun x H1 y => ?_⟩
        obtain ⟨g1, m1, rx⟩ := jy x H1 y
        refine st i L M σ H1 _ x L1 _ m1 (l.mono g1) rx hg fun i2 H2 σ2 g2 m2 l2 => ?_
        cases hb : gb L1 M with
        | none =>
          rw [hb] at e
          cases e
        | some z =>
          obtain ⟨f, M2⟩ := z
          rw [hb] at e
          have gg := (gr.trans g1).trans g2
          refine sb i2 L1 M σ2 H2 _ _ m2 l2 hb ?_
          cases f with
          | nx L2 => exact fun i3 H3 σ3 g3 m3 l3 => ⟨i3, L2, M2, gg.trans g3, m3, l3, e⟩
          | ct L2 => exact fun i3 H3 σ3 g3 m3 l3 => ⟨i3, L2, M2, gg.trans g3, m3, l3, e⟩
          | bk L2 =>
            cases e
            exact fun i3 H3 σ3 g3 m3 l3 => q i3 H3 σ3 (gg.trans g3) m3 l3
          | rt d =>
            cases e
            exact fun i3 H3 v g3 m3 r3 => q i3 H3 v (gg.trans g3) m3 r3
          | ex c L2 =>
            cases e
            exact fun i3 H3 σ3 cc hc g3 m3 l3 => q i3 H3 σ3 cc hc (gg.trans g3) m3 l3
    · cases e
  · have en : n = src.items.length := by omega
    subst en
    rw [List.drop_length] at e
    unfold forG at e
    split at e
    · rename_i hok
      cases e
      obtain ⟨j1, j2⟩ := j i H M src.items.length gr m hok
      exact .inl ⟨j2 (Nat.le_refl _), q i H σ gr m l⟩
    · cases e
theorem ss_for {tg iter : Expr} {gi : GI} {g : GG} (hp : PassesOwn (model X.prog X.w) X.A X.env X.xe) (hc : X.calm = true) (hi : SI X C W tg iter gi) (hg : STg X C tg g) (hb : SSs X C W body gb) (hs : ∀ x, foldedSetIterable iter X.env x = pure x := by intro _; rfl) :
    SS X C W (.For tg iter body [] pos) (mFor gi g gb) := by
  obtain ⟨t, p, s⟩ := hi.ex
  obtain ⟨t2, p2, s2⟩ := hg.ex
  obtain ⟨t3, p3, s3⟩ := hb.ex
  refine ⟨_, ps_for hp hc p p2 p3 hs, fun i L M σ H D r m l e q => ?_⟩
  refine s.stepS m l e q fun src M1 i1 H1 J g1 m1 l1 j e1 q1 => ?_
  exact forG_sound s2 s3 j q1 m1 l1 e1
/-! ### while -/
theorem whileF_mono (t : GT) (b : GS) : ∀ (n k : Nat) (L : Loc) (M : Mem) (r : Fl × Mem), whileF t b n L M = some r → whileF t b (n + k) L M = some r
  | 0, _, _, _, _, h => by
    unfold whileF at h
    cases h
  | n + 1, k, L, M, r, h => by
    rw [show n + 1 + k = (n + k) + 1 by omega]
    unfold whileF at h ⊢
    rcases bndS_some h with ⟨c, M1, h1, h2⟩ | ⟨c, M1, h1, h2⟩
    · rw [h1]
      simp only [bndS_ok]
      cases c with
      | false => exact h2
      | true =>
        simp only [if_pos] at h2 ⊢
        cases hb : b L M1 with
        | none =>
          rw [hb] at h2
          cases h2
        | some z =>
          obtain ⟨f, M2⟩ := z
          rw [hb] at h2
          cases f with
          | nx L2 => exact whileF_mono t b n k _ _ _ h2
          | ct L2 => exact whileF_mono t b n k _ _ _ h2
          | bk L2 => exact h2
          | rt d => exact h2
          | ex c L2 => exact h2
    · rw [h1, h2]
      rfl
theorem whileF_det {t : GT} {b : GS} {n k : Nat} {L : Loc} {M : Mem} {r r' : Fl × Mem} (h : whileF t b n L M = some r) (h' : whileF t b k L M = some r') : r = r' := by
  have a := whileF_mono t b n k L M r h
  have b := whileF_mono t b k n L M r' h'
  rw [Nat.add_comm k n] at b
  exact Option.some.inj (a.symm.trans b)
theorem mWhile_of {t : GT} {b : GS} {n : Nat} {L : Loc} {M : Mem} {r : Fl × Mem} (h : whileF t b n L M = some r) : mWhile t b L M = some r := by
  have ex : ∃ n, (whileF t b n L M).isSome = true := ⟨n, by rw [h]; rfl⟩
  unfold mWhile
  rw [dif_pos ex]
  have h2 := Classical.choose_spec ex
  cases h3 : whileF t b (Classical.choose ex) L M with
  | none =>
    rw [h3] at h2
    cases h2
  | some z => rw [whileF_det h3 h]
theorem of_mWhile {t : GT} {b : GS} {L : Loc} {M : Mem} {r : Fl × Mem} (h : mWhile t b L M = some r) : ∃ n, whileF t b n L M = some r := by
  unfold mWhile at h
  split at h
  · exact ⟨_, h⟩
  · cases h
theorem ss_while {gt : GT} (hp : PassesOwn (model X.prog X.w) X.A X.env X.xe) (hc : ST X C W c gt) (hb : SSs X C W body gb) : SS X C W (.While c body [] pos) (mWhile gt gb) := by
  obtain ⟨t, p, s⟩ := hc.ex
  obtain ⟨u, p2, s2⟩ := hb.ex
  refine ⟨_, ps_while hp p p2, fun i0 L M σ H0 D r0 m l e q => ?_⟩
  obtain ⟨n0, e0⟩ := of_mWhile e
  refine ⟨fun n σ H => ∃ i L M, Gro i0 H0 i H ∧ MemR X.K C i M H ∧ LocR X.K i H L σ ∧ whileF gt gb n L M = some r0, ⟨n0, i0, L, M, Gro.refl, m, l, e0⟩, ?_⟩
  rintro n σ H ⟨i, L, M, gr, m, l, e⟩
  cases n with
  | zero =>
    unfold whileF at e
    cases e
  | succ n =>
    unfold whileF at e
    refine s.stepS m l e (q.go gr) fun b M1 i1 H1 x g1 m1 l1 rx e1 q1 => ?_
    cases rx
    cases b with
    | false =>
      cases e1
      exact q1 i1 H1 σ Gro.refl m1 l1
    | true =>
      simp only [if_pos] at e1
      refine ⟨fun σ' H' => ∃ i L M, Gro i0 H0 i H' ∧ MemR X.K C i M H' ∧ LocR X.K i H' L σ' ∧ whileF gt gb n L M = some r0, fun σ' H' z => ⟨n, Nat.lt_succ_self _, z⟩, ?_⟩
      cases hb : gb L M1 with
      | none =>
        rw [hb] at e1
        cases e1
      | some z =>
        obtain ⟨f, M2⟩ := z
        rw [hb] at e1
        have gg := gr.trans g1
        refine s2 i1 L M1 σ H1 _ _ m1 l1 hb ?_
        cases f with
        | nx L2 => exact fun i3 H3 σ3 g3 m3 l3 => ⟨i3, L2, M2, gg.trans g3, m3, l3, e1⟩
        | ct L2 => exact fun i3 H3 σ3 g3 m3 l3 => ⟨i3, L2, M2, gg.trans g3, m3, l3, e1⟩
        | bk L2 =>
          cases e1
          exact fun i3 H3 σ3 g3 m3 l3 => q i3 H3 σ3 (gg.trans g3) m3 l3
        | rt d =>
          cases e1
          exact fun i3 H3 v g3 m3 r3 => q i3 H3 v (gg.trans g3) m3 r3
        | ex c L2 =>
          cases e1
          exact fun i3 H3 σ3 cc hc g3 m3 l3 => q i3 H3 σ3 cc hc (gg.trans g3) m3 l3
end
end BL
/-! BLComp: comprehensions; a def's promise. -/
namespace BL
open PySem L2

abbrev W0 : WX := fun _ _ _ _ => False
/-- a reading made of the machine's step -/
def tG {α β : Type} (K : PySem.W.Frag) (mg : Str → Option Value) (C : Addr) (W : WX) (R : List Addr → Hp → α → β → Prop) (g : Loc → Mem → Option (Rz α)) : L2.St → Hp → (β → Hp → Prop) → Prop :=
  fun σ H Q => ∃ i L M r, MemR K C i M H ∧ LocR K i H L σ ∧ g L M = some r ∧ EndG K mg C W R i H σ Q r
section
variable {X : Cx} {C : Addr} {W : WX}
theorem SE.pe {e : Expr} {g : GE} (h : SE X C W e g) : PE X e (tG X.K X.mg C W (DV X.K) g) := by
  obtain ⟨t, p, s⟩ := h.ex
  exact ⟨fun pins sh σ H Q I ⟨i, L, M, r, m, l, e, q⟩ => p.run pins sh σ H Q I (s i L M σ H r Q m l e q)⟩
theorem ST.pt {e : Expr} {g : GT} (h : ST X C W e g) : PT X e (tG X.K X.mg C W RB g) := by
  obtain ⟨t, p, s⟩ := h.ex
  exact ⟨fun pins sh σ H Q I ⟨i, L, M, r, m, l, e, q⟩ => p.run pins sh σ H Q I (s i L M σ H r Q m l e q)⟩
theorem pts_imp {ifs : List Expr} {t t' : TT} (h : PTs X ifs t) (i : ∀ σ H Q, t' σ H Q → t σ H Q) : PTs X ifs t' := ⟨fun pins s σ H Q I hw => h.run pins s σ H Q I (i σ H Q hw)⟩
theorem MemR.app {K : PySem.W.Frag} {i : List Addr} {M : Mem} {H : Hp} (m : MemR K C i M H) {p : Addr} {ob : Ob} (hp : p ∉ i) (r : ObR K C (i ++ [p]) H p ob) : MemR K C (i ++ [p]) (M ++ [ob]) H := by
  have mo : Mon i H (i ++ [p]) H := ⟨⟨[p], rfl⟩, fun _ _ h => h, fun _ _ _ h => h⟩
  refine ⟨by simp [m.len], ?_, fun n o' a h1 h2 => ?_⟩
  · rw [List.nodup_append]
    refine ⟨m.nd, by simp, fun a ha b hb => ?_⟩
    have : b = p := by simpa using hb
    subst this
    intro e
    subst e
    exact hp ha
  · by_cases hn : n < M.length
    · rw [List.getElem?_append_left hn] at h1
      rw [List.getElem?_append_left (by rw [m.len]; exact hn)] at h2
      exact ob_mono mo (fun u e => e) (m.ob n o' a h1 h2)
    · have e1 : n = M.length := by
        have := (List.getElem?_eq_some_iff.mp h1).1
        simp at this
        omega
      subst e1
      rw [List.getElem?_append_right (Nat.le_refl _), Nat.sub_self] at h1
      rw [List.getElem?_append_right (by rw [m.len]; exact Nat.le_refl _), m.len, Nat.sub_self] at h2
      have e2 : ob = o' := Option.some.inj h1
      have e3 : p = a := Option.some.inj h2
      subst e2 e3
      exact r
theorem dl_append {K : PySem.W.Frag} {i : List Addr} {H : Hp} {d : D} {v : V} (r : DV K i H d v) : ∀ {ds : List D} {vs : List V}, DLs K i H ds vs → DLs K i H (ds ++ [d]) (vs ++ [v])
  | [], vs, h => by
    simp only [DLs] at h
    subst h
    simp only [List.nil_append, DLs]
    exact ⟨v, [], rfl, r, rfl⟩
  | x :: ds, vs, h => by
    simp only [DLs] at h
    obtain ⟨v', r', h1, h2, h3⟩ := h
    subst h1
    simp only [List.cons_append, DLs]
    exact ⟨v', _, rfl, h2, dl_append r h3⟩
theorem wipe_loc {K : PySem.W.Frag} {i : List Addr} {H : Hp} {L : Loc} {σ : L2.St} (l : LocR K i H L σ) : ∀ vs : List Nat, LocR K i H (wipeL L vs) (wipe σ vs)
  | [] => l
  | v :: vs => (wipe_loc l vs).forget v
theorem lcG_sound {K : PySem.W.Frag} {mg : Str → Option Value} {src : Src} {g : GG} {tg : TG} {tt : TT} {te : TE} {gt : GT} {ge : GE} {vs : List Nat} {i0 : List Addr} {H0 : Hp} {J : It} {ys : List D} {Mf : Mem} {Q : VK} {σ : L2.St} {L : Loc} {M : Mem}
    (st : SndC K C vs tg g) (sc : SndG K mg C W0 RB tt gt) (se : SndG K mg C W0 (DV K) te ge) (j : JR K C i0 H0 src J) (m : MemR K C i0 M H0) (l : LocR K i0 H0 L σ) (e : lcG src.ok g gt ge (wipeL L vs) src.items M = some (ys, Mf))
    (hy : ys.length < 16000000) (q : ∀ i' H' z, Gro i0 H0 i' H' → MemR K C i' (Mf ++ [.lst ys]) H' → DV K i' H' (.ref Mf.length) z → Q z H') (D : Addr) (hD : H0 D = none) :
    ∃ W' : Nat → Nat → Hp → Prop, (∃ m, W' 0 m (upd H0 D (.lst []))) ∧ ∀ i m H, W' i m H →
      (J.stop i H ∧ Q (.ref D) H) ∨ (J.go i H ∧ ∃ Nx : Hp → Prop, (∀ H', Nx H' → ∃ m', m' < m ∧ W' (i + 1) m' H') ∧ ∀ x H', J.yld i H x H' → tg x (wipe σ vs) H' fun σ2 H2 => wipe σ2 vs = wipe σ vs ∧ tt σ2 H2 fun b H3 =>
        if b = true then te σ2 H3 fun y H4 => ∃ acc, H4 D = some (.lst acc) ∧ acc.length < sizeLine ∧ Nx (upd H4 D (.lst (acc ++ [y]))) else Nx H3) := by
  refine ⟨fun n k H => k = src.items.length - n ∧ n ≤ src.items.length ∧ ∃ i M acc da ys2, Gro i0 H0 i H ∧ MemR K C i M H ∧ H D = some (.lst acc) ∧ D ∉ i ∧ DLs K i H da acc ∧ lcG src.ok g gt ge (wipeL L vs) (src.items.drop n) M = some (ys2, Mf) ∧ da ++ ys2 = ys,
    ⟨_, rfl, Nat.zero_le _, i0, M, [], [], ys, ext_new hD, m.new hD, upd_same, m.ne hD, by simp only [DLs], by simpa using e, rfl⟩, ?_⟩
  rintro n k H ⟨rfl, hn, i, M, acc, da, ys2, gr, m, eD, nD, ra, e, ey⟩
  by_cases hlt : n < src.items.length
  · rw [List.drop_eq_getElem_cons hlt] at e
    unfold lcG at e
    split at e
    · rename_i hok
      obtain ⟨j1, j2⟩ := j i H M n gr m hok
      obtain ⟨jg, jy⟩ := j1 src.items[n] (List.getElem?_eq_getElem hlt)
      refine .inr ⟨jg, fun H' => ∃ i M acc da ys2, Gro i0 H0 i H' ∧ MemR K C i M H' ∧ H' D = some (.lst acc) ∧ D ∉ i ∧ DLs K i H' da acc ∧ lcG src.ok g gt ge (wipeL L vs) (src.items.drop (n + 1)) M = some (ys2, Mf) ∧ da ++ ys2 = ys,
        fun H' z => ⟨src.items.length - (n + 1), by omega, rfl, hlt, z⟩, fun x H1 y => ?_⟩
      obtain ⟨g1, m1, rx⟩ := jy x H1 y
      cases hg : g src.items[n] (wipeL L vs) with
      | none =>
        rw [hg] at e
        cases e
      | some L1 =>
        rw [hg] at e
        dsimp only [Option.bind] at e
        have gr1 := gr.trans g1
        refine st i L M σ H1 _ x L1 _ m1 (wipe_loc (l.mono gr1) vs) rx hg fun i2 H2 σ2 g2 m2 l2 hw => ⟨hw, ?_⟩
        have gr2 := gr1.trans g2
        -- the list stands where it was
        have keepD : ∀ {i' : List Addr} {H' : Hp}, Gro i H i' H' → H' D = some (.lst acc) ∧ D ∉ i' := fun {i' H'} gg => ⟨gg.fr _ _ eD nD, fun z => by
          rcases gg.new D z with z | z
          · exact nD z
          · rw [eD] at z
            cases z⟩
        cases hc : okO (gt L1 M) with
        | none =>
          rw [hc] at e
          cases e
        | some pc =>
          obtain ⟨c, M1⟩ := pc
          have hc' := okO_some hc
          rw [hc] at e
          dsimp only at e
          refine sc i2 L1 M σ2 H2 _ _ m2 l2 hc' ?_
          intro i3 H3 b g3 m3 rb
          cases rb
          have gi3 : Gro i H i3 H3 := (g1.trans g2).trans g3
          have gr3 := gr.trans gi3
          cases c with
          | false =>
            rw [if_neg Bool.false_ne_true] at e
            show (if false = true then _ else _)
            rw [if_neg Bool.false_ne_true]
            obtain ⟨k1, k2⟩ := keepD gi3
            exact ⟨i3, M1, acc, da, ys2, gr3, m3, k1, k2, ra.mono gi3, e, ey⟩
          | true =>
            rw [if_pos rfl] at e
            show (if true = true then _ else _)
            rw [if_pos rfl]
            cases hq : okO (ge L1 M1) with
            | none =>
              rw [hq] at e
              cases e
            | some pq =>
              obtain ⟨d, M2⟩ := pq
              have hq' := okO_some hq
              rw [hq] at e
              dsimp only at e
              refine se i3 L1 M1 σ2 H3 _ _ m3 (l2.mono g3) hq' ?_
              intro i4 H4 v g4 m4 rv
              have gi4 := gi3.trans g4
              have gr4 := gr.trans gi4
              obtain ⟨k1, k2⟩ := keepD gi4
              cases hz : lcG src.ok g gt ge (wipeL L vs) (src.items.drop (n + 1)) M2 with
              | none =>
                rw [hz] at e
                cases e
              | some pz =>
                obtain ⟨zs, Mz⟩ := pz
                rw [hz] at e
                dsimp only at e
                have e' := Option.some.inj e
                cases e'
                have hlen : acc.length < sizeLine := by
                  have h1 := ra.length
                  have h2 : da.length ≤ ys.length := by rw [← ey, List.length_append]; omega
                  rw [PySem.sizeLine_eq]
                  omega
                refine ⟨acc, k1, hlen, i4, M2, acc ++ [v], da ++ [d], zs, ?_, ?_, upd_same, k2, ?_, hz, by rw [← ey]; simp⟩
                · refine ⟨gr4.pre, gr4.new, fun a o ha hi => ?_, fun a xs ha => ?_, fun a o u ha => ?_⟩
                  · rw [upd_ne (ne_of_none ha hD)]
                    exact gr4.fr a o ha hi
                  · rw [upd_ne (ne_of_none ha hD)]
                    exact gr4.tups a xs ha
                  · rw [upd_ne (ne_of_none ha hD)]
                    exact gr4.frzs a o u ha
                · refine ⟨m4.len, m4.nd, fun n' o' a h1 h2 => ?_⟩
                  refine ob_mono ⟨⟨[], by simp⟩, fun a xs ha => ?_, fun a o u ha => ?_⟩ (fun u hu => ?_) (m4.ob n' o' a h1 h2)
                  · rw [upd_ne (ne_of ha k1 (by intro z; cases z))]
                    exact ha
                  · rw [upd_ne (ne_of ha k1 (by intro z; cases z))]
                    exact ha
                  · rw [upd_ne fun z => k2 (by rw [← z]; exact List.mem_of_getElem? h2)]
                    exact hu
                · have mo : Mon i4 H4 i4 (upd H4 D (.lst (acc ++ [v]))) := ⟨⟨[], by simp⟩, fun a xs ha => by rw [upd_ne (ne_of ha k1 (by intro z; cases z))]; exact ha, fun a o u ha => by rw [upd_ne (ne_of ha k1 (by intro z; cases z))]; exact ha⟩
                  exact dl_mono mo _ _ (dl_append rv (ra.mono gi4))
    · cases e
  · have en : n = src.items.length := by omega
    subst en
    rw [List.drop_length] at e
    unfold lcG at e
    split at e
    · rename_i hok
      cases e
      obtain ⟨j1, j2⟩ := j i H Mf src.items.length gr m hok
      rw [List.append_nil] at ey
      subst ey
      refine .inl ⟨j2 (Nat.le_refl _), q (i ++ [D]) H _ ?_ (m.app nD ⟨acc, eD, ?_⟩) ?_⟩
      · obtain ⟨ll, el⟩ := gr.pre
        refine ⟨⟨ll ++ [D], by rw [el, List.append_assoc]⟩, fun a ha => ?_, gr.fr, gr.tups, gr.frzs⟩
        rcases List.mem_append.mp ha with z | z
        · exact gr.new a z
        · have : a = D := by simpa using z
          subst this
          exact .inr hD
      · exact dl_mono ⟨⟨[D], rfl⟩, fun _ _ h => h, fun _ _ _ h => h⟩ _ _ ra
      · simp only [DV]
        exact ⟨D, by rw [← m.len, List.getElem?_append_right (Nat.le_refl _), Nat.sub_self]; rfl, rfl⟩
    · cases e
variable {elt tgE iter : Expr} {ifs : List Expr} {scope : Scope} {own : List (Str × Nat)} {pos : Pos} {gi : GI} {g : GG} {tg : TG} {gt : GT} {ge : GE}
theorem lc_snd {wi : TI} {tt : TT} {te : TE} {vs : List Nat} (si : SndG X.K X.mg C W (JR X.K C) wi gi) (st : SndC X.K C vs tg g) (sc : SndG X.K X.mg C W0 RB tt gt) (se : SndG X.K X.mg C W0 (DV X.K) te ge) :
    SndG X.K X.mg C W (DV X.K) (tLc wi tg tt te vs) (mLc gi g gt ge vs) := fun i L M σ H r Q m l e q => by
  refine si.step m l e q fun src M1 i1 H1 J g1 m1 l1 j e1 q1 => ?_
  intro D hD
  obtain ⟨d, M', h1, h2⟩ := snd_ret e1 q1
  cases hl : lcG src.ok g gt ge (wipeL L vs) src.items M1 with
  | none =>
    rw [hl] at h1
    cases h1
  | some pz =>
    obtain ⟨ys, Mf⟩ := pz
    rw [hl] at h1
    dsimp only [Option.bind] at h1
    unfold oLstBig at h1
    split at h1
    · rename_i hy
      cases h1
      exact lcG_sound st sc se j m1 l1 hl hy h2 D hD
    · cases h1
theorem snd_tG {α β : Type} {K : PySem.W.Frag} {mg : Str → Option Value} {R : List Addr → Hp → α → β → Prop} {g : Loc → Mem → Option (Rz α)} : SndG K mg C W R (tG K mg C W R g) g := fun i L M σ H r Q m l e q => ⟨i, L, M, r, m, l, e, q⟩
theorem se_lc (hc : X.calm = true) (hN : X.N.Nodup) (hi : SI X C W tgE iter gi) (ok : BlkOk X.N X.env.scope scope own)
    (hg : ∀ (s : Shared) (H : Hp) (Cc : Addr) (cl : List (Str × Addr)) (fp : List Addr), PG (X.blk s H scope (PySem.compEnvC scope cl Cc X.env) fp) tgE tg) (sg : SndC X.K C (own.map (·.2)) tg g)
    (ht : ∀ (s : Shared) (H : Hp) (Cc : Addr) (cl : List (Str × Addr)) (fp : List Addr), PTs (X.blk s H scope (PySem.compEnvC scope cl Cc X.env) fp) ifs (tG X.K X.mg C W0 RB gt))
    (he : ∀ (s : Shared) (H : Hp) (Cc : Addr) (cl : List (Str × Addr)) (fp : List Addr), SE (X.blk s H scope (PySem.compEnvC scope cl Cc X.env) fp) C W0 elt ge) (hs : ∀ x, foldedSetIterable iter X.env x = pure x := by intro _; rfl) :
    SE X C W (.ListComp elt [⟨tgE, iter, ifs, 0⟩] scope pos) (mLc gi g gt ge (own.map (·.2))) := by
  obtain ⟨wi, pi, si⟩ := hi.ex
  have he' : ∀ (s : Shared) (H : Hp) (Cc : Addr) (cl : List (Str × Addr)) (fp : List Addr), PE (X.blk s H scope (PySem.compEnvC scope cl Cc X.env) fp) elt (tG X.K X.mg C W0 (DV X.K) ge) := fun s H Cc cl fp => (he s H Cc cl fp).pe
  exact ⟨_, pe_lc hc hN pi ok hg ht he' hs, lc_snd si sg snd_tG snd_tG⟩
theorem ss_setLc {n : Nat} {y : Str} {py spos : Pos} (hc : X.calm = true) (hN : X.N.Nodup) (hy : X.N[n]? = some y) (hyl : X.env.scope.names.lookup y = some .local)
    (hsw : swapsWith (.ListComp elt [⟨tgE, iter, ifs, 0⟩] scope pos) (some (.Name y py)) spos.line X.env = pure true) (hi : SI X C W tgE iter gi) (ok : BlkOk X.N X.env.scope scope own)
    (hg : ∀ (s : Shared) (H : Hp) (Cc : Addr) (cl : List (Str × Addr)) (fp : List Addr), PG (X.blk s H scope (PySem.compEnvC scope cl Cc X.env) fp) tgE tg) (sg : SndC X.K C (own.map (·.2)) tg g)
    (ht : ∀ (s : Shared) (H : Hp) (Cc : Addr) (cl : List (Str × Addr)) (fp : List Addr), PTs (X.blk s H scope (PySem.compEnvC scope cl Cc X.env) fp) ifs (tG X.K X.mg C W0 RB gt))
    (he : ∀ (s : Shared) (H : Hp) (Cc : Addr) (cl : List (Str × Addr)) (fp : List Addr), SE (X.blk s H scope (PySem.compEnvC scope cl Cc X.env) fp) C W0 elt ge) (hs : ∀ x, foldedSetIterable iter X.env x = pure x := by intro _; rfl) :
    SS X C W (.Assign [.Name y py] (.ListComp elt [⟨tgE, iter, ifs, 0⟩] scope pos) spos) (mSet n (mLc gi g gt ge (own.map (·.2)))) := by
  obtain ⟨wi, pi, si⟩ := hi.ex
  have he' : ∀ (s : Shared) (H : Hp) (Cc : Addr) (cl : List (Str × Addr)) (fp : List Addr), PE (X.blk s H scope (PySem.compEnvC scope cl Cc X.env) fp) elt (tG X.K X.mg C W0 (DV X.K) ge) := fun s H Cc cl fp => (he s H Cc cl fp).pe
  refine ⟨_, ps_setLc hc hN hy hyl hsw pi ok hg ht he' hs, fun i L M σ H D r m l e q => ?_⟩
  refine (lc_snd si sg snd_tG snd_tG).stepS m l e q fun dx M1 i1 H1 x g1 m1 l1 rx e1 q1 => ?_
  cases e1
  exact q1 i1 H1 _ Gro.refl m1 (l1.set n rx)
theorem sc_name {K : PySem.W.Frag} (n : Nat) : SndC K C [n] (L2.gName n) (mName n) := fun i L M σ H d v L1 Q m l r e q => by
  cases e
  refine q i H _ Gro.refl m (l.set n r) ?_
  show ((σ.set n none).set n (some v)).set n none = σ.set n none
  rw [List.set_set, List.set_set]
theorem sc_name2 {K : PySem.W.Frag} (n k : Nat) (hnk : n ≠ k) : SndC K C [n, k] (gTup K 2 (L2.gCons (L2.gName n) (L2.gCons (L2.gName k) L2.gNil))) (mName2 n k) := fun i L M σ H d v L1 Q m l r e q => by
  unfold mName2 at e
  split at e
  · cases e
    obtain ⟨a, u, w, rfl, h2, h3, h4⟩ := r.tup2
    refine ⟨a, [u, w], rfl, h2.seq, rfl, u, [w], rfl, w, [], rfl, rfl, q i H _ Gro.refl m ((l.set n h3).set k h4) ?_⟩
    show (((((σ.set k none).set n none).set n (some u)).set k (some w)).set k none).set n none = (σ.set k none).set n none
    rw [List.set_set, List.set_set, List.set_comm _ _ hnk, List.set_set, List.set_set]
  · cases e
theorem st_yes {ifs : List Expr} (h : PTs X ifs tYes) : PTs X ifs (tG X.K X.mg C W0 RB mYes) := pts_imp h fun σ H Q ⟨i, L, M, r, m, l, e, q⟩ => by
  cases e
  exact q i H true Gro.refl m rfl
theorem mYes_ok (L : Loc) (M : Mem) : mYes L M = some (.ok true M) := rfl
/-! ### a def -/
section
variable {P : Program} {w : World} {K : PySem.W.Frag} {mg : Str → Option Value} {base : Heap}
theorem start_loc {i : List Addr} {H : Hp} {N : List Str} {ds : List D} {vs : List V} (h : DLs K i H ds vs) : LocR K i H (ds.map some ++ List.replicate (N.length - ds.length) none) (L2.start N vs) := by
  refine ⟨by unfold L2.start; simp [h.length], fun n d hn => ?_⟩
  have key : ∀ (ds : List D) (vs : List V) (n : Nat) (d : D), DLs K i H ds vs → ds[n]? = some d → ∃ v, vs[n]? = some v ∧ DV K i H d v := by
    intro ds
    induction ds with
    | nil => intro vs n d _ h; simp at h
    | cons x ds ih =>
      intro vs n d h hn
      simp only [DLs] at h
      obtain ⟨v, r, h1, h2, h3⟩ := h
      subst h1
      cases n with
      | zero =>
        have e : x = d := by simpa using hn
        subst e
        exact ⟨v, rfl, h2⟩
      | succ n => exact ih r n d h3 (by simpa using hn)
  by_cases hl : n < ds.length
  · rw [List.getElem?_append_left (by simpa using hl), List.getElem?_map] at hn
    cases hd : ds[n]? with
    | none =>
      rw [hd] at hn
      cases hn
    | some d' =>
      rw [hd] at hn
      have e : d' = d := by simpa using hn
      subst e
      obtain ⟨v, h1, h2⟩ := key ds vs n d' h hd
      refine ⟨v, ?_, h2⟩
      unfold L2.start
      rw [List.getElem?_append_left (by simpa [← h.length] using hl), List.getElem?_map, h1]
      rfl
  · rw [List.getElem?_append_right (by simpa using hl)] at hn
    rw [List.getElem?_replicate] at hn
    split at hn <;> simp at hn
/-- THE RULE for a def -/
theorem ok_def {x qual : Str} {st : Stmt} {f : Addr} {fd : FuncData} {N ps : List Str} {k : Nat} {body : GS} (F : Fun K x qual st f fd) (S : FnScope N ps (defScope st)) 
    (hbody : ∀ (cdv : Value) (A : Around) (outer : List Env) (s : Shared) (H : Hp) (E : XK), Room k (A.deeper (PyProof.Rows.envOfC qual (defScope st) s.heap.objs.size f cdv)) →
      SSs (cxOf (L2.CX P w) P w K mg base N qual (defScope st) f cdv A outer s H E) C (fun c d _ H' => E c d H') (defBody st) body) : FnOk P w K mg base (L2.CX P w) (k + 1) f fd ps (spG K mg C (mDef ps.length N.length body)) := by
  refine F.okX S (fun vs H Q E h => ?_) (fun cdv A outer s H vs Q E hr h => ?_)
  · obtain ⟨i, M, ds, r, m, rl, e, q⟩ := h
    rw [← rl.length]
    exact mDef_len e
  · obtain ⟨i, M, ds, r, m, rl, e, q⟩ := h
    obtain ⟨t, p, sd⟩ := (hbody cdv A outer s H E hr).ex
    have hl := mDef_len e
    unfold mDef at e
    rw [if_pos hl] at e
    cases hb : body (ds.map some ++ List.replicate (N.length - ps.length) none) M with
    | none =>
      rw [hb] at e
      cases e
    | some z =>
      obtain ⟨fl, M1⟩ := z
      rw [hb] at e
      refine ⟨t, p, sd i _ M _ H _ _ m (start_loc rl) (by rw [← hl] at hb; exact hb) ?_⟩
      cases fl with
      | nx L1 =>
        cases e
        exact fun i' H' σ' g m' l' => q i' H' .non g m' (by simp only [DV])
      | rt d =>
        cases e
        exact fun i' H' v g m' rv => q i' H' v g m' rv
      | ex c L1 =>
        cases e
        exact fun i' H' σ' cc hc g m' l' => q i' H' cc hc g m'
      | bk L1 => cases e
      | ct L1 => cases e
end
end
end BL
/-! BLIter: what loops walk. -/
namespace PySem
open Sem (wp)
open AutoSeq1 (wpAny_loadPart')
theorem bl_meets_enumT {v : Value} {o : Obj} {H : Heap → Prop} (B : Begins v o H) :
    Meets (Builtin.«enumerate.__new__» ⟨[.type "enumerate", v], []⟩) (fun _ R s => H s.heap ∧
      R (.ok (.ret (.ref (s.heap.push o).objs.size))) { s with heap := (s.heap.push o).push { cls := .type "enumerate", data := .fields #[.none, .bool false, .ref s.heap.objs.size, rawInt 0, .none, .none] } }) :=
  .of_wp fun prog w A R s h => by
    obtain ⟨hp, g, d, tk, os⟩ := s; obtain ⟨h1, h⟩ := h
    have hsub := sub_enumerate
    have q1 : ∀ {A' : Around} {E : Value → Shared → Prop} {Q : Value → Shared → Prop}, Q (.ref hp.objs.size) ⟨hp.push o, g, d, tk, os⟩ → wpAny (model prog w) A' (pyIter v) Q E ⟨hp, g, d, tk, os⟩ :=
      fun q => B.iter prog w _ _ ⟨hp, g, d, tk, os⟩ _ h1 q
    wp_walk using q1
    refine wpAny_stack_any fun st => wpAny_pure ?_
    split
    · rename_i c _ _ _ _ _
      cases (c == Value.type "enumerate")
      · wp_walk using q1
        exact ⟨_, rfl, h⟩
      · wp_walk using q1
        exact ⟨_, rfl, h⟩
    · wp_walk using q1
      exact ⟨_, rfl, h⟩
theorem bl_call_enumT {prog : Program} {w : World} {A : Around} {E : Value → Shared → Prop} {s : Shared} {v : Value} {o : Obj} {H : Heap → Prop} {Q : Value → Shared → Prop} (B : Begins v o H) (h1 : H s.heap)
    (h : ∀ h', IsEnum h' (s.heap.objs.size + 1) s.heap.objs.size 0 .none → h'.get? s.heap.objs.size = some o → h'.objs.size = s.heap.objs.size + 2 →
      (∀ b o, s.heap.get? b = some o → h'.get? b = some o) → Q (.ref (s.heap.objs.size + 1)) { s with heap := h' }) :
    wpAny (model prog w) A (call (.type "enumerate") [v]) Q E s := by
  refine callType_new F.called_enumerate (by decide) (F.typeCall_enumerate_1 _) (F.newCall_enumerate_1 _) (fun obj => F.args_object_init_2 obj _) F.entry_enumerate_new (bl_meets_enumT B) ⟨h1, ?_⟩
  have hz : (s.heap.push o).objs.size = s.heap.objs.size + 1 := Heap.size_push ..
  show _ ∧ _
  rw [hz]
  have he : IsEnum ((s.heap.push o).push { cls := .type "enumerate", data := .fields #[.none, .bool false, .ref s.heap.objs.size, rawInt 0, .none, .none] }) (s.heap.objs.size + 1) s.heap.objs.size 0 .none := by
    have := Heap.get?_push_size (s.heap.push o) (o := { cls := .type "enumerate", data := .fields #[.none, .bool false, .ref s.heap.objs.size, rawInt 0, .none, .none] }) rfl
    rw [hz] at this; exact this
  refine ⟨⟨_, he, rfl⟩, h _ he (Heap.get?_push_of_some _ (Heap.get?_push_size _ B.free)) (by rw [Heap.size_push, hz]) fun b o x => Heap.get?_push_of_some _ (Heap.get?_push_of_some _ x)⟩
end PySem
namespace BL
open PySem L2

/-- a tuple's items in new pairs -/
def IteT (K : PySem.W.Frag) (a : Addr) : It :=
  ⟨fun i H => ∃ (xs : List V) (x : V), SqT K H a xs ∧ xs[i]? = some x, fun i H v H' => ∃ T x, v = .ref T ∧ H T = none ∧ H' = upd H T (.tup [.int (i : Nat), x]) ∧ ∀ xs, SqT K H a xs → xs[i]? = some x, fun i H => ∃ xs : List V, SqT K H a xs ∧ xs.length ≤ i⟩
theorem turn_enumT {P : Program} {w : World} {K : PySem.W.Frag} {elts : List Expr} {kk : Nat} {tpos : Pos} (a e it : Addr) :
    Turn P w K (.Tuple elts kk tpos) (IteT K a) [e, it] e (fun i h => (∃ old, IsEnum h e it ((i : Nat) : Int) old) ∧ h.IsTupleIter it a i ∧ e ≠ it ∧ a ≠ it ∧ a ≠ e) where
  mem := by simp
  obj := fun i h st b hb => by
    obtain ⟨⟨old, he⟩, ⟨o, ho, hc, hd⟩, _⟩ := st
    have e' : b = e ∨ b = it := by simpa using hb
    rcases e' with z | z
    · rw [z]; exact ⟨_, he, fun v q => nomatch q⟩
    · rw [z]; exact ⟨o, ho, fun v q => by rw [hd] at q; cases q⟩
  keep := fun i h h' st k => let ⟨⟨old, he⟩, hi, hne⟩ := st; ⟨⟨old, k e (by simp) _ he⟩, hi.at fun o q => k it (by simp) o q, hne⟩
  item := by
    intro X hP hw hK hc i pins s σ H E I hf st hg
    subst hP hw hK
    obtain ⟨⟨old, he⟩, hit, hne, hat, hae⟩ := st
    obtain ⟨xs, x, hq, hx⟩ := hg
    obtain ⟨its, rv, p, hz⟩ := I.tuple hq
    obtain ⟨u, hu, ru⟩ := rv.get hx
    have hel : e < s.heap.objs.size := Heap.lt_size he
    have hil : it < s.heap.objs.size := by obtain ⟨_, q, _⟩ := hit; exact Heap.lt_size q
    have hlt : i < its.toArray.size := by
      have := (List.getElem?_eq_some_iff.mp hx).1
      simp only [List.size_toArray, ← rv.length]
      exact this
    have D := Draws.tuple (prog := X.prog) (w := X.w) (A := X.A.in1) (show X.A.in1.handled = none from I.ok.hd hc) it a hat its.toArray
    refine wpAny_pyNext_enum_itemD D he ⟨hit, p⟩ hlt hne (by simp [hne, Ne.symm hae]) fun y h' tk hP ho hst hT hsz hk => ?_
    have ey : y = u := by
      have h2 : its.toArray[i]? = some u := by simpa using hu
      exact Option.some.inj (hP.symm.trans h2)
    subst ey
    refine ⟨_, rfl, wpAny_letOwnedTupleGo_enum (s := { s with heap := h', toks := tk + 1 }) ho fun h'' he' sb => ?_⟩
    have hT2 : h''.get? s.heap.objs.size = some { cls := .type "tuple", data := .seq #[.int i tk, y] } := (sb.2 _ (Nat.ne_of_gt hel)).trans hT
    have new : ObjOk X.prog X.w (upd H s.heap.objs.size (.tup [.int (i : Nat), x])) h'' s.heap.objs.size (.tup [.int (i : Nat), x]) :=
      ⟨by show 2 ≤ sizeLine; decide, [.int i tk, y], .cons ⟨_, rfl⟩ (.cons ru .nil), ⟨_, hT2, rfl, _, rfl⟩⟩
    have I1 : Inv X pins σ (upd H s.heap.objs.size (.tup [.int (i : Nat), x])) { s with heap := h'', toks := tk + 1 } :=
      I.turnedNew (ch := [e, it]) (fun b ob hb q => (sb.2 b (fun z => hb (by simp [z]))).trans (hk b ob (fun z => hb (by simp [z])) (fun z => hb (by simp [z])) q)) hf (Nat.le_refl _) new
    refine ⟨.ref s.heap.objs.size, _, I1, rfl, ⟨_, x, rfl, I.hok.fresh (Nat.le_refl _), rfl, fun ys hy => by rw [I.tuple_inj hy hq]; exact hx⟩, ⟨⟨y, ?_⟩, hst.1.at fun o q => (sb.2 it (Ne.symm hne)).trans q, hne, hat, hae⟩, fun b hb => ?_⟩
    · have e1 : ((i + 1 : Nat) : Int) = (i : Int) + 1 := by omega
      rw [e1]; exact he'
    · have hb' : b < s.heap.objs.size := by
        have e' : b = e ∨ b = it := by simpa using hb
        rcases e' with z | z
        · rw [z]; exact hel
        · rw [z]; exact hil
      rw [upd_ne (Nat.ne_of_lt hb')]
      exact (hf b hb).1
  done := by
    intro X hP hw hK hc i pins s σ H E I hf st hg
    subst hP hw hK
    obtain ⟨⟨old, he⟩, hit, hne, hat, hae⟩ := st
    obtain ⟨xs, hq, hx⟩ := hg
    obtain ⟨its, rv, p, hz⟩ := I.tuple hq
    obtain ⟨f0, f1, f2, f3, f4, f5⟩ := hf it (by simp)
    have hl := rv.length
    have hT : s.TypeIs (.ref e) "enumerate" := ⟨_, he, rfl⟩
    unfold pyNext
    refine wpAny_bind (wpAny_attempt (wpAny_callSpecial?_slot (name := Str.ofString "__next__") hT F.slot_enumerate_next
      (wpAny_call_entry F.slot_enumerate_next hT F.entry_enumerate_next ?_ (F.args_enumerate_next_1 _))))
    show wpAny _ _ (field (.ref e) 2 >>= _) _ _ _
    refine wpAny_bind (wpAny_field he rfl (x := .ref it) rfl ?_)
    refine wpAny_bind (wpAny_nextOf_tuple_end (show X.A.in1.handled = none from I.ok.hd hc) hit p (by simp; omega) fun h' x he' hx' => ?_)
    obtain ⟨o, ho, hc'⟩ := hx'
    refine wpAny_bind (wpAny_isInstance (T := "StopIteration") (b := true) ⟨o, ho, hc'⟩ isSubtype_stop ?_)
    exact wpAny_pure ⟨rfl, I.turned (t' := s.toks) (fun b o hb q => he' b o hb q) f0 f1 f3 f4 f5⟩
  self := fun A i s Q E st h => let ⟨⟨_, he⟩, _⟩ := st; wpAny_pyIter_enum he h
def iEnumA (K : PySem.W.Frag) (ta : TA) : TI := fun σ H R => ta σ H fun vs H1 => ∃ a xs, vs = [.ref a] ∧ ((SqL K H1 a xs ∧ R (Ite K a) H1) ∨ (SqT K H1 a xs ∧ R (IteT K a) H1))
theorem pi_enumA {X : Cx} {e : Expr} {ta : TA} {p pos tpos : Pos} {elts : List Expr} {kk : Nat} (hg : Gl X "enumerate") (hm : X.mg "enumerate" = none) (ha : PA X [e] ta) (hs : starEach [e] X.env = [(false, eval e X.env)] := by rfl) :
    PI X (.Tuple elts kk tpos) (.Call (.Name "enumerate" p) [e] [] pos) (iEnumA X.K ta) := by
  refine ⟨fun pins s σ H R I h => ?_⟩
  refine PyProof.Rows.Call_ (ld_blt I hg hm PyProof.Rows.boot_enumerate (PyProof.Rows.callWith_type1 (thn (ha.run pos pins s σ H _ I h) fun us s1 ⟨vs, H1, I1, r1, q1⟩ => ?_) hs rfl))
  obtain ⟨a, xs, ex, q⟩ := q1
  subst ex
  cases r1 with
  | cons r rr =>
    cases rr
    cases r
    rcases q with ⟨hq, q⟩ | ⟨hq, q⟩
    · obtain ⟨its, rv, p', hz⟩ := I1.list hq
      refine call_enumerate_list p'.isList fun h' he hit hsz hk => wpAny_pyIter_enum he ?_
      have I2 : Inv X pins σ H1 { s1 with heap := h' } := I1.kept (t' := s1.toks) hk
      refine ⟨s1.heap.objs.size + 1, [s1.heap.objs.size + 1, s1.heap.objs.size], _, _, H1, rfl, I2, turn_enum a (s1.heap.objs.size + 1) s1.heap.objs.size, ⟨⟨.none, he⟩, hit, Nat.succ_ne_self _⟩, fun b hb => ?_, q⟩
      have e' : b = s1.heap.objs.size + 1 ∨ b = s1.heap.objs.size := by simpa using hb
      have hle : s1.heap.objs.size ≤ b := by
        rcases e' with z | z
        · rw [z]; exact Nat.le_add_right _ _
        · rw [z]; exact Nat.le_refl _
      exact I1.fpOk hle (I1.hok.fresh hle)
    · obtain ⟨its, rv, p', hz⟩ := I1.tuple hq
      have hlt : a < s1.heap.objs.size := by obtain ⟨o, ho, _⟩ := id p'; exact Heap.lt_size ho
      refine bl_call_enumT (begins_tuple a its.toArray) (show s1.heap.IsTuple a its.toArray from p') fun h' he hit hsz hk => wpAny_pyIter_enum he ?_
      have I2 : Inv X pins σ H1 { s1 with heap := h' } := I1.kept (t' := s1.toks) hk
      refine ⟨s1.heap.objs.size + 1, [s1.heap.objs.size + 1, s1.heap.objs.size], _, _, H1, rfl, I2, turn_enumT a (s1.heap.objs.size + 1) s1.heap.objs.size, ⟨⟨.none, he⟩, ⟨_, hit, rfl, rfl⟩, Nat.succ_ne_self _, Nat.ne_of_lt hlt, Nat.ne_of_lt (Nat.lt_succ_of_lt hlt)⟩, fun b hb => ?_, q⟩
      have e' : b = s1.heap.objs.size + 1 ∨ b = s1.heap.objs.size := by simpa using hb
      have hle : s1.heap.objs.size ≤ b := by
        rcases e' with z | z
        · rw [z]; exact Nat.le_add_right _ _
        · rw [z]; exact Nat.le_refl _
      exact I1.fpOk hle (I1.hok.fresh hle)
/-- any sequence -/
def iSeq (K : PySem.W.Frag) (tl : TE) : TI := fun σ H R => tl σ H fun x H1 => ∃ a xs, x = .ref a ∧ ((SqL K H1 a xs ∧ R (Itl K a) H1) ∨ (SqT K H1 a xs ∧ R (Itt K a) H1))
theorem pi_seq {X : Cx} {tg l : Expr} {tl : TE} (hl : PE X l tl) : PI X tg l (iSeq X.K tl) := by
  refine ⟨fun pins s σ H R I h => ?_⟩
  refine thn (hl.run pins s σ H _ I h) fun v s1 ⟨x, H1, I1, r1, q1⟩ => ?_
  obtain ⟨a, xs, e, q⟩ := q1
  subst e
  cases r1
  rcases q with ⟨hq, q⟩ | ⟨hq, q⟩
  · obtain ⟨its, rv, p, hz⟩ := I1.list hq
    refine PySem.wpAny_pyIter_list p.isList ?_
    refine ⟨s1.heap.objs.size, [s1.heap.objs.size], _, _, H1, rfl, I1.kept (t' := s1.toks) fun b o e => Heap.get?_push_of_some _ e, turn_list a _, ⟨_, Heap.get?_push_size _ rfl, rfl, rfl⟩, fun b hb => ?_, q⟩
    have e : b = s1.heap.objs.size := by simpa using hb
    subst e
    exact I1.fpOk (Nat.le_refl _) (I1.hok.fresh (Nat.le_refl _))
  · obtain ⟨its, rv, p, hz⟩ := I1.tuple hq
    refine PySem.wpAny_pyIter_tuple (show s1.heap.IsTuple a its.toArray from p) ?_
    refine ⟨s1.heap.objs.size, [s1.heap.objs.size], _, _, H1, rfl, I1.kept (t' := s1.toks) fun b o e => Heap.get?_push_of_some _ e, turn_tuple a _, ⟨_, Heap.get?_push_size _ rfl, rfl, rfl⟩, fun b hb => ?_, q⟩
    have e : b = s1.heap.objs.size := by simpa using hb
    subst e
    exact I1.fpOk (Nat.le_refl _) (I1.hok.fresh (Nat.le_refl _))

/-! ### in the machine -/
def oSrc : D → Mem → Option Src := fun d M => match d with
  | .tup ds => some ⟨ds, none⟩
  | .scr ns => some ⟨ns.map D.int, none⟩
  | .ref n => (match M[n]? with
    | some (.lst ds) => some ⟨ds, some (n, ds)⟩
    | _ => none)
  | _ => none
def Src.map (f : List D → List D) (s : Src) : Src := ⟨f s.items, s.guard⟩
def mSeqI (f : List D → List D) (e : GE) : GI := fun L M => bnd (e L M) fun d M1 => match oSrc d M1 with
  | some s => some (.ok (s.map f) M1)
  | none => none
def pairUp (k : Nat) : List D → List D
  | [] => []
  | d :: ds => .tup [.int (k : Int), d] :: pairUp (k + 1) ds
theorem pairUp_get : ∀ (ds : List D) (k n : Nat), (pairUp k ds)[n]? = ds[n]?.map fun d => .tup [.int ((k + n : Nat) : Int), d]
  | [], k, n => by simp [pairUp]
  | d :: ds, k, 0 => by simp [pairUp]
  | d :: ds, k, n + 1 => by
    rw [pairUp, List.getElem?_cons_succ, List.getElem?_cons_succ, pairUp_get ds (k + 1) n, show k + 1 + n = k + (n + 1) by omega]
theorem pairUp_length : ∀ (ds : List D) (k : Nat), (pairUp k ds).length = ds.length
  | [], _ => rfl
  | d :: ds, k => by rw [pairUp, List.length_cons, List.length_cons, pairUp_length]
abbrev mIter (e : GE) : GI := mSeqI (fun ds => ds) e
abbrev mEnum (e : GE) : GI := mSeqI (pairUp 0) e
abbrev mRev (e : GE) : GI := mSeqI List.reverse e
section
variable {K : PySem.W.Frag} {C : Addr} {i0 i : List Addr} {H0 H : Hp} {M : Mem}
theorem DLs.get : ∀ {ds : List D} {vs : List V}, DLs K i H ds vs → ∀ {n : Nat} {d : D}, ds[n]? = some d → ∃ v, vs[n]? = some v ∧ DV K i H d v
  | [], vs, h, n, d, hn => by simp at hn
  | x :: ds, vs, h, n, d, hn => by
    simp only [DLs] at h
    obtain ⟨v, r, h1, h2, h3⟩ := h
    subst h1
    cases n with
    | zero =>
      have e : x = d := by simpa using hn
      subst e
      exact ⟨v, rfl, h2⟩
    | succ n => exact DLs.get h3 (by simpa using hn)
theorem dl_ints : ∀ (ns : List Int), DLs K i H (ns.map D.int) (ns.map V.int)
  | [] => by simp only [List.map, DLs]
  | n :: ns => by
    simp only [List.map, DLs]
    exact ⟨_, _, rfl, by simp only [DV], dl_ints ns⟩
/-- what stands behind a sequence: a list or a tuple at a, its values by the items, as long as the guard holds -/
def SeqAt' (K : PySem.W.Frag) (C : Addr) (i0 : List Addr) (H0 : Hp) (s : Src) (a : Addr) (b : Bool) : Prop :=
  ∀ i H M, Gro i0 H0 i H → MemR K C i M H → s.ok M → ∃ vs, DLs K i H s.items vs ∧ (if b = true then SqL K H a vs else SqT K H a vs)
theorem src_at {d : D} {x : V} {s : Src} (m : MemR K C i0 M H0) (r : DV K i0 H0 d x) (e : oSrc d M = some s) : ∃ a b, x = .ref a ∧ s.ok M ∧ SeqAt' K C i0 H0 s a b := by
  cases d <;> first
    | (cases e; done)
    | skip
  · rename_i ds
    cases e
    simp only [DV] at r
    obtain ⟨a, vs, rfl, h2, h3⟩ := r
    exact ⟨a, false, rfl, trivial, fun i H M g m' _ => ⟨vs, h3.mono g, (h2.mono g.mon).seq⟩⟩
  · rename_i ns
    cases e
    simp only [DV] at r
    obtain ⟨a, rfl, h2⟩ := r
    exact ⟨a, true, rfl, trivial, fun i H M g m' _ => ⟨_, dl_ints ns, (h2.mono g.mon).seq⟩⟩
  · rename_i n
    dsimp only [oSrc] at e
    split at e
    · rename_i ds hn
      cases e
      simp only [DV] at r
      obtain ⟨a, ha, rfl⟩ := r
      refine ⟨a, true, rfl, hn, fun i H M' g m' ok => ?_⟩
      obtain ⟨vs, h1, h2⟩ := m'.ob n _ a ok (g.mon.ix ha)
      exact ⟨vs, h2, SqL.of h1⟩
    · cases e
theorem jr_list {s : Src} {a : Addr} (h : SeqAt' K C i0 H0 s a true) : JR K C i0 H0 s (Itl K a) := fun i H M n g m ok => by
  obtain ⟨vs, h1, h2⟩ := h i H M g m ok
  refine ⟨fun d hd => ?_, fun hn => ⟨vs, h2, by rw [← h1.length]; exact hn⟩⟩
  obtain ⟨v, hv, rv⟩ := h1.get hd
  refine ⟨⟨vs, v, h2, hv⟩, fun x H' y => ?_⟩
  obtain ⟨rfl, y⟩ := y
  have e := Option.some.inj ((y vs h2).symm.trans hv)
  subst e
  exact ⟨Gro.refl, m, rv⟩
theorem jr_tup {s : Src} {a : Addr} (h : SeqAt' K C i0 H0 s a false) : JR K C i0 H0 s (Itt K a) := fun i H M n g m ok => by
  obtain ⟨vs, h1, h2⟩ := h i H M g m ok
  refine ⟨fun d hd => ?_, fun hn => ⟨vs, h2, by rw [← h1.length]; exact hn⟩⟩
  obtain ⟨v, hv, rv⟩ := h1.get hd
  refine ⟨⟨vs, v, h2, hv⟩, fun x H' y => ?_⟩
  obtain ⟨rfl, y⟩ := y
  have e := Option.some.inj ((y vs h2).symm.trans hv)
  subst e
  exact ⟨Gro.refl, m, rv⟩
theorem pair_end {n : Nat} {d : D} {v : V} {T : Addr} (m : MemR K C i M H) (rv : DV K i H d v) (hT : H T = none) : Gro i H i (upd H T (.tup [.int (n : Nat), v])) ∧ MemR K C i M (upd H T (.tup [.int (n : Nat), v])) ∧ DV K i (upd H T (.tup [.int (n : Nat), v])) (.tup [.int ((0 + n : Nat) : Int), d]) (.ref T) := by
  refine ⟨ext_new hT, m.new hT, ?_⟩
  simp only [DV, DLs]
  exact ⟨T, [.int (n : Nat), v], rfl, .inl upd_same, .int (n : Nat), [v], rfl, by rw [Nat.zero_add], v, [], rfl, rv.mono (ext_new hT), rfl⟩
theorem jr_enum {s : Src} {a : Addr} (h : SeqAt' K C i0 H0 s a true) : JR K C i0 H0 (s.map (pairUp 0)) (Ite K a) := fun i H M n g m ok => by
  obtain ⟨vs, h1, h2⟩ := h i H M g m ok
  refine ⟨fun d hd => ?_, fun hn => ⟨vs, h2, by rw [← h1.length]; simpa [Src.map, pairUp_length] using hn⟩⟩
  have hd' : (pairUp 0 s.items)[n]? = some d := hd
  rw [pairUp_get] at hd'
  obtain ⟨d0, hd0, rfl⟩ := Option.map_eq_some_iff.mp hd'
  obtain ⟨v, hv, rv⟩ := h1.get hd0
  refine ⟨⟨vs, v, h2, hv⟩, fun x H' y => ?_⟩
  obtain ⟨T, x', rfl, hT, rfl, y⟩ := y
  have e := Option.some.inj ((y vs h2).symm.trans hv)
  subst e
  exact pair_end m rv hT
theorem jr_enumT {s : Src} {a : Addr} (h : SeqAt' K C i0 H0 s a false) : JR K C i0 H0 (s.map (pairUp 0)) (IteT K a) := fun i H M n g m ok => by
  obtain ⟨vs, h1, h2⟩ := h i H M g m ok
  refine ⟨fun d hd => ?_, fun hn => ⟨vs, h2, by rw [← h1.length]; simpa [Src.map, pairUp_length] using hn⟩⟩
  have hd' : (pairUp 0 s.items)[n]? = some d := hd
  rw [pairUp_get] at hd'
  obtain ⟨d0, hd0, rfl⟩ := Option.map_eq_some_iff.mp hd'
  obtain ⟨v, hv, rv⟩ := h1.get hd0
  refine ⟨⟨vs, v, h2, hv⟩, fun x H' y => ?_⟩
  obtain ⟨T, x', rfl, hT, rfl, y⟩ := y
  have e := Option.some.inj ((y vs h2).symm.trans hv)
  subst e
  exact pair_end m rv hT
theorem rev_get {s : Src} {n : Nat} {d : D} (hd : (s.map List.reverse).items[n]? = some d) : n < s.items.length ∧ s.items[s.items.length - 1 - n]? = some d := by
  have hd' : s.items.reverse[n]? = some d := hd
  have hn : n < s.items.length := by
    have := (List.getElem?_eq_some_iff.mp hd').1
    simpa using this
  exact ⟨hn, by rw [List.getElem?_reverse hn] at hd'; exact hd'⟩
theorem jr_rev {s : Src} {a : Addr} (h : SeqAt' K C i0 H0 s a true) : JR K C i0 H0 (s.map List.reverse) (Itv K a s.items.length) := fun i H M n g m ok => by
  obtain ⟨vs, h1, h2⟩ := h i H M g m ok
  refine ⟨fun d hd => ?_, fun hn => (show s.items.length ≤ n by simpa [Src.map] using hn)⟩
  obtain ⟨hn, hd0⟩ := rev_get hd
  obtain ⟨v, hv, rv⟩ := h1.get hd0
  refine ⟨⟨hn, vs, v, h2, hv⟩, fun x H' y => ?_⟩
  obtain ⟨rfl, y⟩ := y
  have e := Option.some.inj ((y vs h2).symm.trans hv)
  subst e
  exact ⟨Gro.refl, m, rv⟩
theorem jr_revT {s : Src} {a : Addr} (h : SeqAt' K C i0 H0 s a false) : JR K C i0 H0 (s.map List.reverse) (RT.ItvT K a s.items.length) := fun i H M n g m ok => by
  obtain ⟨vs, h1, h2⟩ := h i H M g m ok
  refine ⟨fun d hd => ?_, fun hn => (show s.items.length ≤ n by simpa [Src.map] using hn)⟩
  obtain ⟨hn, hd0⟩ := rev_get hd
  obtain ⟨v, hv, rv⟩ := h1.get hd0
  refine ⟨⟨hn, vs, v, h2, hv⟩, fun x H' y => ?_⟩
  obtain ⟨rfl, y⟩ := y
  have e := Option.some.inj ((y vs h2).symm.trans hv)
  subst e
  exact ⟨Gro.refl, m, rv⟩
end
section
variable {X : Cx} {C : Addr} {W : WX} {e a b tg : Expr} {ge ga gb : GE} {p pos tpos : Pos} {elts : List Expr} {kk : Nat}
theorem seqI_some {f : List D → List D} {d : D} {M : Mem} {r : Rz Src} (e : (match oSrc d M with
  | some s => some (Rz.ok (s.map f) M)
  | none => none) = some r) : ∃ s, oSrc d M = some s ∧ r = .ok (s.map f) M := by
  split at e
  · rename_i s hs
    exact ⟨s, hs, (Option.some.inj e).symm⟩
  · cases e
theorem map_id (s : Src) : s.map (fun ds => ds) = s := rfl
theorem si_seq (he : SE X C W e ge) : SI X C W tg e (mIter ge) := by
  obtain ⟨t, p, s⟩ := he.ex
  refine ⟨_, pi_seq p, fun i L M σ H r Q m l e q => ?_⟩
  refine s.step m l e q fun dx M1 i1 H1 x g1 m1 l1 rx e1 q1 => ?_
  obtain ⟨sr, h1, rfl⟩ := seqI_some e1
  obtain ⟨a, b, rfl, ok, h⟩ := src_at m1 rx h1
  obtain ⟨vs, h2, h3⟩ := h i1 H1 M1 Gro.refl m1 ok
  cases b with
  | true => exact ⟨a, vs, rfl, .inl ⟨h3, q1 i1 H1 _ Gro.refl m1 (jr_list h)⟩⟩
  | false => exact ⟨a, vs, rfl, .inr ⟨h3, q1 i1 H1 _ Gro.refl m1 (jr_tup h)⟩⟩
theorem si_enum (hg : Gl X "enumerate") (hm : X.mg "enumerate" = none) (he : SE X C W e ge) (hs : starEach [e] X.env = [(false, eval e X.env)] := by rfl) (hs2 : starEach (e :: []) X.env = (false, eval e X.env) :: starEach [] X.env := by rfl) :
    SI X C W (.Tuple elts kk tpos) (.Call (.Name "enumerate" p) [e] [] pos) (mEnum ge) := by
  obtain ⟨t, p, s⟩ := he.ex
  refine ⟨_, pi_enumA hg hm (pa_cons p pa_nil hs2) hs, fun i L M σ H r Q m l e q => ?_⟩
  refine s.step m l e q fun dx M1 i1 H1 x g1 m1 l1 rx e1 q1 => ?_
  obtain ⟨sr, h1, rfl⟩ := seqI_some e1
  obtain ⟨a, b, rfl, ok, h⟩ := src_at m1 rx h1
  obtain ⟨vs, h2, h3⟩ := h i1 H1 M1 Gro.refl m1 ok
  cases b with
  | true => exact ⟨a, vs, rfl, .inl ⟨h3, q1 i1 H1 _ Gro.refl m1 (jr_enum h)⟩⟩
  | false => exact ⟨a, vs, rfl, .inr ⟨h3, q1 i1 H1 _ Gro.refl m1 (jr_enumT h)⟩⟩
theorem si_rev (hg : Gl X "reversed") (hm : X.mg "reversed" = none) (he : SE X C W e ge) (hs2 : starEach (e :: []) X.env = (false, eval e X.env) :: starEach [] X.env := by rfl) :
    SI X C W tg (.Call (.Name "reversed" p) [e] [] pos) (mRev ge) := by
  obtain ⟨t, p, s⟩ := he.ex
  refine ⟨_, RT.pi_revA hg hm p hs2, fun i L M σ H r Q m l e q => ?_⟩
  refine s.step m l e q fun dx M1 i1 H1 x g1 m1 l1 rx e1 q1 => ?_
  obtain ⟨sr, h1, rfl⟩ := seqI_some e1
  obtain ⟨a, b, rfl, ok, h⟩ := src_at m1 rx h1
  obtain ⟨vs, h2, h3⟩ := h i1 H1 M1 Gro.refl m1 ok
  have hl : vs.length = sr.items.length := h2.length.symm
  cases b with
  | true => exact ⟨a, vs, rfl, .inl ⟨h3, by rw [hl]; exact q1 i1 H1 _ Gro.refl m1 (jr_rev h)⟩⟩
  | false => exact ⟨a, vs, rfl, .inr ⟨h3, by rw [hl]; exact q1 i1 H1 _ Gro.refl m1 (jr_revT h)⟩⟩
/-! ### ranges -/
def fits62 (i : Int) : Prop := -(2 ^ 62) ≤ i ∧ i < 2 ^ 62
instance (i : Int) : Decidable (fits62 i) := inferInstanceAs (Decidable (_ ∧ _))
def rng (lo : Int) (n : Nat) : List D := (List.range n).map fun (k : Nat) => D.int (lo + (k : Int))
def mRange1 (e : GE) : GI := fun L M => bnd (e L M) fun d M1 => match d with
  | .int j => if fits62 j then some (.ok ⟨rng 0 j.toNat, none⟩ M1) else none
  | _ => none
def mRange2 (a b : GE) : GI := fun L M => bnd (a L M) fun d M1 => bnd (b L M1) fun d2 M2 => match d, d2 with
  | .int i, .int j => if fits62 i ∧ fits62 j then some (.ok ⟨rng i (j - i).toNat, none⟩ M2) else none
  | _, _ => none
theorem jr_rng {K : PySem.W.Frag} {i0 : List Addr} {H0 : Hp} (lo : Int) (n : Nat) : JR K C i0 H0 ⟨rng lo n, none⟩ (Itr lo n) := fun i H M k g m ok => by
  refine ⟨fun d hd => ?_, fun hn => (show n ≤ k by simpa [rng] using hn)⟩
  have hd' : (rng lo n)[k]? = some d := hd
  unfold rng at hd'
  rw [List.getElem?_map] at hd'
  obtain ⟨j, hj, rfl⟩ := Option.map_eq_some_iff.mp hd'
  have hk : k < n := by
    have := (List.getElem?_eq_some_iff.mp hj).1
    simpa using this
  rw [List.getElem?_range hk] at hj
  cases hj
  refine ⟨hk, fun x H' y => ?_⟩
  obtain ⟨rfl, rfl⟩ := y
  exact ⟨Gro.refl, m, by simp only [DV]⟩
theorem si_range1 (hg : Gl X "range") (hm : X.mg "range" = none) (he : SE X C W e ge) (hs : starEach [e] X.env = [(false, eval e X.env)] := by rfl) (hs2 : starEach (e :: []) X.env = (false, eval e X.env) :: starEach [] X.env := by rfl) :
    SI X C W tg (.Call (.Name "range" p) [e] [] pos) (mRange1 ge) := by
  obtain ⟨t, p, s⟩ := he.ex
  refine ⟨_, pi_range1 hg hm (pa_cons p pa_nil hs2) hs, fun i L M σ H r Q m l e q => ?_⟩
  refine s.step m l e q fun dx M1 i1 H1 x g1 m1 l1 rx e1 q1 => ?_
  cases dx <;> first
    | (cases e1; done)
    | skip
  rename_i j
  dsimp only at e1
  split at e1
  · rename_i hf
    cases e1
    simp only [DV] at rx
    subst rx
    exact ⟨j, rfl, hf.1, hf.2, q1 i1 H1 _ Gro.refl m1 (jr_rng 0 j.toNat)⟩
  · cases e1
theorem si_range2 (hg : Gl X "range") (hm : X.mg "range" = none) (ha : SE X C W a ga) (hb : SE X C W b gb) (hs : starEach [a, b] X.env = [(false, eval a X.env), (false, eval b X.env)] := by rfl) (hs1 : starEach [b] X.env = [(false, eval b X.env)] := by rfl)
    (hs2 : starEach (a :: [b]) X.env = (false, eval a X.env) :: starEach [b] X.env := by rfl) (hs3 : starEach (b :: []) X.env = (false, eval b X.env) :: starEach [] X.env := by rfl) :
    SI X C W tg (.Call (.Name "range" p) [a, b] [] pos) (mRange2 ga gb) := by
  obtain ⟨t, p, s⟩ := ha.ex
  obtain ⟨t2, p2, s2⟩ := hb.ex
  refine ⟨_, pi_range2 hg hm (pa_cons p (pa_cons p2 pa_nil hs3) hs2) hs hs1, fun i L M σ H r Q m l e q => ?_⟩
  refine s.step m l e q fun dx M1 i1 H1 x g1 m1 l1 rx e1 q1 => ?_
  refine s2.step m1 l1 e1 q1 fun dy M2 i2 H2 y g2 m2 l2 ry e2 q2 => ?_
  cases dx <;> first
    | (cases e2; done)
    | skip
  rename_i ji
  cases dy <;> first
    | (cases e2; done)
    | skip
  rename_i jj
  dsimp only at e2
  split at e2
  · rename_i hf
    cases e2
    simp only [DV] at rx ry
    subst rx ry
    exact ⟨ji, jj, rfl, ⟨hf.1.1, hf.1.2, hf.2.1, hf.2.2⟩, q2 i2 H2 _ Gro.refl m2 (jr_rng ji (jj - ji).toNat)⟩
  · cases e2
/-! ### signs -/
def mSigns (e : GE) : GI := fun L M => bnd (e L M) fun d M1 => match d with
  | .str x => some (.ok ⟨x.cps.toList.map fun c => .str ⟨#[c]⟩, none⟩ M1)
  | _ => none
theorem si_str (he : SE X C W e ge) : SI X C W tg e (mSigns ge) := by
  obtain ⟨t, p, s⟩ := he.ex
  refine ⟨_, pi_str p, fun i L M σ H r Q m l e q => ?_⟩
  refine s.step m l e q fun dx M1 i1 H1 x g1 m1 l1 rx e1 q1 => ?_
  cases dx <;> first
    | (cases e1; done)
    | skip
  rename_i z
  cases e1
  simp only [DV] at rx
  subst rx
  refine ⟨z, rfl, q1 i1 H1 _ Gro.refl m1 fun i H M k g m ok => ⟨fun d hd => ?_, fun hn => (show z.cps.size ≤ k by simpa using hn)⟩⟩
  have hd' : (z.cps.toList.map fun c => D.str ⟨#[c]⟩)[k]? = some d := hd
  rw [List.getElem?_map] at hd'
  obtain ⟨c, hc, rfl⟩ := Option.map_eq_some_iff.mp hd'
  have hk : k < z.cps.size := by
    have := (List.getElem?_eq_some_iff.mp hc).1
    simpa using this
  refine ⟨hk, fun x H' y => ?_⟩
  obtain ⟨rfl, c', hc', rfl⟩ := y
  have e : c = c' := by
    rw [Array.getElem?_toList] at hc
    exact Option.some.inj (hc.symm.trans hc')
  subst e
  exact ⟨Gro.refl, m, by simp only [DV]⟩
end
end BL
/-! BLOps: operators, comparisons, built-ins, methods by values. -/
namespace BL
open PySem L2

theorem small_line {n : Nat} (h : n < 16000000) : n < sizeLine := by rw [PySem.sizeLine_eq]; omega
/-! ### what an operation leaves -/
section
variable {K : PySem.W.Frag} {C : Addr} {i : List Addr} {M : Mem} {H : Hp} {d : D} {Q : VK}
abbrev Goes (K : PySem.W.Frag) (C : Addr) (i : List Addr) (H : Hp) (d : D) (M' : Mem) (Q : VK) : Prop := ∀ i' H' z, Gro i H i' H' → MemR K C i' M' H' → DV K i' H' d z → Q z H'
theorem goSame {v : V} (q : Goes K C i H d M Q) (m : MemR K C i M H) (r : DV K i H d v) : Q v H := q i H v Gro.refl m r
theorem goInt {k : Int} (q : Goes K C i H (.int k) M Q) (m : MemR K C i M H) : Q (.int k) H := goSame q m (by simp only [DV])
theorem goBl {k : Bool} (q : Goes K C i H (.bl k) M Q) (m : MemR K C i M H) : Q (.bl k) H := goSame q m (by simp only [DV])
theorem goStr {k : Str} (q : Goes K C i H (.str k) M Q) (m : MemR K C i M H) : Q (.str k) H := goSame q m (by simp only [DV])
theorem goNon (q : Goes K C i H .non M Q) (m : MemR K C i M H) : Q .non H := goSame q m (by simp only [DV])
theorem goTup {ds : List D} {vs : List V} (q : Goes K C i H (.tup ds) M Q) (m : MemR K C i M H) (r : DLs K i H ds vs) : ∀ p, H p = none → Q (.ref p) (upd H p (.tup vs)) := fun p hp => by
  refine q i _ _ (ext_new hp) (m.new hp) ?_
  simp only [DV]
  exact ⟨p, vs, rfl, .inl upd_same, r.mono (ext_new hp)⟩
theorem ref_last {p : Addr} (m : MemR K C i M H) {H' : Hp} : DV K (i ++ [p]) H' (.ref M.length) (.ref p) := by
  simp only [DV]
  exact ⟨p, by rw [← m.len, List.getElem?_append_right (Nat.le_refl _), Nat.sub_self]; rfl, rfl⟩
theorem goLst {ds : List D} {vs : List V} (q : Goes K C i H (.ref M.length) (M ++ [.lst ds]) Q) (m : MemR K C i M H) (r : DLs K i H ds vs) : ∀ p, H p = none → Q (.ref p) (upd H p (.lst vs)) := fun p hp =>
  q _ _ _ (ext_laid hp) (m.laid hp ⟨vs, upd_same, r.mono (ext_laid hp)⟩) (ref_last m)
theorem goDct {ds : List (Int × D)} {vs : List (Key × V)} (q : Goes K C i H (.ref M.length) (M ++ [.dct ds]) Q) (m : MemR K C i M H) (r : DKs K i H ds vs) : ∀ p, H p = none → Q (.ref p) (upd H p (.dK vs)) := fun p hp =>
  q _ _ _ (ext_laid hp) (m.laid hp ⟨vs, upd_same, r.mono (ext_laid hp)⟩) (ref_last m)
/-- an object changed: what it gives besides -/
theorem goWlst {n : Nat} {a : Addr} {ds : List D} {vs : List V} {v : V} (q : Goes K C i H d (M.set n (.lst ds)) Q) (m : MemR K C i M H) (ha : i[n]? = some a) (r : DLs K i H ds vs) (rd : DV K i H d v) : Q v (upd H a (.lst vs)) :=
  q i _ v (ext_write m ha) (m.write ha ⟨vs, upd_same, r.mono (ext_write m ha)⟩) (rd.mono (ext_write m ha))
theorem goWdct {n : Nat} {a : Addr} {ds : List (Int × D)} {vs : List (Key × V)} {v : V} (q : Goes K C i H d (M.set n (.dct ds)) Q) (m : MemR K C i M H) (ha : i[n]? = some a) (r : DKs K i H ds vs) (rd : DV K i H d v) : Q v (upd H a (.dK vs)) :=
  q i _ v (ext_write m ha) (m.write ha ⟨vs, upd_same, r.mono (ext_write m ha)⟩) (rd.mono (ext_write m ha))
/-- a list, a dict in the memory -/
theorem lst_at {n : Nat} {ds : List D} {x : V} (m : MemR K C i M H) (h : M[n]? = some (.lst ds)) (r : DV K i H (.ref n) x) : ∃ a vs, i[n]? = some a ∧ x = .ref a ∧ H a = some (.lst vs) ∧ DLs K i H ds vs := by
  simp only [DV] at r
  obtain ⟨a, ha, rfl⟩ := r
  obtain ⟨vs, h1, h2⟩ := m.ob n _ a h ha
  exact ⟨a, vs, ha, rfl, h1, h2⟩
theorem dct_at {n : Nat} {ds : List (Int × D)} {x : V} (m : MemR K C i M H) (h : M[n]? = some (.dct ds)) (r : DV K i H (.ref n) x) : ∃ a vs, i[n]? = some a ∧ x = .ref a ∧ H a = some (.dK vs) ∧ DKs K i H ds vs := by
  simp only [DV] at r
  obtain ⟨a, ha, rfl⟩ := r
  obtain ⟨vs, h1, h2⟩ := m.ob n _ a h ha
  exact ⟨a, vs, ha, rfl, h1, h2⟩
theorem tup_at {ds : List D} {x : V} (r : DV K i H (.tup ds) x) : ∃ a vs, x = .ref a ∧ TupAt K H a vs ∧ DLs K i H ds vs := by
  simpa only [DV] using r
theorem scr_at {ds : List Int} {x : V} (r : DV K i H (.scr ds) x) : ∃ a, x = .ref a ∧ ScrAt K H a ds := by
  simpa only [DV] using r
theorem dl_app : ∀ {ds es : List D} {vs ws : List V}, DLs K i H ds vs → DLs K i H es ws → DLs K i H (ds ++ es) (vs ++ ws)
  | [], es, vs, ws, h, h' => by
    simp only [DLs] at h
    subst h
    exact h'
  | x :: ds, es, vs, ws, h, h' => by
    simp only [DLs] at h
    obtain ⟨v', r', h1, h2, h3⟩ := h
    subst h1
    simp only [List.cons_append, DLs]
    exact ⟨v', _, rfl, h2, dl_app h3 h'⟩
theorem dl_take : ∀ {ds : List D} {vs : List V} (n : Nat), DLs K i H ds vs → DLs K i H (ds.take n) (vs.take n)
  | [], vs, n, h => by
    simp only [DLs] at h
    subst h
    simp only [List.take_nil, DLs]
  | x :: ds, vs, 0, h => by simp only [List.take_zero, DLs]
  | x :: ds, vs, n + 1, h => by
    simp only [DLs] at h
    obtain ⟨v', r', h1, h2, h3⟩ := h
    subst h1
    simp only [List.take_succ_cons, DLs]
    exact ⟨v', _, rfl, h2, dl_take n h3⟩
theorem dl_drop : ∀ {ds : List D} {vs : List V} (n : Nat), DLs K i H ds vs → DLs K i H (ds.drop n) (vs.drop n)
  | [], vs, n, h => by
    simp only [DLs] at h
    subst h
    simp only [List.drop_nil, DLs]
  | x :: ds, vs, 0, h => h
  | x :: ds, vs, n + 1, h => by
    simp only [DLs] at h
    obtain ⟨v', r', h1, h2, h3⟩ := h
    subst h1
    exact dl_drop n h3
theorem dl_one {d : D} {v : V} (h : DLs K i H [d] [v]) : DV K i H d v := by
  simp only [DLs] at h
  obtain ⟨v', r', h1, h2, h3⟩ := h
  cases h1
  exact h2
theorem dl1 {d : D} {vs : List V} (h : DLs K i H [d] vs) : ∃ v, vs = [v] ∧ DV K i H d v := by
  simp only [DLs] at h
  obtain ⟨v', r', h1, h2, h3⟩ := h
  exact ⟨v', by rw [h1, h3], h2⟩
theorem dl2 {d e : D} {vs : List V} (h : DLs K i H [d, e] vs) : ∃ v w, vs = [v, w] ∧ DV K i H d v ∧ DV K i H e w := by
  simp only [DLs] at h
  obtain ⟨v', r', h1, h2, w, r2, h3, h4, h5⟩ := h
  exact ⟨v', w, by rw [h1, h3, h5], h2, h4⟩
end

/-! ### a dict's value under a key -/
def aget (kvs : List (Int × D)) (k : Int) : Option D := match kvs with
  | [] => none
  | (j, d) :: r => if j = k then some d else aget r k
section
variable {K : PySem.W.Frag} {i : List Addr} {H : Hp}
theorem aval_none {k : Int} : ∀ {kvs : List (Int × D)} {vs : List (Key × V)}, DKs K i H kvs vs → aget kvs k = none → valV vs (Sum.inl k : Key) = none
  | [], vs, h, _ => by
    simp only [DKs] at h
    subst h
    rfl
  | (j, x) :: r, vs, h, e => by
    simp only [DKs] at h
    obtain ⟨v, r', h1, h2, h3⟩ := h
    subst h1
    unfold aget at e
    by_cases ej : j = k
    · rw [if_pos ej] at e
      cases e
    · rw [if_neg ej] at e
      rw [valV_neg (show ¬ ((Sum.inl j : Key), v).1 = Sum.inl k from fun z => ej (Sum.inl.inj z))]
      exact aval_none h3 e
theorem aval_some {k : Int} {d : D} : ∀ {kvs : List (Int × D)} {vs : List (Key × V)}, DKs K i H kvs vs → aget kvs k = some d → ∃ v, valV vs (Sum.inl k : Key) = some v ∧ DV K i H d v
  | [], vs, h, e => by cases e
  | (j, x) :: r, vs, h, e => by
    simp only [DKs] at h
    obtain ⟨v, r', h1, h2, h3⟩ := h
    subst h1
    unfold aget at e
    by_cases ej : j = k
    · rw [if_pos ej] at e
      cases e
      subst ej
      exact ⟨v, valV_pos rfl, h2⟩
    · rw [if_neg ej] at e
      rw [valV_neg (show ¬ ((Sum.inl j : Key), v).1 = Sum.inl k from fun z => ej (Sum.inl.inj z))]
      exact aval_some h3 e
theorem DKs.length' : ∀ {kvs : List (Int × D)} {vs : List (Key × V)}, DKs K i H kvs vs → kvs.length = vs.length
  | [], vs, h => by
    simp only [DKs] at h
    subst h
    rfl
  | (j, x) :: r, vs, h => by
    simp only [DKs] at h
    obtain ⟨v, r', h1, h2, h3⟩ := h
    subst h1
    rw [List.length_cons, List.length_cons, h3.length']
end
/-! ### operators -/
def strOk2 (s t : Str) : Prop := s.length + t.length ≤ sizeLine
def oAdd : Op2 := fun x y M => match x, y with
  | .int i, .int j => some (.int (i + j), M)
  | .str s, .str t => if s.length + t.length < 16000000 then some (.str (s ++ t), M) else none
  | .tup xs, .tup ys => if xs.length + ys.length < 16000000 then some (.tup (xs ++ ys), M) else none
  | .ref a, .ref b => (match M[a]?, M[b]? with
    | some (.lst xs), some (.lst ys) => if xs.length + ys.length < 16000000 then some (.ref M.length, M ++ [.lst (xs ++ ys)]) else none
    | _, _ => none)
  | _, _ => none
def oSub : Op2 := fun x y M => match x, y with
  | .int i, .int j => some (.int (i - j), M)
  | _, _ => none
abbrev mulFits (i j : Int) : Prop := CMulX i j
instance (i j : Int) : Decidable (mulFits i j) := inferInstanceAs (Decidable ((Builtin.Int.intBits i : Int) + (Builtin.Int.intBits j : Int) ≤ 134217728))
def strRep (s : Str) (k : Nat) : Str := ⟨(List.replicate k s.cps.toList).flatten.toArray⟩
def oMul : Op2 := fun x y M => match x, y with
  | .int i, .int j => if mulFits i j then some (.int (i * j), M) else none
  | .str s, .int k => if s.length ≤ 1000 ∧ -(2 ^ 63) ≤ k ∧ k ≤ 1000 then some (.str (Txt.mul s k), M) else none
  | .ref a, .int k => (match M[a]? with
    | some (.lst xs) => if -(2 ^ 63) ≤ k ∧ k ≤ 1000 ∧ xs.length ≤ 1000 then some (.ref M.length, M ++ [.lst (List.replicate k.toNat xs).flatten]) else none
    | _ => none)
  | _, _ => none
def oDiv : Op2 := fun x y M => match x, y with
  | .int i, .int j => if 0 < j ∧ j < 1073741824 then some (.int (i / j), M) else none
  | _, _ => none
def oMod : Op2 := fun x y M => match x, y with
  | .int i, .int j => if 0 < j then some (.int (i % j), M) else none
  | _, _ => none
def oPow : Op2 := fun x y M => match x, y with
  | .int i, .int j => if 0 ≤ j ∧ j ≤ 1000 ∧ i.natAbs < 2 ^ 64 then some (.int (i ^ j.toNat), M) else none
  | _, _ => none
def oNeg : Op1 := fun x M => match x with
  | .int i => some (.int (-i), M)
  | _ => none
section
variable {X : Cx} {C : Addr}
theorem dl_rep {K : PySem.W.Frag} {i : List Addr} {H : Hp} {ds : List D} {vs : List V} (h : DLs K i H ds vs) : ∀ k : Nat, DLs K i H (List.replicate k ds).flatten (List.replicate k vs).flatten
  | 0 => by simp only [List.replicate_zero, List.flatten_nil, DLs]
  | k + 1 => by
    simp only [List.replicate_succ, List.flatten_cons]
    exact dl_app h (dl_rep h k)
theorem or_add : OpR X (binaryOp .Add) (rO X.K C oAdd) := by
  intro pins s σ H x y v u Q I rv ru h
  obtain ⟨i, M, dx, dy, d, M', m, rx, ry, e, q⟩ := h
  unfold oAdd at e
  split at e
  · cases e
    simp only [DV] at rx ry
    subst rx ry
    exact op_add pins s σ H _ _ v u Q I rv ru ⟨_, _, rfl, rfl, goInt q m⟩
  · split at e
    · rename_i hl
      cases e
      simp only [DV] at rx ry
      subst rx ry
      exact op_add_str pins s σ H _ _ v u Q I rv ru ⟨_, _, rfl, rfl, Nat.le_of_lt (small_line hl), goStr q m⟩
    · cases e
  · rename_i xs ys
    obtain ⟨a, vs, rfl, h1, h2⟩ := tup_at rx
    obtain ⟨b, ws, rfl, h3, h4⟩ := tup_at ry
    have hl1 := h2.length
    have hl2 := h4.length
    split at e
    · rename_i hl
      cases e
      refine op_catA pins s σ H _ _ v u Q I rv ru ⟨a, b, vs, ws, rfl, rfl, h1.seq, h3.seq, by rw [← hl1, ← hl2]; exact Nat.le_of_lt (small_line hl), fun z => ?_, fun _ z => ?_, fun _ _ => goTup q m (dl_app h2 h4)⟩
      · subst z
        have : xs = [] := List.eq_nil_of_length_eq_zero hl1
        subst this
        exact goSame q m ry
      · subst z
        have : ys = [] := List.eq_nil_of_length_eq_zero hl2
        subst this
        refine goSame q m ?_
        rw [List.append_nil]
        exact rx
    · cases e
  · rename_i a b
    split at e
    · rename_i xs ys ha hb
      split at e
      · rename_i hl
        cases e
        obtain ⟨p, vs, hp, rfl, h1, h2⟩ := lst_at m ha rx
        obtain ⟨p', ws, hp', rfl, h3, h4⟩ := lst_at m hb ry
        refine op_cat pins s σ H _ _ v u Q I rv ru ⟨p, p', vs, ws, rfl, rfl, h1, h3, by rw [← h2.length, ← h4.length]; exact Nat.le_of_lt (small_line hl), goLst q m (dl_app h2 h4)⟩
      · cases e
    · cases e
  · cases e
theorem or_sub : OpR X (binaryOp .Sub) (rO X.K C oSub) := by
  intro pins s σ H x y v u Q I rv ru h
  obtain ⟨i, M, dx, dy, d, M', m, rx, ry, e, q⟩ := h
  unfold oSub at e
  split at e
  · cases e
    simp only [DV] at rx ry
    subst rx ry
    exact op_sub pins s σ H _ _ v u Q I rv ru ⟨_, _, rfl, rfl, goInt q m⟩
  · cases e
theorem or_mul : OpR X (binaryOp .Mult) (rO X.K C oMul) := by
  intro pins s σ H x y v u Q I rv ru h
  obtain ⟨i, M, dx, dy, d, M', m, rx, ry, e, q⟩ := h
  unfold oMul at e
  split at e
  · split at e
    · rename_i hf
      cases e
      simp only [DV] at rx ry
      subst rx ry
      exact op_mulX pins s σ H _ _ v u Q I rv ru ⟨_, _, rfl, rfl, hf, goInt q m⟩
    · cases e
  · rename_i st k
    split at e
    · rename_i hl
      cases e
      simp only [DV] at rx ry
      subst rx ry
      obtain ⟨t, rfl⟩ := rv
      obtain ⟨t', rfl⟩ := ru
      obtain ⟨h1, h2, h3⟩ := hl
      refine PySem.SB.mul (x := st) (n := k) ⟨?_, fun h4 _ => ?_, fun h4 _ => ?_⟩ fun t' tk => ⟨.str (Txt.mul st k), H, I.tok tk, ⟨_, rfl⟩, goStr q m⟩
      · rw [decide_eq_false (by omega), decide_eq_false (by omega)]
        rfl
      · have h5 : (0 : Int) < k := by omega
        have h6 : (1000 : Int) ≤ (2 ^ 63 - 1) / k := by
          rw [Int.le_ediv_iff_mul_le h5]
          omega
        omega
      · have h5 : st.length * k.toNat ≤ 1000 * 1000 := Nat.mul_le_mul h1 (by omega)
        unfold Builtin.Str.tooLong
        exact decide_eq_false (by rw [PySem.sizeLine_eq]; omega)
    · cases e
  · rename_i a k
    split at e
    · rename_i xs ha
      split at e
      · rename_i hl
        cases e
        obtain ⟨p, vs, hp, rfl, h1, h2⟩ := lst_at m ha rx
        simp only [DV] at ry
        subst ry
        have hk : xs.length * k.toNat ≤ 1000 * 1000 := Nat.mul_le_mul hl.2.2 (by omega)
        exact op_rep pins s σ H _ _ v u Q I rv ru ⟨p, k, vs, rfl, rfl, h1, hl.1, by omega, by rw [← h2.length, PySem.sizeLine_eq]; omega, goLst q m (dl_rep h2 _)⟩
      · cases e
    · cases e
  · cases e
theorem or_div : OpR X (binaryOp .FloorDiv) (rO X.K C oDiv) := by
  intro pins s σ H x y v u Q I rv ru h
  obtain ⟨i, M, dx, dy, d, M', m, rx, ry, e, q⟩ := h
  unfold oDiv at e
  split at e
  · split at e
    · rename_i hf
      cases e
      simp only [DV] at rx ry
      subst rx ry
      exact op_fdiv pins s σ H _ _ v u Q I rv ru ⟨_, _, rfl, rfl, hf, goInt q m⟩
    · cases e
  · cases e
theorem or_mod : OpR X (binaryOp .Mod) (rO X.K C oMod) := by
  intro pins s σ H x y v u Q I rv ru h
  obtain ⟨i, M, dx, dy, d, M', m, rx, ry, e, q⟩ := h
  unfold oMod at e
  split at e
  · split at e
    · rename_i hf
      cases e
      simp only [DV] at rx ry
      subst rx ry
      exact op_mod pins s σ H _ _ v u Q I rv ru ⟨_, _, rfl, rfl, hf, goInt q m⟩
    · cases e
  · cases e
theorem or_pow : OpR X (binaryOp .Pow) (rO X.K C oPow) := by
  intro pins s σ H x y v u Q I rv ru h
  obtain ⟨i, M, dx, dy, d, M', m, rx, ry, e, q⟩ := h
  unfold oPow at e
  split at e
  · split at e
    · rename_i hf
      cases e
      simp only [DV] at rx ry
      subst rx ry
      exact op_pow pins s σ H _ _ v u Q I rv ru ⟨_, _, rfl, rfl, ⟨hf.1, by omega, hf.2.2⟩, goInt q m⟩
    · cases e
  · cases e
theorem ur_neg : UnR X (unaryOp .USub) (rO1 X.K C oNeg) := by
  intro pins s σ H x v Q I rv h
  obtain ⟨i, M, dx, d, M', m, rx, e, q⟩ := h
  unfold oNeg at e
  split at e
  · cases e
    simp only [DV] at rx
    subst rx
    exact un_neg pins s σ H _ v Q I rv ⟨_, rfl, goInt q m⟩
  · cases e
end
/-! ### comparisons -/
mutual
def pyD (f : Nat → Option PyData) : D → Option PyData
  | .non => some .none
  | .bl b => some (.bool b)
  | .int i => some (.int i)
  | .str s => some (.str s)
  | .tup xs => (pyL f xs).map .tuple
  | .scr ns => some (.list (ns.map .int))
  | .ref n => f n
def pyL (f : Nat → Option PyData) : List D → Option (List PyData)
  | [] => some []
  | d :: ds => match pyD f d, pyL f ds with
    | some x, some xs => some (x :: xs)
    | _, _ => none
end
def pyM (M : Mem) : Nat → Nat → Option PyData
  | 0, _ => none
  | k + 1, n => match M[n]? with
    | some (.lst ds) => (pyL (pyM M k) ds).map .list
    | _ => none
/-- the datum that a value shows -/
def pyOf (M : Mem) (d : D) : Option PyData := match pyD (pyM M 4) d with
  | some p => if SeqAt.shaped p = true then some p else none
  | none => none
/-- are two dicts alike -/
def dictEq (M : Mem) (b : List (Int × D)) : List (Int × D) → Option Bool
  | [] => some true
  | (k, d) :: r => match aget b k with
    | none => some false
    | some d2 => match pyOf M d, pyOf M d2 with
      | some p, some p2 => (match dictEq M b r with
        | some z => some (PyData.eqv p p2 && z)
        | none => none)
      | _, _ => none
def eqD (x y : D) (M : Mem) : Option Bool := match pyOf M x, pyOf M y with
  | some p, some p2 => some (PyData.eqv p p2)
  | _, _ => none
/-- two dicts, or two data -/
def eqX (x y : D) (M : Mem) : Option Bool := match x, y with
  | .ref n, .ref m => (match M[n]?, M[m]? with
    | some (.dct ka), some (.dct kb) => if ka.length = kb.length then dictEq M kb ka else some false
    | _, _ => eqD x y M)
  | _, _ => eqD x y M
def oEq : Op2 := fun x y M => match eqX x y M with
  | some b => some (.bl b, M)
  | none => none
def oNe : Op2 := fun x y M => match eqX x y M with
  | some b => some (.bl (!b), M)
  | none => none
def oLt : Op2 := fun x y M => match x, y with
  | .int i, .int j => some (.bl (decide (i < j)), M)
  | _, _ => none
def oLe : Op2 := fun x y M => match x, y with
  | .int i, .int j => some (.bl (decide (i ≤ j)), M)
  | .str s, .str t => some (.bl (!decide (t.cps.toList < s.cps.toList)), M)
  | _, _ => none
def oGt : Op2 := fun x y M => match x, y with
  | .int i, .int j => some (.bl (decide (j < i)), M)
  | _, _ => none
def oGe : Op2 := fun x y M => match x, y with
  | .int i, .int j => some (.bl (decide (j ≤ i)), M)
  | _, _ => none
def isNon : D → Bool
  | .non => true
  | _ => false
def oIs : Op2 := fun x y M => match y with
  | .non => some (.bl (isNon x), M)
  | .bl b => (match x with
    | .bl a => some (.bl (decide (a = b)), M)
    | _ => none)
  | _ => none
def oIsNot : Op2 := fun x y M => match y with
  | .non => some (.bl (!isNon x), M)
  | .bl b => (match x with
    | .bl a => some (.bl (!decide (a = b)), M)
    | _ => none)
  | _ => none
section
variable {K : PySem.W.Frag} {C : Addr} {i : List Addr} {M : Mem} {H : Hp}
theorem dp_ints : ∀ ns : List Int, DpAll K H (ns.map V.int) (ns.map PyData.int)
  | [] => .nil
  | n :: ns => .cons (.int n) (dp_ints ns)
mutual
theorem dp_d {f : Nat → Option PyData} (hf : ∀ n p v, f n = some p → DV K i H (.ref n) v → Dp K H v p) : ∀ (d : D) (p : PyData) (v : V), pyD f d = some p → DV K i H d v → Dp K H v p
  | .non, p, v, e, r => by
    simp only [pyD, Option.some.injEq] at e
    simp only [DV] at r
    subst e r
    exact .non
  | .bl b, p, v, e, r => by
    simp only [pyD, Option.some.injEq] at e
    simp only [DV] at r
    subst e r
    exact .bl b
  | .int b, p, v, e, r => by
    simp only [pyD, Option.some.injEq] at e
    simp only [DV] at r
    subst e r
    exact .int b
  | .str b, p, v, e, r => by
    simp only [pyD, Option.some.injEq] at e
    simp only [DV] at r
    subst e r
    exact .str b
  | .tup xs, p, v, e, r => by
    simp only [pyD] at e
    simp only [DV] at r
    obtain ⟨a, vs, rfl, h1, h2⟩ := r
    obtain ⟨ps, hp, rfl⟩ := Option.map_eq_some_iff.mp e
    exact .tup h1.seq (dp_l hf xs ps vs hp h2)
  | .scr ns, p, v, e, r => by
    simp only [pyD, Option.some.injEq] at e
    simp only [DV] at r
    obtain ⟨a, rfl, h1⟩ := r
    subst e
    exact .lst h1.seq (dp_ints ns)
  | .ref n, p, v, e, r => by
    simp only [pyD] at e
    exact hf n p v e r
theorem dp_l {f : Nat → Option PyData} (hf : ∀ n p v, f n = some p → DV K i H (.ref n) v → Dp K H v p) : ∀ (ds : List D) (ps : List PyData) (vs : List V), pyL f ds = some ps → DLs K i H ds vs → DpAll K H vs ps
  | [], ps, vs, e, r => by
    simp only [pyL, Option.some.injEq] at e
    simp only [DLs] at r
    subst e r
    exact .nil
  | d :: ds, ps, vs, e, r => by
    simp only [pyL] at e
    simp only [DLs] at r
    obtain ⟨v, r', rfl, h1, h2⟩ := r
    split at e
    · rename_i x xs hx hxs
      cases e
      exact .cons (dp_d hf d x v hx h1) (dp_l hf ds xs r' hxs h2)
    · cases e
end
theorem dp_m (m : MemR K C i M H) : ∀ (k n : Nat) (p : PyData) (v : V), pyM M k n = some p → DV K i H (.ref n) v → Dp K H v p
  | 0, n, p, v, e, r => by
    unfold pyM at e
    cases e
  | k + 1, n, p, v, e, r => by
    unfold pyM at e
    split at e
    · rename_i ds hn
      obtain ⟨ps, hp, rfl⟩ := Option.map_eq_some_iff.mp e
      obtain ⟨a, vs, ha, rfl, h1, h2⟩ := lst_at m hn r
      exact .lst (SqL.of h1) (dp_l (dp_m m k) ds ps vs hp h2)
    · cases e
theorem dp_of (m : MemR K C i M H) {d : D} {p : PyData} {v : V} (e : pyOf M d = some p) (r : DV K i H d v) : Dp K H v p ∧ SeqAt.shaped p = true := by
  unfold pyOf at e
  split at e
  · rename_i p' hp
    split at e
    · rename_i hs
      cases e
      exact ⟨dp_d (dp_m m 4) d _ v hp r, hs⟩
    · cases e
  · cases e
end
section
variable {X : Cx} {C : Addr}
theorem room100 {A : Around} {k : Nat} (hr : Room k A) : A.units + 100 < cLine := by
  have := hr.un
  omega
theorem kv_uncons {k : Key} {v : V} {vs : List (Key × V)} {us : List (Key × Value)} (h : KV ((k, v) :: vs) us) : ∃ u r, us = (k, u) :: r ∧ RelV v u ∧ KV vs r := by
  unfold KV at h
  cases h with
  | @cons p q ps qs h1 t =>
    obtain ⟨k', u⟩ := q
    obtain ⟨h2, h3⟩ := h1
    cases (show k = k' from h2)
    exact ⟨u, qs, rfl, h3, t⟩
theorem hits_of {M : Mem} {i : List Addr} {H : Hp} {pins : List (Addr × Obj)} {σ : L2.St} {s : Shared} (hu : X.A.units + 100 < cLine) (I : Inv X pins σ H s) (m : MemR X.K C i M H) {kb : List (Int × D)} {vb : List (Key × V)} {ub : List (Key × Value)} (rb : DKs X.K i H kb vb) (hb : KV vb ub) :
    ∀ (ka : List (Int × D)) (va : List (Key × V)) (ua : List (Key × Value)) (b : Bool), DKs X.K i H ka va → KV va ua → dictEq M kb ka = some b → PySem.W.KeqHits X.A.in1 s ub ua b
  | [], va, ua, b, ra, ha, e => by
    simp only [DKs] at ra
    subst ra
    unfold KV at ha
    cases ha
    cases e
    exact .nil
  | (k, d) :: r, va, ua, b, ra, ha, e => by
    simp only [DKs] at ra
    obtain ⟨v, r', h1, h2, h3⟩ := ra
    subst h1
    obtain ⟨u, ur, rfl, ru, hr⟩ := kv_uncons ha
    unfold dictEq at e
    cases hg : aget kb k with
    | none =>
      rw [hg] at e
      cases e
      have hn := aval_none rb hg
      have := hb.val (Sum.inl k : Key)
      rw [hn] at this
      refine .miss ?_
      cases hv : valueAt ub (Sum.inl k : Key) with
      | none => rfl
      | some y =>
        rw [hv] at this
        exact this.elim
    | some d2 =>
      rw [hg] at e
      dsimp only at e
      split at e
      · rename_i p p2 hp hp2
        split at e
        · rename_i z hz
          cases e
          obtain ⟨v2, hv2, r2⟩ := aval_some rb hg
          have := hb.val (Sum.inl k : Key)
          rw [hv2] at this
          obtain ⟨y, hy, ry⟩ := RelO.some_of (v := v2) (o := valueAt ub (Sum.inl k : Key)) this
          obtain ⟨q1, q2⟩ := dp_of m hp h2
          obtain ⟨q3, q4⟩ := dp_of m hp2 r2
          obtain ⟨as, w1⟩ := Dp.reads I p v u q1 ru
          obtain ⟨bs, w2⟩ := Dp.reads I p2 v2 y q3 ry
          exact .hit hy (PySem.W.keq_at w1 w2 q2 q4 (by show X.A.units + 1 + 64 < cLine; omega)) (hits_of hu I m rb hb r r' ur z h3 hr hz)
        · cases e
      · cases e
theorem or_eqX (hu : X.A.units + 100 < cLine) {x y : V} {v u : Value} {dx dy : D} {i : List Addr} {M : Mem} {H : Hp} {pins : List (Addr × Obj)} {σ : L2.St} {s : Shared} {b : Bool} (I : Inv X pins σ H s) (m : MemR X.K C i M H) (rx : DV X.K i H dx x) (ry : DV X.K i H dy y) (rv : RelV x v) (ru : RelV y u)
    (e : eqX dx dy M = some b) : (∃ p p2, Dp X.K H x p ∧ Dp X.K H y p2 ∧ SeqAt.shaped p = true ∧ SeqAt.shaped p2 = true ∧ PyData.eqv p p2 = b) ∨
      ∃ (a c : Addr) (ka kb : List (Key × Value)) (r : Bool), v = .ref a ∧ u = .ref c ∧ (a == sysModules) = false ∧ (c == sysModules) = false ∧ s.heap.DictOf (mixKind X.prog X.w) a ka ∧ s.heap.DictOf (mixKind X.prog X.w) c kb ∧ (ka.length = kb.length → PySem.W.KeqHits X.A.in1 s kb ka r) ∧ (ka.length == kb.length && r) = b := by
  have plain : eqD dx dy M = some b → (∃ p p2, Dp X.K H x p ∧ Dp X.K H y p2 ∧ SeqAt.shaped p = true ∧ SeqAt.shaped p2 = true ∧ PyData.eqv p p2 = b) := fun e => by
    unfold eqD at e
    split at e
    · rename_i p p2 h1 h2
      cases e
      obtain ⟨k1, k2⟩ := dp_of m h1 rx
      obtain ⟨k3, k4⟩ := dp_of m h2 ry
      exact ⟨p, p2, k1, k3, k2, k4, rfl⟩
    · cases e
  unfold eqX at e
  split at e
  · rename_i n n2
    split at e
    · rename_i ka kb h1 h2
      obtain ⟨a, va, _, rfl, h3, h4⟩ := dct_at m h1 rx
      obtain ⟨c, vb, _, rfl, h5, h6⟩ := dct_at m h2 ry
      cases rv
      cases ru
      obtain ⟨_, ya, ua, ra, da⟩ := dk_rd I.hok (.inl h3)
      obtain ⟨_, yb, ub, rb, db⟩ := dk_rd I.hok (.inl h5)
      have la : ka.length = ua.length := by rw [h4.length', ra.length]
      have lb : kb.length = ub.length := by rw [h6.length', rb.length]
      by_cases hl : ka.length = kb.length
      · rw [if_pos hl] at e
        exact .inr ⟨a, c, ua, ub, b, rfl, rfl, ya, yb, da, db, fun _ => hits_of hu I m h6 rb ka va ua b h4 ra e, by rw [← la, ← lb, hl]; simp⟩
      · rw [if_neg hl] at e
        cases e
        exact .inr ⟨a, c, ua, ub, false, rfl, rfl, ya, yb, da, db, fun z => absurd (by rw [la, lb, z]) hl, by simp⟩
    · exact .inl (plain e)
  · exact .inl (plain e)
theorem or_eq (hu : X.A.units + 100 < cLine) : OpR X (compareOp .Eq) (rO X.K C oEq) := by
  intro pins s σ H x y v u Q I rv ru h
  obtain ⟨i, M, dx, dy, d, M', m, rx, ry, e, q⟩ := h
  unfold oEq at e
  split at e
  · rename_i b hb
    cases e
    rcases or_eqX hu I m rx ry rv ru hb with ⟨p, p2, k1, k3, k2, k4, rfl⟩ | ⟨a, c, ka, kb, r, rfl, rfl, ya, yb, da, db, hits, hr⟩
    · exact op_eqD (by omega) pins s σ H _ _ v u Q I rv ru ⟨p, p2, k1, k3, k2, k4, goBl q m⟩
    · exact PySem.W.keq_eq ya yb da db (by omega) hits ⟨.bl b, H, I, by rw [hr]; rfl, goBl q m⟩
  · cases e
theorem or_ne (hu : X.A.units + 100 < cLine) : OpR X (compareOp .NotEq) (rO X.K C oNe) := by
  intro pins s σ H x y v u Q I rv ru h
  obtain ⟨i, M, dx, dy, d, M', m, rx, ry, e, q⟩ := h
  unfold oNe at e
  split at e
  · rename_i b hb
    cases e
    rcases or_eqX hu I m rx ry rv ru hb with ⟨p, p2, k1, k3, k2, k4, rfl⟩ | ⟨a, c, ka, kb, r, rfl, rfl, ya, yb, da, db, hits, hr⟩
    · exact op_neD (by omega) pins s σ H _ _ v u Q I rv ru ⟨p, p2, k1, k3, k2, k4, goBl q m⟩
    · exact PySem.W.keq_ne ya yb da db (by omega) hits ⟨.bl (!b), H, I, by rw [hr]; rfl, goBl q m⟩
  · cases e
theorem or_lt : OpR X (compareOp .Lt) (rO X.K C oLt) := by
  intro pins s σ H x y v u Q I rv ru h
  obtain ⟨i, M, dx, dy, d, M', m, rx, ry, e, q⟩ := h
  unfold oLt at e
  split at e
  · cases e
    simp only [DV] at rx ry
    subst rx ry
    exact op_lt pins s σ H _ _ v u Q I rv ru ⟨_, _, rfl, rfl, goBl q m⟩
  · cases e
theorem or_gt : OpR X (compareOp .Gt) (rO X.K C oGt) := by
  intro pins s σ H x y v u Q I rv ru h
  obtain ⟨i, M, dx, dy, d, M', m, rx, ry, e, q⟩ := h
  unfold oGt at e
  split at e
  · cases e
    simp only [DV] at rx ry
    subst rx ry
    exact op_gt pins s σ H _ _ v u Q I rv ru ⟨_, _, rfl, rfl, goBl q m⟩
  · cases e
theorem or_ge : OpR X (compareOp .GtE) (rO X.K C oGe) := by
  intro pins s σ H x y v u Q I rv ru h
  obtain ⟨i, M, dx, dy, d, M', m, rx, ry, e, q⟩ := h
  unfold oGe at e
  split at e
  · cases e
    simp only [DV] at rx ry
    subst rx ry
    exact op_ge pins s σ H _ _ v u Q I rv ru ⟨_, _, rfl, rfl, goBl q m⟩
  · cases e
theorem or_le : OpR X (compareOp .LtE) (rO X.K C oLe) := by
  intro pins s σ H x y v u Q I rv ru h
  obtain ⟨i, M, dx, dy, d, M', m, rx, ry, e, q⟩ := h
  unfold oLe at e
  split at e
  · cases e
    simp only [DV] at rx ry
    subst rx ry
    exact op_le pins s σ H _ _ v u Q I rv ru ⟨_, _, rfl, rfl, goBl q m⟩
  · cases e
    simp only [DV] at rx ry
    subst rx ry
    exact op_le_str pins s σ H _ _ v u Q I rv ru ⟨_, _, rfl, rfl, goBl q m⟩
  · cases e
theorem isNon_dv {K : PySem.W.Frag} {i : List Addr} {H : Hp} {d : D} {v : V} (r : DV K i H d v) : isNon d = decide (v = .non) := by
  cases d <;> simp only [DV] at r
  · subst r; rfl
  · subst r; rfl
  · subst r; rfl
  · subst r; rfl
  · obtain ⟨a, vs, rfl, _⟩ := r; rfl
  · obtain ⟨a, rfl, _⟩ := r; rfl
  · obtain ⟨a, _, rfl⟩ := r; rfl
theorem or_is : OpR X (compareOp .Is) (rO X.K C oIs) := by
  intro pins s σ H x y v u Q I rv ru h
  obtain ⟨i, M, dx, dy, d, M', m, rx, ry, e, q⟩ := h
  unfold oIs at e
  split at e
  · cases e
    simp only [DV] at ry
    subst ry
    exact op_isN pins s σ H _ _ v u Q I rv ru ⟨rfl, by rw [← isNon_dv rx]; exact goBl q m⟩
  · split at e
    · cases e
      simp only [DV] at rx ry
      subst rx ry
      exact op_isBl pins s σ H _ _ v u Q I rv ru ⟨_, _, rfl, rfl, goBl q m⟩
    · cases e
  · cases e
theorem or_isNot : OpR X (compareOp .IsNot) (rO X.K C oIsNot) := by
  intro pins s σ H x y v u Q I rv ru h
  obtain ⟨i, M, dx, dy, d, M', m, rx, ry, e, q⟩ := h
  unfold oIsNot at e
  split at e
  · cases e
    simp only [DV] at ry
    subst ry
    exact op_notN pins s σ H _ _ v u Q I rv ru ⟨rfl, by rw [← isNon_dv rx]; exact goBl q m⟩
  · split at e
    · cases e
      simp only [DV] at rx ry
      subst rx ry
      exact op_notBl pins s σ H _ _ v u Q I rv ru ⟨_, _, rfl, rfl, goBl q m⟩
    · cases e
  · cases e
end
end BL
/-! BLBuilt: subscripts, slices, dicts, built-ins, methods by values. -/
namespace BL
open PySem L2

/-! ### dicts -/
def ahas (kvs : List (Int × D)) (k : Int) : Bool := (aget kvs k).isSome
def aput (kvs : List (Int × D)) (k : Int) (d : D) : List (Int × D) := if ahas kvs k = true then kvs.map fun p => if p.1 = k then (p.1, d) else p else kvs ++ [(k, d)]
def adel (kvs : List (Int × D)) (k : Int) : List (Int × D) := kvs.filter fun p => decide (p.1 ≠ k)
section
variable {K : PySem.W.Frag} {C : Addr} {i : List Addr} {M : Mem} {H : Hp}
theorem DKs.val (k : Int) : ∀ {kvs : List (Int × D)} {vs : List (Key × V)}, DKs K i H kvs vs → (aget kvs k = none → valV vs (Sum.inl k : Key) = none) ∧ ∀ d, aget kvs k = some d → ∃ v, valV vs (Sum.inl k : Key) = some v ∧ DV K i H d v
  | [], vs, h => by
    simp only [DKs] at h
    subst h
    exact ⟨fun _ => rfl, fun d e => by cases e⟩
  | (j, x) :: r, vs, h => by
    simp only [DKs] at h
    obtain ⟨v, r', h1, h2, h3⟩ := h
    subst h1
    obtain ⟨n1, n2⟩ := DKs.val k h3
    by_cases e : j = k
    · subst e
      rw [valV_pos (show ((Sum.inl j : Key), v).1 = Sum.inl j from rfl)]
      unfold aget
      rw [if_pos rfl]
      exact ⟨fun z => (by cases z), fun d z => ⟨v, rfl, by cases z; exact h2⟩⟩
    · rw [valV_neg (show ¬ ((Sum.inl j : Key), v).1 = Sum.inl k from fun z => e (Sum.inl.inj z))]
      unfold aget
      rw [if_neg e]
      exact ⟨n1, n2⟩
theorem DKs.length : ∀ {kvs : List (Int × D)} {vs : List (Key × V)}, DKs K i H kvs vs → kvs.length = vs.length
  | [], vs, h => by
    simp only [DKs] at h
    subst h
    rfl
  | (j, x) :: r, vs, h => by
    simp only [DKs] at h
    obtain ⟨v, r', h1, h2, h3⟩ := h
    subst h1
    rw [List.length_cons, List.length_cons, h3.length]
theorem dk_snoc {k : Int} {d : D} {v : V} (rv : DV K i H d v) : ∀ {kvs : List (Int × D)} {vs : List (Key × V)}, DKs K i H kvs vs → DKs K i H (kvs ++ [(k, d)]) (vs ++ [(Sum.inl k, v)])
  | [], vs, h => by
    simp only [DKs] at h
    subst h
    simp only [List.nil_append, DKs]
    exact ⟨v, [], rfl, rv, rfl⟩
  | (j, x) :: r, vs, h => by
    simp only [DKs] at h
    obtain ⟨v', r', h1, h2, h3⟩ := h
    subst h1
    simp only [List.cons_append, DKs]
    exact ⟨v', _, rfl, h2, dk_snoc rv h3⟩
theorem dk_repl {k : Int} {d : D} {v : V} (rv : DV K i H d v) : ∀ {kvs : List (Int × D)} {vs : List (Key × V)}, DKs K i H kvs vs →
    DKs K i H (kvs.map fun p => if p.1 = k then (p.1, d) else p) (vs.map fun kv => if kv.1 = (Sum.inl k : Key) then (kv.1, v) else kv)
  | [], vs, h => by
    simp only [DKs] at h
    subst h
    simp only [List.map, DKs]
  | (j, x) :: r, vs, h => by
    simp only [DKs] at h
    obtain ⟨v', r', h1, h2, h3⟩ := h
    subst h1
    simp only [List.map]
    by_cases e : j = k
    · subst e
      rw [if_pos rfl, if_pos rfl]
      simp only [DKs]
      exact ⟨v, _, rfl, rv, dk_repl rv h3⟩
    · rw [if_neg e, if_neg fun z => e (Sum.inl.inj z)]
      simp only [DKs]
      exact ⟨v', _, rfl, h2, dk_repl rv h3⟩
theorem DKs.put {k : Int} {d : D} {v : V} (rv : DV K i H d v) {kvs : List (Int × D)} {vs : List (Key × V)} (h : DKs K i H kvs vs) : DKs K i H (aput kvs k d) (putK vs (Sum.inl k : Key) v) := by
  obtain ⟨n1, n2⟩ := DKs.val k h
  unfold aput putK ahas
  cases e : aget kvs k with
  | none =>
    have e2 := n1 e
    have e3 : (vs.any fun kv => decide (kv.1 = (Sum.inl k : Key))) = false := by rw [valV_any, e2]; rfl
    rw [if_neg (by simp), if_neg (by rw [e3]; simp)]
    exact dk_snoc rv h
  | some d' =>
    obtain ⟨v', e2, _⟩ := n2 d' e
    have e3 : (vs.any fun kv => decide (kv.1 = (Sum.inl k : Key))) = true := by rw [valV_any, e2]; rfl
    rw [if_pos (by simp), if_pos e3]
    exact dk_repl rv h
theorem DKs.del {k : Int} : ∀ {kvs : List (Int × D)} {vs : List (Key × V)}, DKs K i H kvs vs → DKs K i H (adel kvs k) (dropK vs (Sum.inl k : Key))
  | [], vs, h => by
    simp only [DKs] at h
    subst h
    simp only [adel, dropK, List.filter, DKs]
  | (j, x) :: r, vs, h => by
    simp only [DKs] at h
    obtain ⟨v', r', h1, h2, h3⟩ := h
    subst h1
    have ih := DKs.del (k := k) h3
    unfold adel dropK at ih ⊢
    by_cases e : j = k
    · subst e
      rw [List.filter_cons_of_neg (by simp), List.filter_cons_of_neg (by simp)]
      exact ih
    · rw [List.filter_cons_of_pos (by simpa using e), List.filter_cons_of_pos (by simpa using fun z => e z)]
      simp only [DKs]
      exact ⟨v', _, rfl, h2, ih⟩
theorem dk_keys : ∀ {kvs : List (Int × D)} {vs : List (Key × V)}, DKs K i H kvs vs → vs.map (·.1) = (kvs.map (·.1)).map Sum.inl
  | [], vs, h => by
    simp only [DKs] at h
    subst h
    rfl
  | (j, x) :: r, vs, h => by
    simp only [DKs] at h
    obtain ⟨v', r', h1, h2, h3⟩ := h
    subst h1
    simp only [List.map, List.cons.injEq, true_and]
    exact dk_keys h3
theorem dk_keysV : ∀ {kvs : List (Int × D)} {vs : List (Key × V)}, DKs K i H kvs vs → vs.map (fun kv => kV kv.1) = (kvs.map (·.1)).map V.int
  | [], vs, h => by
    simp only [DKs] at h
    subst h
    rfl
  | (j, x) :: r, vs, h => by
    simp only [DKs] at h
    obtain ⟨v', r', h1, h2, h3⟩ := h
    subst h1
    simp only [List.map, kV, List.cons.injEq, true_and]
    exact dk_keysV h3
end
/-! ### subscripts -/
def oIx : Op2 := fun x y M => match y with
  | .int k => (match x with
    | .tup ds => (match atI ds k with
      | some d => some (d, M)
      | none => none)
    | .scr ns => (match atI ns k with
      | some n => some (.int n, M)
      | none => none)
    | .str s => if s.length < 16000000 then (match atI s.cps.toList k with
      | some c => some (.str ⟨#[c]⟩, M)
      | none => none) else none
    | .ref n => (match M[n]? with
      | some (.lst ds) => (match atI ds k with
        | some d => some (d, M)
        | none => none)
      | some (.dct kvs) => (match aget kvs k with
        | some d => some (d, M)
        | none => none)
      | _ => none)
    | _ => none)
  | _ => none
section
variable {X : Cx} {C : Addr} {W : WX}
theorem ix_dict (hu : X.A.units + 1 < cLine) : IxR X (fun x y H Q => ∃ a v, x = .ref a ∧ DGet H a y (some v) ∧ Q v H) := by
  intro value slice pins s σ H x y v u Q I rx ry h hs
  obtain ⟨a, z, rfl, g, q⟩ := h
  cases rx
  unfold PyProof.Rows.subscriptTail
  refine wpAny_bind ?_
  have hT := dict_typeIs I g
  rw [getitemInPython_of_ne hT.not_modules]
  refine wpAny_bind (wpAny_specialOf hT PySem.F.slot_dict_getitem.lookup ?_)
  have fin : wpAny (model X.prog X.w) X.A (subscripted slice false (.ref a) u) (fun r s₃ => wpAny (model X.prog X.w) X.A (letTemporaryGo value (.ref a) r >>= fun _ => pure r) (EP X pins σ Q) X.xe s₃) X.xe s := by
    rw [hs]
    exact wpAny_operating (d_getItem hu I g ry fun w' s3 I3 rw' => wpAny_bind (wpAny_letTemporaryGo (wpAny_pure ⟨z, H, I3, rw', q⟩)))
  first
    | exact wpAny_pure (wpAny_bind fin)
    | exact wpAny_bind (wpAny_pure (wpAny_bind fin))
    | exact wpAny_bind fin
theorem atI_dl {K : PySem.W.Frag} {i : List Addr} {H : Hp} {ds : List D} {vs : List V} {k : Int} {d : D} (h : DLs K i H ds vs) (e : atI ds k = some d) : ∃ v, atI vs k = some v ∧ DV K i H d v := by
  unfold atI at e ⊢
  rw [← h.length]
  cases hx : ixN ds.length k with
  | none =>
    rw [hx] at e
    cases e
  | some j =>
    rw [hx] at e
    obtain ⟨v, h1, h2⟩ := h.get e
    exact ⟨v, h1, h2⟩
theorem atI_map {α β : Type} {f : α → β} {xs : List α} {k : Int} {x : α} (e : atI xs k = some x) : atI (xs.map f) k = some (f x) := by
  unfold atI at e ⊢
  rw [List.length_map]
  cases hx : ixN xs.length k with
  | none =>
    rw [hx] at e
    cases e
  | some j =>
    rw [hx] at e
    show (xs.map f)[j]? = some (f x)
    rw [List.getElem?_map, show xs[j]? = some x from e]
    rfl
theorem ir_ix (hu : X.A.units + 1 < cLine) : IxR X (rO X.K C oIx) := by
  intro value slice pins s σ H x y v u Q I rv ru h hs
  obtain ⟨i, M, dx, dy, d, M', m, rx, ry, e, q⟩ := h
  unfold oIx at e
  split at e
  · rename_i k
    simp only [DV] at ry
    subst ry
    split at e
    · rename_i ds
      obtain ⟨a, vs, rfl, h1, h2⟩ := tup_at rx
      split at e
      · rename_i d' hd
        cases e
        obtain ⟨w, k1, k2⟩ := atI_dl h2 hd
        exact ix_tup value slice pins s σ H _ _ v u Q I rv ru ⟨a, vs, k, w, rfl, rfl, h1.seq, k1, goSame q m k2⟩ hs
      · cases e
    · rename_i ns
      obtain ⟨a, rfl, h1⟩ := scr_at rx
      split at e
      · rename_i n hd
        cases e
        exact ix_list value slice pins s σ H _ _ v u Q I rv ru ⟨a, _, k, _, rfl, rfl, h1.seq, atI_map hd, goInt q m⟩ hs
      · cases e
    · rename_i z
      simp only [DV] at rx
      subst rx
      split at e
      · rename_i hl
        split at e
        · rename_i c hc
          cases e
          exact ix_str value slice pins s σ H _ _ v u Q I rv ru ⟨z, k, c, rfl, rfl, Nat.le_of_lt (small_line hl), hc, goStr q m⟩ hs
        · cases e
      · cases e
    · rename_i n
      split at e
      · rename_i ds hn
        obtain ⟨a, vs, ha, rfl, h1, h2⟩ := lst_at m hn rx
        split at e
        · rename_i d' hd
          cases e
          obtain ⟨w, k1, k2⟩ := atI_dl h2 hd
          exact ix_list value slice pins s σ H _ _ v u Q I rv ru ⟨a, vs, k, w, rfl, rfl, SqL.of h1, k1, goSame q m k2⟩ hs
        · cases e
      · rename_i kvs hn
        obtain ⟨a, vs, ha, rfl, h1, h2⟩ := dct_at m hn rx
        split at e
        · rename_i d' hd
          cases e
          obtain ⟨w, k1, k2⟩ := (DKs.val k h2).2 _ hd
          exact ix_dict hu value slice pins s σ H _ _ v u Q I rv ru ⟨a, w, rfl, by rw [← k1]; exact DGet.k (k := Sum.inl k) h1, goSame q m k2⟩ hs
        · cases e
      · cases e
    · cases e
  · cases e
variable {a b : Expr} {ga gb : GE} {pos : Pos}
theorem se_ix (hu : X.A.units + 1 < cLine) (ha : SE X C W a ga) (hb : SE X C W b gb) (hs : PlainIx b) : SE X C W (.Subscript a b pos) (mBin oIx ga gb) := by
  obtain ⟨ta, pa, sa⟩ := ha.ex
  obtain ⟨tb, pb, sb⟩ := hb.ex
  exact ⟨_, pe_ix (ir_ix hu) pa pb hs, snd_bin2 sa sb⟩
/-! ### slices -/
def cutD {α : Type} (xs : List α) (lo hi : Option Int) : List α := (xs.drop (HT.sIx xs.length 0 lo)).take (HT.sIx xs.length xs.length hi - HT.sIx xs.length 0 lo)
def oSl (x : D) (lo hi : Option Int) (M : Mem) : Option (D × Mem) := match x with
  | .tup ds => some (.tup (cutD ds lo hi), M)
  | .scr ns => some (.ref M.length, M ++ [.lst ((cutD ns lo hi).map .int)])
  | .str s => if s.length < 16000000 then some (.str (cutS s lo hi), M) else none
  | .ref n => (match M[n]? with
    | some (.lst ds) => some (.ref M.length, M ++ [.lst (cutD ds lo hi)])
    | _ => none)
  | _ => none
abbrev GO := Loc → Mem → Option (Rz (Option Int))
def mNo : GO := fun _ M => some (.ok none M)
def mSome (e : GE) : GO := fun L M => bnd (e L M) fun d M1 => match d with
  | .int k => some (.ok (some k) M1)
  | _ => none
def mSl (e : GE) (lo hi : GO) : GE := fun L M => bnd (e L M) fun d M1 => bnd (lo L M1) fun l M2 => bnd (hi L M2) fun h M3 => ret (oSl d l h M3)
structure SO (X : Cx) (C : Addr) (W : WX) (e : Option Expr) (g : GO) : Prop where
  ex : ∃ t, PO X e t ∧ SndG X.K X.mg C W (fun _ _ (x y : Option Int) => y = x) t g
theorem so_no : SO X C W none mNo := ⟨_, po_none, fun i L M σ H r Q m l e q => by
  cases e
  exact q i H none Gro.refl m rfl⟩
theorem so_some (ha : SE X C W a ga) : SO X C W (some a) (mSome ga) := by
  obtain ⟨ta, pa, sa⟩ := ha.ex
  refine ⟨_, po_some pa, fun i L M σ H r Q m l e q => ?_⟩
  refine sa.step m l e q fun dx M1 i1 H1 x g1 m1 l1 rx e1 q1 => ?_
  cases dx <;> first
    | (cases e1; done)
    | skip
  rename_i k
  cases e1
  simp only [DV] at rx
  exact ⟨k, rx, q1 i1 H1 _ Gro.refl m1 rfl⟩
theorem cut_dl {K : PySem.W.Frag} {i : List Addr} {H : Hp} {ds : List D} {vs : List V} (h : DLs K i H ds vs) (lo hi : Option Int) : DLs K i H (cutD ds lo hi) (cutV vs lo hi) := by
  unfold cutD cutV
  rw [h.length]
  exact dl_take _ (dl_drop _ h)
theorem cutD_length {α : Type} (xs : List α) (lo hi : Option Int) : (cutD xs lo hi).length ≤ xs.length := by
  unfold cutD
  rw [List.length_take, List.length_drop]
  omega
theorem cutV_map {α : Type} (f : α → V) (xs : List α) (lo hi : Option Int) : cutV (xs.map f) lo hi = (cutD xs lo hi).map f := by
  unfold cutD cutV
  rw [List.length_map, List.map_take, List.map_drop]
theorem cutD_whole {α : Type} (xs : List α) (lo hi : Option Int) (h : HT.sIx xs.length 0 lo = 0 ∧ HT.sIx xs.length xs.length hi = xs.length) : cutD xs lo hi = xs := by
  unfold cutD
  rw [h.1, h.2]
  simp
theorem rSl_any : SlR X (fun x lo hi H Q => ∃ i M dx d M', MemR X.K C i M H ∧ DV X.K i H dx x ∧ oSl dx lo hi M = some (d, M') ∧ Goes X.K C i H d M' Q) := by
  intro pins s σ H x v vl vu lo hi sl Q I rv hs pl pu h
  obtain ⟨i, M, dx, d, M', m, rx, e, q⟩ := h
  unfold oSl at e
  split at e
  · rename_i ds
    cases e
    obtain ⟨a, vs, rfl, h1, h2⟩ := tup_at rx
    refine sl_tupA pins s σ H _ v vl vu lo hi sl Q I rv hs pl pu ⟨a, vs, rfl, h1.seq, fun z => ?_, fun z => goTup q m (cut_dl h2 lo hi)⟩
    rw [← h2.length] at z
    refine goSame q m ?_
    rw [cutD_whole ds lo hi z]
    exact rx
  · rename_i ns
    cases e
    obtain ⟨a, rfl, h1⟩ := scr_at rx
    refine sl_list pins s σ H _ v vl vu lo hi sl Q I rv hs pl pu ⟨a, _, rfl, h1.seq, ?_⟩
    rw [cutV_map]
    exact goLst q m (dl_ints _)
  · rename_i z
    split at e
    · rename_i hl
      cases e
      simp only [DV] at rx
      subst rx
      exact sl_str pins s σ H _ v vl vu lo hi sl Q I rv hs pl pu ⟨z, rfl, Nat.le_of_lt (small_line hl), goStr q m⟩
    · cases e
  · rename_i n
    split at e
    · rename_i ds hn
      cases e
      obtain ⟨a, vs, ha, rfl, h1, h2⟩ := lst_at m hn rx
      exact sl_list pins s σ H _ v vl vu lo hi sl Q I rv hs pl pu ⟨a, vs, rfl, SqL.of h1, goLst q m (cut_dl h2 lo hi)⟩
    · cases e
  · cases e
variable {lo hi : Option Expr} {gl gh : GO} {p2 : Pos}
theorem se_sl (ha : SE X C W a ga) (hl : SO X C W lo gl) (hh : SO X C W hi gh) : SE X C W (.Subscript a (.Slice lo hi none p2) pos) (mSl ga gl gh) := by
  obtain ⟨ta, pa, sa⟩ := ha.ex
  obtain ⟨tl, pl, sl⟩ := hl.ex
  obtain ⟨th, ph, sh⟩ := hh.ex
  refine ⟨_, pe_slice (rSl_any (C := C)) pa pl ph, fun i L M σ H r Q m l e q => ?_⟩
  refine sa.step m l e q fun dx M1 i1 H1 x g1 m1 l1 rx e1 q1 => ?_
  refine sl.step m1 l1 e1 q1 fun dl M2 i2 H2 xl g2 m2 l2 rl e2 q2 => ?_
  refine sh.step m2 l2 e2 q2 fun dh M3 i3 H3 xh g3 m3 l3 rh e3 q3 => ?_
  obtain ⟨d, M', h1, h2⟩ := snd_ret e3 q3
  cases rl
  cases rh
  exact ⟨i3, M3, dx, d, M', m3, (rx.mono g2).mono g3, h1, h2⟩
end
end BL
/-! BLCalls: built-ins and methods by values. -/
namespace BL
open PySem L2

/-! ### built-ins -/
def oLen : OpN := fun xs M => match xs with
  | [.tup ds] => some (.int ds.length, M)
  | [.scr ns] => some (.int ns.length, M)
  | [.str s] => if s.length < 16000000 then some (.int s.length, M) else none
  | [.ref n] => (match M[n]? with
    | some (.lst ds) => some (.int ds.length, M)
    | some (.dct kvs) => some (.int kvs.length, M)
    | _ => none)
  | _ => none
def oList : OpN := fun xs M => match xs with
  | [.tup ds] => some (.ref M.length, M ++ [.lst ds])
  | [.scr ns] => some (.ref M.length, M ++ [.lst (ns.map .int)])
  | [.ref n] => (match M[n]? with
    | some (.lst ds) => some (.ref M.length, M ++ [.lst ds])
    | some (.dct kvs) => some (.ref M.length, M ++ [.lst (kvs.map fun p => .int p.1)])
    | _ => none)
  | _ => none
def oTuple : OpN := fun xs M => match xs with
  | [.tup ds] => some (.tup ds, M)
  | [.ref n] => (match M[n]? with
    | some (.lst ds) => some (.tup ds, M)
    | _ => none)
  | _ => none
def oDict : OpN := fun xs M => match xs with
  | [.ref n] => (match M[n]? with
    | some (.dct kvs) => some (.ref M.length, M ++ [.dct kvs])
    | _ => none)
  | _ => none
def oInt : OpN := fun xs M => match xs with
  | [.int i] => some (.int i, M)
  | [.bl b] => some (.int (if b then 1 else 0), M)
  | _ => none
def oStr : OpN := fun xs M => match xs with
  | [.int i] => if i.natAbs.log2 < 1920 then some (.str (toString i), M) else none
  | _ => none
def oMax2 : OpN := fun xs M => match xs with
  | [.int i, .int j] => some (.int (if j > i then j else i), M)
  | _ => none
def oMin2 : OpN := fun xs M => match xs with
  | [.int i, .int j] => some (.int (if j < i then j else i), M)
  | _ => none
def intsOf : List D → Option (List Int)
  | [] => some []
  | .int i :: ds => (match intsOf ds with
    | some ns => some (i :: ns)
    | none => none)
  | _ :: _ => none
def maxOf : List Int → Option Int
  | [] => none
  | n :: ns => some (ns.foldl (fun a b => if b > a then b else a) n)
def minOf : List Int → Option Int
  | [] => none
  | n :: ns => some (ns.foldl (fun a b => if b < a then b else a) n)
def oMax1 : OpN := fun xs M => match xs with
  | [.ref n] => (match M[n]? with
    | some (.lst ds) => (match (intsOf ds).bind maxOf with
      | some k => some (.int k, M)
      | none => none)
    | _ => none)
  | _ => none
def oMin1 : OpN := fun xs M => match xs with
  | [.ref n] => (match M[n]? with
    | some (.lst ds) => (match (intsOf ds).bind minOf with
      | some k => some (.int k, M)
      | none => none)
    | _ => none)
  | _ => none
/-- kinds -/
def kindOf (M : Mem) : D → Option String
  | .non => some "NoneType"
  | .bl _ => some "bool"
  | .int _ => some "int"
  | .str _ => some "str"
  | .tup _ => some "tuple"
  | .scr _ => some "list"
  | .ref n => (match M[n]? with
    | some (.lst _) => some "list"
    | some (.dct _) => some "dict"
    | _ => none)
def oIsi (T : String) : Op1 := fun x M => match kindOf M x with
  | some k => (match kitB k T with
    | some b => some (.bl b, M)
    | none => none)
  | none => none
section
variable {K : PySem.W.Frag} {C : Addr} {i : List Addr} {M : Mem} {H : Hp}
theorem intsOf_dl : ∀ {ds : List D} {vs : List V} {ns : List Int}, DLs K i H ds vs → intsOf ds = some ns → vs = ns.map V.int
  | [], vs, ns, h, e => by
    simp only [DLs] at h
    simp only [intsOf, Option.some.injEq] at e
    subst h e
    rfl
  | d :: ds, vs, ns, h, e => by
    simp only [DLs] at h
    obtain ⟨v, r, rfl, h2, h3⟩ := h
    cases d <;> first
      | (cases e; done)
      | skip
    rename_i k
    unfold intsOf at e
    split at e
    · rename_i ns' hn
      cases e
      simp only [DV] at h2
      subst h2
      rw [intsOf_dl h3 hn]
      rfl
    · cases e
theorem maxOf_eq {ns : List Int} {k m : Int} (e : maxOf ns = some k) (hm : m ∈ ns) (hle : ∀ y ∈ ns, y ≤ m) : m = k := by
  cases ns with
  | nil => cases hm
  | cons n r =>
    cases e
    have key : ∀ (r : List Int) (n : Int), (r.foldl (fun a b => if b > a then b else a) n = n ∨ r.foldl (fun a b => if b > a then b else a) n ∈ r) ∧ n ≤ r.foldl (fun a b => if b > a then b else a) n ∧ ∀ y ∈ r, y ≤ r.foldl (fun a b => if b > a then b else a) n := by
      intro r
      induction r with
      | nil => intro n; simp
      | cons x r ih =>
        intro n
        rw [List.foldl_cons]
        obtain ⟨h1, h2, h3⟩ := ih (if x > n then x else n)
        refine ⟨?_, ?_, fun y hy => ?_⟩
        · rcases h1 with h1 | h1
          · rw [h1]
            split
            · exact .inr List.mem_cons_self
            · exact .inl rfl
          · exact .inr (List.mem_cons_of_mem _ h1)
        · exact Int.le_trans (by split <;> omega) h2
        · rcases List.mem_cons.mp hy with rfl | hy
          · exact Int.le_trans (by split <;> omega) h2
          · exact h3 y hy
    obtain ⟨h1, h2, h3⟩ := key r n
    have a : m ≤ r.foldl (fun a b => if b > a then b else a) n := by
      rcases List.mem_cons.mp hm with rfl | hm
      · exact h2
      · exact h3 m hm
    have b : r.foldl (fun a b => if b > a then b else a) n ≤ m := by
      rcases h1 with h1 | h1
      · rw [h1]; exact hle n List.mem_cons_self
      · exact hle _ (List.mem_cons_of_mem _ h1)
    omega
theorem minOf_eq {ns : List Int} {k m : Int} (e : minOf ns = some k) (hm : m ∈ ns) (hle : ∀ y ∈ ns, m ≤ y) : m = k := by
  cases ns with
  | nil => cases hm
  | cons n r =>
    cases e
    have key : ∀ (r : List Int) (n : Int), (r.foldl (fun a b => if b < a then b else a) n = n ∨ r.foldl (fun a b => if b < a then b else a) n ∈ r) ∧ r.foldl (fun a b => if b < a then b else a) n ≤ n ∧ ∀ y ∈ r, r.foldl (fun a b => if b < a then b else a) n ≤ y := by
      intro r
      induction r with
      | nil => intro n; simp
      | cons x r ih =>
        intro n
        rw [List.foldl_cons]
        obtain ⟨h1, h2, h3⟩ := ih (if x < n then x else n)
        refine ⟨?_, ?_, fun y hy => ?_⟩
        · rcases h1 with h1 | h1
          · rw [h1]
            split
            · exact .inr List.mem_cons_self
            · exact .inl rfl
          · exact .inr (List.mem_cons_of_mem _ h1)
        · exact Int.le_trans h2 (by split <;> omega)
        · rcases List.mem_cons.mp hy with rfl | hy
          · exact Int.le_trans h2 (by split <;> omega)
          · exact h3 y hy
    obtain ⟨h1, h2, h3⟩ := key r n
    have a : r.foldl (fun a b => if b < a then b else a) n ≤ m := by
      rcases List.mem_cons.mp hm with rfl | hm
      · exact h2
      · exact h3 m hm
    have b : m ≤ r.foldl (fun a b => if b < a then b else a) n := by
      rcases h1 with h1 | h1
      · rw [h1]; exact hle n List.mem_cons_self
      · exact hle _ (List.mem_cons_of_mem _ h1)
    omega
end
section
variable {X : Cx} {C : Addr} {W : WX}
theorem cl_len : CallR X (.builtin "len") (rON X.K C oLen) := by
  intro pins s σ H xs us Q I rv h
  obtain ⟨i, M, ds, d, M', m, rx, e, q⟩ := h
  unfold oLen at e
  split at e
  · cases e
    obtain ⟨v, rfl, r1⟩ := dl1 rx
    obtain ⟨a, vs, rfl, h1, h2⟩ := tup_at r1
    exact call_len_seq pins s σ H _ us Q I rv ⟨a, vs, rfl, .inr h1.seq, by rw [← h2.length]; exact goInt q m⟩
  · rename_i ns
    cases e
    obtain ⟨v, rfl, r1⟩ := dl1 rx
    obtain ⟨a, rfl, h1⟩ := scr_at r1
    exact call_len_seq pins s σ H _ us Q I rv ⟨a, _, rfl, .inl h1.seq, by rw [List.length_map]; exact goInt q m⟩
  · split at e
    · rename_i hl
      cases e
      obtain ⟨v, rfl, r1⟩ := dl1 rx
      simp only [DV] at r1
      subst r1
      exact call_len_str pins s σ H _ us Q I rv ⟨_, rfl, Nat.le_of_lt (small_line hl), goInt q m⟩
    · cases e
  · split at e
    · rename_i ds hn
      cases e
      obtain ⟨v, rfl, r1⟩ := dl1 rx
      obtain ⟨a, vs, ha, rfl, h1, h2⟩ := lst_at m hn r1
      exact call_len_seq pins s σ H _ us Q I rv ⟨a, vs, rfl, .inl (SqL.of h1), by rw [← h2.length]; exact goInt q m⟩
    · rename_i kvs hn
      cases e
      obtain ⟨v, rfl, r1⟩ := dl1 rx
      obtain ⟨a, vs, ha, rfl, h1, h2⟩ := dct_at m hn r1
      exact call_lenD pins s σ H _ us Q I rv ⟨a, vs, rfl, h1, by rw [← h2.length]; exact goInt q m⟩
    · cases e
  · cases e
theorem ints_dl {K : PySem.W.Frag} {i : List Addr} {H : Hp} : ∀ (ks : List (Int × D)), DLs K i H (ks.map fun p => D.int p.1) ((ks.map (·.1)).map V.int)
  | [] => by simp only [List.map, DLs]
  | p :: ks => by
    simp only [List.map, DLs]
    exact ⟨_, _, rfl, by simp only [DV], ints_dl ks⟩
theorem cl_list (hc : X.calm = true) : CallR X (.type "list") (rON X.K C oList) := by
  intro pins s σ H xs us Q I rv h
  obtain ⟨i, M, ds, d, M', m, rx, e, q⟩ := h
  unfold oList at e
  split at e
  · cases e
    obtain ⟨v, rfl, r1⟩ := dl1 rx
    obtain ⟨a, vs, rfl, h1, h2⟩ := tup_at r1
    exact call_list_of pins s σ H _ us Q I rv ⟨a, vs, rfl, .inr h1.seq, goLst q m h2⟩
  · rename_i ns
    cases e
    obtain ⟨v, rfl, r1⟩ := dl1 rx
    obtain ⟨a, rfl, h1⟩ := scr_at r1
    exact call_list_of pins s σ H _ us Q I rv ⟨a, _, rfl, .inl h1.seq, goLst q m (dl_ints _)⟩
  · split at e
    · rename_i ds hn
      cases e
      obtain ⟨v, rfl, r1⟩ := dl1 rx
      obtain ⟨a, vs, ha, rfl, h1, h2⟩ := lst_at m hn r1
      exact call_list_of pins s σ H _ us Q I rv ⟨a, vs, rfl, .inl (SqL.of h1), goLst q m h2⟩
    · rename_i kvs hn
      cases e
      obtain ⟨v, rfl, r1⟩ := dl1 rx
      obtain ⟨a, vs, ha, rfl, h1, h2⟩ := dct_at m hn r1
      refine call_listD hc pins s σ H _ us Q I rv ⟨a, vs, rfl, .inl h1, ?_⟩
      rw [dk_keysV h2]
      exact goLst q m (ints_dl kvs)
    · cases e
  · cases e
theorem cl_tuple : CallR X (.type "tuple") (rON X.K C oTuple) := by
  intro pins s σ H xs us Q I rv h
  obtain ⟨i, M, ds, d, M', m, rx, e, q⟩ := h
  unfold oTuple at e
  split at e
  · cases e
    obtain ⟨v, rfl, r1⟩ := dl1 rx
    obtain ⟨a, vs, rfl, h1, h2⟩ := tup_at r1
    exact call_tuple_of pins s σ H _ us Q I rv ⟨a, vs, rfl, .inr ⟨h1.seq, goSame q m r1⟩⟩
  · split at e
    · rename_i ds hn
      cases e
      obtain ⟨v, rfl, r1⟩ := dl1 rx
      obtain ⟨a, vs, ha, rfl, h1, h2⟩ := lst_at m hn r1
      exact call_tuple_of pins s σ H _ us Q I rv ⟨a, vs, rfl, .inl ⟨SqL.of h1, goTup q m h2⟩⟩
    · cases e
  · cases e
theorem cl_dict : CallR X (.type "dict") (rON X.K C oDict) := by
  intro pins s σ H xs us Q I rv h
  obtain ⟨i, M, ds, d, M', m, rx, e, q⟩ := h
  unfold oDict at e
  split at e
  · split at e
    · rename_i kvs hn
      cases e
      obtain ⟨v, rfl, r1⟩ := dl1 rx
      obtain ⟨a, vs, ha, rfl, h1, h2⟩ := dct_at m hn r1
      exact call_dictD pins s σ H _ us Q I rv ⟨a, vs, rfl, .inl h1, goDct q m h2⟩
    · cases e
  · cases e
theorem cl_int : CallR X (.type "int") (rON X.K C oInt) := by
  intro pins s σ H xs us Q I rv h
  obtain ⟨i, M, ds, d, M', m, rx, e, q⟩ := h
  unfold oInt at e
  split at e
  · cases e
    obtain ⟨v, rfl, r1⟩ := dl1 rx
    simp only [DV] at r1
    subst r1
    exact call_int1 pins s σ H _ us Q I rv (.inl ⟨_, rfl, goInt q m⟩)
  · cases e
    obtain ⟨v, rfl, r1⟩ := dl1 rx
    simp only [DV] at r1
    subst r1
    exact call_int1 pins s σ H _ us Q I rv (.inr ⟨_, rfl, goInt q m⟩)
  · cases e
theorem cl_str : CallR X (.type "str") (rON X.K C oStr) := by
  intro pins s σ H xs us Q I rv h
  obtain ⟨i, M, ds, d, M', m, rx, e, q⟩ := h
  unfold oStr at e
  split at e
  · split at e
    · rename_i hl
      cases e
      obtain ⟨v, rfl, r1⟩ := dl1 rx
      simp only [DV] at r1
      subst r1
      exact call_str_int pins s σ H _ us Q I rv ⟨_, rfl, hl, goStr q m⟩
    · cases e
  · cases e
theorem cl_max2 (hc : X.calm = true) : CallR X (.builtin "max") (rON X.K C oMax2) := by
  intro pins s σ H xs us Q I rv h
  obtain ⟨i, M, ds, d, M', m, rx, e, q⟩ := h
  unfold oMax2 at e
  split at e
  · cases e
    obtain ⟨v, w, rfl, r1, r2⟩ := dl2 rx
    simp only [DV] at r1 r2
    subst r1 r2
    exact call_max2 hc pins s σ H _ us Q I rv ⟨_, _, rfl, goInt q m⟩
  · cases e
theorem cl_min2 (hc : X.calm = true) : CallR X (.builtin "min") (rON X.K C oMin2) := by
  intro pins s σ H xs us Q I rv h
  obtain ⟨i, M, ds, d, M', m, rx, e, q⟩ := h
  unfold oMin2 at e
  split at e
  · cases e
    obtain ⟨v, w, rfl, r1, r2⟩ := dl2 rx
    simp only [DV] at r1 r2
    subst r1 r2
    exact call_min2 hc pins s σ H _ us Q I rv ⟨_, _, rfl, goInt q m⟩
  · cases e
theorem maxOf_pos {ns : List Int} {k : Int} (e : maxOf ns = some k) : 0 < ns.length := by
  cases ns with
  | nil => cases e
  | cons n r => simp
theorem minOf_pos {ns : List Int} {k : Int} (e : minOf ns = some k) : 0 < ns.length := by
  cases ns with
  | nil => cases e
  | cons n r => simp
theorem cl_max1 (hc : X.calm = true) : CallR X (.builtin "max") (rON X.K C oMax1) := by
  intro pins s σ H xs us Q I rv h
  obtain ⟨i, M, ds, d, M', m, rx, e, q⟩ := h
  unfold oMax1 at e
  split at e
  · split at e
    · rename_i ds hn
      split at e
      · rename_i k hk
        cases e
        obtain ⟨ns, h3, h4⟩ := Option.bind_eq_some_iff.mp hk
        obtain ⟨v, rfl, r1⟩ := dl1 rx
        obtain ⟨a, vs, ha, rfl, h1, h2⟩ := lst_at m hn r1
        have ev := intsOf_dl h2 h3
        subst ev
        refine cr_max hc pins s σ H _ us Q I rv ⟨a, ns, rfl, SqL.of h1, maxOf_pos h4, fun mm hm hle => ?_⟩
        rw [maxOf_eq h4 hm hle]
        exact goInt q m
      · cases e
    · cases e
  · cases e
theorem cl_min1 (hc : X.calm = true) : CallR X (.builtin "min") (rON X.K C oMin1) := by
  intro pins s σ H xs us Q I rv h
  obtain ⟨i, M, ds, d, M', m, rx, e, q⟩ := h
  unfold oMin1 at e
  split at e
  · split at e
    · rename_i ds hn
      split at e
      · rename_i k hk
        cases e
        obtain ⟨ns, h3, h4⟩ := Option.bind_eq_some_iff.mp hk
        obtain ⟨v, rfl, r1⟩ := dl1 rx
        obtain ⟨a, vs, ha, rfl, h1, h2⟩ := lst_at m hn r1
        have ev := intsOf_dl h2 h3
        subst ev
        refine cr_min hc pins s σ H _ us Q I rv ⟨a, ns, rfl, SqL.of h1, minOf_pos h4, fun mm hm hle => ?_⟩
        rw [minOf_eq h4 hm hle]
        exact goInt q m
      · cases e
    · cases e
  · cases e
/-! ### isinstance -/
theorem kind_ty {K : PySem.W.Frag} {i : List Addr} {M : Mem} {H : Hp} {d : D} {v : V} {k : String} (m : MemR K C i M H) (r : DV K i H d v) (e : kindOf M d = some k) : TyX K H v (.type k) := by
  cases d
  · simp only [DV] at r
    cases e
    subst r
    exact .base .non
  · simp only [DV] at r
    cases e
    subst r
    exact .base (.bl _)
  · simp only [DV] at r
    cases e
    subst r
    exact .base (.int _)
  · simp only [DV] at r
    cases e
    subst r
    exact .base (.str _)
  · cases e
    obtain ⟨a, vs, rfl, h1, h2⟩ := tup_at r
    rcases h1 with h1 | ⟨o, its, n, hk, hc, _⟩
    · exact .base (.tup h1)
    · exact .kTuple hk hc
  · cases e
    obtain ⟨a, rfl, h1⟩ := scr_at r
    rcases h1 with ⟨o, h1⟩ | ⟨o, its, n, hk, hc, _⟩
    · exact .base (.frz h1)
    · exact .kList hk hc
  · dsimp only [kindOf] at e
    split at e
    · rename_i ds hn
      cases e
      obtain ⟨a, vs, ha, rfl, h1, h2⟩ := lst_at m hn r
      exact .base (.lst h1)
    · rename_i kvs hn
      cases e
      obtain ⟨a, vs, ha, rfl, h1, h2⟩ := dct_at m hn r
      exact .base (.dK h1)
    · cases e
variable {a b e : Expr} {ga ge : GE} {p p2 pos : Pos} {T : String} {Tn : Str}
theorem se_isi (hg : Gl X "isinstance") (hm : X.mg "isinstance" = none) (he : SE X C W e ge) (ht : PE X b (tC (.ty T)))
    (hs : starEach (e :: [b]) X.env = (false, eval e X.env) :: starEach [b] X.env := by rfl) (hs2 : starEach (b :: []) X.env = (false, eval b X.env) :: starEach [] X.env := by rfl) (hpl : (backTo pos (starEach [b] X.env)).any (·.1) = false := by rfl)
    (hv : bootBuiltins "isinstance" = some (.builtin "isinstance") := by decide +kernel) :
    SE X C W (.Call (.Name "isinstance" p) [e, b] [] pos) (mUn (oIsi T) ge) := by
  obtain ⟨t, pt, s⟩ := he.ex
  refine ⟨_, pe_callB call_isi hg hm hv (pa_cons pt (pa_cons ht pa_nil hs2) hs) (by decide) (by decide) hs hpl, fun i L M σ H r Q m l e q => ?_⟩
  refine s.step m l e q fun dx M1 i1 H1 x g1 m1 l1 rx e1 q1 => ?_
  obtain ⟨d, M', h1, h2⟩ := snd_ret e1 q1
  unfold oIsi at h1
  split at h1
  · rename_i k hk
    split at h1
    · rename_i bb hb
      cases h1
      exact ⟨x, .ty T, .type k, .type T, bb, rfl, .ty T, kind_ty m1 rx hk, kit_ty hb, goBl h2 m1⟩
    · cases h1
  · cases h1
/-! ### methods -/
def oAppend : OpM := fun x xs M => match x, xs with
  | .ref n, [d] => (match M[n]? with
    | some (.lst ds) => if ds.length < 16000000 then some (.non, M.set n (.lst (ds ++ [d]))) else none
    | _ => none)
  | _, _ => none
def oPop0 : OpM := fun x xs M => match x, xs with
  | .ref n, [] => (match M[n]? with
    | some (.lst ds) => (match ds[ds.length - 1]? with
      | some d => some (d, M.set n (.lst ds.dropLast))
      | none => none)
    | _ => none)
  | _, _ => none
def oClear : OpM := fun x xs M => match x, xs with
  | .ref n, [] => (match M[n]? with
    | some (.lst ds) => some (.non, M.set n (.lst []))
    | _ => none)
  | _, _ => none
theorem dl_dropLast {K : PySem.W.Frag} {i : List Addr} {H : Hp} {ds : List D} {vs : List V} (h : DLs K i H ds vs) : DLs K i H ds.dropLast vs.dropLast := by
  rw [List.dropLast_eq_take, List.dropLast_eq_take, h.length]
  exact dl_take _ h
theorem rm_append : MtR X "list.append" (rOM X.K C oAppend) := by
  intro pins s σ H x xs v us Q I rv ru h
  obtain ⟨i, M, dx, ds, d, M', m, rx, rs, e, q⟩ := h
  unfold oAppend at e
  split at e
  · split at e
    · rename_i ls hn
      split at e
      · rename_i hl
        cases e
        obtain ⟨a, vs, ha, rfl, h1, h2⟩ := lst_at m hn rx
        obtain ⟨w, rfl, r1⟩ := dl1 rs
        exact mt_append pins s σ H _ _ v us Q I rv ru ⟨a, vs, w, rfl, rfl, h1, by rw [← h2.length]; exact small_line hl, goWlst q m ha (dl_append r1 h2) (by simp only [DV])⟩
      · cases e
    · cases e
  · cases e
theorem rm_pop0 : MtR X "list.pop" (rOM X.K C oPop0) := by
  intro pins s σ H x xs v us Q I rv ru h
  obtain ⟨i, M, dx, ds, d, M', m, rx, rs, e, q⟩ := h
  unfold oPop0 at e
  split at e
  · split at e
    · rename_i ls hn
      split at e
      · rename_i d' hd
        cases e
        obtain ⟨a, vs, ha, rfl, h1, h2⟩ := lst_at m hn rx
        simp only [DLs] at rs
        subst rs
        obtain ⟨w, hw, rw'⟩ := h2.get hd
        exact mt_pop pins s σ H _ _ v us Q I rv ru ⟨a, vs, w, rfl, rfl, h1, by rw [← h2.length]; exact hw, goWlst q m ha (dl_dropLast h2) rw'⟩
      · cases e
    · cases e
  · cases e
theorem rm_clear : MtR X "list.clear" (rOM X.K C oClear) := by
  intro pins s σ H x xs v us Q I rv ru h
  obtain ⟨i, M, dx, ds, d, M', m, rx, rs, e, q⟩ := h
  unfold oClear at e
  split at e
  · split at e
    · rename_i ls hn
      cases e
      obtain ⟨a, vs, ha, rfl, h1, h2⟩ := lst_at m hn rx
      simp only [DLs] at rs
      subst rs
      exact mt_clear pins s σ H _ _ v us Q I rv ru ⟨a, vs, rfl, rfl, h1, goWlst q m ha (by simp only [DLs]) (by simp only [DV])⟩
    · cases e
  · cases e
/-- a list's method -/
def asList (op : OpM) : OpM := fun x xs M => match x with
  | .ref n => (match M[n]? with
    | some (.lst _) => op x xs M
    | _ => none)
  | _ => none
def mMtL (op : OpM) (o : GE) (as : GA) : GE := fun L M => bnd (o L M) fun x M1 => match x with
  | .ref n => (match M1[n]? with
    | some (.lst _) => bnd (as L M1) fun xs M2 => ret (op x xs M2)
    | _ => none)
  | _ => none
variable {es : List Expr} {gs : GA} {o : Expr} {go : GE} {apos cpos : Pos} {name : Str} {id : String} {op : OpM}
theorem se_mtL (slot : Slot "list" name id) (hty : typeOf (.builtin id) = pure (.type "method_descriptor")) (hm : MtR X id (rOM X.K C op)) (ho : SE X C W o go) (ha : SA X C W (e :: es) gs)
    (hbase : attributeBase o name X.env (eval o X.env) = eval o X.env := by rfl)
    (hfew : ((backTo cpos (starEach (e :: es) X.env)).all (fun x => !x.1) && (backToKw cpos (keywordEach [] X.env)).all (fun x => x.1.isSome)
      && decide ((e :: es).length + ([] : List Keyword).length + (if ([] : List Keyword).isEmpty then 0 else 1) < 30)) = true := by rfl)
    (hline : (apos.endLine == cpos.line) = true := by rfl) (hs : starEach (e :: es) X.env = (false, eval e X.env) :: starEach es X.env := by rfl) (hplain : (backTo cpos (starEach es X.env)).any (·.1) = false := by rfl) :
    SE X C W (.Call (.Attribute o name apos) (e :: es) [] cpos) (mMtL op go gs) := by
  obtain ⟨t, pt, s⟩ := ho.ex
  obtain ⟨t2, pt2, s2⟩ := ha.ex
  refine ⟨_, pe_bm PySem.F.plainAttrs_list slot hty hm pt pt2 hbase hfew hline hs hplain, fun i L M σ H r Q m l e q => ?_⟩
  refine s.step m l e q fun dx M1 i1 H1 x g1 m1 l1 rx e1 q1 => ?_
  cases dx <;> first
    | (cases e1; done)
    | skip
  rename_i n
  dsimp only at e1
  split at e1
  · rename_i ds hn
    obtain ⟨a, vs, ha, rfl, h1, h2⟩ := lst_at m1 hn rx
    refine ⟨.inl ⟨rfl, vs, SqL.of h1⟩, ?_⟩
    refine s2.step m1 l1 e1 q1 fun dxs M2 i2 H2 xs g2 m2 l2 rs e2 q2 => ?_
    obtain ⟨d, M', k1, k2⟩ := snd_ret e2 q2
    exact ⟨i2, M2, .ref n, dxs, d, M', m2, rx.mono g2, rs, k1, k2⟩
  · cases e1
theorem se_mtL0 (slot : Slot "list" name id) (hty : typeOf (.builtin id) = pure (.type "method_descriptor")) (hm : MtR X id (rOM X.K C op)) (ho : SE X C W o go)
    (hbase : attributeBase o name X.env (eval o X.env) = eval o X.env := by rfl) (hline : (apos.endLine == cpos.line) = true := by rfl) : SE X C W (.Call (.Attribute o name apos) [] [] cpos) (mMtL op go mNil) := by
  obtain ⟨t, pt, s⟩ := ho.ex
  refine ⟨_, pe_bm0 PySem.F.plainAttrs_list slot hty hm pt hbase hline, fun i L M σ H r Q m l e q => ?_⟩
  refine s.step m l e q fun dx M1 i1 H1 x g1 m1 l1 rx e1 q1 => ?_
  cases dx <;> first
    | (cases e1; done)
    | skip
  rename_i n
  dsimp only at e1
  split at e1
  · rename_i ds hn
    obtain ⟨a, vs, ha, rfl, h1, h2⟩ := lst_at m1 hn rx
    refine ⟨.inl ⟨rfl, vs, SqL.of h1⟩, ?_⟩
    obtain ⟨d, M', k1, k2⟩ := snd_ret (show ret (op (.ref n) [] M1) = some r from e1) q1
    exact ⟨i1, M1, .ref n, [], d, M', m1, rx, by simp only [DLs], k1, k2⟩
  · cases e1
end
end BL
/-! BLGen: what a def is to its callers; facts of built-ins. -/
namespace BL
open PySem L2

/-- a def of the text, by its name -/
structure Cal (P : Program) (w : World) (K : PySem.W.Frag) (mg : Str → Option Value) (base : Heap) (C : Addr) (k : Nat) (nm : Str) (ps : List Str) (g : Fn) : Prop where
  ex : ∃ f fd, FnOk P w K mg base (L2.CX P w) k f fd ps (spG K mg C g) ∧ mg nm = some (.ref f) ∧ PySem.W.keepIn K (.ref f) = true ∧ Binds K fd ps []
section
variable {X : Cx} {C : Addr} {W : WX} {e : Expr} {es : List Expr} {gs : GA} {x : Str} {p pos : Pos} {k : Nat} {ps : List Str} {g : Fn}
theorem se_cal (c : Cal X.prog X.w X.K X.mg X.base C k x ps g) (hr : Room k X.A) (hx : Lets X W) (ha : SA X C W (e :: es) gs) (hg : Gl X x := by rfl) (hdb : (x == ("__debug__" : Str)) = false := by decide)
    (he : starEach (e :: es) X.env = (false, eval e X.env) :: starEach es X.env := by rfl) (hpl : (backTo pos (starEach es X.env)).any (·.1) = false := by rfl) : SE X C W (.Call (.Name x p) (e :: es) [] pos) (mCall g gs) := by
  obtain ⟨f, fd, F, hm, hk, hb⟩ := c.ex
  exact se_call F hr hx hg hm hk hb ha hdb he hpl
theorem lets_of (tk : Takes X W) : Lets X W := fun σ => passAt tk σ
theorem lets_blk {s : Shared} {H : Hp} {scope : Scope} {cenv : Env} {fp : List Addr} : Lets (X.blk s H scope cenv fp) W0 := fun σ pins H' s1 e s' I c => by
  obtain ⟨_, _, _, _, _, _, _, _, _, _, _, _, z⟩ := c
  exact z.elim
end
theorem fun_of {K : PySem.W.Frag} {x qual : Str} {st : Stmt} {f : Addr} {fd : FuncData} (F : FunD K x qual (defArgs st) (defBody st) (defScope st) [] [] f fd) : Fun K x qual st f fd := by
  obtain ⟨⟨oc, od, dV, kV, doc, pm, an, cdv, ct, osl, e, l, c, hd, hk⟩, kp⟩ := F
  refine ⟨⟨oc, od, kV, doc, pm, an, cdv, ct, osl, ?_, l, c⟩, kp⟩
  rcases hd with ⟨h1, h2⟩ | ⟨h1, _⟩
  · subst h2
    exact e
  · exact absurd rfl h1
section
variable {P : Program} {w : World} {K : PySem.W.Frag} {mg : Str → Option Value} {base : Heap} {C : Addr}
theorem ok_cal {x : Str} {st : Stmt} {f : Addr} {fd : FuncData} {N ps : List Str} {k : Nat} {body : GS} (F : Fun K x x st f fd) (hm : mg x = some (.ref f)) (S : FnScope N ps (defScope st))
    (hb : ∀ (kV doc pm : Value) (an : Option Addr) (cdv ct : Value) (us : List Value), us.length = ps.length → bindArgs (PySem.W.fnOf x x (defArgs st) (defBody st) (defScope st) .none kV doc pm an cdv ct) ⟨us, []⟩ = pure (ps.zip us))
    (hbody : ∀ (X : Cx) (W : WX) (cdv : Value) (A : Around) (outer : List Env) (s : Shared) (H : Hp) (E : XK), X = cxOf (L2.CX P w) P w K mg base N x (defScope st) f cdv A outer s H E → W = (fun c d _ H' => E c d H') →
      Room k (cxOf (L2.CX P w) P w K mg base N x (defScope st) f cdv A outer s H E).A → PassesOwn (model P w) (cxOf (L2.CX P w) P w K mg base N x (defScope st) f cdv A outer s H E).A (cxOf (L2.CX P w) P w K mg base N x (defScope st) f cdv A outer s H E).env (cxOf (L2.CX P w) P w K mg base N x (defScope st) f cdv A outer s H E).xe →
      Takes (cxOf (L2.CX P w) P w K mg base N x (defScope st) f cdv A outer s H E) (fun c d _ H' => E c d H') → 
      SSs (cxOf (L2.CX P w) P w K mg base N x (defScope st) f cdv A outer s H E) C (fun c d _ H' => E c d H') (defBody st) body) :
    Cal P w K mg base C (k + 1) x ps (mDef ps.length N.length body) :=
  ⟨f, fd, ok_def F S fun cdv A outer s H E hr => hbody _ _ cdv A outer s H E rfl rfl hr (passes_of rfl) (takes_of rfl rfl rfl rfl), hm, F.kp, F.binds hb⟩
end
/-! ### built-ins -/
theorem bv_len : bootBuiltins "len" = some (.builtin "len") := by decide +kernel
theorem bv_max : bootBuiltins "max" = some (.builtin "max") := by decide +kernel
theorem bv_min : bootBuiltins "min" = some (.builtin "min") := by decide +kernel
theorem bv_sorted : bootBuiltins "sorted" = some (.builtin "sorted") := by decide +kernel
theorem bv_isinstance : bootBuiltins "isinstance" = some (.builtin "isinstance") := by decide +kernel
theorem bv_list : bootBuiltins "list" = some (.type "list") := by decide +kernel
theorem bv_tuple : bootBuiltins "tuple" = some (.type "tuple") := by decide +kernel
theorem bv_dict : bootBuiltins "dict" = some (.type "dict") := by decide +kernel
theorem bv_int : bootBuiltins "int" = some (.type "int") := by decide +kernel
theorem bv_bool : bootBuiltins "bool" = some (.type "bool") := by decide +kernel
theorem bv_str : bootBuiltins "str" = some (.type "str") := by decide +kernel
end BL
/-! BLHead: a law's end. -/
namespace BL
open PySem PySem.Spec PyProof.Rows L2
/-- what the head tells of the text -/
structure Tx (fa : List He.Fa) (fn : List He.DefD) (tf : List (Str × List He.Dv)) (K : PySem.W.Frag) (mg : Str → Option Value) : Prop where
  says : He.SaysD fa fn K
  tups : (tf.all fun p => He.tupB K p.1 p.2) = true
  at_ : ∃ h : Heap, K.In h ∧ h.Ns mainGlobals mg
section
variable {fa : List He.Fa} {fn : List He.DefD} {tf : List (Str × List He.Dv)} {K : PySem.W.Frag} {mg : Str → Option Value}
theorem Tx.free (T : Tx fa fn tf K mg) (i : Nat) {x : Str} (h : fa[i]? = some (.free x) := by rfl) : mg x = none := by
  obtain ⟨hp, X, G⟩ := T.at_
  exact He.free_ok X G (T.says.fact i h)
theorem Tx.glo (T : Tx fa fn tf K mg) (i : Nat) {x : Str} (h : fa[i]? = some (.glo x) := by rfl) : mg x = some (.ref (He.ga K x)) := by
  obtain ⟨hp, X, G⟩ := T.at_
  exact He.glo_ok X G (T.says.fact i h)
/-- a tuple of the text -/
theorem Tx.tup (T : Tx fa fn tf K mg) (i j : Nat) {x : Str} {vs : List He.Dv} (h : tf[i]? = some (x, vs) := by rfl) (hg : fa[j]? = some (.glo x) := by rfl) : ∃ a, mg x = some (.ref a) ∧ ∀ H, TupAt K H a (vs.map (He.Dv.v K)) := by
  refine ⟨_, T.glo j hg, fun H => ?_⟩
  rcases He.tupB_ok (List.all_eq_true.mp T.tups (x, vs) (List.mem_of_getElem? h)) (fun _ => none) with (z | ⟨o, z⟩) | z
  · cases z
  · cases z
  · exact .inr z
theorem Tx.int (T : Tx fa fn tf K mg) (i : Nat) {x : Str} {k : Int} (h : fa[i]? = some (.int x k) := by rfl) : ∃ t, mg x = some (.int k t) := by
  obtain ⟨hp, X, G⟩ := T.at_
  exact He.int_ok X G (T.says.fact i h)
/-- a def of the text -/
theorem Tx.def_ (T : Tx fa fn tf K mg) (i j : Nat) {x : Str} {st : Stmt} (h : fn[i]? = some ⟨(x, none), x, x, defArgs st, defBody st, defScope st, [], []⟩ := by rfl) (hg : fa[j]? = some (.glo x) := by rfl) :
    ∃ f fd, Fun K x x st f fd ∧ mg x = some (.ref f) := by
  obtain ⟨fd, F⟩ := T.says.def_ i h
  exact ⟨_, fd, fun_of F, T.glo j hg⟩
end
section
variable {P : Program} {w : World} {K : PySem.W.Frag} {mg : Str → Option Value} {base : Heap} {C : Addr}
theorem ok_calT {x : Str} {st : Stmt} {N ps : List Str} {k : Nat} {body : GS} (F : ∃ f fd, Fun K x x st f fd ∧ mg x = some (.ref f)) (S : FnScope N ps (defScope st))
    (hb : ∀ (kV doc pm : Value) (an : Option Addr) (cdv ct : Value) (us : List Value), us.length = ps.length → bindArgs (PySem.W.fnOf x x (defArgs st) (defBody st) (defScope st) .none kV doc pm an cdv ct) ⟨us, []⟩ = pure (ps.zip us))
    (hbody : ∀ (X : Cx) (W : WX) (f : Addr) (cdv : Value) (A : Around) (outer : List Env) (s : Shared) (H : Hp) (E : XK), X = cxOf (L2.CX P w) P w K mg base N x (defScope st) f cdv A outer s H E → W = (fun c d _ H' => E c d H') →
      Room k (cxOf (L2.CX P w) P w K mg base N x (defScope st) f cdv A outer s H E).A → PassesOwn (model P w) (cxOf (L2.CX P w) P w K mg base N x (defScope st) f cdv A outer s H E).A (cxOf (L2.CX P w) P w K mg base N x (defScope st) f cdv A outer s H E).env (cxOf (L2.CX P w) P w K mg base N x (defScope st) f cdv A outer s H E).xe →
      Takes (cxOf (L2.CX P w) P w K mg base N x (defScope st) f cdv A outer s H E) (fun c d _ H' => E c d H') → 
      SSs (cxOf (L2.CX P w) P w K mg base N x (defScope st) f cdv A outer s H E) C (fun c d _ H' => E c d H') (defBody st) body) :
    Cal P w K mg base C (k + 1) x ps (mDef ps.length N.length body) := by
  obtain ⟨f, fd, F, hm⟩ := F
  exact ok_cal F hm S hb fun X W cdv A outer s H E h1 h2 => hbody X W f cdv A outer s H E h1 h2
end
/-- the same, of the law's def -/
theorem ok_fnT {P : Program} {w : World} {K : PySem.W.Frag} {mg : Str → Option Value} {base : Heap} {C : Addr} {x : Str} {st : Stmt} {f : Addr} {fd : FuncData} {N ps : List Str} {k : Nat} {body : GS} (F : Fun K x x st f fd) (S : FnScope N ps (defScope st))
    (hbody : ∀ (X : Cx) (W : WX) (f : Addr) (cdv : Value) (A : Around) (outer : List Env) (s : Shared) (H : Hp) (E : XK), X = cxOf (L2.CX P w) P w K mg base N x (defScope st) f cdv A outer s H E → W = (fun c d _ H' => E c d H') →
      Room k (cxOf (L2.CX P w) P w K mg base N x (defScope st) f cdv A outer s H E).A → PassesOwn (model P w) (cxOf (L2.CX P w) P w K mg base N x (defScope st) f cdv A outer s H E).A (cxOf (L2.CX P w) P w K mg base N x (defScope st) f cdv A outer s H E).env (cxOf (L2.CX P w) P w K mg base N x (defScope st) f cdv A outer s H E).xe →
      Takes (cxOf (L2.CX P w) P w K mg base N x (defScope st) f cdv A outer s H E) (fun c d _ H' => E c d H') → 
      SSs (cxOf (L2.CX P w) P w K mg base N x (defScope st) f cdv A outer s H E) C (fun c d _ H' => E c d H') (defBody st) body) :
    FnOk P w K mg base (L2.CX P w) (k + 1) f fd ps (spG K mg C (mDef ps.length N.length body)) :=
  ok_def F S fun cdv A outer s H E hr => hbody _ _ f cdv A outer s H E rfl rfl hr (passes_of rfl) (takes_of rfl rfl rfl rfl)
theorem mem_nil (K : PySem.W.Frag) (C : Addr) (H : Hp) : MemR K C [] [] H := ⟨rfl, List.nodup_nil, fun n o a h => by simp at h⟩
/-! ### the hook: facts, and tuples -/
abbrev AlB : Type := He.AlD × Bool
def obsB (fa : List He.Fa) (fn : List He.DefD) (tf : List (Str × List He.Dv)) (K : PySem.W.Frag) : AlB := (He.obsD fa fn K, tf.all fun p => He.tupB K p.1 p.2)
def valB (fn : List He.DefD) : AlB := (He.valD fn, true)
def obsBG (n : Nat) (fa : List He.Fa) (fn : List He.DefD) (tf : List (Str × List He.Dv)) (g : Addr → Option Obj) : AlB := obsB fa fn tf (He.frG g (He.asD g n))
def hookB (n : Nat) (fa : List He.Fa) (fn : List He.DefD) (tf : List (Str × List He.Dv)) : PySem.W.Hook where
  α := AlB
  obs := fun s => obsBG n fa fn tf s.heap.get?
  val := fun _ => valB fn
  says := fun _ h => ∃ K : PySem.W.Frag, K.In h ∧ obsB fa fn tf K = valB fn
  of := fun _ _ e => ⟨_, He.frG_in, e⟩
  keeps := fun _ _ _ ⟨K, hK, c⟩ k => ⟨K, PySem.W.Frag.In.keeps hK k, c⟩
theorem obsBG_eq {n : Nat} {fa : List He.Fa} {fn : List He.DefD} {tf : List (Str × List He.Dv)} {g : Addr → Option Obj} {s : Shared} (h : ∀ a, g a = s.heap.get? a) : obsBG n fa fn tf g = (hookB n fa fn tf).obs s := by
  have e : g = s.heap.get? := funext h
  rw [e] <;> rfl
/-- the law's end -/
theorem bl_walk {l : PySem.W.OpenLaw} {n k j : Nat} {q : Program} {loose : List Str} {XP : (Str → Option Value) → Heap → Prop} {hn' : Nat} {fa : List He.Fa} {fn : List He.DefD} {tf : List (Str × List He.Dv)} {d : DefRec} {x y : Str} {st : Stmt} {g : Fn} (C : PySem.W.Frag → Addr) (i : Nat)
    (hn : l.most = some n) (hn2 : n ≤ sizeLine) (hdf : d.params.defaults = []) (hr : Room k callerA) (hd : d.name = y)
    (hfn : fn[i]? = some ⟨(y, none), y, y, defArgs st, defBody st, defScope st, [], []⟩) (hfa : fa[j]? = some (.glo y))
    (hb : ∀ (kV doc pm : Value) (an : Option Addr) (cdv ct : Value) (us : List Value), us.length = [x].length → bindArgs (PySem.W.fnOf y y (defArgs st) (defBody st) (defScope st) .none kV doc pm an cdv ct) ⟨us, []⟩ = pure ([x].zip us))
    (F : ∀ (w : World) (K : PySem.W.Frag) (mg : Str → Option Value) (base : Heap) (f : Addr) (fd : FuncData), Tx fa fn tf K mg → Fun K y y st f fd → FnOk l.prog w K mg base (L2.CX l.prog w) k f fd [x] (spG K mg (C K) g))
    (law : ∀ ns : List Int, ns.length ≤ n → (∀ z ∈ ns, Builtin.Int.intBits z ≤ 1048576) → ∃ M, g [.scr ns] [] = some (.ok (.bl true) M)) :
    PySem.W.WalkO q loose XP (hookB hn' fa fn tf).says l.row.toRowW d [] (fun f vs => PySem.call f vs) := by
  refine Att.attach_callB hn hdf fun w s₀ s₁ mg mb fad o pm cd doc a vs ns G Y ho hd' hcd hmg hobj hints hlen hbits hg => ?_
  obtain ⟨K, KX, sb⟩ := Y
  have says : He.SaysD fa fn K := congrArg (fun z : AlB => z.1) sb
  have tups : (tf.all fun p => He.tupB K p.1 p.2) = true := congrArg (fun z : AlB => z.2) sb
  obtain ⟨fd, FD⟩ := says.def_ i hfn
  have e : fad = He.fAd K (y, none) := by
    have e1 := He.glo_ok KX G.T.g (says.fact j hfa)
    rw [hd] at hmg
    exact Value.ref.inj (Option.some.inj (hmg.symm.trans e1))
  subst e
  refine law_call KX G.T.g G.T.b G.T.builtins G.T.nolimit hg hobj hints (Nat.le_trans hlen hn2) hr (fun base hK hG => F w K mg base _ fd ⟨says, tups, base, hK, hG⟩ (fun_of FD)) (fun s u => FunD.bindsA (ps := [x]) FD hb s [u] rfl) (fun H hO hS => ?_) fun H e s' z => ?_
  · obtain ⟨M, hM⟩ := law ns hlen hbits
    refine ⟨[], [], [.scr ns], _, mem_nil K (C K) H, ?_, hM, fun i' H' b g m r => ?_⟩
    · simp only [DLs, DV]
      refine ⟨_, [], rfl, ⟨a, rfl, ?_⟩, rfl⟩
      rcases hS with (h | h) | h
      · rcases hO a with z | ⟨o, xs, z⟩
        · rw [z] at h
          cases h
        · rw [z] at h
          cases h
      · exact .inl h
      · exact .inr h
    · simpa only [DV] using r
  · obtain ⟨_, _, _, _, _, _, _, _, _, _, _, _, z⟩ := z
    exact z
end BL
/-! BLMore: texts joined, dicts, module's names. -/
namespace BL
open PySem L2
section
variable {X : Cx} {C : Addr} {W : WX} {o e f : Expr} {go ge gf : GE} {gs : GA} {apos cpos pos : Pos} {x : Str}
theorem se_globI {k : Int} (h : ∃ t, X.mg x = some (.int k t)) (hg : Gl X x := by rfl) (hd : (x == ("__debug__" : Str)) = false := by decide) : SE X C W (.Name x pos) (mC (.int k)) := by
  obtain ⟨t, h⟩ := h
  exact se_const (pe_glob (v := .int k) hg h ⟨t, rfl⟩ hd) fun _ _ => by simp only [DV]
theorem se_globT1 {z : Str} (h : ∃ a, X.mg x = some (.ref a) ∧ ∀ H, TupAt X.K H a [V.str z]) (hg : Gl X x := by rfl) (hd : (x == ("__debug__" : Str)) = false := by decide) : SE X C W (.Name x pos) (mC (.tup [.str z])) := by
  obtain ⟨a, h, ht⟩ := h
  refine se_const (pe_glob (v := .ref a) hg h rfl hd) fun i H => ?_
  simp only [DV, DLs]
  exact ⟨a, [V.str z], rfl, ht H, _, [], rfl, rfl, rfl⟩
/-! ### join -/
def strsOf : List D → Option (List Str)
  | [] => some []
  | .str s :: ds => (match strsOf ds with
    | some zs => some (s :: zs)
    | none => none)
  | _ :: _ => none
theorem strs_dl {K : PySem.W.Frag} {i : List Addr} {H : Hp} : ∀ {ds : List D} {vs : List V} {zs : List Str}, DLs K i H ds vs → strsOf ds = some zs → vs = zs.map V.str
  | [], vs, zs, h, e => by
    cases e
    simp only [DLs] at h
    exact h
  | d :: ds, vs, zs, h, e => by
    cases d <;> first
      | (cases e; done)
      | skip
    unfold strsOf at e
    cases e2 : strsOf ds with
    | none => rw [e2] at e; cases e
    | some ys =>
      rw [e2] at e
      cases e
      simp only [DLs, DV] at h
      obtain ⟨v, r, rfl, rfl, h3⟩ := h
      rw [strs_dl h3 e2]
      rfl
def oJoin : OpM := fun x xs M => match x, xs with
  | .str a, [.ref n] => (match M[n]? with
    | some (.lst ds) => (match strsOf ds with
      | some ys => if (ys.map (·.length)).sum + ys.length * a.length ≤ 16777216 then some (.str (Txt.join a ys), M) else none
      | none => none)
    | _ => none)
  | _, _ => none
/-- a text's method -/
def mMtS (op : OpM) (o : GE) (as : GA) : GE := fun L M => bnd (o L M) fun x M1 => match x with
  | .str _ => bnd (as L M1) fun xs M2 => ret (op x xs M2)
  | _ => none
theorem se_join (ho : SE X C W o go) (he : SE X C W e ge) (hs : starEach [e] X.env = [(false, eval e X.env)] := by rfl) (hbase : attributeBase o "join" X.env (eval o X.env) = eval o X.env := by rfl) (hline : (apos.endLine == cpos.line) = true := by rfl) :
    SE X C W (.Call (.Attribute o "join" apos) [e] [] cpos) (mMtS oJoin go (mCons ge mNil)) := by
  obtain ⟨t, pt, s⟩ := ho.ex
  obtain ⟨t2, pt2, s2⟩ := he.ex
  refine ⟨_, pe_join pt pt2 hs hbase hline, fun i L M σ H r Q m l e q => ?_⟩
  refine s.step m l e q fun dx M1 i1 H1 x g1 m1 l1 rx e1 q1 => ?_
  cases dx <;> first
    | (cases e1; done)
    | skip
  rename_i a
  simp only [DV] at rx
  subst rx
  refine ⟨⟨a, rfl⟩, ?_⟩
  have e1' : bnd (ge L M1) (fun d M2 => ret (oJoin (.str a) [d] M2)) = some r := by
    refine Eq.trans ?_ e1
    show _ = bnd (mCons ge mNil L M1) fun xs M2 => ret (oJoin (.str a) xs M2)
    unfold mCons
    cases ge L M1 with
    | none => rfl
    | some z => cases z <;> rfl
  refine s2.step m1 l1 e1' q1 fun dy M2 i2 H2 y g2 m2 l2 ry e2 q2 => ?_
  obtain ⟨d, M', k1, k2⟩ := snd_ret e2 q2
  unfold oJoin at k1
  split at k1
  · rename_i a' n ea eb
    cases ea
    cases eb
    split at k1
    · rename_i ds hn
      split at k1
      · rename_i ys hy
        split at k1
        · rename_i hl
          cases k1
          obtain ⟨p, vs, hp, rfl, h1, h2⟩ := lst_at m2 hn ry
          have := strs_dl h2 hy
          subst this
          exact ⟨a, p, ys, rfl, rfl, .inl (SqL.of h1), hl, goStr k2 m2⟩
        · cases k1
      · cases k1
    · cases k1
  · cases k1
/-! ### dicts -/
def oGet1 : Op2 := fun x y M => match x, y with
  | .ref n, .int k => (match M[n]? with
    | some (.dct kvs) => some ((aget kvs k).getD .non, M)
    | _ => none)
  | _, _ => none
def oPopD2 : Op2 := fun x y M => match x, y with
  | .ref n, .int k => (match M[n]? with
    | some (.dct kvs) => some ((aget kvs k).getD .non, M.set n (.dct (adel kvs k)))
    | _ => none)
  | _, _ => none
def oPopD1 : Op2 := fun x y M => match x, y with
  | .ref n, .int k => (match M[n]? with
    | some (.dct kvs) => (match aget kvs k with
      | some d => some (d, M.set n (.dct (adel kvs k)))
      | none => none)
    | _ => none)
  | _, _ => none
/-- a dict's method: its receiver first looked at -/
def mMtD (op : Op2) (o e : GE) : GE := fun L M => bnd (o L M) fun x M1 => match x with
  | .ref n => (match M1[n]? with
    | some (.dct _) => bnd (e L M1) fun y M2 => ret (op x y M2)
    | _ => none)
  | _ => none
theorem mtD_snd {op : Op2} {t ta : TE} {tr : TE} (s : SndG X.K X.mg C W (DV X.K) t go) (s2 : SndG X.K X.mg C W (DV X.K) ta ge)
    (h : ∀ σ H Q, t σ H (fun x H1 => ∃ a, x = .ref a ∧ (∃ kvs, Rd H1 a (.dK kvs)) ∧ ta σ H1 fun y H2 => rO X.K C op x y H2 Q) → tr σ H Q) : SndG X.K X.mg C W (DV X.K) tr (mMtD op go ge) := fun i L M σ H r Q m l e q => by
  refine h σ H Q ?_
  refine s.step m l e q fun dx M1 i1 H1 x g1 m1 l1 rx e1 q1 => ?_
  cases dx <;> first
    | (cases e1; done)
    | skip
  rename_i n
  dsimp only at e1
  split at e1
  · rename_i ds hn
    obtain ⟨a, vs, ha, rfl, h1, h2⟩ := dct_at m1 hn rx
    refine ⟨a, rfl, ⟨vs, .inl h1⟩, ?_⟩
    refine s2.step m1 l1 e1 q1 fun dy M2 i2 H2 y g2 m2 l2 ry e2 q2 => ?_
    obtain ⟨d, M', k1, k2⟩ := snd_ret e2 q2
    exact ⟨i2, M2, .ref n, dy, d, M', m2, rx.mono g2, ry, k1, k2⟩
  · cases e1
theorem TE_mono {t : TE} (ht : ∃ e, PE X e t) : True := trivial
theorem se_get1 (hu : X.A.units + 1 < cLine) (ho : SE X C W o go) (he : SE X C W e ge) (m : M1 X o "get" apos e cpos := by exact ⟨by rfl, by rfl, by rfl, by rfl⟩) : SE X C W (.Call (.Attribute o "get" apos) [e] [] cpos) (mMtD oGet1 go ge) := by
  have p := pe_dget1 hu ho.pe he.pe m
  obtain ⟨t, pt, s⟩ := ho.ex
  obtain ⟨t2, pt2, s2⟩ := he.ex
  refine ⟨_, pe_dget1 hu pt pt2 m, fun i L M σ H r Q mm l e q => ?_⟩
  refine s.step mm l e q fun dx M1 i1 H1 x g1 m1 l1 rx e1 q1 => ?_
  cases dx <;> first
    | (cases e1; done)
    | skip
  rename_i n
  dsimp only at e1
  split at e1
  · rename_i ds hn
    obtain ⟨a, vs, ha, rfl, h1, h2⟩ := dct_at m1 hn rx
    refine ⟨a, rfl, .inl ⟨vs, .inl h1⟩, ?_⟩
    refine s2.step m1 l1 e1 q1 fun dy M2 i2 H2 y g2 m2 l2 ry e2 q2 => ?_
    obtain ⟨d, M', k1, k2⟩ := snd_ret e2 q2
    unfold oGet1 at k1
    split at k1
    · rename_i n' k ea
      cases ea
      split at k1
      · rename_i kvs hk
        cases k1
        obtain ⟨a', vs', ha', ea', h1', h2'⟩ := dct_at m2 hk (rx.mono g2)
        cases ea'
        simp only [DV] at ry
        subst ry
        obtain ⟨n1, n2⟩ := DKs.val k h2'
        cases hg : aget kvs k with
        | none =>
          refine ⟨none, .inl ⟨vs', Sum.inl k, .inl h1', rfl, (n1 hg).symm⟩, ?_⟩
          rw [hg] at k2
          exact goNon k2 m2
        | some d =>
          obtain ⟨v, hv, rv⟩ := n2 d hg
          refine ⟨some v, .inl ⟨vs', Sum.inl k, .inl h1', rfl, hv.symm⟩, ?_⟩
          rw [hg] at k2
          exact goSame k2 m2 rv
      · cases k1
    · cases k1
  · cases e1
theorem pop_some {kvs : List (Int × D)} {vs : List (Key × V)} {i2 : List Addr} {M2 : Mem} {H2 : Hp} {n : Nat} {a : Addr} {k : Int} {d : D} {v : V} {Q : VK} (m2 : MemR X.K C i2 M2 H2) (ha : i2[n]? = some a) (h2 : DKs X.K i2 H2 kvs vs) (rv : DV X.K i2 H2 d v)
    (q : Goes X.K C i2 H2 d (M2.set n (.dct (adel kvs k))) Q) : Q v (upd H2 a (.dK (dropK vs (Sum.inl k : Key)))) := goWdct q m2 ha h2.del rv
theorem adel_none {k : Int} : ∀ {kvs : List (Int × D)}, aget kvs k = none → adel kvs k = kvs
  | [], _ => rfl
  | (j, d) :: r, h => by
    unfold aget at h
    split at h
    · cases h
    · rename_i hj
      have ih := adel_none h
      unfold adel at ih ⊢
      rw [List.filter_cons_of_pos (by simpa using hj), ih]
theorem se_popD2 (ho : SE X C W o go) (he : SE X C W e ge) (hf : SE X C W f (mC .non)) (m : M2 X o "pop" apos e f cpos := by exact ⟨by rfl, by rfl, by rfl, by rfl⟩) : SE X C W (.Call (.Attribute o "pop" apos) [e, f] [] cpos) (mMtD oPopD2 go ge) := by
  obtain ⟨t, pt, s⟩ := ho.ex
  obtain ⟨t2, pt2, s2⟩ := he.ex
  obtain ⟨t3, pt3, s3⟩ := hf.ex
  refine ⟨_, pe_dpop2 pt pt2 pt3 m, fun i L M σ H r Q mm l e q => ?_⟩
  refine s.step mm l e q fun dx M1 i1 H1 x g1 m1 l1 rx e1 q1 => ?_
  cases dx <;> first
    | (cases e1; done)
    | skip
  rename_i n
  dsimp only at e1
  split at e1
  · rename_i ds hn
    obtain ⟨a, vs, ha, rfl, h1, h2⟩ := dct_at m1 hn rx
    refine ⟨a, rfl, .inl ⟨vs, .inl h1⟩, ?_⟩
    refine s2.step m1 l1 e1 q1 fun dy M2 i2 H2 y g2 m2 l2 ry e2 q2 => ?_
    obtain ⟨d, M', k1, k2⟩ := snd_ret e2 q2
    refine s3 i2 L M2 σ H2 (.ok .non M2) _ m2 l2 rfl fun i3 H3 z g3 m3 rz => ?_
    simp only [DV] at rz
    subst rz
    have k3 : Goes X.K C i3 H3 d M' Q := fun i' H' z g mm' rr => k2 i' H' z (g3.trans g) mm' rr
    unfold oPopD2 at k1
    split at k1
    · rename_i n' k ea
      cases ea
      split at k1
      · rename_i kvs hk
        cases k1
        obtain ⟨a', vs', ha', ea', h1', h2'⟩ := dct_at m3 hk ((rx.mono g2).mono g3)
        cases ea'
        have ry' := ry.mono g3
        simp only [DV] at ry'
        subst ry'
        obtain ⟨n1, n2⟩ := DKs.val k h2'
        refine ⟨vs', Sum.inl k, h1', rfl, fun v hv => ?_, fun hv => ?_⟩
        · cases hg : aget kvs k with
          | none =>
            rw [n1 hg] at hv
            cases hv
          | some d =>
            obtain ⟨v', hv', rv⟩ := n2 d hg
            rw [hv'] at hv
            cases hv
            rw [hg] at k3
            exact goWdct k3 m3 ha' h2'.del rv
        · cases hg : aget kvs k with
          | none =>
            rw [hg, adel_none hg] at k3
            have e5 : M2.set n (.dct kvs) = M2 := by
              apply List.ext_getElem?
              intro j
              rw [List.getElem?_set]
              split
              · rename_i hj
                subst hj
                rw [hk]
                have := (List.getElem?_eq_some_iff.mp hk).1
                simp [this]
              · rfl
            rw [e5] at k3
            exact goNon k3 m3
          | some d =>
            obtain ⟨v', hv', rv⟩ := n2 d hg
            rw [hv'] at hv
            cases hv
      · cases k1
    · cases k1
  · cases e1
theorem se_popD1 (ho : SE X C W o go) (he : SE X C W e ge) (m : M1 X o "pop" apos e cpos := by exact ⟨by rfl, by rfl, by rfl, by rfl⟩) : SE X C W (.Call (.Attribute o "pop" apos) [e] [] cpos) (mMtD oPopD1 go ge) := by
  obtain ⟨t, pt, s⟩ := ho.ex
  obtain ⟨t2, pt2, s2⟩ := he.ex
  refine ⟨_, pe_dpop1 pt pt2 m, fun i L M σ H r Q mm l e q => ?_⟩
  refine s.step mm l e q fun dx M1 i1 H1 x g1 m1 l1 rx e1 q1 => ?_
  cases dx <;> first
    | (cases e1; done)
    | skip
  rename_i n
  dsimp only at e1
  split at e1
  · rename_i ds hn
    obtain ⟨a, vs, ha, rfl, h1, h2⟩ := dct_at m1 hn rx
    refine ⟨a, rfl, .inl ⟨vs, .inl h1⟩, ?_⟩
    refine s2.step m1 l1 e1 q1 fun dy M2 i2 H2 y g2 m2 l2 ry e2 q2 => ?_
    obtain ⟨d, M', k1, k2⟩ := snd_ret e2 q2
    unfold oPopD1 at k1
    split at k1
    · rename_i n' k ea
      cases ea
      split at k1
      · rename_i kvs hk
        split at k1
        · rename_i d' hg
          cases k1
          obtain ⟨a', vs', ha', ea', h1', h2'⟩ := dct_at m2 hk (rx.mono g2)
          cases ea'
          simp only [DV] at ry
          subst ry
          obtain ⟨v, hv, rv⟩ := (DKs.val k h2').2 _ hg
          exact ⟨vs', Sum.inl k, v, h1', rfl, hv, goWdct k2 m2 ha' h2'.del rv⟩
        · cases k1
      · cases k1
    · cases k1
  · cases e1
/-! ### o[i] = e -/
def oPutA : D → D → D → Mem → Option Mem := fun x k v M => match x, k with
  | .ref n, .int k => (match M[n]? with
    | some (.dct kvs) => if kvs.length < 16000000 then some (M.set n (.dct (aput kvs k v))) else none
    | some (.lst ds) => (match ixN ds.length k with
      | some j => some (M.set n (.lst (ds.set j v)))
      | none => none)
    | _ => none)
  | _, _ => none
theorem dl_set {K : PySem.W.Frag} {i : List Addr} {H : Hp} {d : D} {v : V} (rv : DV K i H d v) : ∀ {ds : List D} {vs : List V} (j : Nat), DLs K i H ds vs → DLs K i H (ds.set j d) (vs.set j v)
  | [], vs, j, h => by
    simp only [DLs] at h
    subst h
    simp only [List.set_nil, DLs]
  | x :: ds, vs, 0, h => by
    simp only [DLs] at h
    obtain ⟨v', r', h1, h2, h3⟩ := h
    subst h1
    simp only [List.set_cons_zero, DLs]
    exact ⟨v, _, rfl, rv, h3⟩
  | x :: ds, vs, j + 1, h => by
    simp only [DLs] at h
    obtain ⟨v', r', h1, h2, h3⟩ := h
    subst h1
    simp only [List.set_cons_succ, DLs]
    exact ⟨v', _, rfl, h2, dl_set rv j h3⟩
theorem ps_putA (hu : X.A.units + 1 < cLine) : PSet X (rOS X.K C oPutA) := by
  intro pins s σ H o i v ov iv u Q I ro ri rv h
  obtain ⟨ii, M, dx, dk, dv, M', m, rx, rk, rd, e, q⟩ := h
  unfold oPutA at e
  split at e
  · rename_i n k
    simp only [DV] at rk
    subst rk
    split at e
    · rename_i kvs hk
      split at e
      · rename_i hl
        cases e
        obtain ⟨a, vs, ha, rfl, h1, h2⟩ := dct_at m hk rx
        cases ro
        refine d_setItem hu I (DPut.k (k := Sum.inl k) (v := v) h1 (by rw [← h2.length]; exact small_line hl)) ri rv fun s' J => ⟨_, J, ?_⟩
        exact q ii _ (ext_write m ha) (m.write ha ⟨_, upd_same, (DKs.put rd h2).mono (ext_write m ha)⟩)
      · cases e
    · rename_i ds hk
      split at e
      · rename_i j hj
        cases e
        obtain ⟨a, vs, ha, rfl, h1, h2⟩ := lst_at m hk rx
        refine L2.set_list pins s σ H _ _ _ ov iv u Q I ro ri rv ⟨a, vs, k, j, rfl, rfl, h1, by rw [← h2.length]; exact hj, ?_⟩
        exact q ii _ (ext_write m ha) (m.write ha ⟨_, upd_same, (dl_set rd j h2).mono (ext_write m ha)⟩)
      · cases e
    · cases e
  · cases e
/-! ### in, not in -/
def oInD (x y : D) (M : Mem) : Option Bool := match x, y with
  | .int k, .ref n => (match M[n]? with
    | some (.dct kvs) => some (aget kvs k).isSome
    | some (.lst ds) => (match intsOf ds with
      | some ns => some (decide (k ∈ ns))
      | none => none)
    | _ => none)
  | .int k, .tup ds => (match intsOf ds with
    | some ns => some (decide (k ∈ ns))
    | none => none)
  | .str k, .tup ds => (match strsOf ds with
    | some ns => some (decide (k ∈ ns))
    | none => none)
  | _, _ => none
def oIn : Op2 := fun x y M => match oInD x y M with
  | some b => some (.bl b, M)
  | none => none
def oNotIn : Op2 := fun x y M => match oInD x y M with
  | some b => some (.bl (!b), M)
  | none => none
theorem inV_ints (k : Int) (ns : List Int) : inV (.int k) (ns.map V.int) = decide (k ∈ ns) := by
  unfold inV
  induction ns with
  | nil => simp
  | cons n ns ih =>
    rw [List.map_cons, List.any_cons, ih]
    show ((n == k) || _) = _
    rw [Bool.eq_iff_iff]
    simp only [Bool.or_eq_true, beq_iff_eq, decide_eq_true_eq, List.mem_cons]
    exact ⟨fun h => h.imp Eq.symm id, fun h => h.imp Eq.symm id⟩
theorem inV_strs (k : Str) (ns : List Str) : inV (.str k) (ns.map V.str) = decide (k ∈ ns) := by
  unfold inV
  induction ns with
  | nil => simp
  | cons n ns ih =>
    rw [List.map_cons, List.any_cons, ih]
    show ((n == k) || _) = _
    rw [Bool.eq_iff_iff]
    simp only [Bool.or_eq_true, beq_iff_eq, decide_eq_true_eq, List.mem_cons]
    exact ⟨fun h => h.imp Eq.symm id, fun h => h.imp Eq.symm id⟩
theorem flat_ints (ns : List Int) : (ns.map V.int).all flatV = true := by simp [flatV]
theorem flat_strs (ns : List Str) : (ns.map V.str).all flatV = true := by simp [flatV]
theorem inD_cases {x y : D} {M : Mem} {b : Bool} {i : List Addr} {H : Hp} {vx vy : V} (m : MemR X.K C i M H) (rx : DV X.K i H x vx) (ry : DV X.K i H y vy) (e : oInD x y M = some b) :
    (∃ a o, vy = .ref a ∧ DGet H a vx o ∧ o.isSome = b) ∨ ∃ p xs, vy = .ref p ∧ (SqL X.K H p xs ∨ SqT X.K H p xs) ∧ flatV vx = true ∧ xs.all flatV = true ∧ inV vx xs = b := by
  unfold oInD at e
  split at e
  · rename_i k n
    simp only [DV] at rx
    subst rx
    split at e
    · rename_i kvs hk
      cases e
      obtain ⟨a, vs, ha, rfl, h1, h2⟩ := dct_at m hk ry
      obtain ⟨n1, n2⟩ := DKs.val k h2
      refine .inl ⟨a, _, rfl, .inl ⟨vs, Sum.inl k, .inl h1, rfl, rfl⟩, ?_⟩
      cases hg : aget kvs k with
      | none => rw [n1 hg]; rfl
      | some d =>
        obtain ⟨v, hv, _⟩ := n2 d hg
        rw [hv]
        rfl
    · rename_i ds hk
      split at e
      · rename_i ns hn
        cases e
        obtain ⟨a, vs, ha, rfl, h1, h2⟩ := lst_at m hk ry
        have := intsOf_dl h2 hn
        subst this
        exact .inr ⟨a, _, rfl, .inl (SqL.of h1), rfl, flat_ints ns, inV_ints k ns⟩
      · cases e
    · cases e
  · rename_i k ds
    simp only [DV] at rx
    subst rx
    split at e
    · rename_i ns hn
      cases e
      obtain ⟨a, vs, rfl, h1, h2⟩ := tup_at ry
      have := intsOf_dl h2 hn
      subst this
      exact .inr ⟨a, _, rfl, .inr h1.seq, rfl, flat_ints ns, inV_ints k ns⟩
    · cases e
  · rename_i k ds
    simp only [DV] at rx
    subst rx
    split at e
    · rename_i ns hn
      cases e
      obtain ⟨a, vs, rfl, h1, h2⟩ := tup_at ry
      have := strs_dl h2 hn
      subst this
      exact .inr ⟨a, _, rfl, .inr h1.seq, rfl, flat_strs ns, inV_strs k ns⟩
    · cases e
  · cases e
theorem or_in (hu : X.A.units + 1 < cLine) : OpR X (compareOp .In) (rO X.K C oIn) := by
  intro pins s σ H x y v u Q I rv ru h
  obtain ⟨i, M, dx, dy, d, M', m, rx, ry, e, q⟩ := h
  unfold oIn at e
  split at e
  · rename_i b hb
    cases e
    rcases inD_cases m rx ry hb with ⟨a, o, rfl, g, e2⟩ | ⟨p, xs, rfl, h1, h2, h3, h4⟩
    · cases ru
      refine d_in hu I g rv fun s' J => ⟨.bl b, H, J, by rw [e2]; rfl, goBl q m⟩
    · exact op_in_seq pins s σ H _ _ v u Q I rv ru ⟨p, xs, rfl, h1, h2, h3, by rw [h4]; exact goBl q m⟩
  · cases e
theorem or_notIn (hu : X.A.units + 1 < cLine) : OpR X (compareOp .NotIn) (rO X.K C oNotIn) := by
  intro pins s σ H x y v u Q I rv ru h
  obtain ⟨i, M, dx, dy, d, M', m, rx, ry, e, q⟩ := h
  unfold oNotIn at e
  split at e
  · rename_i b hb
    cases e
    rcases inD_cases m rx ry hb with ⟨a, o, rfl, g, e2⟩ | ⟨p, xs, rfl, h1, h2, h3, h4⟩
    · cases ru
      refine d_notIn hu I g rv fun s' J => ⟨.bl (!b), H, J, by rw [e2]; rfl, goBl q m⟩
    · exact op_notIn_seq pins s σ H _ _ v u Q I rv ru ⟨p, xs, rfl, h1, h2, h3, by rw [h4]; exact goBl q m⟩
  · cases e
end
end BL
/-! BLMore2: extend, sets of ints, sorted. -/
namespace PySem
open Sem (wp)
theorem bl_meets_extend {l b : Addr} {its1 its2 : Array Value} {n1 n2 : Nat} {ob : Obj} {T : String} (hT : T = "list" ∨ T = "tuple") (hsz : its1.size + its2.size ≤ sizeLine) :
    Meets (Builtin.«list.extend» ⟨[.ref l, .ref b], []⟩) (fun _ R s => s.heap.get? l = some { cls := .type "list", data := .seq its1 n1 } ∧ (s.heap.get? b = some ob ∧ ob.cls = .type T ∧ ob.data = .seq its2 n2) ∧
      R (.ok (.ret .none)) { s with heap := s.heap.update l (Obj.mapSeq (· ++ its2)) }) := fun prog w A R s ⟨hl, ⟨hb, hc, hd⟩, hR⟩ => by
  show wpAny _ A.in1 (Builtin.List.listExtendWith (.ref l) (.ref b) .none) _ _ s
  unfold Builtin.List.listExtendWith
  refine wpAny_bind (wpAny_typeOf ⟨ob, hb, hc⟩ ?_)
  have hsame : (Builtin.List.listSameRef (.ref l) (.ref b) || Value.type T == Value.type "list" || Value.type T == Value.type "tuple") = true := by
    rcases hT with rfl | rfl <;> simp
  simp only [hsame, if_true]
  refine wpAny_bind ?_
  unfold Builtin.List.listItems
  refine wpAny_bind (wpAny_seqItems hb hd (wpAny_pure ?_))
  refine wpAny_bind ?_
  refine wpAny_bind (wpAny_seqItems hl rfl (wpAny_pure ?_))
  have hfit : (!its1.isEmpty && Builtin.List.listTooLong (its1.size + its2.size)) = false := by
    unfold Builtin.List.listTooLong
    rw [decide_eq_false (by omega), Bool.and_false]
  simp only [hfit, Bool.false_eq_true, if_false]
  show wpAny _ A.in1 (updateSeq l (· ++ its2) >>= fun _ => ret .none) _ _ s
  refine wpAny_bind (wpAny_updateSeq hl rfl ?_ (by omega) (by simp only [Array.size_append]; omega))
  exact wpAny_pure hR
end PySem
namespace BL
open PySem L2
section
variable {X : Cx} {C : Addr} {W : WX} {o e f a : Expr} {go ge gf ga : GE} {gs : GA} {apos cpos pos p p2 q : Pos} {x : Str}
def seqOf (M : Mem) : D → Option (List D)
  | .tup xs => some xs
  | .ref n => (match M[n]? with
    | some (.lst xs) => some xs
    | _ => none)
  | _ => none
def oExtend : OpM := fun x xs M => match x, xs with
  | .ref n, [d] => (match M[n]?, seqOf M d with
    | some (.lst ds), some es => if ds.length + es.length < 16000000 then some (.non, M.set n (.lst (ds ++ es))) else none
    | _, _ => none)
  | _, _ => none
theorem seqOf_at {i : List Addr} {M : Mem} {H : Hp} {d : D} {v : V} {es : List D} (m : MemR X.K C i M H) (r : DV X.K i H d v) (e : seqOf M d = some es) : ∃ b vs, v = .ref b ∧ (SqL X.K H b vs ∨ SqT X.K H b vs) ∧ DLs X.K i H es vs := by
  cases d <;> first
    | (cases e; done)
    | skip
  · cases e
    obtain ⟨b, vs, rfl, h1, h2⟩ := tup_at r
    exact ⟨b, vs, rfl, .inr h1.seq, h2⟩
  · rename_i n
    unfold seqOf at e
    dsimp only at e
    split at e
    · rename_i xs hn
      cases e
      obtain ⟨b, vs, _, rfl, h1, h2⟩ := lst_at m hn r
      exact ⟨b, vs, rfl, .inl (SqL.of h1), h2⟩
    · cases e
theorem rm_extend : MtR X "list.extend" (rOM X.K C oExtend) := by
  intro pins s σ H x xs v us Q I rv ru h
  obtain ⟨i, M, dx, ds, d, M', m, rx, rs, e, q⟩ := h
  unfold oExtend at e
  split at e
  · rename_i n d'
    split at e
    · rename_i ls es hn he
      split at e
      · rename_i hl
        cases e
        obtain ⟨a, vs, ha, rfl, h1, h2⟩ := lst_at m hn rx
        obtain ⟨w, rfl, r1⟩ := dl1 rs
        obtain ⟨b, ws, rfl, h3, h4⟩ := seqOf_at m r1 he
        cases rv
        obtain ⟨u, rfl, ru1⟩ := ru.one
        cases ru1
        obtain ⟨z, its, k, r, e1⟩ := I.hok a _ h1
        obtain ⟨its2, ob, T, k2, hT, r2, e2, c2, d2⟩ : ∃ (its2 : List Value) (ob : Obj) (T : String) (k2 : Nat), (T = "list" ∨ T = "tuple") ∧ Vals ws its2 ∧ s.heap.get? b = some ob ∧ ob.cls = .type T ∧ ob.data = .seq its2.toArray k2 := by
          rcases h3 with h3 | h3
          · obtain ⟨its2, r2, ⟨ob, k2, e2, c2, _, d2⟩, _⟩ := I.list h3
            exact ⟨its2, ob, "list", k2, .inl rfl, r2, e2, c2, d2⟩
          · obtain ⟨its2, r2, ⟨ob, e2, c2, k2, d2⟩, _⟩ := I.tuple h3
            exact ⟨its2, ob, "tuple", k2, .inr rfl, r2, e2, c2, d2⟩
        have l1 : its.length = ls.length := by rw [← r.length, h2.length]
        have l2 : its2.length = es.length := by rw [← r2.length, h4.length]
        have hz := PySem.sizeLine_eq
        refine call_meets F.slot_list_extend ⟨_, e1, rfl⟩ F.entry_list_extend (F.args_list_extend_2 _ _) (bl_meets_extend (ob := ob) hT (by rw [List.size_toArray, List.size_toArray]; omega)) ⟨e1, ⟨e2, c2, d2⟩, ?_⟩
        refine ⟨.non, _, I.lset (its' := its ++ its2) h1 e1 (by simp) (r.append r2) ?_, rfl, ?_⟩
        · rw [List.length_append, ← h2.length, ← h4.length]
          omega
        · exact goWlst q m ha (dl_app h2 h4) (by simp only [DV])
      · cases e
    · cases e
  · cases e
/-! ### sorted -/
def oSorted : OpN := fun xs M => match xs with
  | [.ref n] => (match M[n]? with
    | some (.lst ds) => (match intsOf ds with
      | some ns => some (.ref M.length, M ++ [.lst ((ns.mergeSort (fun a b => decide (a ≤ b))).map .int)])
      | none => none)
    | _ => none)
  | _ => none
theorem sorted_same {a ns : List Int} (hp : a.Perm ns) (hs : a.Pairwise (· ≤ ·)) : a = ns.mergeSort (fun a b => decide (a ≤ b)) := by
  have h1 : (ns.mergeSort (fun a b => decide (a ≤ b))).Perm ns := List.mergeSort_perm ns _
  have h2 : (ns.mergeSort (fun a b => decide (a ≤ b))).Pairwise (fun a b => decide (a ≤ b) = true) := List.pairwise_mergeSort (fun a b c h h' => by simp at h h' ⊢; omega) (fun a b => by simp; omega) ns
  exact PySem.W.ksm_same (hp.trans h1.symm) hs (h2.imp fun h => by simpa using h)
theorem cl_sorted : CallR X (.builtin "sorted") (rON X.K C oSorted) := by
  intro pins s σ H xs us Q I rv h
  obtain ⟨i, M, ds, d, M', m, rx, e, q⟩ := h
  unfold oSorted at e
  split at e
  · rename_i n
    split at e
    · rename_i ls hn
      split at e
      · rename_i ns hi
        cases e
        obtain ⟨v, rfl, r1⟩ := dl1 rx
        obtain ⟨a, vs, ha, rfl, h1, h2⟩ := lst_at m hn r1
        have := intsOf_dl h2 hi
        subst this
        refine cr_sortedI pins s σ H _ us Q I rv ⟨a, ns, rfl, SqL.of h1, fun ns' p hp hs hP => ?_⟩
        rw [sorted_same hp hs]
        exact goLst q m (dl_ints _) p hP
      · cases e
    · cases e
  · cases e
/-! ### len(set(xs)) -/
def dist (ns : List Int) : List Int := PyProof.Rows.firstMet (fun i => ns.getD i 0) ns.length
def oLenSet : Op1 := fun x M => match x with
  | .ref n => (match M[n]? with
    | some (.lst ds) => (match intsOf ds with
      | some ns => if ns.length ≤ 4000 then some (.int (dist ns).length, M) else none
      | none => none)
    | _ => none)
  | _ => none
def tLenSetD (K : PySem.W.Frag) (ta : TE) : TE := fun σ H Q => ta σ H fun x H1 => ∃ (l : Addr) (ns : List Int), x = .ref l ∧ SqL K H1 l (ns.map V.int) ∧ ns.length ≤ 4000 ∧ Q (.int ((dist ns).length : Nat)) H1
theorem pe_lenSetD {ta : TE} (hg : Gl X "len") (hm : X.mg "len" = none) (hg2 : Gl X "set") (hm2 : X.mg "set" = none) (ha : PE X a ta) (hc : X.calm = true := by rfl)
    (na : starEach [a] X.env = (false, eval a X.env) :: starEach [] X.env := by rfl) : PE X (.Call (.Name "len" p) [.Call (.Name "set" p2) [a] [] q] [] pos) (tLenSetD X.K ta) := by
  refine ⟨fun pins s σ H Q I h => ?_⟩
  refine PyProof.Rows.Call_ (ld_blt I hg hm bv_len ?_)
  refine PyProof.Rows.callWith_builtin1 (PyProof.Rows.args_cons ?_ rfl) rfl rfl
  refine PyProof.Rows.Call_ (ld_blt I hg2 hm2 (show bootBuiltins "set" = some (.type "set") by decide +kernel) ?_)
  refine PyProof.Rows.callWith_type1 (PyProof.Rows.args_cons (thn (ha.run pins s σ H _ I h) fun v s1 ⟨x, H1, I1, r1, w1⟩ => PyProof.Rows.args_nil ?_) na) na rfl
  obtain ⟨l, ns, rfl, hq, hz, w1⟩ := w1
  cases r1
  obtain ⟨its, r, pl, _⟩ := I1.list hq
  have size1 : its.toArray.size = ns.length := by rw [List.size_toArray, ← r.length, List.length_map]
  refine call_set_list (I1.ok.hd hc) pl.isList (by simpa using RZ.intsAre_vals r) (by rw [size1]; unfold scanBound; omega) fun h' tk hS hk => ?_
  refine PyProof.Rows.args_nil ?_
  rw [size1] at hS
  have small1 : (dist ns).length ≤ ns.length := PyProof.Rows.firstMet_length_le _ _
  obtain ⟨o, es, ep, t, ho, hex, hd, _, _, _, hf, hn⟩ := hS
  have I2 : Inv X pins σ H1 { s1 with heap := h', toks := tk } := I1.kept fun b o e => hk b o (Heap.lt_size e) e
  have hn' : es.size = (dist ns).length := hn
  exact call_len_set ho hex hd hf (by rw [hn']; omega) ⟨.int (dist ns).length, H1, I2.tok _, ⟨_, by rw [hn']⟩, w1⟩
theorem se_lenSet (hg : Gl X "len") (hm : X.mg "len" = none) (hg2 : Gl X "set") (hm2 : X.mg "set" = none) (ha : SE X C W a ga) (hc : X.calm = true := by rfl)
    (na : starEach [a] X.env = (false, eval a X.env) :: starEach [] X.env := by rfl) : SE X C W (.Call (.Name "len" p) [.Call (.Name "set" p2) [a] [] q] [] pos) (mUn oLenSet ga) := by
  obtain ⟨t, pt, s⟩ := ha.ex
  refine ⟨_, pe_lenSetD hg hm hg2 hm2 pt hc na, fun i L M σ H r Q m l e q => ?_⟩
  refine s.step m l e q fun dx M1 i1 H1 x g1 m1 l1 rx e1 q1 => ?_
  obtain ⟨d, M', h1, h2⟩ := snd_ret e1 q1
  unfold oLenSet at h1
  split at h1
  · rename_i n
    split at h1
    · rename_i ls hn
      split at h1
      · rename_i ns hi
        split at h1
        · rename_i hz
          cases h1
          obtain ⟨b, vs, _, rfl, h3, h4⟩ := lst_at m1 hn rx
          have := intsOf_dl h4 hi
          subst this
          exact ⟨b, ns, rfl, SqL.of h3, hz, goInt h2 m1⟩
        · cases h1
      · cases h1
    · cases h1
  · cases h1
end
end BL
/-! BLRev: xs[::-1] of tuples and lists. -/
namespace HT
open PySem PySem.Spec PyProof.Rows
section
variable {prog : Program} {w : World} {A : Around} {E : Value → Shared → Prop} {s : Shared}
theorem bl_pick (xs : Array Value) : ((List.range xs.size).filterMap fun (m : Nat) => xs[(((xs.size : Int) - 1) + (m : Int) * (-1)).toNat]?).toArray = xs.toList.reverse.toArray := by
  have e : (List.range xs.size).map (fun (m : Nat) => (((xs.size : Int) - 1) + (m : Int) * (-1)).toNat) = (List.range xs.size).map (fun k => xs.size - 1 - k) := List.map_congr_left fun m hm => by
    have := List.mem_range.mp hm
    omega
  have e2 : (List.range xs.size).filterMap (fun (m : Nat) => xs[(((xs.size : Int) - 1) + (m : Int) * (-1)).toNat]?) = ((List.range xs.size).map (fun (m : Nat) => (((xs.size : Int) - 1) + (m : Int) * (-1)).toNat)).filterMap (xs[·]?) := by
    rw [List.filterMap_map]
    rfl
  rw [e2, e, PySem.W.krv_range, List.filterMap_reverse, PySem.W.krv_all]
theorem bl_applied {sl : Addr} {v1 v2 v3 : Value} {n : Nat} {Q : Int × Int × Nat → Shared → Prop} (hs : s.heap.IsSliceOf sl v1 v2 v3) (p1 : IsPart v1 none) (p2 : IsPart v2 none) (p3 : IsPart v3 (some (-1)))
    (h : Q ((n : Int) - 1, -1, n) s) : wpAny (model prog w) A (Builtin.Slice.sliceApplied (.ref sl) (pure (n : Int))) Q E s := by
  obtain ⟨os, hos, hcs, hds⟩ := id hs
  unfold Builtin.Slice.sliceApplied Builtin.Slice.sliceFields
  refine wpAny_bind (wpAny_bind (wpAny_field hos hds (x := v1) rfl (wpAny_bind (wpAny_field hos hds (x := v2) rfl (wpAny_bind (wpAny_field hos hds (x := v3) rfl (wpAny_pure ?_)))))))
  refine wpAny_bind (slicePart_ p3 ?_)
  show wpAny _ _ (if ((-1 : Int) == 0) = true then _ else _) _ _ s
  rw [if_neg (by decide)]
  refine wpAny_bind (slicePart_ p1 (wpAny_bind (slicePart_ p2 (wpAny_bind (wpAny_pure ?_)))))
  have e : Builtin.Slice.sliceAdjust none none (-1) (n : Int) = ((n : Int) - 1, -1) := by
    unfold Builtin.Slice.sliceAdjust
    simp
  have e2 : Builtin.Slice.slicePlaces ((n : Int) - 1) (-1) (-1) = n := by
    unfold Builtin.Slice.slicePlaces
    simp
    split <;> omega
  show wpAny _ _ (match Builtin.Slice.sliceAdjust none none (-1) (n : Int) with | (lo, hi) => pure (lo, (-1 : Int), Builtin.Slice.slicePlaces lo hi (-1))) _ _ s
  rw [e]
  show wpAny _ _ (pure ((n : Int) - 1, (-1 : Int), Builtin.Slice.slicePlaces ((n : Int) - 1) (-1) (-1))) _ _ s
  rw [e2]
  exact wpAny_pure h
theorem bl_getItem_rev {t sl : Addr} {its : Array Value} {v1 v2 v3 : Value} {Q : Value → Shared → Prop} (ht : IsTup s.heap t its) (hs : s.heap.IsSliceOf sl v1 v2 v3) (p1 : IsPart v1 none) (p2 : IsPart v2 none) (p3 : IsPart v3 (some (-1)))
    (h : Q (.ref s.heap.objs.size) { s with heap := s.heap.push { cls := .type "tuple", data := .seq its.toList.reverse.toArray } })
    (hsz : its.size ≤ sizeLine) : wpAny (model prog w) A (getItem (.ref t) (.ref sl)) Q E s := by
  have hz : sizeOk (.seq its.toList.reverse.toArray) := by
    show its.toList.reverse.toArray.size ≤ sizeLine
    rw [List.size_toArray, List.length_reverse, Array.length_toList]
    exact hsz
  obtain ⟨os, hos, hcs, hds⟩ := id hs
  have hTs : s.TypeIs (.ref sl) "slice" := ⟨os, hos, hcs⟩
  unfold getItem
  try with_reducible refine wpAny_holding ?_
  first | refine wpAny_bind (wpAny_pure ?_) | skip
  refine wpAny_bind (wpAny_sequenceKey ht.typeIs (by decide) ?_)
  refine wpAny_bind (wpAny_callSpecial?_slot (name := Str.ofString "__getitem__") ht.typeIs PyProof.Rows.slot_tuple_getitem
    (wpAny_call_entry PyProof.Rows.slot_tuple_getitem ht.typeIs entry_tuple_getitem ?_ (args_tuple_getitem _ _)))
  show wpAny _ _ (Builtin.Tuple.tupleItemsOf (.ref t) >>= _) _ _ s
  refine wpAny_bind (tupleItemsOf_ ht ?_)
  refine wpAny_bind (wpAny_typeOf hTs ?_)
  rw [if_pos (by decide)]
  refine wpAny_bind (bl_applied hs p1 p2 p3 ?_)
  have hno : ¬ ((((its.size : Int) - 1) == 0 && (-1 : Int) == 1 && its.size == its.size) = true) := by
    intro q
    rw [Bool.and_eq_true, Bool.and_eq_true] at q
    exact absurd q.1.2 (by decide)
  show wpAny _ _ (if (((its.size : Int) - 1) == 0 && (-1 : Int) == 1 && its.size == its.size) = true then _ else _) _ _ s
  rw [if_neg hno, bl_pick]
  first
    | exact wpAny_bind (m := Builtin.Tuple.tupleExact _) (wpAny_newObj_type (wpAny_pure ⟨_, rfl, wpAny_pure h⟩) hz)
    | exact wpAny_bind (m := Builtin.Tuple.tupleExact _) (wpAny_newObj_type (wpAny_bind (wpAny_pure (wpAny_pure ⟨_, rfl, wpAny_pure h⟩))) hz)
    | exact wpAny_bind (wpAny_bind (m := Builtin.Tuple.tupleExact _) (wpAny_newObj_type (wpAny_pure (wpAny_pure ⟨_, rfl, wpAny_pure h⟩)) hz))
    | exact wpAny_bind (wpAny_bind (m := Builtin.Tuple.tupleExact _) (wpAny_newObj_type (wpAny_pure ⟨_, rfl, wpAny_pure h⟩) hz))
end
end HT
namespace BL
open PySem L2
section
variable {X : Cx} {C : Addr} {W : WX} {a e : Expr} {ga : GE} {k : Nat} {p1 p2 p3 pos : Pos}
def tRevA (K : PySem.W.Frag) (te : TE) : TE := fun σ H Q => te σ H fun x H1 => ∃ a xs, x = .ref a ∧ ((SqL K H1 a xs ∧ ∀ p, H1 p = none → Q (.ref p) (upd H1 p (.lst xs.reverse))) ∨ (SqT K H1 a xs ∧ ∀ p, H1 p = none → Q (.ref p) (upd H1 p (.tup xs.reverse))))
theorem pe_revX {te : TE} (he : PE X e te) : PE X (.Subscript e (.Slice none none (some (.UnaryOp .USub (.Constant (.int 1) k p1) p2)) p3) pos) (tRevA X.K te) := by
  refine ⟨fun pins s σ H Q I h => ?_⟩
  refine PyProof.Rows.Subscript_ (thn (he.run pins s σ H _ I h) fun v s1 ⟨x, H1, I1, r1, w1⟩ => ?_)
  obtain ⟨b, xs, ex, w⟩ := w1
  subst ex
  cases r1
  have third : PO X (some (.UnaryOp .USub (.Constant (.int 1) k p1) p2)) (tPart (tUn (rU fun i => .int (-i)) (tC (.int 1)))) := po_some (pe_un un_neg pe_int)
  refine wpAny_Slice (thn (po_none.run pins s1 σ H1 (fun o H2 => o = none ∧ H2 = H1) I1 ⟨rfl, rfl⟩) fun y1 s2 ⟨l, H2, I2, q1, el, e2⟩ => ?_)
  subst el e2
  refine thn (po_none.run pins s2 σ H2 (fun o H3 => o = none ∧ H3 = H2) I2 ⟨rfl, rfl⟩) fun y2 s3 ⟨u, H3, I3, q2, eu, e3⟩ => ?_
  subst eu e3
  refine thn (third.run pins s3 σ H3 (fun o H4 => o = some (-1) ∧ H4 = H3) I3 ⟨1, rfl, -1, rfl, rfl, rfl⟩) fun y3 s4 ⟨o, H4, I4, q3, eo, e4⟩ => ?_
  subst eo e4
  have I5 : Inv X pins σ H4 { s4 with heap := s4.heap.push { cls := .type "slice", data := .fields #[y1, y2, y3] } } := I4.kept (t' := s4.toks) fun b ob z => Heap.get?_push_of_some _ z
  show wpAny (model X.prog X.w) X.A (PyProof.Rows.subscriptTail e (.Slice none none (some (.UnaryOp .USub (.Constant (.int 1) k p1) p2)) p3) (.ref b) (.ref s4.heap.objs.size)) (EP X pins σ Q) X.xe { s4 with heap := s4.heap.push { cls := .type "slice", data := .fields #[y1, y2, y3] } }
  rcases w with ⟨hx, w⟩ | ⟨hx, w⟩
  · obtain ⟨its, r, ht, hz⟩ := I5.list hx
    have size1 := r.length
    refine PyProof.Rows.tail_any (ops := [.ref b, .ref s4.heap.objs.size]) ht.isList.typeIs (PySem.slot_list_getitem.lookup) ?_ (by with_unfolding_all rfl)
    refine wpAny_getItem_list_slice ht.isList (Heap.IsSliceOf.new _ y1 y2 y3) q1 q2 q3 (by decide) ?_ (by rw [List.size_toArray]; omega)
    rw [PySem.W.krv_pick]
    refine ⟨.ref _, _, I5.laid (t' := s4.toks) (o := .lst xs.reverse) (fun b ob z => Heap.get?_push_of_some _ z) (Nat.le_refl _) ?_, rfl, w _ (I5.hok.fresh (Nat.le_refl _))⟩
    exact ⟨by rw [List.length_reverse]; exact hz, _, 0, r.reverse, Heap.get?_push_size _ rfl⟩
  · obtain ⟨its, r, ht, hz⟩ := I5.tuple hx
    have size1 := r.length
    refine PyProof.Rows.tail_any (ops := [.ref b, .ref s4.heap.objs.size]) ht.typeIs (PyProof.Rows.slot_tuple_getitem.lookup) ?_ (by with_unfolding_all rfl)
    refine HT.bl_getItem_rev ht (Heap.IsSliceOf.new _ y1 y2 y3) q1 q2 q3 ?_ (by rw [List.size_toArray]; omega)
    refine ⟨.ref _, _, I5.laid (t' := s4.toks) (o := .tup xs.reverse) (fun b ob z => Heap.get?_push_of_some _ z) (Nat.le_refl _) ?_, rfl, w _ (I5.hok.fresh (Nat.le_refl _))⟩
    exact ⟨by rw [List.length_reverse]; exact hz, _, r.reverse, PyProof.Rows.IsTup.new _ _⟩
def oRevL : Op1 := fun x M => match x with
  | .tup xs => some (.tup xs.reverse, M)
  | .ref n => (match M[n]? with
    | some (.lst xs) => some (.ref M.length, M ++ [.lst xs.reverse])
    | _ => none)
  | _ => none
theorem dl_rev {K : PySem.W.Frag} {i : List Addr} {H : Hp} : ∀ {ds : List D} {vs : List V}, DLs K i H ds vs → DLs K i H ds.reverse vs.reverse
  | [], vs, h => by
    simp only [DLs] at h
    subst h
    simp only [List.reverse_nil, DLs]
  | d :: ds, vs, h => by
    simp only [DLs] at h
    obtain ⟨v, r, h1, h2, h3⟩ := h
    subst h1
    rw [List.reverse_cons, List.reverse_cons]
    exact dl_append h2 (dl_rev h3)
theorem se_revl (ha : SE X C W a ga) : SE X C W (.Subscript a (.Slice none none (some (.UnaryOp .USub (.Constant (.int 1) k p1) p2)) p3) pos) (mUn oRevL ga) := by
  obtain ⟨t, pt, s⟩ := ha.ex
  refine ⟨_, pe_revX pt, fun i L M σ H r Q m l e q => ?_⟩
  refine s.step m l e q fun dx M1 i1 H1 x g1 m1 l1 rx e1 q1 => ?_
  obtain ⟨d, M', h1, h2⟩ := snd_ret e1 q1
  unfold oRevL at h1
  split at h1
  · cases h1
    obtain ⟨b, vs, rfl, h3, h4⟩ := tup_at rx
    exact ⟨b, vs, rfl, .inr ⟨h3.seq, goTup h2 m1 (dl_rev h4)⟩⟩
  · split at h1
    · rename_i xs hn
      cases h1
      obtain ⟨b, vs, _, rfl, h3, h4⟩ := lst_at m1 hn rx
      exact ⟨b, vs, rfl, .inl ⟨SqL.of h3, goLst h2 m1 (dl_rev h4)⟩⟩
    · cases h1
  · cases h1
end
end BL
/-! BLEval: the machine run by rewriting. -/
namespace BL
open PySem L2
section
variable {L : Loc} {M : Mem} {a b c : GE} {op op2 : Op2} {o1 : Op1} {on : OpN} {gs : GA} {t u : GT} {p q : GS} {i j : Nat} {d : D} {f : Fn}
@[simp] theorem ev_var : mVar i L M = (match L[i]? with | some (some d) => some (.ok d M) | _ => none) := (rfl)
@[simp] theorem ev_c : mC d L M = some (.ok d M) := (rfl)
@[simp] theorem ev_bin : mBin op a b L M = bnd (a L M) fun x M1 => bnd (b L M1) fun y M2 => ret (op x y M2) := (rfl)
@[simp] theorem ev_un : mUn o1 a L M = bnd (a L M) fun x M1 => ret (o1 x M1) := (rfl)
@[simp] theorem ev_chain : mChain op op2 a b c L M = bnd (a L M) fun x M1 => bnd (b L M1) fun y M2 => bnd (ret (op x y M2)) fun z M3 => match z with
  | .bl true => bnd (c L M3) fun w M4 => ret (op2 y w M4)
  | .bl false => some (.ok (.bl false) M3)
  | _ => none := (rfl)
@[simp] theorem ev_nil : mNil L M = some (.ok [] M) := (rfl)
@[simp] theorem ev_cons : mCons a gs L M = bnd (a L M) fun x M1 => bnd (gs L M1) fun xs M2 => some (.ok (x :: xs) M2) := (rfl)
@[simp] theorem ev_cb : mCB on gs L M = bnd (gs L M) fun xs M1 => ret (on xs M1) := (rfl)
@[simp] theorem ev_call : mCall f gs L M = bnd (gs L M) fun xs M1 => f xs M1 := (rfl)
@[simp] theorem ev_tup : mTup gs L M = bnd (gs L M) fun xs M1 => ret (oTup xs M1) := (rfl)
@[simp] theorem ev_lst : mLst gs L M = bnd (gs L M) fun xs M1 => ret (oLst xs M1) := (rfl)
@[simp] theorem ev_dnew : mDnew L M = some (.ok (.ref M.length) (M ++ [.dct []])) := (rfl)
@[simp] theorem ev_t : mT a L M = bnd (a L M) fun x M1 => (match x with | .bl b => some (.ok b M1) | _ => none) := (rfl)
@[simp] theorem ev_and : mAnd t u L M = bnd (t L M) fun x M1 => if x = true then u L M1 else some (.ok false M1) := (rfl)
@[simp] theorem ev_or : mOr t u L M = bnd (t L M) fun x M1 => if x = true then some (.ok true M1) else u L M1 := (rfl)
@[simp] theorem ev_not : mNot t L M = bnd (t L M) fun x M1 => some (.ok (!x) M1) := (rfl)
@[simp] theorem ev_andV : mAndV a b L M = bnd (a L M) fun x M1 => (match x with | .bl true => b L M1 | .bl false => some (.ok (.bl false) M1) | _ => none) := (rfl)
@[simp] theorem ev_orV : mOrV a b L M = bnd (a L M) fun x M1 => (match x with | .bl false => b L M1 | .bl true => some (.ok (.bl true) M1) | _ => none) := (rfl)
@[simp] theorem ev_notV : mNotV a L M = bnd (a L M) fun x M1 => (match x with | .bl b => some (.ok (.bl (!b)) M1) | _ => none) := (rfl)
@[simp] theorem ev_if : mIf t a b L M = bnd (t L M) fun c M1 => if c = true then a L M1 else b L M1 := (rfl)
@[simp] theorem ev_skip : mSkip L M = some (.nx L, M) := (rfl)
@[simp] theorem ev_seq : mSeq p q L M = thenS (p L M) q := (rfl)
@[simp] theorem ev_name : mName i d L = some (L.set i (some d)) := (rfl)
@[simp] theorem ev_name2 {x y : D} : mName2 i j (.tup [x, y]) L = some ((L.set i (some x)).set j (some y)) := (rfl)
@[simp] theorem ev_set : mSet i a L M = bndS L (a L M) fun d M1 => some (.nx (L.set i (some d)), M1) := (rfl)
@[simp] theorem ev_ret : mRet a L M = bndS L (a L M) fun d M1 => some (.rt d, M1) := (rfl)
@[simp] theorem ev_retN : mRetN L M = some (.rt .non, M) := (rfl)
@[simp] theorem ev_expr : mExpr a L M = bndS L (a L M) fun _ M1 => some (.nx L, M1) := (rfl)
@[simp] theorem ev_ite : mIte t p q L M = bndS L (t L M) fun c M1 => if c = true then p L M1 else q L M1 := (rfl)
@[simp] theorem ev_put {op : D → D → D → Mem → Option Mem} : mPut op a b c L M = bndS L (c L M) fun v M1 => bndS L (a L M1) fun x M2 => bndS L (b L M2) fun k M3 => (match op x k v M3 with | some M4 => some (.nx L, M4) | none => none) := (rfl)
@[simp] theorem ev_raise {cn : Str} : mRaise cn L M = some (.ex cn L, M) := (rfl)
@[simp] theorem ev_mtL {om : OpM} : mMtL om a gs L M = bnd (a L M) fun x M1 => (match x with
  | .ref n => (match M1[n]? with
    | some (.lst _) => bnd (gs L M1) fun xs M2 => ret (om x xs M2)
    | _ => none)
  | _ => none) := (rfl)
@[simp] theorem ev_def1 {n : Nat} {x : D} : mDef 1 n p [x] M = endS (p ([some x] ++ List.replicate (n - 1) none) M) := if_pos rfl
@[simp] theorem ev_def2 {n : Nat} {x y : D} : mDef 2 n p [x, y] M = endS (p ([some x, some y] ++ List.replicate (n - 2) none) M) := if_pos rfl
@[simp] theorem ev_def3 {n : Nat} {x y z : D} : mDef 3 n p [x, y, z] M = endS (p ([some x, some y, some z] ++ List.replicate (n - 3) none) M) := if_pos rfl
@[simp] theorem ev_def4 {n : Nat} {x y z w : D} : mDef 4 n p [x, y, z, w] M = endS (p ([some x, some y, some z, some w] ++ List.replicate (n - 4) none) M) := if_pos rfl
@[simp] theorem ev_def5 {n : Nat} {x y z w v : D} : mDef 5 n p [x, y, z, w, v] M = endS (p ([some x, some y, some z, some w, some v] ++ List.replicate (n - 5) none) M) := if_pos rfl
theorem ev_def {k n : Nat} {ds : List D} (h : ds.length = k) : mDef k n p ds M = endS (p (ds.map some ++ List.replicate (n - k) none) M) := if_pos h
end
section
variable {M : Mem} {i j : Int} {s z : Str} {xs ys : List D} {x y : D} {n m : Nat}
@[simp] theorem add_int : oAdd (.int i) (.int j) M = some (.int (i + j), M) := (rfl)
@[simp] theorem add_str : oAdd (.str s) (.str z) M = if s.length + z.length < 16000000 then some (.str (s ++ z), M) else none := (rfl)
@[simp] theorem add_tup : oAdd (.tup xs) (.tup ys) M = if xs.length + ys.length < 16000000 then some (.tup (xs ++ ys), M) else none := (rfl)
theorem add_lst (h1 : M[n]? = some (.lst xs)) (h2 : M[m]? = some (.lst ys)) (h : xs.length + ys.length < 16000000) : oAdd (.ref n) (.ref m) M = some (.ref M.length, M ++ [.lst (xs ++ ys)]) := by
  show (match M[n]?, M[m]? with
    | some (.lst xs), some (.lst ys) => if xs.length + ys.length < 16000000 then some (D.ref M.length, M ++ [Ob.lst (xs ++ ys)]) else none
    | _, _ => none) = _
  rw [h1, h2]
  exact if_pos h
@[simp] theorem sub_int : oSub (.int i) (.int j) M = some (.int (i - j), M) := (rfl)
theorem mul_int (h : mulFits i j) : oMul (.int i) (.int j) M = some (.int (i * j), M) := if_pos h
@[simp] theorem div_int : oDiv (.int i) (.int j) M = if 0 < j ∧ j < 1073741824 then some (.int (i / j), M) else none := (rfl)
@[simp] theorem mod_int : oMod (.int i) (.int j) M = if 0 < j then some (.int (i % j), M) else none := (rfl)
@[simp] theorem pow_int : oPow (.int i) (.int j) M = if 0 ≤ j ∧ j ≤ 1000 ∧ i.natAbs < 2 ^ 64 then some (.int (i ^ j.toNat), M) else none := (rfl)
@[simp] theorem neg_int : oNeg (.int i) M = some (.int (-i), M) := (rfl)
@[simp] theorem lt_int : oLt (.int i) (.int j) M = some (.bl (decide (i < j)), M) := (rfl)
@[simp] theorem le_int : oLe (.int i) (.int j) M = some (.bl (decide (i ≤ j)), M) := (rfl)
@[simp] theorem gt_int : oGt (.int i) (.int j) M = some (.bl (decide (j < i)), M) := (rfl)
@[simp] theorem ge_int : oGe (.int i) (.int j) M = some (.bl (decide (j ≤ i)), M) := (rfl)
/-! whole numbers that fit -/
def small (i : Int) : Prop := -(10 ^ 80) ≤ i ∧ i ≤ 10 ^ 80
theorem bits_small (h : small i) : Builtin.Int.intBits i ≤ 300 := by
  unfold Builtin.Int.intBits
  unfold small at h
  by_cases e : (i == 0) = true
  · simp [e]
  · simp only [e]
    have h0 : i.natAbs ≠ 0 := by simp at e; omega
    have h1 : i.natAbs.log2 < 299 := (Nat.log2_lt h0).mpr (by omega)
    simp
    omega
theorem fits_small (h : small i) (h' : small j) : mulFits i j := by
  have a := bits_small h
  have b := bits_small h'
  unfold mulFits L2.CMulX
  omega
theorem fits_cell (h : Builtin.Int.intBits i ≤ 1048576) (h' : small j) : mulFits i j := by
  have b := bits_small h'
  unfold mulFits L2.CMulX
  omega
end
theorem lt_bits (c : Int) : c.natAbs < 2 ^ PySem.Builtin.Int.intBits c := by
  unfold PySem.Builtin.Int.intBits
  by_cases e : (c == 0) = true
  · simp at e
    simp [e]
  · simp only [e]
    simp at e
    exact Nat.lt_log2_self
theorem sum_bits {c k : Int} {p q : Nat} (hc : c.natAbs < 2 ^ p) (hk : k.natAbs < 2 ^ q) : (c + k).natAbs < 2 ^ (p + q + 1) := by
  have h1 : (c + k).natAbs ≤ c.natAbs + k.natAbs := Int.natAbs_add_le c k
  have h2 : 2 ^ p ≤ 2 ^ (p + q) := Nat.pow_le_pow_right (by decide) (by omega)
  have h3 : 2 ^ q ≤ 2 ^ (p + q) := Nat.pow_le_pow_right (by decide) (by omega)
  rw [Nat.pow_succ]
  omega
theorem fits_sum {c k j : Int} (h : PySem.Builtin.Int.intBits c ≤ 1048576) (hk : small k) (hj : small j) : mulFits (c + k) j := by
  have b := bits_small hk
  have b2 := bits_small hj
  exact L2.mulx_ok (sum_bits (lt_bits c) (lt_bits k)) (lt_bits j) (by omega)
/-! ### equality of plain data -/
/-- no truths, no references, texts of signs -/
def Pl : Nat → D → Prop
  | _, .non => True
  | _, .int _ => True
  | _, .str s => PyData.strOk s = true
  | n + 1, .tup xs => ∀ x ∈ xs, Pl n x
  | _, _ => False
theorem Pl.mono : ∀ {n : Nat} {d : D}, Pl n d → Pl (n + 1) d
  | _, .non, _ => by unfold Pl; trivial
  | _, .int _, _ => by unfold Pl; trivial
  | _, .str s, h => by unfold Pl at h ⊢; exact h
  | 0, .tup xs, h => by unfold Pl at h; exact h.elim
  | n + 1, .tup xs, h => by
    unfold Pl at h ⊢
    exact fun x hx => (h x hx).mono
  | n, .bl b, h => by cases n <;> (unfold Pl at h; exact h.elim)
  | n, .scr b, h => by cases n <;> (unfold Pl at h; exact h.elim)
  | n, .ref b, h => by cases n <;> (unfold Pl at h; exact h.elim)
theorem pl_non {n : Nat} : Pl n .non := by cases n <;> (unfold Pl; trivial)
theorem pl_int {n : Nat} {i : Int} : Pl n (.int i) := by cases n <;> (unfold Pl; trivial)
theorem pl_str {n : Nat} {s : Str} (h : PyData.strOk s = true) : Pl n (.str s) := by cases n <;> (unfold Pl; exact h)
theorem pl_tup {n : Nat} {xs : List D} (h : ∀ x ∈ xs, Pl n x) : Pl (n + 1) (.tup xs) := by unfold Pl; exact h
theorem Pl.items {n : Nat} {xs : List D} (h : Pl (n + 1) (.tup xs)) : ∀ x ∈ xs, Pl n x := by unfold Pl at h; exact h
/-- how it is told -/
structure Told (n : Nat) (d : D) (p : PyData) : Prop where
  py : ∀ f, pyD f d = some p
  lay : p.canLay0 = true
  deep : p.depth ≤ n
theorem told_list {n : Nat} (ih : ∀ d : D, Pl n d → ∃ p, Told n d p) : ∀ xs : List D, (∀ x ∈ xs, Pl n x) → ∃ ps : List PyData, (∀ f, pyL f xs = some ps) ∧ PyData.canLayAll0 ps = true ∧ PyData.depthAll ps ≤ n
  | [], _ => ⟨[], fun f => by simp only [pyL], by simp only [PyData.canLayAll0], by simp only [PyData.depthAll]; omega⟩
  | x :: xs, h => by
    obtain ⟨p, h1⟩ := ih x (h x List.mem_cons_self)
    obtain ⟨ps, h2, h3, h4⟩ := told_list ih xs fun y hy => h y (List.mem_cons_of_mem _ hy)
    refine ⟨p :: ps, fun f => by simp only [pyL, h1.py f, h2 f], by simp only [PyData.canLayAll0, h1.lay, h3, Bool.and_self], ?_⟩
    simp only [PyData.depthAll]
    have := h1.deep
    omega
theorem Pl.told : ∀ {n : Nat} {d : D}, Pl n d → ∃ p, Told n d p
  | n, .non, _ => ⟨.none, fun f => by simp only [pyD], rfl, by simp only [PyData.depth]; omega⟩
  | n, .int i, _ => ⟨.int i, fun f => by simp only [pyD], rfl, by simp only [PyData.depth]; omega⟩
  | n, .str s, h => ⟨.str s, fun f => by simp only [pyD], by
      simp only [PyData.canLay0]
      cases n <;> (unfold Pl at h; exact h), by simp only [PyData.depth]; omega⟩
  | 0, .tup xs, h => by unfold Pl at h; exact h.elim
  | n + 1, .tup xs, h => by
    obtain ⟨ps, h1, h2, h3⟩ := told_list (fun d => Pl.told (n := n)) xs h.items
    exact ⟨.tuple ps, fun f => by simp only [pyD, h1 f, Option.map_some], by simp only [PyData.canLay0, h2], by simp only [PyData.depth]; omega⟩
  | n, .bl b, h => by cases n <;> (unfold Pl at h; exact h.elim)
  | n, .scr b, h => by cases n <;> (unfold Pl at h; exact h.elim)
  | n, .ref b, h => by cases n <;> (unfold Pl at h; exact h.elim)
open Classical in
theorem eqv_list {n m : Nat} (ih : ∀ (d d' : D) (p p' : PyData), Pl n d → Pl m d' → (∀ f, pyD f d = some p) → (∀ f, pyD f d' = some p') → PyData.eqv p p' = decide (d = d')) : ∀ (xs ys : List D) (ps qs : List PyData), (∀ x ∈ xs, Pl n x) → (∀ x ∈ ys, Pl m x) → (∀ f, pyL f xs = some ps) → (∀ f, pyL f ys = some qs) → PyData.eqvAll ps qs = decide (xs = ys)
  | [], [], ps, qs, _, _, h3, h4 => by
    have e1 := h3 fun _ => none
    have e2 := h4 fun _ => none
    simp only [pyL] at e1 e2
    cases e1
    cases e2
    simp [PyData.eqvAll]
  | [], y :: ys, ps, qs, h1, h2, h3, h4 => by
    obtain ⟨p, t⟩ := (h2 y List.mem_cons_self).told
    have e1 := h3 fun _ => none
    have e2 := h4 fun _ => none
    simp only [pyL, t.py] at e1 e2
    cases e1
    split at e2
    · cases e2
      simp [PyData.eqvAll]
    · cases e2
  | x :: xs, [], ps, qs, h1, h2, h3, h4 => by
    have e1 := h3 fun _ => none
    have e2 := h4 fun _ => none
    simp only [pyL] at e1 e2
    cases e2
    split at e1
    · cases e1
      simp [PyData.eqvAll]
    · cases e1
  | x :: xs, y :: ys, ps, qs, h1, h2, h3, h4 => by
    obtain ⟨p, t⟩ := (h1 x List.mem_cons_self).told
    obtain ⟨p', t'⟩ := (h2 y List.mem_cons_self).told
    have k1 : ∃ r, ps = p :: r ∧ ∀ f, pyL f xs = some r := by
      have e := h3 fun _ => none
      simp only [pyL, t.py] at e
      cases hr : pyL (fun _ => none) xs with
      | none => rw [hr] at e; cases e
      | some r =>
        rw [hr] at e
        have e := Option.some.inj e
        subst e
        refine ⟨_, rfl, fun f => ?_⟩
        have e2 := h3 f
        simp only [pyL, t.py] at e2
        cases hq : pyL f xs with
        | none => rw [hq] at e2; cases e2
        | some z =>
          rw [hq] at e2
          have e2 := Option.some.inj e2
          exact congrArg some (List.cons.inj e2).2
    have k2 : ∃ r, qs = p' :: r ∧ ∀ f, pyL f ys = some r := by
      have e := h4 fun _ => none
      simp only [pyL, t'.py] at e
      cases hr : pyL (fun _ => none) ys with
      | none => rw [hr] at e; cases e
      | some r =>
        rw [hr] at e
        have e := Option.some.inj e
        subst e
        refine ⟨_, rfl, fun f => ?_⟩
        have e2 := h4 f
        simp only [pyL, t'.py] at e2
        cases hq : pyL f ys with
        | none => rw [hq] at e2; cases e2
        | some z =>
          rw [hq] at e2
          have e2 := Option.some.inj e2
          exact congrArg some (List.cons.inj e2).2
    obtain ⟨r, rfl, hr⟩ := k1
    obtain ⟨r', rfl, hr'⟩ := k2
    rw [PyData.eqvAll, ih x y p p' (h1 x List.mem_cons_self) (h2 y List.mem_cons_self) t.py t'.py, eqv_list ih xs ys r r' (fun z hz => h1 z (List.mem_cons_of_mem _ hz)) (fun z hz => h2 z (List.mem_cons_of_mem _ hz)) hr hr', ← Bool.decide_and]
    exact decide_eq_decide.mpr (by rw [List.cons.injEq])
theorem Pl.cases {n : Nat} {d : D} (h : Pl n d) : d = .non ∨ (∃ i, d = .int i) ∨ (∃ s, d = .str s) ∨ ∃ xs, d = .tup xs := by
  cases d with
  | non => exact .inl rfl
  | int i => exact .inr (.inl ⟨_, rfl⟩)
  | str s => exact .inr (.inr (.inl ⟨_, rfl⟩))
  | tup xs => exact .inr (.inr (.inr ⟨_, rfl⟩))
  | bl b => cases n <;> (unfold Pl at h; exact False.elim h)
  | scr b => cases n <;> (unfold Pl at h; exact False.elim h)
  | ref b => cases n <;> (unfold Pl at h; exact False.elim h)
theorem py_of {n : Nat} {d : D} {p : PyData} (h : Pl n d) (e : ∀ f, pyD f d = some p) : (d = .non ∧ p = .none) ∨ (∃ i, d = .int i ∧ p = .int i) ∨ (∃ s, d = .str s ∧ p = .str s) ∨ ∃ xs ps, d = .tup xs ∧ p = .tuple ps ∧ ∀ f, pyL f xs = some ps := by
  have e0 := e fun _ => none
  rcases h.cases with rfl | ⟨i, rfl⟩ | ⟨s, rfl⟩ | ⟨xs, rfl⟩
  · simp only [pyD] at e0
    cases e0
    exact .inl ⟨rfl, rfl⟩
  · simp only [pyD] at e0
    cases e0
    exact .inr (.inl ⟨_, rfl, rfl⟩)
  · simp only [pyD] at e0
    cases e0
    exact .inr (.inr (.inl ⟨_, rfl, rfl⟩))
  · simp only [pyD, Option.map_eq_some_iff] at e0
    obtain ⟨ps, _, rfl⟩ := e0
    refine .inr (.inr (.inr ⟨xs, ps, rfl, rfl, fun f => ?_⟩))
    have := e f
    simp only [pyD, Option.map_eq_some_iff] at this
    obtain ⟨_, k, e⟩ := this
    cases e
    exact k
open Classical in
theorem eqv_pl : ∀ {n m : Nat} {d d' : D} {p p' : PyData}, Pl n d → Pl m d' → (∀ f, pyD f d = some p) → (∀ f, pyD f d' = some p') → PyData.eqv p p' = decide (d = d') := by
  intro n
  induction n with
  | zero =>
    intro m d d' p p' h h' e e'
    rcases py_of h e with ⟨rfl, rfl⟩ | ⟨i, rfl, rfl⟩ | ⟨s, rfl, rfl⟩ | ⟨xs, ps, rfl, rfl, _⟩
    case inr.inr.inr => unfold Pl at h; exact False.elim h
    all_goals
      rcases py_of h' e' with ⟨rfl, rfl⟩ | ⟨i', rfl, rfl⟩ | ⟨s', rfl, rfl⟩ | ⟨xs', ps', rfl, rfl, _⟩
    all_goals first
      | exact (show _ = false by rfl).trans (decide_eq_false (by intro z; cases z)).symm
      | exact (show _ = true by rfl).trans (decide_eq_true rfl).symm
      | (rw [PyData.eqv, Bool.eq_iff_iff, beq_iff_eq, decide_eq_true_eq]; exact ⟨fun z => by rw [z], fun z => by cases z; rfl⟩)
  | succ n ih =>
    intro m d d' p p' h h' e e'
    rcases py_of h e with ⟨rfl, rfl⟩ | ⟨i, rfl, rfl⟩ | ⟨s, rfl, rfl⟩ | ⟨xs, ps, rfl, rfl, hx⟩
    all_goals
      rcases py_of h' e' with ⟨rfl, rfl⟩ | ⟨i', rfl, rfl⟩ | ⟨s', rfl, rfl⟩ | ⟨xs', ps', rfl, rfl, hy⟩
    all_goals first
      | exact (show _ = false by rfl).trans (decide_eq_false (by intro z; cases z)).symm
      | exact (show _ = true by rfl).trans (decide_eq_true rfl).symm
      | (rw [PyData.eqv, Bool.eq_iff_iff, beq_iff_eq, decide_eq_true_eq]; exact ⟨fun z => by rw [z], fun z => by cases z; rfl⟩)
      | skip
    cases m with
    | zero => unfold Pl at h'; exact False.elim h'
    | succ m =>
      rw [PyData.eqv, eqv_list (fun d d' p p' => ih (m := m)) xs xs' ps ps' h.items h'.items hx hy]
      exact decide_eq_decide.mpr (by rw [D.tup.injEq])
section
variable {M : Mem} {x y : D} {n m : Nat} {xs ys : List D}
theorem shaped_of {p : PyData} (h : p.canLay0 = true) (h2 : p.depth ≤ 60) : SeqAt.shaped p = true := by
  unfold SeqAt.shaped
  rw [h, decide_eq_true (by omega)]
  rfl
theorem pyOf_pl (h : Pl 50 x) : ∃ p, Told 50 x p ∧ pyOf M x = some p := by
  obtain ⟨p, t⟩ := h.told
  refine ⟨p, t, ?_⟩
  unfold pyOf
  rw [t.py]
  exact if_pos (shaped_of t.lay (by have := t.deep; omega))
theorem pyOf_lst (h : M[n]? = some (.lst xs)) (hx : ∀ x ∈ xs, Pl 50 x) : ∃ ps, (∀ f, pyL f xs = some ps) ∧ pyOf M (.ref n) = some (.list ps) := by
  obtain ⟨ps, h1, h2, h3⟩ := told_list (fun d => Pl.told (n := 50)) xs hx
  refine ⟨ps, h1, ?_⟩
  unfold pyOf
  have e : pyD (pyM M 4) (.ref n) = some (.list ps) := by
    simp only [pyD, pyM, h, h1, Option.map_some]
  rw [e]
  exact if_pos (shaped_of (by simpa only [PyData.canLay0] using h2) (by simp only [PyData.depth]; omega))
open Classical in
theorem eqD_pl (h : Pl 50 x) (h' : Pl 50 y) : eqD x y M = some (decide (x = y)) := by
  obtain ⟨p, t, e⟩ := pyOf_pl (M := M) h
  obtain ⟨q, t', e'⟩ := pyOf_pl (M := M) h'
  unfold eqD
  rw [e, e']
  exact congrArg some (eqv_pl h h' t.py t'.py)
open Classical in
theorem eqD_lst (h1 : M[n]? = some (.lst xs)) (h2 : M[m]? = some (.lst ys)) (hx : ∀ x ∈ xs, Pl 50 x) (hy : ∀ x ∈ ys, Pl 50 x) : eqD (.ref n) (.ref m) M = some (decide (xs = ys)) := by
  obtain ⟨p, t, e⟩ := pyOf_lst h1 hx
  obtain ⟨q, t', e'⟩ := pyOf_lst h2 hy
  unfold eqD
  rw [e, e']
  show some (PyData.eqv (.list p) (.list q)) = _
  rw [PyData.eqv]
  exact congrArg some (eqv_list (fun d d' p p' => eqv_pl) xs ys p q hx hy t t')
@[simp] theorem eqD_int {i j : Int} : eqD (.int i) (.int j) M = some (decide (i = j)) := by
  unfold eqD pyOf
  simp only [pyD, SeqAt.shaped, PyData.canLay0, PyData.depth, PyData.eqv]
  simp
  rfl
@[simp] theorem eqD_bl {i j : Bool} : eqD (.bl i) (.bl j) M = some (i == j) := by
  cases i <;> cases j <;> rfl
theorem eqX_of {b : Bool} (h : eqD x y M = some b) : eqX x y M = some b := by
  unfold eqX
  split
  · rename_i n m
    split
    · rename_i ka kb h1 h2
      exfalso
      unfold eqD pyOf at h
      simp only [pyD, pyM, h1] at h
      cases h
    · exact h
  · exact h
theorem eqX_dct {ka kb : List (Int × D)} (h1 : M[n]? = some (.dct ka)) (h2 : M[m]? = some (.dct kb)) : eqX (.ref n) (.ref m) M = if ka.length = kb.length then dictEq M kb ka else some false := by
  unfold eqX
  dsimp only
  rw [h1, h2]
theorem oEq_ofX {b : Bool} (h : eqX x y M = some b) : oEq x y M = some (.bl b, M) := by
  unfold oEq
  rw [h]
theorem oNe_ofX {b : Bool} (h : eqX x y M = some b) : oNe x y M = some (.bl (!b), M) := by
  unfold oNe
  rw [h]
theorem oEq_of {b : Bool} (h : eqD x y M = some b) : oEq x y M = some (.bl b, M) := oEq_ofX (eqX_of h)
theorem oNe_of {b : Bool} (h : eqD x y M = some b) : oNe x y M = some (.bl (!b), M) := oNe_ofX (eqX_of h)
open Classical in
/-- two dicts of plain data -/
theorem dictEq_pl {kb : List (Int × D)} (hb : ∀ p ∈ kb, Pl 50 p.2) : ∀ ka : List (Int × D), (∀ p ∈ ka, Pl 50 p.2) → dictEq M kb ka = some (decide (∀ p ∈ ka, aget kb p.1 = some p.2))
  | [], _ => by simp [dictEq]
  | (k, d) :: r, h => by
    unfold dictEq
    have ih := dictEq_pl hb r fun p hp => h p (List.mem_cons_of_mem _ hp)
    cases hg : aget kb k with
    | none =>
      dsimp only
      refine congrArg some (decide_eq_false fun z => ?_).symm
      have := z (k, d) List.mem_cons_self
      rw [hg] at this
      cases this
    | some d2 =>
      dsimp only
      have hd2 : Pl 50 d2 := by
        have : ∀ (kb : List (Int × D)), (∀ p ∈ kb, Pl 50 p.2) → aget kb k = some d2 → Pl 50 d2 := by
          intro kb
          induction kb with
          | nil => intro _ e; cases e
          | cons p kb ih =>
            intro hk e
            obtain ⟨j, x⟩ := p
            unfold aget at e
            split at e
            · cases e
              exact hk _ List.mem_cons_self
            · exact ih (fun q hq => hk q (List.mem_cons_of_mem _ hq)) e
        exact this kb hb hg
      obtain ⟨p, t, e1⟩ := pyOf_pl (M := M) (h (k, d) List.mem_cons_self)
      obtain ⟨q, t', e2⟩ := pyOf_pl (M := M) hd2
      rw [e1, e2]
      dsimp only
      rw [ih]
      dsimp only
      rw [eqv_pl (h (k, d) List.mem_cons_self) hd2 t.py t'.py, ← Bool.decide_and]
      refine congrArg some (decide_eq_decide.mpr ⟨fun ⟨z1, z2⟩ p hp => ?_, fun z => ⟨?_, fun p hp => z p (List.mem_cons_of_mem _ hp)⟩⟩)
      · rcases List.mem_cons.mp hp with rfl | hp
        · rw [hg, z1]
        · exact z2 p hp
      · have := z (k, d) List.mem_cons_self
        rw [hg] at this
        exact (Option.some.inj this).symm
open Classical in
theorem eqX_dcts {ka kb : List (Int × D)} (h1 : M[n]? = some (.dct ka)) (h2 : M[m]? = some (.dct kb)) (pa : ∀ p ∈ ka, Pl 50 p.2) (pb : ∀ p ∈ kb, Pl 50 p.2) : eqX (.ref n) (.ref m) M = some (decide (ka.length = kb.length ∧ ∀ p ∈ ka, aget kb p.1 = some p.2)) := by
  rw [eqX_dct h1 h2, dictEq_pl pb ka pa]
  by_cases h : ka.length = kb.length
  · rw [if_pos h]
    simp [h]
  · rw [if_neg h]
    simp [h]
open Classical in
theorem eqX_same {ka : List (Int × D)} (h1 : M[n]? = some (.dct ka)) (h2 : M[m]? = some (.dct ka)) (pa : ∀ p ∈ ka, Pl 50 p.2) (nd : (ka.map (·.1)).Nodup) : eqX (.ref n) (.ref m) M = some true := by
  rw [eqX_dcts h1 h2 pa pa]
  refine congrArg some (decide_eq_true ⟨rfl, fun p hp => ?_⟩)
  clear h1 h2 pa
  induction ka with
  | nil => cases hp
  | cons q ka ih =>
    obtain ⟨j, x⟩ := q
    rw [List.map_cons, List.nodup_cons] at nd
    unfold aget
    rcases List.mem_cons.mp hp with rfl | hp
    · rw [if_pos rfl]
    · rw [if_neg fun e => nd.1 (by rw [e]; exact List.mem_map.mpr ⟨p, hp, rfl⟩)]
      exact ih nd.2 hp
@[simp] theorem oEq_int {i j : Int} : oEq (.int i) (.int j) M = some (.bl (decide (i = j)), M) := oEq_of eqD_int
@[simp] theorem oNe_int {i j : Int} : oNe (.int i) (.int j) M = some (.bl (!decide (i = j)), M) := oNe_of eqD_int
@[simp] theorem oEq_bl {i j : Bool} : oEq (.bl i) (.bl j) M = some (.bl (i == j), M) := oEq_of eqD_bl
end
section
variable {M : Mem}
theorem oEq_strs {s t : PySem.Str} {b : Bool} (hs : PyData.strOk s = true) (ht : PyData.strOk t = true) (h : decide (s = t) = b) : oEq (.str s) (.str t) M = some (.bl b, M) := by
  rw [oEq_of (eqD_pl (pl_str hs) (pl_str ht)), ← h]
  refine congrArg (fun b => some (D.bl b, M)) (decide_eq_decide.mpr (by rw [D.str.injEq]))
theorem oNe_strs {s t : PySem.Str} {b : Bool} (hs : PyData.strOk s = true) (ht : PyData.strOk t = true) (h : decide (s = t) = b) : oNe (.str s) (.str t) M = some (.bl (!b), M) := by
  rw [oNe_of (eqD_pl (pl_str hs) (pl_str ht)), ← h]
  refine congrArg (fun b => some (D.bl (!b), M)) (decide_eq_decide.mpr (by rw [D.str.injEq]))
theorem oEq_same {d : D} (h : Pl 50 d) : oEq d d M = some (.bl true, M) := by
  rw [oEq_of (eqD_pl h h)]
  simp
theorem oNe_same {d : D} (h : Pl 50 d) : oNe d d M = some (.bl false, M) := by
  rw [oNe_of (eqD_pl h h)]
  simp
theorem oEq_diff {d e : D} (h : Pl 50 d) (h' : Pl 50 e) (hn : d ≠ e) : oEq d e M = some (.bl false, M) := by
  rw [oEq_of (eqD_pl h h')]
  simp [hn]
theorem oNe_diff {d e : D} (h : Pl 50 d) (h' : Pl 50 e) (hn : d ≠ e) : oNe d e M = some (.bl true, M) := by
  rw [oNe_of (eqD_pl h h')]
  simp [hn]
theorem oEq_lsts {n m : Nat} {xs : List D} (h1 : M[n]? = some (.lst xs)) (h2 : M[m]? = some (.lst xs)) (hx : ∀ x ∈ xs, Pl 50 x) : oEq (.ref n) (.ref m) M = some (.bl true, M) := by
  rw [oEq_of (eqD_lst h1 h2 hx hx)]
  simp
theorem oNe_lsts {n m : Nat} {xs : List D} (h1 : M[n]? = some (.lst xs)) (h2 : M[m]? = some (.lst xs)) (hx : ∀ x ∈ xs, Pl 50 x) : oNe (.ref n) (.ref m) M = some (.bl false, M) := by
  rw [oNe_of (eqD_lst h1 h2 hx hx)]
  simp
theorem pl_ints {n : Nat} {xs : List D} (h : ∀ x ∈ xs, Pl n x) {d : D} (hd : Pl n d) : ∀ x ∈ xs ++ [d], Pl n x := fun x hx => by
  rcases List.mem_append.mp hx with hx | hx
  · exact h x hx
  · have : x = d := by simpa using hx
    rw [this]
    exact hd
theorem pl1 {n : Nat} {a : D} (ha : Pl n a) : Pl (n + 1) (.tup [a]) := pl_tup fun x hx => by
  have : x = a := by simpa using hx
  rw [this]
  exact ha
theorem pl2 {n : Nat} {a b : D} (ha : Pl n a) (hb : Pl n b) : Pl (n + 1) (.tup [a, b]) := pl_tup fun x hx => by
  rcases List.mem_cons.mp hx with rfl | hx
  · exact ha
  · have : x = b := by simpa using hx
    rw [this]
    exact hb
theorem pl3 {n : Nat} {a b c : D} (ha : Pl n a) (hb : Pl n b) (hc : Pl n c) : Pl (n + 1) (.tup [a, b, c]) := pl_tup fun x hx => by
  rcases List.mem_cons.mp hx with rfl | hx
  · exact ha
  · rcases List.mem_cons.mp hx with rfl | hx
    · exact hb
    · have : x = c := by simpa using hx
      rw [this]
      exact hc
@[simp] theorem is_non {d : D} : oIs d .non M = some (.bl (isNon d), M) := (rfl)
@[simp] theorem isNot_non {d : D} : oIsNot d .non M = some (.bl (!isNon d), M) := (rfl)
end
/-! ### built-ins on data at hand -/
section
variable {M : Mem} {n : Nat} {xs : List D} {ns : List Int} {i j : Int} {s : Str} {T : String} {d : D}
@[simp] theorem len_tup : oLen [.tup xs] M = some (.int xs.length, M) := (rfl)
@[simp] theorem len_scr : oLen [.scr ns] M = some (.int ns.length, M) := (rfl)
@[simp] theorem len_str : oLen [.str s] M = if s.length < 16000000 then some (.int s.length, M) else none := (rfl)
theorem len_lst (h : M[n]? = some (.lst xs)) : oLen [.ref n] M = some (.int xs.length, M) := by
  show (match M[n]? with | some (.lst ds) => some (D.int ds.length, M) | some (.dct kvs) => some (.int kvs.length, M) | _ => none) = _
  rw [h]
theorem list_lst (h : M[n]? = some (.lst xs)) : oList [.ref n] M = some (.ref M.length, M ++ [.lst xs]) := by
  show (match M[n]? with | some (.lst ds) => some (D.ref M.length, M ++ [Ob.lst ds]) | some (.dct kvs) => some (D.ref M.length, M ++ [Ob.lst (kvs.map fun (p : Int × D) => D.int p.1)]) | _ => none) = _
  rw [h]
@[simp] theorem list_tup : oList [.tup xs] M = some (.ref M.length, M ++ [.lst xs]) := (rfl)
theorem tuple_lst (h : M[n]? = some (.lst xs)) : oTuple [.ref n] M = some (.tup xs, M) := by
  show (match M[n]? with | some (.lst ds) => some (D.tup ds, M) | _ => none) = _
  rw [h]
@[simp] theorem tuple_tup : oTuple [.tup xs] M = some (.tup xs, M) := (rfl)
@[simp] theorem tup_disp : oTup xs M = if xs.length ≤ 1000 then some (.tup xs, M) else none := (rfl)
@[simp] theorem lst_disp : oLst xs M = if xs.length ≤ 1000 then some (.ref M.length, M ++ [.lst xs]) else none := (rfl)
@[simp] theorem int_bl {b : Bool} : oInt [.bl b] M = some (.int (if b then 1 else 0), M) := (rfl)
@[simp] theorem int_int : oInt [.int i] M = some (.int i, M) := (rfl)
@[simp] theorem max2_int : oMax2 [.int i, .int j] M = some (.int (if j > i then j else i), M) := (rfl)
@[simp] theorem min2_int : oMin2 [.int i, .int j] M = some (.int (if j < i then j else i), M) := (rfl)
theorem isi_of {k : String} {b : Bool} (h : kindOf M d = some k) (h2 : kitB k T = some b) : oIsi T d M = some (.bl b, M) := by
  unfold oIsi
  rw [h]
  dsimp only
  rw [h2]
@[simp] theorem isi_int_int : oIsi "int" (.int i) M = some (.bl true, M) := isi_of rfl (by decide)
@[simp] theorem isi_bool_int : oIsi "bool" (.int i) M = some (.bl false, M) := isi_of rfl (by decide)
theorem append_lst (h : M[n]? = some (.lst xs)) (hl : xs.length < 16000000) : oAppend (.ref n) [d] M = some (.non, M.set n (.lst (xs ++ [d]))) := by
  show (match M[n]? with | some (.lst ds) => if ds.length < 16000000 then some (D.non, M.set n (.lst (ds ++ [d]))) else none | _ => none) = _
  rw [h]
  exact if_pos hl
theorem ix_lst {k : Int} (h : M[n]? = some (.lst xs)) (e : L2.atI xs k = some d) : oIx (.ref n) (.int k) M = some (d, M) := by
  unfold oIx
  dsimp only
  rw [h]
  dsimp only
  rw [e]
theorem ix_tup {k : Int} (e : L2.atI xs k = some d) : oIx (.tup xs) (.int k) M = some (d, M) := by
  unfold oIx
  dsimp only
  rw [e]
theorem ix_scr {k v : Int} (e : L2.atI ns k = some v) : oIx (.scr ns) (.int k) M = some (.int v, M) := by
  unfold oIx
  dsimp only
  rw [e]
theorem atI_nat {α : Type} {xs : List α} {k : Nat} : L2.atI xs (k : Int) = xs[k]? := by
  unfold L2.atI L2.ixN
  rw [if_pos (Int.natCast_nonneg k)]
  by_cases h : (k : Int) < xs.length
  · rw [if_pos h]
    rfl
  · rw [if_neg h]
    rw [List.getElem?_eq_none (by omega)]
    rfl
theorem atI_pos {α : Type} {xs : List α} {k : Int} (h : 0 ≤ k) : L2.atI xs k = xs[k.toNat]? := by
  rw [← atI_nat, Int.toNat_of_nonneg h]
theorem get_app {M J : Mem} {n : Nat} {o : Ob} (h : M[n]? = some o) : (M ++ J)[n]? = some o := by
  rw [List.getElem?_append_left (List.getElem?_eq_some_iff.mp h).1]
  exact h
theorem get_new {M : Mem} {o : Ob} : (M ++ [o])[M.length]? = some o := by simp
end
/-! ### a list or a tuple -/
def Sq (M : Mem) (x : D) (ds : List D) : Prop := x = .tup ds ∨ ∃ n, x = .ref n ∧ M[n]? = some (.lst ds)
section
variable {M : Mem} {x : D} {ds : List D}
theorem sq_lst {n : Nat} (h : M[n]? = some (.lst ds)) : Sq M (.ref n) ds := .inr ⟨n, rfl, h⟩
theorem sq_tup : Sq M (.tup ds) ds := .inl rfl
theorem Sq.app (h : Sq M x ds) (J : Mem) : Sq (M ++ J) x ds := by
  rcases h with h | ⟨n, h1, h2⟩
  · exact .inl h
  · exact .inr ⟨n, h1, get_app h2⟩
theorem Sq.len (h : Sq M x ds) : oLen [x] M = some (.int ds.length, M) := by
  rcases h with rfl | ⟨n, rfl, h2⟩
  · rfl
  · exact len_lst h2
theorem Sq.list (h : Sq M x ds) : oList [x] M = some (.ref M.length, M ++ [.lst ds]) := by
  rcases h with rfl | ⟨n, rfl, h2⟩
  · rfl
  · exact list_lst h2
theorem Sq.tuple (h : Sq M x ds) : oTuple [x] M = some (.tup ds, M) := by
  rcases h with rfl | ⟨n, rfl, h2⟩
  · rfl
  · exact tuple_lst h2
theorem Sq.ix (h : Sq M x ds) {k : Int} {d : D} (e : L2.atI ds k = some d) : oIx x (.int k) M = some (d, M) := by
  rcases h with rfl | ⟨n, rfl, h2⟩
  · exact ix_tup e
  · exact ix_lst h2 e
theorem Sq.src (h : Sq M x ds) : ∃ gd, oSrc x M = some ⟨ds, gd⟩ ∧ Src.ok ⟨ds, gd⟩ M := by
  rcases h with rfl | ⟨n, rfl, h2⟩
  · exact ⟨none, rfl, trivial⟩
  · refine ⟨some (n, ds), ?_, h2⟩
    unfold oSrc
    dsimp only
    rw [h2]
theorem sl_lst {n : Nat} (h : M[n]? = some (.lst ds)) (lo hi : Option Int) : oSl (.ref n) lo hi M = some (.ref M.length, M ++ [.lst (cutD ds lo hi)]) := by
  unfold oSl
  dsimp only
  rw [h]
theorem Sq.sl (h : Sq M x ds) (lo hi : Option Int) : ∃ y J, oSl x lo hi M = some (y, M ++ J) ∧ Sq (M ++ J) y (cutD ds lo hi) := by
  rcases h with rfl | ⟨n, rfl, h2⟩
  · exact ⟨.tup (cutD ds lo hi), [], by rw [List.append_nil]; rfl, .inl rfl⟩
  · exact ⟨_, _, sl_lst h2 lo hi, sq_lst get_new⟩
theorem cut_take {α : Type} (xs : List α) (k : Nat) : cutD xs none (some (k : Int)) = xs.take k := by
  unfold cutD
  rw [HT.sIx_none, HT.sIx_nat, List.drop_zero, Nat.sub_zero]
  rcases Nat.le_total k xs.length with h | h
  · rw [Nat.min_eq_left h]
  · rw [Nat.min_eq_right h, List.take_of_length_le h, List.take_length]
theorem cut_drop {α : Type} (xs : List α) (k : Nat) : cutD xs (some (k : Int)) none = xs.drop k := by
  unfold cutD
  rw [HT.sIx_none, HT.sIx_nat]
  rcases Nat.le_total k xs.length with h | h
  · rw [Nat.min_eq_left h, List.take_of_length_le (by rw [List.length_drop]; omega)]
  · rw [Nat.min_eq_right h, Nat.sub_self, List.take_zero, List.drop_eq_nil_of_le h]
@[simp] theorem ev_sl {e : GE} {lo hi : GO} {L : Loc} : mSl e lo hi L M = bnd (e L M) fun d M1 => bnd (lo L M1) fun l M2 => bnd (hi L M2) fun h M3 => ret (oSl d l h M3) := (rfl)
@[simp] theorem ev_no {L : Loc} : mNo L M = some (.ok none M) := (rfl)
theorem ev_some {e : GE} {L : Loc} {M1 : Mem} {i : Int} (h : e L M = some (.ok (.int i) M1)) : mSome e L M = some (.ok (some i) M1) := by
  unfold mSome
  rw [h]
  rfl
theorem isi_lst_list {n : Nat} (h : M[n]? = some (.lst ds)) : oIsi "list" (.ref n) M = some (.bl true, M) := isi_of (k := "list") (by unfold kindOf; dsimp only; rw [h]) (by decide)
@[simp] theorem isi_tup_tuple : oIsi "tuple" (.tup ds) M = some (.bl true, M) := isi_of rfl (by decide)
end
/-! ### loops -/
section
variable {ok : Mem → Prop} {g : GG} {body : GS}
theorem forG_gen (Post : Fl × Mem → Prop) (I : Nat → Loc → Mem → Prop) (ds : List D) (step : ∀ (k : Nat) (L : Loc) (M : Mem) (d : D), ds[k]? = some d → I k L M → ok M ∧ ∃ L1, g d L = some L1 ∧ ∃ r, body L1 M = some r ∧ (match r with
      | (.nx L2, M2) => I (k + 1) L2 M2
      | (.ct L2, M2) => I (k + 1) L2 M2
      | (.bk L2, M2) => Post (.nx L2, M2)
      | r => Post r)) (last : ∀ L M, I ds.length L M → ok M ∧ Post (.nx L, M)) {L : Loc} {M : Mem} (h0 : I 0 L M) : ∃ r, forG ok g body ds L M = some r ∧ Post r := by
  have key : ∀ (es : List D) (k : Nat) (L : Loc) (M : Mem), (∀ j, es[j]? = ds[k + j]?) → k + es.length = ds.length → I k L M → ∃ r, forG ok g body es L M = some r ∧ Post r := by
    intro es
    induction es with
    | nil =>
      intro k L M he hk hI
      have e : k = ds.length := by simpa using hk
      subst e
      obtain ⟨h1, h2⟩ := last L M hI
      exact ⟨_, by unfold forG; exact if_pos h1, h2⟩
    | cons d es ih =>
      intro k L M he hk hI
      have hd : ds[k]? = some d := by rw [← Nat.add_zero k, ← he 0]; rfl
      obtain ⟨h1, L1, h2, r, h3, h4⟩ := step k L M d hd hI
      have next : ∀ L2 M2, I (k + 1) L2 M2 → ∃ r, forG ok g body es L2 M2 = some r ∧ Post r := fun L2 M2 i => ih (k + 1) L2 M2 (fun j => by have := he (j + 1); rw [List.getElem?_cons_succ] at this; rw [this]; congr 1; omega) (by simp at hk; omega) i
      unfold forG
      rw [if_pos h1, h2]
      dsimp only
      rw [h3]
      obtain ⟨f, M2⟩ := r
      cases f with
      | nx L2 => exact next L2 M2 h4
      | ct L2 => exact next L2 M2 h4
      | bk L2 => exact ⟨_, rfl, h4⟩
      | rt d => exact ⟨_, rfl, h4⟩
      | ex c L2 => exact ⟨_, rfl, h4⟩
  exact key ds 0 L M (fun j => by rw [Nat.zero_add]) (by simp) h0
theorem forG_run (I : Nat → Loc → Mem → Prop) (ds : List D) (step : ∀ (k : Nat) (L : Loc) (M : Mem) (d : D), ds[k]? = some d → I k L M → ok M ∧ ∃ L1, g d L = some L1 ∧ ∃ L2 M2, body L1 M = some (.nx L2, M2) ∧ I (k + 1) L2 M2) (last : ∀ L M, I ds.length L M → ok M) {L : Loc} {M : Mem} (h0 : I 0 L M) :
    ∃ L' M', forG ok g body ds L M = some (.nx L', M') ∧ I ds.length L' M' := by
  obtain ⟨r, h, L', M', rfl, i⟩ := forG_gen (ok := ok) (g := g) (body := body) (fun r => ∃ L' M', r = (.nx L', M') ∧ I ds.length L' M') I ds (fun k L M d hd i => by
    obtain ⟨h1, L1, h2, L2, M2, h3, h4⟩ := step k L M d hd i
    exact ⟨h1, L1, h2, _, h3, h4⟩) (fun L M i => ⟨last L M i, _, _, rfl, i⟩) h0
  exact ⟨L', M', h, i⟩
theorem lcG_map {tt : GT} {e : GE} {L : Loc} {M : Mem} (p : D → Bool) (f : D → D) (hok : ok M) : ∀ ds : List D, (∀ d ∈ ds, ∃ L1, g d L = some L1 ∧ tt L1 M = some (.ok (p d) M) ∧ (p d = true → e L1 M = some (.ok (f d) M))) → lcG ok g tt e L ds M = some ((ds.filter p).map f, M)
  | [], _ => by unfold lcG; exact if_pos hok
  | d :: ds, h => by
    obtain ⟨L1, h1, h2, h3⟩ := h d List.mem_cons_self
    have ih := lcG_map p f hok ds fun x hx => h x (List.mem_cons_of_mem _ hx)
    unfold lcG
    rw [if_pos hok, h1]
    dsimp only [Option.bind]
    rw [h2]
    dsimp only [okO]
    cases e : p d with
    | true =>
      rw [if_pos rfl, h3 e]
      dsimp only [okO]
      rw [ih]
      simp [List.filter_cons, e]
    | false =>
      rw [if_neg Bool.false_ne_true, ih]
      simp [List.filter_cons, e]
/-- what is walked, at hand -/
theorem for_at {it : GI} {L : Loc} {M M1 : Mem} {s : Src} (h : it L M = some (.ok s M1)) : mFor it g body L M = forG s.ok g body s.items L M1 := by
  unfold mFor
  rw [h]
  rfl
@[simp] theorem range1_int {e : GE} {L : Loc} {M M1 : Mem} {j : Int} (h : e L M = some (.ok (.int j) M1)) (hf : fits62 j) : mRange1 e L M = some (.ok ⟨rng 0 j.toNat, none⟩ M1) := by
  unfold mRange1
  rw [h]
  exact if_pos hf
theorem range2_int {a b : GE} {L : Loc} {M M1 M2 : Mem} {i j : Int} (h : a L M = some (.ok (.int i) M1)) (h2 : b L M1 = some (.ok (.int j) M2)) (hf : fits62 i ∧ fits62 j) : mRange2 a b L M = some (.ok ⟨rng i (j - i).toNat, none⟩ M2) := by
  unfold mRange2
  rw [h]
  dsimp only [bnd]
  rw [h2]
  exact if_pos hf
theorem seq_at {e : GE} {L : Loc} {M M1 : Mem} {d : D} {s : Src} (f : List D → List D) (h : e L M = some (.ok d M1)) (h2 : oSrc d M1 = some s) : mSeqI f e L M = some (.ok (s.map f) M1) := by
  unfold mSeqI
  rw [h]
  dsimp only [bnd]
  rw [h2]
@[simp] theorem src_tup {xs : List D} {M : Mem} : oSrc (.tup xs) M = some ⟨xs, none⟩ := (rfl)
@[simp] theorem src_scr {ns : List Int} {M : Mem} : oSrc (.scr ns) M = some ⟨ns.map D.int, none⟩ := (rfl)
/-- items that lay things besides -/
theorem lcG_grow {P : D → D → Prop} {e : GE} {L : Loc} : ∀ (ds : List D) (M : Mem), (∀ J, ok (M ++ J)) → (∀ d ∈ ds, ∀ J, ∃ L1, g d L = some L1 ∧ ∃ y J2, e L1 (M ++ J) = some (.ok y (M ++ J ++ J2)) ∧ P d y) →
    ∃ ys J, lcG ok g mYes e L ds M = some (ys, M ++ J) ∧ ys.length = ds.length ∧ ∀ (k : Nat) (d y : D), ds[k]? = some d → ys[k]? = some y → P d y
  | [], M, hok, _ => ⟨[], [], by
      unfold lcG
      rw [List.append_nil]
      have := hok []
      rw [List.append_nil] at this
      exact if_pos this, rfl, fun k d y h => by simp at h⟩
  | d :: ds, M, hok, h => by
    obtain ⟨L1, h1, y, J2, h2, hP⟩ := h d List.mem_cons_self []
    rw [List.append_nil] at h2
    obtain ⟨ys, J, h3, h4, h5⟩ := lcG_grow ds (M ++ J2) (fun J => by rw [List.append_assoc]; exact hok _) fun x hx J => by
      obtain ⟨L1, k1, y, J3, k2, k3⟩ := h x (List.mem_cons_of_mem _ hx) (J2 ++ J)
      rw [← List.append_assoc] at k2
      exact ⟨L1, k1, y, J3, k2, k3⟩
    refine ⟨y :: ys, J2 ++ J, ?_, by simp [h4], fun k x z hx hz => ?_⟩
    · unfold lcG
      have := hok []
      rw [List.append_nil] at this
      rw [if_pos this, h1]
      dsimp only [Option.bind]
      rw [mYes_ok]
      dsimp only [okO]
      rw [if_pos rfl, h2]
      dsimp only [okO]
      rw [h3, List.append_assoc]
    · cases k with
      | zero =>
        cases hx
        cases hz
        exact hP
      | succ k => exact h5 k x z (by simpa using hx) (by simpa using hz)
theorem rng_get {lo : Int} {n k : Nat} {d : D} (h : (rng lo n)[k]? = some d) : d = .int (lo + k) ∧ k < n := by
  unfold rng at h
  rw [List.getElem?_map] at h
  obtain ⟨j, hj, rfl⟩ := Option.map_eq_some_iff.mp h
  have hk : k < n := by
    have := (List.getElem?_eq_some_iff.mp hj).1
    simpa using this
  rw [List.getElem?_range hk] at hj
  cases hj
  exact ⟨rfl, hk⟩
@[simp] theorem rng_length {lo : Int} {n : Nat} : (rng lo n).length = n := by simp [rng]
end
theorem src_lst {n : Nat} {xs : List D} {M : Mem} (h : M[n]? = some (.lst xs)) : oSrc (.ref n) M = some ⟨xs, some (n, xs)⟩ := by
  unfold oSrc
  dsimp only
  rw [h]
theorem lc_at {g : GG} {it : GI} {tt : GT} {e : GE} {vs : List Nat} {L : Loc} {M M1 M2 : Mem} {s : Src} {ys : List D} (h : it L M = some (.ok s M1)) (h2 : lcG s.ok g tt e (wipeL L vs) s.items M1 = some (ys, M2)) (hl : ys.length < 16000000) : mLc it g tt e vs L M = some (.ok (.ref M2.length) (M2 ++ [.lst ys])) := by
  unfold mLc
  rw [h]
  dsimp only [bnd]
  rw [h2]
  dsimp only [Option.bind]
  unfold oLstBig
  rw [if_pos hl]
  rfl
theorem seq_step {a b : GS} {L L1 : Loc} {M M1 : Mem} (h : a L M = some (.nx L1, M1)) : mSeq a b L M = b L1 M1 := by
  unfold mSeq
  rw [h]
  rfl
theorem seq2 {a b c : GS} {L L1 : Loc} {M M1 : Mem} (h : mSeq a b L M = some (.nx L1, M1)) : mSeq a (mSeq b c) L M = c L1 M1 := by
  unfold mSeq at h ⊢
  cases e : a L M with
  | none => rw [e] at h; cases h
  | some r =>
    obtain ⟨f, M2⟩ := r
    rw [e] at h
    cases f with
    | nx L2 =>
      have h' : b L2 M2 = some (.nx L1, M1) := h
      show thenS (b L2 M2) c = _
      rw [h']
      rfl
    | _ => cases h
theorem seq3 {a b c d : GS} {L L1 : Loc} {M M1 : Mem} (h : mSeq a (mSeq b c) L M = some (.nx L1, M1)) : mSeq a (mSeq b (mSeq c d)) L M = d L1 M1 := by
  have e : mSeq a (mSeq b (mSeq c d)) L M = mSeq a (mSeq (mSeq b c) d) L M := by
    unfold mSeq
    congr 1
    funext L' M'
    generalize b L' M' = r
    cases r with
    | none => rfl
    | some r =>
      obtain ⟨f, M2⟩ := r
      cases f <;> rfl
  rw [e]
  exact seq2 h
theorem seq4 {a b c d e : GS} {L L1 : Loc} {M M1 : Mem} (h : mSeq a (mSeq b (mSeq c d)) L M = some (.nx L1, M1)) : mSeq a (mSeq b (mSeq c (mSeq d e))) L M = e L1 M1 := by
  have k : mSeq a (mSeq b (mSeq c (mSeq d e))) L M = mSeq a (mSeq b (mSeq (mSeq c d) e)) L M := by
    unfold mSeq
    congr 1
    funext L' M'
    congr 1
    funext L' M'
    generalize c L' M' = r
    cases r with
    | none => rfl
    | some r =>
      obtain ⟨f, M2⟩ := r
      cases f <;> rfl
  rw [k]
  exact seq3 h
theorem ok_non {xs : List D} {M : Mem} : Src.ok ⟨xs, none⟩ M := trivial
/-! ### texts -/
section
variable {M : Mem} {L : Loc}
theorem lt_one (c d : Nat) : ([c] < [d]) ↔ c < d := by
  constructor
  · intro h
    cases h with
    | rel h => exact h
    | cons h => cases h
  · exact fun h => List.Lex.rel h
@[simp] theorem le_one (c d : Nat) : oLe (.str ⟨#[c]⟩) (.str ⟨#[d]⟩) M = some (.bl (decide (c ≤ d)), M) := by
  show some (D.bl (!decide (([d] : List Nat) < [c])), M) = _
  have : decide (([d] : List Nat) < [c]) = decide (d < c) := decide_eq_decide.mpr (lt_one d c)
  rw [this]
  by_cases h : c ≤ d
  · rw [decide_eq_false (by omega), decide_eq_true h]
    rfl
  · rw [decide_eq_true (by omega), decide_eq_false h]
    rfl
theorem signs_at {e : GE} {M1 : Mem} {s : PySem.Str} (h : e L M = some (.ok (.str s) M1)) : mSigns e L M = some (.ok ⟨s.cps.toList.map fun c => .str ⟨#[c]⟩, none⟩ M1) := by
  unfold mSigns
  rw [h]
  rfl
theorem strs_one : ∀ l : List Nat, strsOf (l.map fun c => D.str ⟨#[c]⟩) = some (l.map fun c => (⟨#[c]⟩ : PySem.Str))
  | [] => rfl
  | c :: l => by
    rw [List.map_cons, strsOf, strs_one l]
    rfl
theorem joinL_one : ∀ l : List Nat, TL.joinL [] (l.map fun c => [c]) = l
  | [] => rfl
  | [c] => rfl
  | c :: d :: l => by
    show [c] ++ ([] ++ TL.joinL [] ((d :: l).map fun c => [c])) = _
    rw [joinL_one (d :: l)]
    rfl
theorem join_one (l : List Nat) : Txt.join (PySem.Str.ofString "") (l.map fun c => (⟨#[c]⟩ : PySem.Str)) = ⟨l.toArray⟩ := by
  have e : Txt.join (SX.S []) ((l.map fun c => [c]).map SX.S) = SX.S (TL.joinL [] (l.map fun c => [c])) := SX.join_S [] _
  rw [joinL_one, List.map_map] at e
  exact e
theorem join_signs {n : Nat} {l : List Nat} (h : M[n]? = some (.lst (l.map fun c => D.str ⟨#[c]⟩))) (hl : l.length ≤ 1000) : oJoin (.str (PySem.Str.ofString "")) [.ref n] M = some (.str ⟨l.toArray⟩, M) := by
  unfold oJoin
  dsimp only
  rw [h]
  dsimp only
  rw [strs_one]
  dsimp only
  rw [join_one]
  refine if_pos ?_
  have e : ((l.map fun c => (⟨#[c]⟩ : PySem.Str)).map (·.length)).sum = l.length := by
    rw [List.map_map]
    have : ∀ l : List Nat, (l.map ((·.length) ∘ fun c => (⟨#[c]⟩ : PySem.Str))).sum = l.length := by
      intro l
      induction l with
      | nil => rfl
      | cons c l ih =>
        rw [List.map_cons, List.sum_cons, ih, List.length_cons]
        show 1 + l.length = _
        omega
    exact this l
  rw [e, List.length_map]
  have : (PySem.Str.ofString "").length = 0 := by decide +kernel
  rw [this]
  omega
theorem ev_mtS {om : OpM} {a : GE} {gs : GA} : mMtS om a gs L M = bnd (a L M) fun x M1 => (match x with
  | .str _ => bnd (gs L M1) fun xs M2 => ret (om x xs M2)
  | _ => none) := (rfl)
@[simp] theorem str_len (l : List Nat) : (⟨l.toArray⟩ : PySem.Str).length = l.length := by
  show l.toArray.size = _
  simp
@[simp] theorem str_cps (l : List Nat) : (⟨l.toArray⟩ : PySem.Str).cps.toList = l := by simp
theorem str_app (l m : List Nat) : (⟨l.toArray⟩ : PySem.Str) ++ (⟨m.toArray⟩ : PySem.Str) = ⟨(l ++ m).toArray⟩ := by
  show (⟨l.toArray ++ m.toArray⟩ : PySem.Str) = _
  simp
theorem add_strs (l m : List Nat) (h : l.length + m.length < 16000000) : oAdd (.str ⟨l.toArray⟩) (.str ⟨m.toArray⟩) M = some (.str ⟨(l ++ m).toArray⟩, M) := by
  rw [add_str, str_len, str_len, if_pos h, str_app]
theorem ix_str {l : List Nat} {k : Int} {c : Nat} (h : l.length < 16000000) (e : L2.atI l k = some c) : oIx (.str ⟨l.toArray⟩) (.int k) M = some (.str ⟨#[c]⟩, M) := by
  unfold oIx
  dsimp only
  rw [str_len, if_pos h, e]
theorem sl_str {l : List Nat} (h : l.length < 16000000) (lo hi : Option Int) : oSl (.str ⟨l.toArray⟩) lo hi M = some (.str ⟨(cutD l lo hi).toArray⟩, M) := by
  unfold oSl
  dsimp only
  rw [str_len, if_pos h]
  congr 3
theorem isi_str_str {s : PySem.Str} : oIsi "str" (.str s) M = some (.bl true, M) := isi_of rfl (by decide)
theorem isi_int_str {s : PySem.Str} : oIsi "int" (.str s) M = some (.bl false, M) := isi_of rfl (by decide)
theorem isi_str_int {i : Int} : oIsi "str" (.int i) M = some (.bl false, M) := isi_of rfl (by decide)
end
/-! ### cells -/
def cell (ns : List Int) (k : Nat) : Int := ns.getD k 0
theorem cell_mod (ns : List Int) (k : Nat) (m : Int) (h : 0 < m) : 0 ≤ cell ns k % m ∧ cell ns k % m < m := ⟨Int.emod_nonneg _ (by omega), Int.emod_lt_of_pos _ h⟩
theorem cell_bits {ns : List Int} (hb : ∀ z ∈ ns, PySem.Builtin.Int.intBits z ≤ 1048576) (k : Nat) : PySem.Builtin.Int.intBits (cell ns k) ≤ 1048576 := by
  unfold cell
  rw [List.getD_eq_getElem?_getD]
  by_cases h : k < ns.length
  · rw [List.getElem?_eq_getElem h]
    exact hb _ (List.getElem_mem h)
  · rw [List.getElem?_eq_none (by omega)]
    decide
/-- the cell that a law reads -/
noncomputable abbrev gCell : Fn := mDef 2 2 (mSeq (mIte (mT (mBin oLt (mVar 1) (mCB oLen (mCons (mVar 0) mNil)))) (mRet (mBin oIx (mVar 0) (mVar 1))) mSkip) (mRet (mC (.int 0))))
theorem p_gcell (ns : List Int) (k : Nat) (M : Mem) : gCell [.scr ns, .int k] M = some (.ok (.int (cell ns k)) M) := by
  simp only [gCell, ev_def2]
  by_cases h : k < ns.length
  · have e : L2.atI ns (k : Int) = some (cell ns k) := by
      rw [atI_nat, cell, List.getD_eq_getElem?_getD, List.getElem?_eq_getElem h]
      rfl
    simp [h, ix_scr e]
  · simp [h, cell, List.getD_eq_getElem?_getD, List.getElem?_eq_none (Nat.le_of_not_lt h)]
theorem p_gcell0 (ns : List Int) (k : Int) (M : Mem) (h : 0 ≤ k) : gCell [.scr ns, .int k] M = some (.ok (.int (cell ns k.toNat)) M) := by
  obtain ⟨n, rfl⟩ := Int.eq_ofNat_of_zero_le h
  exact p_gcell ns n M
end BL
/-! BLDict: dicts, as functions. -/
namespace BL
section
variable {k j : Int} {d e : D} {kvs ka kb : List (Int × D)}
theorem aget_app : ∀ kvs : List (Int × D), aget (kvs ++ [(k, d)]) j = (aget kvs j).or (if k = j then some d else none)
  | [] => by
    show aget [(k, d)] j = _
    unfold aget
    unfold aget
    rfl
  | (i, x) :: r => by
    rw [List.cons_append]
    unfold aget
    split
    · rfl
    · exact aget_app r
theorem aget_repl : ∀ kvs : List (Int × D), aget (kvs.map fun p => if p.1 = k then (p.1, d) else p) j = if j = k then (aget kvs j).map (fun _ => d) else aget kvs j
  | [] => by
    show none = _
    unfold aget
    simp
  | (i, x) :: r => by
    rw [List.map_cons]
    have ih := aget_repl r
    by_cases h : i = k
    · rw [if_pos h]
      unfold aget
      by_cases h2 : i = j
      · rw [if_pos h2, if_pos h2, if_pos (h2 ▸ h)]
        rfl
      · rw [if_neg h2, if_neg h2, ih]
    · rw [if_neg h]
      unfold aget
      by_cases h2 : i = j
      · rw [if_pos h2, if_pos h2, if_neg (h2 ▸ h)]
      · rw [if_neg h2, if_neg h2, ih]
theorem aget_aput : aget (aput kvs k d) j = if j = k then some d else aget kvs j := by
  unfold aput ahas
  cases h : aget kvs k with
  | none =>
    rw [if_neg (by simp), aget_app]
    by_cases e : j = k
    · subst e
      rw [if_pos rfl, if_pos rfl, h]
      rfl
    · rw [if_neg e, if_neg (Ne.symm e)]
      simp
  | some x =>
    rw [if_pos (by simp), aget_repl]
    by_cases e : j = k
    · subst e
      rw [if_pos rfl, if_pos rfl, h]
      rfl
    · rw [if_neg e, if_neg e]
theorem aget_adel : ∀ kvs : List (Int × D), aget (adel kvs k) j = if j = k then none else aget kvs j
  | [] => by
    show none = _
    unfold aget
    simp
  | (i, x) :: r => by
    have ih := aget_adel r
    unfold adel at ih ⊢
    by_cases h : i = k
    · rw [List.filter_cons_of_neg (by simpa using h), ih]
      by_cases e : j = k
      · rw [if_pos e, if_pos e]
      · rw [if_neg e, if_neg e]
        conv => rhs; unfold aget
        rw [if_neg (by omega)]
    · rw [List.filter_cons_of_pos (by simpa using h)]
      unfold aget
      by_cases h2 : i = j
      · rw [if_pos h2, if_pos h2, if_neg (by omega)]
      · rw [if_neg h2, if_neg h2, ih]
/-- the keys -/
def akeys (kvs : List (Int × D)) : List Int := kvs.map (·.1)
@[simp] theorem akeys_nil : akeys [] = [] := (rfl)
@[simp] theorem akeys_len : (akeys kvs).length = kvs.length := by simp [akeys]
theorem aget_isSome : ∀ {kvs : List (Int × D)}, (aget kvs k).isSome = true ↔ k ∈ akeys kvs
  | [] => by
    unfold aget
    simp
  | (i, x) :: r => by
    have ih := aget_isSome (kvs := r)
    unfold aget
    rw [akeys, List.map_cons, List.mem_cons]
    by_cases h : i = k
    · rw [if_pos h]
      simp [h]
    · rw [if_neg h, ih]
      rw [show List.map (fun p : Int × D => p.1) r = akeys r from rfl]
      simp [Ne.symm h]
theorem aget_none : aget kvs k = none ↔ k ∉ akeys kvs := by
  rw [← aget_isSome]
  cases aget kvs k <;> simp
theorem aget_mem : ∀ {kvs : List (Int × D)}, aget kvs k = some d → (k, d) ∈ kvs
  | [], h => by cases h
  | (i, x) :: r, h => by
    unfold aget at h
    split at h
    · rename_i e
      cases h
      rw [e]
      exact List.mem_cons_self
    · exact List.mem_cons_of_mem _ (aget_mem h)
theorem mem_aget : ∀ {kvs : List (Int × D)}, (akeys kvs).Nodup → (k, d) ∈ kvs → aget kvs k = some d
  | [], _, h => by cases h
  | (i, x) :: r, nd, h => by
    rw [akeys, List.map_cons, List.nodup_cons] at nd
    unfold aget
    rcases List.mem_cons.mp h with e | h
    · cases e
      rw [if_pos rfl]
    · rw [if_neg fun e => nd.1 (by rw [e]; exact List.mem_map.mpr ⟨_, h, rfl⟩)]
      exact mem_aget nd.2 h
theorem akeys_aput : akeys (aput kvs k d) = if k ∈ akeys kvs then akeys kvs else akeys kvs ++ [k] := by
  unfold aput ahas
  by_cases h : k ∈ akeys kvs
  · rw [if_pos h, if_pos (aget_isSome.mpr h), akeys, List.map_map]
    refine List.map_congr_left fun p _ => ?_
    show (if p.1 = k then (p.1, d) else p).1 = p.1
    split <;> rfl
  · rw [if_neg h, if_neg (by rw [aget_isSome]; exact h), akeys, List.map_append]
    rfl
theorem nodup_aput (h : (akeys kvs).Nodup) : (akeys (aput kvs k d)).Nodup := by
  rw [akeys_aput]
  split
  · exact h
  · rename_i hk
    rw [List.nodup_append]
    refine ⟨h, by simp, fun a ha b hb => ?_⟩
    have : b = k := by simpa using hb
    subst this
    intro e
    subst e
    exact hk ha
theorem nodup_adel (h : (akeys kvs).Nodup) : (akeys (adel kvs k)).Nodup := (List.filter_sublist.map _).nodup h
theorem len_aput : (aput kvs k d).length ≤ kvs.length + 1 := by
  have := congrArg List.length (akeys_aput (kvs := kvs) (k := k) (d := d))
  rw [akeys_len] at this
  rw [this]
  split <;> simp
/-- alike as functions -/
theorem len_ext (ha : (akeys ka).Nodup) (hb : (akeys kb).Nodup) (h : ∀ j, aget ka j = aget kb j) : ka.length = kb.length := by
  have p : (akeys ka).Perm (akeys kb) := (List.perm_ext_iff_of_nodup ha hb).mpr fun a => by rw [← aget_isSome, ← aget_isSome, h]
  have := p.length_eq
  simpa using this
def plainD (kvs : List (Int × D)) : Prop := ∀ p ∈ kvs, Pl 50 p.2
theorem plain_aput (h : plainD kvs) (hd : Pl 50 d) : plainD (aput kvs k d) := fun p hp => by
  unfold aput at hp
  split at hp
  · obtain ⟨q, hq, rfl⟩ := List.mem_map.mp hp
    split
    · exact hd
    · exact h q hq
  · rcases List.mem_append.mp hp with hp | hp
    · exact h p hp
    · have : p = (k, d) := by simpa using hp
      rw [this]
      exact hd
theorem plain_adel (h : plainD kvs) : plainD (adel kvs k) := fun p hp => h p (List.mem_filter.mp hp).1
theorem plain_get (h : plainD kvs) (e : aget kvs k = some d) : Pl 50 d := h _ (aget_mem e)
theorem nodup_len : ∀ {xs ys : List Int}, xs.Nodup → (∀ x ∈ xs, x ∈ ys) → xs.length ≤ ys.length
  | [], ys, _, _ => Nat.zero_le _
  | x :: xs, ys, nd, h => by
    rw [List.nodup_cons] at nd
    have hx := h x List.mem_cons_self
    have h2 : xs.length ≤ (ys.erase x).length := nodup_len nd.2 fun y hy => by
      rw [List.mem_erase_of_ne fun e => nd.1 (by rw [← e]; exact hy)]
      exact h y (List.mem_cons_of_mem _ hy)
    rw [List.length_erase_of_mem hx] at h2
    have : 0 < ys.length := List.length_pos_of_mem hx
    rw [List.length_cons]
    omega
variable {M : Mem} {n m : Nat}
open Classical in
theorem eqX_ext (h1 : M[n]? = some (.dct ka)) (h2 : M[m]? = some (.dct kb)) (na : (akeys ka).Nodup) (nb : (akeys kb).Nodup) (pa : plainD ka) (pb : plainD kb) (h : ∀ j, aget ka j = aget kb j) : eqX (.ref n) (.ref m) M = some true := by
  rw [eqX_dcts h1 h2 pa pb]
  refine congrArg some (decide_eq_true ⟨len_ext na nb h, fun p hp => ?_⟩)
  rw [← h]
  exact mem_aget na hp
open Classical in
theorem eqX_iff (h1 : M[n]? = some (.dct ka)) (h2 : M[m]? = some (.dct kb)) (na : (akeys ka).Nodup) (nb : (akeys kb).Nodup) (pa : plainD ka) (pb : plainD kb) : eqX (.ref n) (.ref m) M = some (decide (∀ j, aget ka j = aget kb j)) := by
  rw [eqX_dcts h1 h2 pa pb]
  refine congrArg some (decide_eq_decide.mpr ⟨fun ⟨hl, hp⟩ j => ?_, fun h => ⟨len_ext na nb h, fun p hp => by rw [← h]; exact mem_aget na hp⟩⟩)
  cases ha : aget ka j with
  | some d => exact (hp (j, d) (aget_mem ha)).symm
  | none =>
    -- the keys of ka are among those of kb, as many
    have sub : ∀ x ∈ akeys ka, x ∈ akeys kb := fun x hx => by
      obtain ⟨q, hq, rfl⟩ := List.mem_map.mp hx
      exact aget_isSome.mp (by rw [hp q hq]; rfl)
    have all : ∀ x ∈ akeys kb, x ∈ akeys ka := by
      intro x hx
      by_cases hin : x ∈ akeys ka
      · exact hin
      · have h3 : (akeys ka).length ≤ ((akeys kb).erase x).length := nodup_len na fun y hy => by
          rw [List.mem_erase_of_ne fun e => hin (by rw [← e]; exact hy)]
          exact sub y hy
        rw [List.length_erase_of_mem hx] at h3
        have : 0 < (akeys kb).length := List.length_pos_of_mem hx
        simp only [akeys_len] at h3 this
        omega
    symm
    rw [aget_none]
    exact fun hx => aget_none.mp ha (all j hx)
/-! ### built-ins, subscripts of dicts -/
theorem dict_dct (h : M[n]? = some (.dct kvs)) : oDict [.ref n] M = some (.ref M.length, M ++ [.dct kvs]) := by
  show (match M[n]? with | some (.dct kvs) => some (D.ref M.length, M ++ [Ob.dct kvs]) | _ => none) = _
  rw [h]
theorem list_dct (h : M[n]? = some (.dct kvs)) : oList [.ref n] M = some (.ref M.length, M ++ [.lst ((akeys kvs).map .int)]) := by
  show (match M[n]? with | some (.lst ds) => some (D.ref M.length, M ++ [Ob.lst ds]) | some (.dct kvs) => some (D.ref M.length, M ++ [Ob.lst (kvs.map fun (p : Int × D) => D.int p.1)]) | _ => none) = _
  rw [h, akeys, List.map_map]
  rfl
theorem len_dct (h : M[n]? = some (.dct kvs)) : oLen [.ref n] M = some (.int kvs.length, M) := by
  show (match M[n]? with | some (.lst ds) => some (D.int ds.length, M) | some (.dct kvs) => some (.int kvs.length, M) | _ => none) = _
  rw [h]
theorem ix_dct (h : M[n]? = some (.dct kvs)) (e : aget kvs k = some d) : oIx (.ref n) (.int k) M = some (d, M) := by
  unfold oIx
  dsimp only
  rw [h]
  dsimp only
  rw [e]
theorem put_dct (h : M[n]? = some (.dct kvs)) (hl : kvs.length < 16000000) : oPutA (.ref n) (.int k) d M = some (M.set n (.dct (aput kvs k d))) := by
  unfold oPutA
  dsimp only
  rw [h]
  exact if_pos hl
theorem pop2_dct (h : M[n]? = some (.dct kvs)) : oPopD2 (.ref n) (.int k) M = some ((aget kvs k).getD .non, M.set n (.dct (adel kvs k))) := by
  unfold oPopD2
  dsimp only
  rw [h]
theorem pop1_dct (h : M[n]? = some (.dct kvs)) (e : aget kvs k = some d) : oPopD1 (.ref n) (.int k) M = some (d, M.set n (.dct (adel kvs k))) := by
  unfold oPopD1
  dsimp only
  rw [h]
  dsimp only
  rw [e]
theorem get1_dct (h : M[n]? = some (.dct kvs)) : oGet1 (.ref n) (.int k) M = some ((aget kvs k).getD .non, M) := by
  unfold oGet1
  dsimp only
  rw [h]
theorem in_dct (h : M[n]? = some (.dct kvs)) : oIn (.int k) (.ref n) M = some (.bl (aget kvs k).isSome, M) := by
  unfold oIn oInD
  dsimp only
  rw [h]
theorem notIn_dct (h : M[n]? = some (.dct kvs)) : oNotIn (.int k) (.ref n) M = some (.bl (!(aget kvs k).isSome), M) := by
  unfold oNotIn oInD
  dsimp only
  rw [h]
@[simp] theorem ev_mtD {op : Op2} {o e : GE} {L : Loc} : mMtD op o e L M = bnd (o L M) fun x M1 => (match x with
  | .ref n => (match M1[n]? with
    | some (.dct _) => bnd (e L M1) fun y M2 => ret (op x y M2)
    | _ => none)
  | _ => none) := (rfl)
theorem isi_dct_dict (h : M[n]? = some (.dct kvs)) : oIsi "dict" (.ref n) M = some (.bl true, M) := isi_of (k := "dict") (by unfold kindOf; dsimp only; rw [h]) (by decide)
/-! ### the memory's end -/
theorem set_app {M J : Mem} {o : Ob} {x : Ob} : (M ++ o :: J).set M.length x = M ++ x :: J := by
  rw [List.set_append_right _ _ (Nat.le_refl _), Nat.sub_self]
  rfl
theorem get_at {M J : Mem} {o : Ob} : (M ++ o :: J)[M.length]? = some o := by
  rw [List.getElem?_append_right (Nat.le_refl _), Nat.sub_self]
  rfl
theorem get_plus {M J : Mem} (k : Nat) : (M ++ J)[M.length + k]? = J[k]? := by
  rw [List.getElem?_append_right (by omega)]
  congr 1
  omega
theorem get_set_ne {M : Mem} {n m : Nat} {o : Ob} (h : n ≠ m) : (M.set n o)[m]? = M[m]? := by
  rw [List.getElem?_set, if_neg h]
theorem get_set_eq {M : Mem} {n : Nat} {o x : Ob} (h : M[n]? = some x) : (M.set n o)[n]? = some o := by
  rw [List.getElem?_set, if_pos rfl, if_pos (List.getElem?_eq_some_iff.mp h).1]
end
/-! ### a memory that goes on -/
structure Kp (M M' : Mem) : Prop where
  len : M.length ≤ M'.length
  at_ : ∀ j, j < M.length → M'[j]? = M[j]?
theorem Kp.refl (M : Mem) : Kp M M := ⟨Nat.le_refl _, fun _ _ => rfl⟩
theorem Kp.trans {A B C : Mem} (h : Kp A B) (k : Kp B C) : Kp A C := ⟨Nat.le_trans h.len k.len, fun j hj => by rw [k.at_ j (Nat.lt_of_lt_of_le hj h.len), h.at_ j hj]⟩
theorem Kp.app (M J : Mem) : Kp M (M ++ J) := ⟨by simp, fun j hj => List.getElem?_append_left hj⟩
theorem Kp.more {A B : Mem} (h : Kp A B) (J : Mem) : Kp A (B ++ J) := h.trans (Kp.app B J)
theorem Kp.set {A B : Mem} (h : Kp A B) {n : Nat} (hn : A.length ≤ n) (o : Ob) : Kp A (B.set n o) := ⟨by rw [List.length_set]; exact h.len, fun j hj => by rw [get_set_ne (by omega)]; exact h.at_ j hj⟩
theorem Kp.get {A B : Mem} (h : Kp A B) {n : Nat} {o : Ob} (e : A[n]? = some o) : B[n]? = some o := by
  rw [h.at_ n (List.getElem?_eq_some_iff.mp e).1]
  exact e
theorem get_lt {M : Mem} {n : Nat} {o : Ob} (h : M[n]? = some o) : n < M.length := (List.getElem?_eq_some_iff.mp h).1
end BL
/-! BPTerms: the program's functions of blocks and trees (and the laws' builder of trees), as the machine has them. -/
namespace BP
open PySem BL
/-! place -/
noncomputable def b_place_0 : GS := (mSet 2 (mC (.int 0)))
noncomputable def b_place_1 : GS := (mFor (mEnum (mVar 0)) (mName2 3 4) (mIte (mT (mBin oLe (mBin oIx (mVar 4) (mC (.int 0))) (mVar 1))) (mSet 2 (mVar 3)) mSkip))
noncomputable def b_place_2 : GS := (mRet (mVar 2))
noncomputable def b_place : GS := (mSeq b_place_0 (mSeq b_place_1 b_place_2))
noncomputable def g_place : Fn := mDef 2 5 b_place
/-! parts -/
noncomputable def b_parts_0 : GS := (mIte (mT (mBin oLe (mCB oLen (mCons (mVar 0) mNil)) (mVar 1))) (mRet (mLst (mCons (mCB oTuple (mCons (mVar 0) mNil)) mNil))) mSkip)
noncomputable def b_parts_1 : GS := (mSet 2 (mBin oDiv (mCB oLen (mCons (mVar 0) mNil)) (mC (.int 2))))
noncomputable def b_parts_2 : GS := (mRet (mLst (mCons (mCB oTuple (mCons (mSl (mVar 0) mNo (mSome (mVar 2))) mNil)) (mCons (mCB oTuple (mCons (mSl (mVar 0) (mSome (mVar 2)) mNo) mNil)) mNil))))
noncomputable def b_parts : GS := (mSeq b_parts_0 (mSeq b_parts_1 b_parts_2))
noncomputable def g_parts : Fn := mDef 2 3 b_parts
end BP
namespace BP
open PySem BL
/-! is_whole -/
noncomputable def b_is_whole_0 : GS := (mRet (mAndV (mUn (oIsi "int") (mVar 0)) (mNotV (mUn (oIsi "bool") (mVar 0)))))
noncomputable def b_is_whole : GS := b_is_whole_0
noncomputable def g_is_whole : Fn := mDef 1 1 b_is_whole
/-! is_key -/
noncomputable def b_is_key_0 : GS := (mRet (mAndV (mCall g_is_whole (mCons (mVar 0) mNil)) (mChain oLt oLt (mUn oNeg (mC (.int 1000000000000000000000000000000000000000000000000000000000000))) (mVar 0) (mC (.int 1000000000000000000000000000000000000000000000000000000000000)))))
noncomputable def b_is_key : GS := b_is_key_0
noncomputable def g_is_key : Fn := mDef 1 1 b_is_key
/-! is_value -/
noncomputable def b_is_value_0 : GS := (mIte (mOr (mNot (mT (mUn (oIsi "str") (mVar 0)))) (mT (mBin oGt (mCB oLen (mCons (mVar 0) mNil)) (mC (.int 60))))) (mRet (mC (.bl false))) mSkip)
noncomputable def b_is_value_1 : GS := (mFor (mSigns (mVar 0)) (mName 1) (mIte (mNot (mT (mChain oLe oLe (mC (.str " ")) (mVar 1) (mC (.str "~"))))) (mRet (mC (.bl false))) mSkip))
noncomputable def b_is_value_2 : GS := (mRet (mC (.bl true)))
noncomputable def b_is_value : GS := (mSeq b_is_value_0 (mSeq b_is_value_1 b_is_value_2))
noncomputable def g_is_value : Fn := mDef 1 2 b_is_value
/-! is_pair -/
noncomputable def b_is_pair_0 : GS := (mIte (mOr (mNot (mT (mUn (oIsi "tuple") (mVar 0)))) (mOr (mT (mBin oNe (mCB oLen (mCons (mVar 0) mNil)) (mC (.int 2)))) (mNot (mT (mCall g_is_key (mCons (mBin oIx (mVar 0) (mC (.int 0))) mNil)))))) (mRet (mC (.bl false))) mSkip)
noncomputable def b_is_pair_1 : GS := (mIte (mT (mBin oEq (mVar 1) (mC (.str "leaf")))) (mRet (mCall g_is_value (mCons (mBin oIx (mVar 0) (mC (.int 1))) mNil))) mSkip)
noncomputable def b_is_pair_2 : GS := (mRet (mAndV (mCall g_is_whole (mCons (mBin oIx (mVar 0) (mC (.int 1))) mNil)) (mBin oGt (mBin oIx (mVar 0) (mC (.int 1))) (mC (.int 0)))))
noncomputable def b_is_pair : GS := (mSeq b_is_pair_0 (mSeq b_is_pair_1 b_is_pair_2))
noncomputable def g_is_pair : Fn := mDef 2 2 b_is_pair
/-! is_block -/
noncomputable def b_is_block_0 : GS := (mIte (mOr (mNot (mT (mUn (oIsi "tuple") (mVar 0)))) (mOr (mT (mBin oNe (mCB oLen (mCons (mVar 0) mNil)) (mC (.int 2)))) (mNot (mT (mUn (oIsi "tuple") (mBin oIx (mVar 0) (mC (.int 1)))))))) (mRet (mC (.bl false))) mSkip)
noncomputable def b_is_block_1 : GS := (mIte (mAnd (mT (mBin oNe (mBin oIx (mVar 0) (mC (.int 0))) (mC (.str "leaf")))) (mT (mBin oNe (mBin oIx (mVar 0) (mC (.int 0))) (mC (.str "branch"))))) (mRet (mC (.bl false))) mSkip)
noncomputable def b_is_block_2 : GS := (mIte (mNot (mT (mChain oLe oLe (mVar 1) (mCB oLen (mCons (mBin oIx (mVar 0) (mC (.int 1))) mNil)) (mVar 2)))) (mRet (mC (.bl false))) mSkip)
noncomputable def b_is_block_3 : GS := (mFor (mEnum (mBin oIx (mVar 0) (mC (.int 1)))) (mName2 3 4) (mIte (mOr (mNot (mT (mCall g_is_pair (mCons (mVar 4) (mCons (mBin oIx (mVar 0) (mC (.int 0))) mNil))))) (mAnd (mT (mBin oGt (mVar 3) (mC (.int 0)))) (mT (mBin oLe (mBin oIx (mVar 4) (mC (.int 0))) (mBin oIx (mBin oIx (mBin oIx (mVar 0) (mC (.int 1))) (mBin oSub (mVar 3) (mC (.int 1)))) (mC (.int 0))))))) (mRet (mC (.bl false))) mSkip))
noncomputable def b_is_block_4 : GS := (mRet (mC (.bl true)))
noncomputable def b_is_block : GS := (mSeq b_is_block_0 (mSeq b_is_block_1 (mSeq b_is_block_2 (mSeq b_is_block_3 b_is_block_4))))
noncomputable def g_is_block : Fn := mDef 3 5 b_is_block
/-! half -/
noncomputable def b_half_0 : GS := (mRet (mBin oDiv (mBin oAdd (mVar 0) (mC (.int 1))) (mC (.int 2))))
noncomputable def b_half : GS := b_half_0
noncomputable def g_half : Fn := mDef 1 1 b_half
/-! listed -/
noncomputable def b_listed_0 : GS := (mSet 1 (mLst mNil))
noncomputable def b_listed_1 : GS := (mSet 2 (mLst (mCons (mC (.int 0)) mNil)))
noncomputable def b_listed_2 : GS := (mWhile (mT (mBin oGt (mCB oLen (mCons (mVar 2) mNil)) (mC (.int 0)))) (mSeq (mSet 3 (mBin oIx (mVar 0) (mMtL oPop0 (mVar 2) mNil))) (mIte (mT (mBin oEq (mBin oIx (mVar 3) (mC (.int 0))) (mC (.str "leaf")))) (mExpr (mMtL oExtend (mVar 1) (mCons (mBin oIx (mVar 3) (mC (.int 1))) mNil))) (mExpr (mMtL oExtend (mVar 2) (mCons (mLc (mRev (mBin oIx (mVar 3) (mC (.int 1)))) (mName 4) mYes (mBin oIx (mVar 4) (mC (.int 1))) [4]) mNil))))))
noncomputable def b_listed_3 : GS := (mRet (mVar 1))
noncomputable def b_listed : GS := (mSeq b_listed_0 (mSeq b_listed_1 (mSeq b_listed_2 b_listed_3)))
noncomputable def g_listed : Fn := mDef 1 5 b_listed
/-! leaves_of -/
noncomputable def b_leaves_of_0 : GS := (mSet 2 (mLst mNil))
noncomputable def b_leaves_of_1 : GS := (mSet 3 mDnew)
noncomputable def b_leaves_of_2 : GS := (mSet 4 (mLst (mCons (mTup (mCons (mC (.int 0)) (mCons (mC (.int 0)) (mCons (mC .non) mNil)))) mNil)))
noncomputable def b_leaves_of_3 : GS := (mWhile (mT (mBin oGt (mCB oLen (mCons (mVar 4) mNil)) (mC (.int 0)))) (mSeq (mSet 5 (mMtL oPop0 (mVar 4) mNil)) (mSeq (mSet 6 (mMtD oGet1 (mVar 0) (mBin oIx (mVar 5) (mC (.int 0))))) (mSeq (mSet 7 (mIf (mT (mBin oGt (mBin oIx (mVar 5) (mC (.int 0))) (mC (.int 0)))) (mCall g_half (mCons (mVar 1) mNil)) (mC (.int 0)))) (mSeq (mIte (mOr (mT (mBin oIn (mBin oIx (mVar 5) (mC (.int 0))) (mVar 3))) (mNot (mT (mCall g_is_block (mCons (mVar 6) (mCons (mVar 7) (mCons (mVar 1) mNil))))))) (mRet (mC .non)) mSkip) (mSeq (mIte (mAnd (mT (mBin oIsNot (mBin oIx (mVar 5) (mC (.int 2))) (mC .non))) (mT (mBin oNe (mBin oIx (mBin oIx (mBin oIx (mVar 6) (mC (.int 1))) (mC (.int 0))) (mC (.int 0))) (mBin oIx (mVar 5) (mC (.int 2)))))) (mRet (mC .non)) mSkip) (mSeq (mPut oPutA (mVar 3) (mBin oIx (mVar 5) (mC (.int 0))) (mC (.bl true))) (mIte (mT (mBin oEq (mBin oIx (mVar 6) (mC (.int 0))) (mC (.str "leaf")))) (mExpr (mMtL oAppend (mVar 2) (mCons (mBin oIx (mVar 5) (mC (.int 1))) mNil))) (mIte (mT (mBin oLt (mCB oLen (mCons (mBin oIx (mVar 6) (mC (.int 1))) mNil)) (mC (.int 2)))) (mRet (mC .non)) (mExpr (mMtL oExtend (mVar 4) (mCons (mLc (mRev (mBin oIx (mVar 6) (mC (.int 1)))) (mName 8) mYes (mTup (mCons (mBin oIx (mVar 8) (mC (.int 1))) (mCons (mBin oAdd (mBin oIx (mVar 5) (mC (.int 1))) (mC (.int 1))) (mCons (mBin oIx (mVar 8) (mC (.int 0))) mNil)))) [8]) mNil))))))))))))
noncomputable def b_leaves_of_4 : GS := (mRet (mTup (mCons (mVar 2) (mCons (mVar 3) mNil))))
noncomputable def b_leaves_of : GS := (mSeq b_leaves_of_0 (mSeq b_leaves_of_1 (mSeq b_leaves_of_2 (mSeq b_leaves_of_3 b_leaves_of_4))))
noncomputable def g_leaves_of : Fn := mDef 2 9 b_leaves_of
/-! sound -/
noncomputable def b_sound_0 : GS := (mSet 2 (mCall g_leaves_of (mCons (mVar 0) (mCons (mVar 1) mNil))))
noncomputable def b_sound_1 : GS := (mIte (mOr (mT (mBin oIs (mVar 2) (mC .non))) (mOr (mT (mBin oNe (mCB oLen (mCons (mBin oIx (mVar 2) (mC (.int 1))) mNil)) (mCB oLen (mCons (mVar 0) mNil)))) (mT (mBin oNe (mUn oLenSet (mBin oIx (mVar 2) (mC (.int 0)))) (mC (.int 1)))))) (mRet (mC (.bl false))) mSkip)
noncomputable def b_sound_2 : GS := (mSet 3 (mLc (mIter (mCall g_listed (mCons (mVar 0) mNil))) (mName 5) mYes (mBin oIx (mVar 5) (mC (.int 0))) [5]))
noncomputable def b_sound_3 : GS := (mFor (mRange2 (mC (.int 1)) (mCB oLen (mCons (mVar 3) mNil))) (mName 4) (mIte (mT (mBin oLe (mBin oIx (mVar 3) (mVar 4)) (mBin oIx (mVar 3) (mBin oSub (mVar 4) (mC (.int 1)))))) (mRet (mC (.bl false))) mSkip))
noncomputable def b_sound_4 : GS := (mRet (mC (.bl true)))
noncomputable def b_sound : GS := (mSeq b_sound_0 (mSeq b_sound_1 (mSeq b_sound_2 (mSeq b_sound_3 b_sound_4))))
noncomputable def g_sound : Fn := mDef 2 6 b_sound
/-! _law_level -/
noncomputable def b_law_level_0 : GS := (mSet 3 (mUn oNeg (mBin oDiv (mUn oNeg (mCB oLen (mCons (mVar 0) mNil))) (mVar 1))))
noncomputable def b_law_level_1 : GS := (mSet 4 (mCB oMax2 (mCons (mC (.int 1)) (mCons (mBin oDiv (mCB oLen (mCons (mVar 0) mNil)) (mBin oDiv (mBin oAdd (mVar 1) (mC (.int 1))) (mC (.int 2)))) mNil))))
noncomputable def b_law_level_2 : GS := (mSet 5 (mBin oAdd (mVar 3) (mBin oMod (mVar 2) (mBin oAdd (mBin oSub (mVar 4) (mVar 3)) (mC (.int 1))))))
noncomputable def b_law_level_3 : GS := (mSet 6 (mLst mNil))
noncomputable def b_law_level_4 : GS := (mSet 7 (mC (.int 0)))
noncomputable def b_law_level_5 : GS := (mFor (mRange1 (mVar 5)) (mName 8) (mSeq (mSet 9 (mBin oAdd (mBin oDiv (mCB oLen (mCons (mVar 0) mNil)) (mVar 5)) (mCB oInt (mCons (mBin oLt (mVar 8) (mBin oMod (mCB oLen (mCons (mVar 0) mNil)) (mVar 5))) mNil)))) (mSeq (mExpr (mMtL oAppend (mVar 6) (mCons (mCB oTuple (mCons (mSl (mVar 0) (mSome (mVar 7)) (mSome (mBin oAdd (mVar 7) (mVar 9)))) mNil)) mNil))) (mSet 7 (mBin oAdd (mVar 7) (mVar 9))))))
noncomputable def b_law_level_6 : GS := (mRet (mVar 6))
noncomputable def b_law_level : GS := (mSeq b_law_level_0 (mSeq b_law_level_1 (mSeq b_law_level_2 (mSeq b_law_level_3 (mSeq b_law_level_4 (mSeq b_law_level_5 b_law_level_6))))))
noncomputable def g_law_level : Fn := mDef 3 10 b_law_level
/-! _law_tree_by -/
noncomputable def b_law_tree_by_0 : GS := (mSet 3 mDnew)
noncomputable def b_law_tree_by_1 : GS := (mSet 4 (mC (.str "leaf")))
noncomputable def b_law_tree_by_2 : GS := (mSet 5 (mBin oAdd (mC (.int 1)) (mBin oMod (mVar 2) (mC (.int 3)))))
noncomputable def b_law_tree_by_3 : GS := (mWhile (mT (mBin oGt (mCB oLen (mCons (mVar 0) mNil)) (mVar 1))) (mSeq (mSet 6 (mLst mNil)) (mSeq (mFor (mIter (mCall g_law_level (mCons (mVar 0) (mCons (mVar 1) (mCons (mBin oDiv (mVar 2) (mC (.int 3))) mNil))))) (mName 7) (mSeq (mPut oPutA (mVar 3) (mVar 5) (mTup (mCons (mVar 4) (mCons (mVar 7) mNil)))) (mSeq (mExpr (mMtL oAppend (mVar 6) (mCons (mTup (mCons (mBin oIx (mBin oIx (mVar 7) (mC (.int 0))) (mC (.int 0))) (mCons (mVar 5) mNil))) mNil))) (mSet 5 (mBin oAdd (mBin oAdd (mVar 5) (mC (.int 1))) (mBin oMod (mBin oDiv (mVar 2) (mC (.int 5))) (mC (.int 2)))))))) (mSeq (mSet 0 (mVar 6)) (mSet 4 (mC (.str "branch")))))))
noncomputable def b_law_tree_by_4 : GS := (mPut oPutA (mVar 3) (mC (.int 0)) (mTup (mCons (mVar 4) (mCons (mCB oTuple (mCons (mVar 0) mNil)) mNil))))
noncomputable def b_law_tree_by_5 : GS := (mRet (mVar 3))
noncomputable def b_law_tree_by : GS := (mSeq b_law_tree_by_0 (mSeq b_law_tree_by_1 (mSeq b_law_tree_by_2 (mSeq b_law_tree_by_3 (mSeq b_law_tree_by_4 b_law_tree_by_5)))))
noncomputable def g_law_tree_by : Fn := mDef 3 8 b_law_tree_by
end BP
/-! BLBlock: what is a key, a value, a pair, a block. -/
namespace BP
open BL
open PySem (Str)
abbrev T (l : List Nat) : D := .str ⟨l.toArray⟩
theorem t_of (s : Str) : (D.str s) = T s.cps.toList := by simp
/-- a datum whose kind is known -/
def Kn (M : Mem) (d : D) : Prop := ∃ k, kindOf M d = some k ∧ (k = "NoneType" ∨ k = "bool" ∨ k = "int" ∨ k = "str" ∨ k = "tuple" ∨ k = "list" ∨ k = "dict")
variable {M : Mem}
theorem kn_non : Kn M .non := ⟨_, rfl, by simp⟩
theorem kn_bl {b : Bool} : Kn M (.bl b) := ⟨_, rfl, by simp⟩
theorem kn_int {i : Int} : Kn M (.int i) := ⟨_, rfl, by simp⟩
theorem kn_str {s : Str} : Kn M (.str s) := ⟨_, rfl, by simp⟩
theorem kn_tup {xs : List D} : Kn M (.tup xs) := ⟨_, rfl, by simp⟩
theorem kn_lst {n : Nat} {xs : List D} (h : M[n]? = some (.lst xs)) : Kn M (.ref n) := ⟨"list", by unfold kindOf; dsimp only; rw [h], by simp⟩
theorem kn_dct {n : Nat} {xs : List (Int × D)} (h : M[n]? = some (.dct xs)) : Kn M (.ref n) := ⟨"dict", by unfold kindOf; dsimp only; rw [h], by simp⟩
def isInt : D → Bool
  | .int _ => true
  | .bl _ => true
  | _ => false
def isBl : D → Bool
  | .bl _ => true
  | _ => false
def isStr : D → Bool
  | .str _ => true
  | _ => false
def isTup : D → Bool
  | .tup _ => true
  | _ => false
theorem kn_isi {d : D} (h : Kn M d) : oIsi "int" d M = some (.bl (isInt d), M) ∧ oIsi "bool" d M = some (.bl (isBl d), M) ∧ oIsi "str" d M = some (.bl (isStr d), M) ∧ oIsi "tuple" d M = some (.bl (isTup d), M) := by
  cases d with
  | non => exact ⟨isi_of rfl (by first | exact (show L2.kitB _ _ = some true by decide) | exact (show L2.kitB _ _ = some false by decide)), isi_of rfl (by first | exact (show L2.kitB _ _ = some true by decide) | exact (show L2.kitB _ _ = some false by decide)), isi_of rfl (by first | exact (show L2.kitB _ _ = some true by decide) | exact (show L2.kitB _ _ = some false by decide)), isi_of rfl (by first | exact (show L2.kitB _ _ = some true by decide) | exact (show L2.kitB _ _ = some false by decide))⟩
  | bl b => exact ⟨isi_of rfl (by first | exact (show L2.kitB _ _ = some true by decide) | exact (show L2.kitB _ _ = some false by decide)), isi_of rfl (by first | exact (show L2.kitB _ _ = some true by decide) | exact (show L2.kitB _ _ = some false by decide)), isi_of rfl (by first | exact (show L2.kitB _ _ = some true by decide) | exact (show L2.kitB _ _ = some false by decide)), isi_of rfl (by first | exact (show L2.kitB _ _ = some true by decide) | exact (show L2.kitB _ _ = some false by decide))⟩
  | int i => exact ⟨isi_of rfl (by first | exact (show L2.kitB _ _ = some true by decide) | exact (show L2.kitB _ _ = some false by decide)), isi_of rfl (by first | exact (show L2.kitB _ _ = some true by decide) | exact (show L2.kitB _ _ = some false by decide)), isi_of rfl (by first | exact (show L2.kitB _ _ = some true by decide) | exact (show L2.kitB _ _ = some false by decide)), isi_of rfl (by first | exact (show L2.kitB _ _ = some true by decide) | exact (show L2.kitB _ _ = some false by decide))⟩
  | str s => exact ⟨isi_of rfl (by first | exact (show L2.kitB _ _ = some true by decide) | exact (show L2.kitB _ _ = some false by decide)), isi_of rfl (by first | exact (show L2.kitB _ _ = some true by decide) | exact (show L2.kitB _ _ = some false by decide)), isi_of rfl (by first | exact (show L2.kitB _ _ = some true by decide) | exact (show L2.kitB _ _ = some false by decide)), isi_of rfl (by first | exact (show L2.kitB _ _ = some true by decide) | exact (show L2.kitB _ _ = some false by decide))⟩
  | tup xs => exact ⟨isi_of rfl (by first | exact (show L2.kitB _ _ = some true by decide) | exact (show L2.kitB _ _ = some false by decide)), isi_of rfl (by first | exact (show L2.kitB _ _ = some true by decide) | exact (show L2.kitB _ _ = some false by decide)), isi_of rfl (by first | exact (show L2.kitB _ _ = some true by decide) | exact (show L2.kitB _ _ = some false by decide)), isi_of rfl (by first | exact (show L2.kitB _ _ = some true by decide) | exact (show L2.kitB _ _ = some false by decide))⟩
  | scr ns => exact ⟨isi_of rfl (by first | exact (show L2.kitB _ _ = some true by decide) | exact (show L2.kitB _ _ = some false by decide)), isi_of rfl (by first | exact (show L2.kitB _ _ = some true by decide) | exact (show L2.kitB _ _ = some false by decide)), isi_of rfl (by first | exact (show L2.kitB _ _ = some true by decide) | exact (show L2.kitB _ _ = some false by decide)), isi_of rfl (by first | exact (show L2.kitB _ _ = some true by decide) | exact (show L2.kitB _ _ = some false by decide))⟩
  | ref n =>
    obtain ⟨k, h1, h2⟩ := h
    have h3 : k = "list" ∨ k = "dict" := by
      unfold kindOf at h1
      dsimp only at h1
      split at h1
      · exact .inl (Option.some.inj h1).symm
      · exact .inr (Option.some.inj h1).symm
      · cases h1
    rcases h3 with rfl | rfl
    · exact ⟨isi_of h1 (by first | exact (show L2.kitB _ _ = some true by decide) | exact (show L2.kitB _ _ = some false by decide)), isi_of h1 (by first | exact (show L2.kitB _ _ = some true by decide) | exact (show L2.kitB _ _ = some false by decide)), isi_of h1 (by first | exact (show L2.kitB _ _ = some true by decide) | exact (show L2.kitB _ _ = some false by decide)), isi_of h1 (by first | exact (show L2.kitB _ _ = some true by decide) | exact (show L2.kitB _ _ = some false by decide))⟩
    · exact ⟨isi_of h1 (by first | exact (show L2.kitB _ _ = some true by decide) | exact (show L2.kitB _ _ = some false by decide)), isi_of h1 (by first | exact (show L2.kitB _ _ = some true by decide) | exact (show L2.kitB _ _ = some false by decide)), isi_of h1 (by first | exact (show L2.kitB _ _ = some true by decide) | exact (show L2.kitB _ _ = some false by decide)), isi_of h1 (by first | exact (show L2.kitB _ _ = some true by decide) | exact (show L2.kitB _ _ = some false by decide))⟩
/-! ### keys, values -/
def wholeB : D → Bool
  | .int _ => true
  | _ => false
def keyB : D → Bool
  | .int k => decide (-(10 ^ 60) < k) && decide (k < 10 ^ 60)
  | _ => false
abbrev goodS (l : List Nat) : Prop := l.length ≤ 60 ∧ ∀ c ∈ l, 32 ≤ c ∧ c ≤ 126
def valB : D → Bool
  | .str s => decide (goodS s.cps.toList)
  | _ => false
theorem p_whole {d : D} (h : Kn M d) : g_is_whole [d] M = some (.ok (.bl (wholeB d)) M) := by
  obtain ⟨h1, h2, _, _⟩ := kn_isi h
  cases d <;> simp [g_is_whole, b_is_whole, b_is_whole_0, h1, h2, isInt, isBl, wholeB]
theorem p_key {d : D} (h : Kn M d) : g_is_key [d] M = some (.ok (.bl (keyB d)) M) := by
  have hw := p_whole h
  cases d with
  | int k =>
    by_cases h1 : -1000000000000000000000000000000000000000000000000000000000000 < k
    · simp [g_is_key, b_is_key, b_is_key_0, hw, wholeB, h1, keyB]
    · simp [g_is_key, b_is_key, b_is_key_0, hw, wholeB, h1, keyB]
  | _ => simp [g_is_key, b_is_key, b_is_key_0, hw, wholeB, keyB]
theorem sp : Str.ofString " " = ⟨#[32]⟩ := by decide +kernel
theorem ti : Str.ofString "~" = ⟨#[126]⟩ := by decide +kernel
theorem p_valueS (l : List Nat) (hl : l.length < 16000000) : g_is_value [T l] M = some (.ok (.bl (decide (goodS l))) M) := by
  simp only [g_is_value, b_is_value, b_is_value_0, b_is_value_1, b_is_value_2, ev_def1]
  by_cases h60 : l.length ≤ 60
  · obtain ⟨r, e, hr⟩ := forG_gen (ok := Src.ok ⟨l.map fun c => .str ⟨#[c]⟩, none⟩) (g := mName 1) (body := mIte (mNot (mT (mChain oLe oLe (mC (.str " ")) (mVar 1) (mC (.str "~"))))) (mRet (mC (.bl false))) mSkip)
      (fun r => (∃ L, r = (.nx L, M) ∧ ∀ c ∈ l, 32 ≤ c ∧ c ≤ 126) ∨ (r = (.rt (.bl false), M) ∧ ¬ ∀ c ∈ l, 32 ≤ c ∧ c ≤ 126))
      (fun k L M' => M' = M ∧ (∃ y, L = [some (T l), y]) ∧ ∀ c ∈ l.take k, 32 ≤ c ∧ c ≤ 126) (l.map fun c => .str ⟨#[c]⟩)
      (fun k L M' d hd ⟨hM, ⟨y, hL⟩, hg⟩ => by
        subst hL hM
        rw [List.getElem?_map] at hd
        obtain ⟨c, hc, rfl⟩ := Option.map_eq_some_iff.mp hd
        refine ⟨ok_non, _, rfl, ?_⟩
        have hk := (List.getElem?_eq_some_iff.mp hc).1
        have hck := (List.getElem?_eq_some_iff.mp hc).2
        by_cases h1 : 32 ≤ c
        · by_cases h2 : c ≤ 126
          · refine ⟨(.nx [some (T l), some (.str ⟨#[c]⟩)], M'), by simp [sp, ti, h1, h2], rfl, ⟨_, rfl⟩, fun x hx => ?_⟩
            rw [List.take_succ_eq_append_getElem hk, hck] at hx
            rcases List.mem_append.mp hx with hx | hx
            · exact hg x hx
            · have : x = c := by simpa using hx
              subst this
              exact ⟨h1, h2⟩
          · exact ⟨(.rt (.bl false), M'), by simp [sp, ti, h1, h2], .inr ⟨rfl, fun z => h2 (z c (List.mem_of_getElem? hc)).2⟩⟩
        · exact ⟨(.rt (.bl false), M'), by simp [sp, ti, h1], .inr ⟨rfl, fun z => h1 (z c (List.mem_of_getElem? hc)).1⟩⟩)
      (fun L M' ⟨hM, ⟨y, hL⟩, hg⟩ => by
        subst hL hM
        rw [List.length_map, List.take_length] at hg
        exact ⟨ok_non, .inl ⟨_, rfl, hg⟩⟩) (L := [some (T l), none]) (M := M) ⟨rfl, ⟨_, rfl⟩, by simp⟩
    have hs : mSigns (mVar 0) [some (T l), none] M = some (.ok ⟨l.map fun c => .str ⟨#[c]⟩, none⟩ M) := signs_at (s := ⟨l.toArray⟩) (by simp)
    have h61 : ¬ (60 : Int) < (l.length : Int) := by omega
    simp [hl, h60, h61, isi_str_str]
    rw [for_at hs]
    dsimp only
    rw [e]
    rcases hr with ⟨L, rfl, h⟩ | ⟨rfl, h⟩
    · have : decide (∀ c ∈ l, 32 ≤ c ∧ c ≤ 126) = true := decide_eq_true h
      simp [this]
    · have : decide (∀ c ∈ l, 32 ≤ c ∧ c ≤ 126) = false := decide_eq_false h
      simp [this]
  · have h61 : (60 : Int) < (l.length : Int) := by omega
    simp [hl, h60, h61, isi_str_str]
/-- a text that is not too long -/
def shortD : D → Prop
  | .str s => s.length < 16000000
  | _ => True
theorem p_value {d : D} (h : Kn M d) (hs : shortD d) : g_is_value [d] M = some (.ok (.bl (valB d)) M) := by
  cases d with
  | str s =>
    rw [t_of s]
    exact p_valueS s.cps.toList (by simpa [shortD, Str.length] using hs)
  | _ => simp [g_is_value, b_is_value, b_is_value_0, (kn_isi h).2.2.1, isStr, valB]
/-! ### pairs -/
def leafS : Str := "leaf"
def branchS : Str := "branch"
def posB : D → Bool
  | .int k => decide (0 < k)
  | _ => false
def pairB (leaf : Bool) : D → Bool
  | .tup [a, b] => keyB a && (if leaf = true then valB b else posB b)
  | _ => false
/-- what may be looked at -/
def SeenP (M : Mem) (d : D) : Prop := Kn M d ∧ ∀ a b, d = .tup [a, b] → Kn M a ∧ Kn M b ∧ shortD b
theorem ix0 {d : D} {ds : List D} : oIx (.tup (d :: ds)) (.int 0) M = some (d, M) := ix_tup (by rw [show (0 : Int) = ((0 : Nat) : Int) from rfl, atI_nat]; rfl)
theorem ix1 {d e : D} {ds : List D} : oIx (.tup (d :: e :: ds)) (.int 1) M = some (e, M) := ix_tup (by rw [show (1 : Int) = ((1 : Nat) : Int) from rfl, atI_nat]; rfl)
theorem ix2 {d e f : D} {ds : List D} : oIx (.tup (d :: e :: f :: ds)) (.int 2) M = some (f, M) := ix_tup (by rw [show (2 : Int) = ((2 : Nat) : Int) from rfl, atI_nat]; rfl)
theorem kind_leaf {leaf : Bool} : oEq (.str (if leaf = true then leafS else branchS)) (.str "leaf") M = some (.bl leaf, M) := by
  cases leaf with
  | true => exact oEq_strs (by decide +kernel) (by decide +kernel) (by decide +kernel)
  | false => exact oEq_strs (by decide +kernel) (by decide +kernel) (by decide +kernel)
theorem p_pair {d : D} (leaf : Bool) (h : SeenP M d) : g_is_pair [d, .str (if leaf = true then leafS else branchS)] M = some (.ok (.bl (pairB leaf d)) M) := by
  obtain ⟨hk, hp⟩ := h
  have ht := (kn_isi hk).2.2.2
  have hl := kind_leaf (M := M) (leaf := leaf)
  cases d with
  | tup xs =>
    match xs, hp with
    | [], _ => simp [g_is_pair, b_is_pair, b_is_pair_0, ht, isTup, pairB]
    | [a], _ => simp [g_is_pair, b_is_pair, b_is_pair_0, ht, isTup, pairB]
    | a :: b :: c :: r, _ =>
      have : ¬ ((r.length : Int) + 1 + 1 + 1 = 2) := by omega
      simp [g_is_pair, b_is_pair, b_is_pair_0, ht, isTup, pairB, this]
    | [a, b], hp =>
      obtain ⟨ha, hb, hs⟩ := hp a b rfl
      have k1 := p_key ha
      have k2 := p_value hb hs
      have k3 := p_whole hb
      cases hka : keyB a with
      | false => simp [g_is_pair, b_is_pair, b_is_pair_0, ht, isTup, pairB, ix0, k1, hka]
      | true =>
        cases leaf with
        | true =>
          simp only [if_true] at hl ⊢
          simp [g_is_pair, b_is_pair, b_is_pair_0, b_is_pair_1, b_is_pair_2, ht, isTup, pairB, ix0, ix1, k1, hka, hl, k2]
        | false =>
          simp only [Bool.false_eq_true, if_false] at hl ⊢
          cases b with
          | int n => simp [g_is_pair, b_is_pair, b_is_pair_0, b_is_pair_1, b_is_pair_2, ht, isTup, pairB, ix0, ix1, k1, hka, hl, k3, wholeB, posB]
          | _ => simp [g_is_pair, b_is_pair, b_is_pair_0, b_is_pair_1, b_is_pair_2, ht, isTup, pairB, ix0, ix1, k1, hka, hl, k3, wholeB, posB]
  | _ => simp [g_is_pair, b_is_pair, b_is_pair_0, ht, isTup, pairB]
/-! ### blocks -/
/-- the key of a pair -/
def keyOf : D → Int
  | .tup (.int k :: _) => k
  | _ => 0
theorem keyB_int {a : D} (h : keyB a = true) : ∃ k, a = .int k := by
  cases a <;> first
    | exact ⟨_, rfl⟩
    | cases h
theorem pair_of {leaf : Bool} {d : D} (h : pairB leaf d = true) : ∃ k b, d = .tup [.int k, b] := by
  unfold pairB at h
  split at h
  · rename_i a b
    rw [Bool.and_eq_true] at h
    obtain ⟨k, rfl⟩ := keyB_int h.1
    exact ⟨k, b, rfl⟩
  · cases h
/-- good pairs, rising -/
def rowB (leaf : Bool) : List D → Bool
  | [] => true
  | [d] => pairB leaf d
  | d :: e :: r => pairB leaf d && (decide (keyOf d < keyOf e) && rowB leaf (e :: r))
/-- the same by places -/
theorem rowB_iff (leaf : Bool) : ∀ ds : List D, rowB leaf ds = true ↔ (∀ d ∈ ds, pairB leaf d = true) ∧ ∀ (k : Nat) (d e : D), ds[k]? = some d → ds[k + 1]? = some e → keyOf d < keyOf e
  | [] => by simp [rowB]
  | [d] => by simp [rowB]
  | d :: e :: r => by
    have ih := rowB_iff leaf (e :: r)
    rw [rowB, Bool.and_eq_true, Bool.and_eq_true, ih, decide_eq_true_eq]
    constructor
    · rintro ⟨h1, h2, h3, h4⟩
      refine ⟨fun x hx => ?_, fun k a b ha hb => ?_⟩
      · rcases List.mem_cons.mp hx with rfl | hx
        · exact h1
        · exact h3 x hx
      · cases k with
        | zero =>
          cases ha
          cases hb
          exact h2
        | succ k => exact h4 k a b (by simpa using ha) (by simpa using hb)
    · rintro ⟨h1, h2⟩
      exact ⟨h1 d List.mem_cons_self, h2 0 d e rfl rfl, fun x hx => h1 x (List.mem_cons_of_mem _ hx), fun k a b ha hb => h2 (k + 1) a b (by simpa using ha) (by simpa using hb)⟩
def blockB (d : D) (least most : Int) : Bool := match d with
  | .tup [.str kind, .tup ds] => (decide (kind = leafS) || decide (kind = branchS)) && (decide (least ≤ ds.length) && (decide (ds.length ≤ most) && rowB (decide (kind = leafS)) ds))
  | _ => false
def eqS (a : D) (s : Str) : Bool := match a with
  | .str t => decide (t = s)
  | _ => false
def SeenB (M : Mem) (d : D) : Prop := Kn M d ∧ ∀ a b, d = .tup [a, b] → Kn M b ∧ (∀ s, s = leafS ∨ s = branchS → oNe a (.str s) M = some (.bl (!eqS a s), M)) ∧ ∀ ds, b = .tup ds → ∀ x ∈ ds, SeenP M x
theorem ne_pl {a : D} (h : Pl 50 a) (s : Str) (hs : s = leafS ∨ s = branchS) : oNe a (.str s) M = some (.bl (!eqS a s), M) := by
  have hp : Pl 50 (.str s) := pl_str (by rcases hs with rfl | rfl <;> decide +kernel)
  by_cases e : a = .str s
  · rw [e, oNe_same hp]
    simp [eqS]
  · rw [oNe_diff h hp e]
    have : eqS a s = false := by
      unfold eqS
      split
      · rename_i t
        exact decide_eq_false fun z => e (by rw [z])
      · rfl
    rw [this]
    rfl
theorem p_rows {a l m : D} {leaf : Bool} {ds : List D} (hs : ∀ x ∈ ds, SeenP M x) (hl : ds.length < 1000000) :
    ∃ r, mFor (mEnum (mBin oIx (mVar 0) (mC (.int 1)))) (mName2 3 4) (mIte (mOr (mNot (mT (mCall g_is_pair (mCons (mVar 4) (mCons (mBin oIx (mVar 0) (mC (.int 0))) mNil))))) (mAnd (mT (mBin oGt (mVar 3) (mC (.int 0)))) (mT (mBin oLe (mBin oIx (mVar 4) (mC (.int 0))) (mBin oIx (mBin oIx (mBin oIx (mVar 0) (mC (.int 1))) (mBin oSub (mVar 3) (mC (.int 1)))) (mC (.int 0))))))) (mRet (mC (.bl false))) mSkip) [some (.tup [.str (if leaf = true then leafS else branchS), .tup ds]), some l, some m, none, none] M = some r ∧ ((rowB leaf ds = true ∧ ∃ L, r = (.nx L, M)) ∨ (rowB leaf ds = false ∧ r = (.rt (.bl false), M))) := by
  generalize hk : Str.mk (if leaf = true then leafS else branchS).cps = kind
  have hk' : (if leaf = true then leafS else branchS) = kind := by rw [← hk]
  rw [hk']
  have hi : mEnum (mBin oIx (mVar 0) (mC (.int 1))) [some (.tup [.str kind, .tup ds]), some l, some m, none, none] M = some (.ok (Src.map (pairUp 0) ⟨ds, none⟩) M) := seq_at _ (by simp [ix1]) src_tup
  rw [for_at hi]
  obtain ⟨r, e, hr⟩ := forG_gen (ok := Src.ok (Src.map (pairUp 0) ⟨ds, none⟩)) (g := mName2 3 4) (body := mIte (mOr (mNot (mT (mCall g_is_pair (mCons (mVar 4) (mCons (mBin oIx (mVar 0) (mC (.int 0))) mNil))))) (mAnd (mT (mBin oGt (mVar 3) (mC (.int 0)))) (mT (mBin oLe (mBin oIx (mVar 4) (mC (.int 0))) (mBin oIx (mBin oIx (mBin oIx (mVar 0) (mC (.int 1))) (mBin oSub (mVar 3) (mC (.int 1)))) (mC (.int 0))))))) (mRet (mC (.bl false))) mSkip)
    (fun r => (rowB leaf ds = true ∧ ∃ L, r = (.nx L, M)) ∨ (rowB leaf ds = false ∧ r = (.rt (.bl false), M)))
    (fun k L M' => M' = M ∧ (∃ y z, L = [some (.tup [.str kind, .tup ds]), some l, some m, y, z]) ∧ rowB leaf (ds.take k) = true) (pairUp 0 ds)
    (fun k L M' d hd ⟨hM, ⟨y, z, hL⟩, hrow⟩ => by
      subst hL hM
      rw [pairUp_get] at hd
      obtain ⟨x, hx, rfl⟩ := Option.map_eq_some_iff.mp hd
      have hkl := (List.getElem?_eq_some_iff.mp hx).1
      have hkx := (List.getElem?_eq_some_iff.mp hx).2
      have hxm := List.mem_of_getElem? hx
      refine ⟨ok_non, _, ev_name2, ?_⟩
      have hpx := p_pair leaf (hs x hxm)
      rw [hk'] at hpx
      cases hb : pairB leaf x with
      | false =>
        refine ⟨(.rt (.bl false), M'), by simp [ix0, hpx, hb], .inr ⟨?_, rfl⟩⟩
        cases hr : rowB leaf ds with
        | false => rfl
        | true =>
          have := ((rowB_iff leaf ds).mp hr).1 x hxm
          rw [hb] at this
          cases this
      | true =>
        obtain ⟨q, w, rfl⟩ := pair_of hb
        have take1 : ∀ j, (ds.take (k + 1))[j]? = if j < k + 1 then ds[j]? else none := fun j => List.getElem?_take ..
        have take0 : ∀ j, (ds.take k)[j]? = if j < k then ds[j]? else none := fun j => List.getElem?_take ..
        cases k with
        | zero =>
          refine ⟨(.nx [some (.tup [.str kind, .tup ds]), some l, some m, some (.int 0), some (.tup [.int q, w])], M'), by simp [ix0, hpx, hb], rfl, ⟨_, _, rfl⟩, ?_⟩
          rw [rowB_iff]
          refine ⟨fun d hd => ?_, fun j d e h1 h2 => ?_⟩
          · rw [List.take_succ_eq_append_getElem hkl, hkx] at hd
            have : d = .tup [.int q, w] := by simpa using hd
            rw [this]
            exact hb
          · rw [take1, if_neg (by omega)] at h2
            cases h2
        | succ j =>
          have hj : j < ds.length := by omega
          have hxj : ds[j]? = some ds[j] := List.getElem?_eq_getElem hj
          have hbj : pairB leaf ds[j] = true := ((rowB_iff leaf _).mp hrow).1 _ (List.mem_of_getElem? (show (ds.take (j + 1))[j]? = some ds[j] by rw [take0, if_pos (by omega)]; exact hxj))
          obtain ⟨p, v, hpv⟩ := pair_of hbj
          have g1 : oIx (.tup ds) (.int (j : Int)) M' = some (.tup [.int p, v], M') := ix_tup (by rw [atI_nat, hxj, hpv])
          have e1 : ((j : Int) + 1 - 1) = (j : Int) := by omega
          have e2 : (0 : Int) < (j : Int) + 1 := by omega
          by_cases hle : q ≤ p
          · refine ⟨(.rt (.bl false), M'), by simp [ix0, ix1, hpx, hb, e1, e2, g1, hle], .inr ⟨?_, rfl⟩⟩
            cases hr : rowB leaf ds with
            | false => rfl
            | true =>
              have := ((rowB_iff leaf ds).mp hr).2 j _ _ hxj hx
              rw [hpv] at this
              simp only [keyOf] at this
              omega
          · refine ⟨(.nx [some (.tup [.str kind, .tup ds]), some l, some m, some (.int (((0 + (j + 1) : Nat)) : Int)), some (.tup [.int q, w])], M'), by simp [ix0, ix1, hpx, hb, e1, e2, g1, hle], rfl, ⟨_, _, rfl⟩, ?_⟩
            rw [rowB_iff]
            refine ⟨fun d hd => ?_, fun i d e h1 h2 => ?_⟩
            · rw [List.take_succ_eq_append_getElem hkl, hkx] at hd
              rcases List.mem_append.mp hd with hd | hd
              · exact ((rowB_iff leaf _).mp hrow).1 d hd
              · have : d = .tup [.int q, w] := by simpa using hd
                rw [this]
                exact hb
            · rw [take1] at h1 h2
              by_cases hi1 : i + 1 < j + 1
              · rw [if_pos (by omega)] at h1 h2
                exact ((rowB_iff leaf _).mp hrow).2 i d e (by rw [take0, if_pos (by omega)]; exact h1) (by rw [take0, if_pos hi1]; exact h2)
              · by_cases hi2 : i + 1 < j + 1 + 1
                · have : i = j := by omega
                  subst this
                  rw [if_pos (by omega)] at h1 h2
                  rw [hxj, hpv] at h1
                  rw [hx] at h2
                  cases h1
                  cases h2
                  simp only [keyOf]
                  omega
                · rw [if_neg (by omega)] at h2
                  cases h2)
    (fun L M' ⟨hM, ⟨y, z, hL⟩, hrow⟩ => by
      subst hL hM
      rw [pairUp_length, List.take_length] at hrow
      exact ⟨ok_non, .inl ⟨hrow, _, rfl⟩⟩) (L := [some (.tup [.str kind, .tup ds]), some l, some m, none, none]) (M := M) ⟨rfl, ⟨_, _, rfl⟩, by simp [rowB]⟩
  exact ⟨r, e, hr⟩
theorem p_block {d : D} {least most : Int} (h : SeenB M d) (hz : ∀ a ds, d = .tup [a, .tup ds] → ds.length < 1000000) : g_is_block [d, .int least, .int most] M = some (.ok (.bl (blockB d least most)) M) := by
  obtain ⟨hk, hp⟩ := h
  have ht := (kn_isi hk).2.2.2
  simp only [g_is_block, b_is_block, ev_def3]
  cases d with
  | tup xs =>
    match xs, hp with
    | [], _ => simp [b_is_block_0, ht, isTup, blockB]
    | [a], _ => simp [b_is_block_0, ht, isTup, blockB]
    | a :: b :: c :: r, _ =>
      have : ¬ ((r.length : Int) + 1 + 1 + 1 = 2) := by omega
      simp [b_is_block_0, ht, isTup, blockB, this]
    | [a, b], hp =>
      obtain ⟨hb, hne, hds⟩ := hp a b rfl
      have htb := (kn_isi hb).2.2.2
      have n1 := hne leafS (.inl rfl)
      have n2 := hne branchS (.inr rfl)
      have dl : Str.ofString "leaf" = leafS := rfl
      have db : Str.ofString "branch" = branchS := rfl
      cases b with
      | tup ds =>
        have hl := hz a ds rfl
        have hs := hds ds rfl
        cases h1 : eqS a leafS with
        | true =>
          have ea : a = .str leafS := by
            unfold eqS at h1
            split at h1
            · rename_i t
              rw [of_decide_eq_true h1]
            · cases h1
          subst ea
          have hr0 := p_rows (M := M) (a := .non) (l := .int least) (m := .int most) (leaf := true) hs hl
          simp only [if_true] at hr0
          obtain ⟨r, e, hr⟩ := hr0
          by_cases c1 : least ≤ (ds.length : Int)
          · by_cases c2 : (ds.length : Int) ≤ most
            · rcases hr with ⟨hr, L, rfl⟩ | ⟨hr, rfl⟩
              · simp [b_is_block_0, b_is_block_1, b_is_block_2, b_is_block_3, b_is_block_4, ht, isTup, ix0, ix1, htb, dl, n1, h1, c1, c2, e, blockB, hr]
              · simp [b_is_block_0, b_is_block_1, b_is_block_2, b_is_block_3, b_is_block_4, ht, isTup, ix0, ix1, htb, dl, n1, h1, c1, c2, e, blockB, hr]
            · simp [b_is_block_0, b_is_block_1, b_is_block_2, b_is_block_3, b_is_block_4, ht, isTup, ix0, ix1, htb, dl, n1, h1, c1, c2, blockB]
          · simp [b_is_block_0, b_is_block_1, b_is_block_2, b_is_block_3, b_is_block_4, ht, isTup, ix0, ix1, htb, dl, n1, h1, c1, blockB]
        | false =>
          cases h2 : eqS a branchS with
          | true =>
            have ea : a = .str branchS := by
              unfold eqS at h2
              split at h2
              · rename_i t
                rw [of_decide_eq_true h2]
              · cases h2
            subst ea
            have nb : ¬ branchS = leafS := by decide +kernel
            have hr0 := p_rows (M := M) (a := .non) (l := .int least) (m := .int most) (leaf := false) hs hl
            simp only [Bool.false_eq_true, if_false] at hr0
            obtain ⟨r, e, hr⟩ := hr0
            by_cases c1 : least ≤ (ds.length : Int)
            · by_cases c2 : (ds.length : Int) ≤ most
              · rcases hr with ⟨hr, L, rfl⟩ | ⟨hr, rfl⟩
                · simp [b_is_block_0, b_is_block_1, b_is_block_2, b_is_block_3, b_is_block_4, ht, isTup, ix0, ix1, htb, dl, db, n1, n2, h1, h2, c1, c2, e, blockB, hr, nb]
                · simp [b_is_block_0, b_is_block_1, b_is_block_2, b_is_block_3, b_is_block_4, ht, isTup, ix0, ix1, htb, dl, db, n1, n2, h1, h2, c1, c2, e, blockB, hr, nb]
              · simp [b_is_block_0, b_is_block_1, b_is_block_2, b_is_block_3, b_is_block_4, ht, isTup, ix0, ix1, htb, dl, db, n1, n2, h1, h2, c1, c2, blockB]
            · simp [b_is_block_0, b_is_block_1, b_is_block_2, b_is_block_3, b_is_block_4, ht, isTup, ix0, ix1, htb, dl, db, n1, n2, h1, h2, c1, blockB]
          | false =>
            have hf : blockB (.tup [a, .tup ds]) least most = false := by
              unfold blockB
              split
              · rename_i kind ds' heq
                cases heq
                have : decide (kind = leafS) = false := h1
                have : decide (kind = branchS) = false := h2
                simp [*]
              · rfl
            simp [b_is_block_0, b_is_block_1, b_is_block_2, b_is_block_3, b_is_block_4, ht, isTup, ix0, ix1, htb, dl, db, n1, n2, h1, h2, hf]
      | _ => simp [b_is_block_0, ht, isTup, ix1, htb, blockB]
  | _ => simp [b_is_block_0, ht, isTup, blockB]
end BP
/-! BLTree: the walk over a tree of blocks. -/
namespace BP
open BL
open PySem (Str)
/-- a block that waits: its number, its depth, the key that leads to it -/
structure Tl where
  n : Int
  d : Int
  k : Option Int
def Tl.v (t : Tl) : D := .tup [.int t.n, .int t.d, match t.k with | none => .non | some k => .int k]
def blkOf (B : List (Int × D)) (n : Int) : D := (aget B n).getD .non
def leastOf (w n : Int) : Int := if 0 < n then (w + 1) / 2 else 0
def leafB (d : D) : Bool := match d with
  | .tup [.str k, _] => decide (k = leafS)
  | _ => false
def pairsOf (d : D) : List D := match d with
  | .tup [_, .tup ds] => ds
  | _ => []
def firstKey (d : D) : Int := match pairsOf d with
  | p :: _ => keyOf p
  | [] => 0
def numOf : D → Int
  | .tup [_, .int n] => n
  | _ => 0
def kids (B : List (Int × D)) (t : Tl) : List Tl := if leafB (blkOf B t.n) = true then [] else (pairsOf (blkOf B t.n)).map fun p => ⟨numOf p, t.d + 1, some (keyOf p)⟩
def keyOk (B : List (Int × D)) (t : Tl) : Bool := match t.k with
  | none => true
  | some k => decide (firstKey (blkOf B t.n) = k)
def okT (B : List (Int × D)) (w : Int) (t : Tl) : Bool := blockB (blkOf B t.n) (leastOf w t.n) w && (keyOk B t && (leafB (blkOf B t.n) || decide (2 ≤ (pairsOf (blkOf B t.n)).length)))
/-- all that wait, and what they lead to, in the walk's order -/
inductive WS (B : List (Int × D)) (w : Int) : List Tl → List Tl → Prop
  | nil : WS B w [] []
  | step {t : Tl} {rest vs : List Tl} : okT B w t = true → WS B w (kids B t ++ rest) vs → WS B w (t :: rest) (t :: vs)
/-- the leaves' depths -/
def depths (B : List (Int × D)) (vs : List Tl) : List Int := (vs.filter fun t => leafB (blkOf B t.n)).map (·.d)
/-- the blocks may all be looked at, whatever goes on -/
structure Look (M : Mem) (B : List (Int × D)) : Prop where
  seen : ∀ n d, aget B n = some d → SeenB M d
  size : ∀ n d a ds, aget B n = some d → d = .tup [a, .tup ds] → ds.length < 1000000
variable {M : Mem}
theorem Kn.kp {M M' : Mem} (h : Kp M M') {d : D} (k : Kn M d) : Kn M' d := by
  obtain ⟨t, h1, h2⟩ := k
  refine ⟨t, ?_, h2⟩
  cases d with
  | ref n =>
    unfold kindOf at h1 ⊢
    dsimp only at h1 ⊢
    cases hm : M[n]? with
    | none => rw [hm] at h1; cases h1
    | some o => rw [h.get hm]; rw [hm] at h1; exact h1
  | _ => exact h1
theorem SeenP.kp {M M' : Mem} (h : Kp M M') {d : D} (k : SeenP M d) : SeenP M' d := ⟨k.1.kp h, fun a b e => ⟨(k.2 a b e).1.kp h, (k.2 a b e).2.1.kp h, (k.2 a b e).2.2⟩⟩
theorem block_parts {d : D} {least most : Int} (h : blockB d least most = true) : ∃ (leaf : Bool) (ds : List D), d = .tup [.str (if leaf = true then leafS else branchS), .tup ds] ∧ leafB d = leaf ∧ pairsOf d = ds ∧ rowB leaf ds = true ∧ least ≤ ds.length ∧ (ds.length : Int) ≤ most := by
  unfold blockB at h
  split at h
  · rename_i kind ds
    simp only [Bool.and_eq_true, Bool.or_eq_true, decide_eq_true_eq] at h
    obtain ⟨hk, h1, h2, h3⟩ := h
    by_cases e : kind = leafS
    · refine ⟨true, ds, by rw [e]; rfl, by rw [e]; simp [leafB], rfl, by rw [decide_eq_true e] at h3; exact h3, h1, h2⟩
    · have e2 : kind = branchS := hk.resolve_left e
      have ne : ¬ branchS = leafS := by decide +kernel
      refine ⟨false, ds, by rw [e2]; rfl, by rw [e2]; simp [leafB, ne], rfl, by rw [decide_eq_false e] at h3; exact h3, h1, h2⟩
  · cases h
theorem branch_pair {d : D} (h : pairB false d = true) : ∃ k n : Int, d = .tup [.int k, .int n] := by
  obtain ⟨k, b, rfl⟩ := pair_of h
  have h2 : (keyB (.int k) && posB b) = true := h
  rw [Bool.and_eq_true] at h2
  cases b <;> first
    | exact ⟨k, _, rfl⟩
    | cases h2.2
end BP
/-! BLWalk: leaves_of, by the machine. -/
namespace BP
open BL
open PySem (Str)
variable {M : Mem}
theorem pop0_lst {n : Nat} {xs : List D} {d : D} (h : M[n]? = some (.lst (xs ++ [d]))) : oPop0 (.ref n) [] M = some (d, M.set n (.lst xs)) := by
  unfold oPop0
  dsimp only
  rw [h]
  dsimp only
  rw [show (xs ++ [d])[(xs ++ [d]).length - 1]? = some d by simp]
  dsimp only
  rw [List.dropLast_concat]
theorem extend_at {n : Nat} {xs es : List D} {d : D} (h : M[n]? = some (.lst xs)) (h2 : seqOf M d = some es) (hl : xs.length + es.length < 16000000) : oExtend (.ref n) [d] M = some (.non, M.set n (.lst (xs ++ es))) := by
  unfold oExtend
  dsimp only
  rw [h, h2]
  exact if_pos hl
noncomputable def loT : GT := mT (mBin oGt (mCB oLen (mCons (mVar 4) mNil)) (mC (.int 0)))
noncomputable def lo1 : GS := mSet 5 (mMtL oPop0 (mVar 4) mNil)
noncomputable def lo2 : GS := mSet 6 (mMtD oGet1 (mVar 0) (mBin oIx (mVar 5) (mC (.int 0))))
noncomputable def lo3 : GS := mSet 7 (mIf (mT (mBin oGt (mBin oIx (mVar 5) (mC (.int 0))) (mC (.int 0)))) (mCall g_half (mCons (mVar 1) mNil)) (mC (.int 0)))
noncomputable def lo4 : GS := mIte (mOr (mT (mBin oIn (mBin oIx (mVar 5) (mC (.int 0))) (mVar 3))) (mNot (mT (mCall g_is_block (mCons (mVar 6) (mCons (mVar 7) (mCons (mVar 1) mNil))))))) (mRet (mC .non)) mSkip
noncomputable def lo5 : GS := mIte (mAnd (mT (mBin oIsNot (mBin oIx (mVar 5) (mC (.int 2))) (mC .non))) (mT (mBin oNe (mBin oIx (mBin oIx (mBin oIx (mVar 6) (mC (.int 1))) (mC (.int 0))) (mC (.int 0))) (mBin oIx (mVar 5) (mC (.int 2)))))) (mRet (mC .non)) mSkip
noncomputable def lo6 : GS := mPut oPutA (mVar 3) (mBin oIx (mVar 5) (mC (.int 0))) (mC (.bl true))
noncomputable def lo7 : GS := mIte (mT (mBin oEq (mBin oIx (mVar 6) (mC (.int 0))) (mC (.str "leaf")))) (mExpr (mMtL oAppend (mVar 2) (mCons (mBin oIx (mVar 5) (mC (.int 1))) mNil))) (mIte (mT (mBin oLt (mCB oLen (mCons (mBin oIx (mVar 6) (mC (.int 1))) mNil)) (mC (.int 2)))) (mRet (mC .non)) (mExpr (mMtL oExtend (mVar 4) (mCons (mLc (mRev (mBin oIx (mVar 6) (mC (.int 1)))) (mName 8) mYes (mTup (mCons (mBin oIx (mVar 8) (mC (.int 1))) (mCons (mBin oAdd (mBin oIx (mVar 5) (mC (.int 1))) (mC (.int 1))) (mCons (mBin oIx (mVar 8) (mC (.int 0))) mNil)))) [8]) mNil))))
noncomputable def loB : GS := mSeq lo1 (mSeq lo2 (mSeq lo3 (mSeq lo4 (mSeq lo5 (mSeq lo6 lo7)))))
theorem lo_eq : b_leaves_of_3 = mWhile loT loB := rfl
theorem p_half (w : Int) (M : Mem) : g_half [.int w] M = some (.ok (.int ((w + 1) / 2)) M) := by
  simp [g_half, b_half, b_half_0]
/-- the walk's state in the memory -/
structure LoS (M M' : Mem) (B : List (Int × D)) (dp nm wt : Nat) (S : List Tl) (ds nums : List Int) (N : List (Int × D)) : Prop where
  kp : Kp M M'
  dp_ : M.length ≤ dp
  nm_ : M.length ≤ nm
  wt_ : M.length ≤ wt
  ne : dp ≠ wt
  d : M'[dp]? = some (.lst (ds.map .int))
  n : M'[nm]? = some (.dct N)
  w : M'[wt]? = some (.lst ((S.map Tl.v).reverse))
  keys : akeys N = nums
  nd : nums.Nodup
  sub : ∀ x ∈ nums, x ∈ akeys B
  pos : ∀ t ∈ S, t.k ≠ none → 0 < t.n
abbrev loL (b : Nat) (w : Int) (dp nm wt : Nat) (x5 x6 x7 x8 : Option D) : BL.Loc := [some (.ref b), some (.int w), some (.ref dp), some (.ref nm), some (.ref wt), x5, x6, x7, x8]
theorem lo_test {b dp nm wt : Nat} {w : Int} {x5 x6 x7 x8 : Option D} {M' : Mem} {S : List Tl} (h : M'[wt]? = some (.lst ((S.map Tl.v).reverse))) : loT (loL b w dp nm wt x5 x6 x7 x8) M' = some (.ok (!S.isEmpty) M') := by
  have := len_lst h
  cases S with
  | nil =>
    simp at this
    simp [loT, loL, this]
  | cons t S =>
    simp at this
    have h2 : (0 : Int) < (S.length : Int) + 1 := by omega
    simp [loT, loL, this, h2]
theorem blk_seen {M' : Mem} {B : List (Int × D)} (h : Look M' B) (n : Int) : SeenB M' (blkOf B n) ∧ ∀ a ds, blkOf B n = .tup [a, .tup ds] → ds.length < 1000000 := by
  unfold blkOf
  cases e : aget B n with
  | none => exact ⟨⟨kn_non, fun a b e => by cases e⟩, fun a ds e => by cases e⟩
  | some d => exact ⟨h.seen n d e, fun a ds e2 => h.size n d a ds e e2⟩
/-- one step: told off, or the walk ends -/
theorem lo_step {b dp nm wt : Nat} {w : Int} {x5 x6 x7 x8 : Option D} {M' : Mem} {B N : List (Int × D)} {t : Tl} {rest : List Tl} {ds nums : List Int} (hb : M[b]? = some (.dct B)) (s : LoS M M' B dp nm wt (t :: rest) ds nums N) (hL : ∀ M', Kp M M' → Look M' B) (hw : 3 ≤ w ∧ w ≤ 1000)
    (hB : B.length ≤ 100000) (hlen : rest.length ≤ 10000000) (hds : ds.length ≤ 1000000) :
    ((t.n ∈ nums ∨ okT B w t = false) ∧ ∃ M'', Kp M M'' ∧ loB (loL b w dp nm wt x5 x6 x7 x8) M' = some (.rt .non, M'')) ∨
    (t.n ∉ nums ∧ okT B w t = true ∧ ∃ y5 y6 y7 M'' N', loB (loL b w dp nm wt x5 x6 x7 x8) M' = some (.nx (loL b w dp nm wt y5 y6 y7 x8), M'') ∧ LoS M M'' B dp nm wt (kids B t ++ rest) (if leafB (blkOf B t.n) = true then ds ++ [t.d] else ds) (nums ++ [t.n]) N') := by
  have hlt : b < M.length := get_lt hb
  have hwt : M'[wt]? = some (.lst ((rest.map Tl.v).reverse ++ [t.v])) := by rw [s.w]; simp
  have e1 : lo1 (loL b w dp nm wt x5 x6 x7 x8) M' = some (.nx (loL b w dp nm wt (some t.v) x6 x7 x8), M'.set wt (.lst ((rest.map Tl.v).reverse))) := by
    have := pop0_lst hwt
    simp [lo1, loL, hwt, this]
  generalize hM1 : M'.set wt (Ob.lst ((rest.map Tl.v).reverse)) = M1 at e1
  have k1 : Kp M M1 := by rw [← hM1]; exact s.kp.set s.wt_ _
  have w1 : M1[wt]? = some (.lst ((rest.map Tl.v).reverse)) := by rw [← hM1]; exact get_set_eq hwt
  have d1 : M1[dp]? = some (.lst (ds.map .int)) := by rw [← hM1, get_set_ne (Ne.symm s.ne)]; exact s.d
  have n1 : M1[nm]? = some (.dct N) := by
    rw [← hM1, get_set_ne fun e => ?_]
    · exact s.n
    · have h1 := s.n
      rw [← e, s.w] at h1
      cases h1
  have b1 := k1.get hb
  have t0 : ∀ M, oIx t.v (.int 0) M = some (.int t.n, M) := fun M => ix0
  have t1 : ∀ M, oIx t.v (.int 1) M = some (.int t.d, M) := fun M => ix1
  have e2 : lo2 (loL b w dp nm wt (some t.v) x6 x7 x8) M1 = some (.nx (loL b w dp nm wt (some t.v) (some (blkOf B t.n)) x7 x8), M1) := by
    have := get1_dct (k := t.n) b1
    simp [lo2, loL, b1, t0, this, blkOf]
  have e3 : lo3 (loL b w dp nm wt (some t.v) (some (blkOf B t.n)) x7 x8) M1 = some (.nx (loL b w dp nm wt (some t.v) (some (blkOf B t.n)) (some (.int (leastOf w t.n))) x8), M1) := by
    by_cases h : 0 < t.n
    · simp [lo3, loL, t0, h, p_half, leastOf]
    · simp [lo3, loL, t0, h, leastOf]
  obtain ⟨sb, sz⟩ := blk_seen (hL M1 k1) t.n
  have pb := p_block (least := leastOf w t.n) (most := w) sb sz
  have hin := in_dct (k := t.n) n1
  have hin2 : (aget N t.n).isSome = decide (t.n ∈ nums) := by
    rw [Bool.eq_iff_iff, aget_isSome, s.keys, decide_eq_true_eq]
  rw [hin2] at hin
  generalize hblk : blkOf B t.n = blk at *
  unfold loB
  rw [seq_step e1, seq_step e2, seq_step e3]
  by_cases hmem : t.n ∈ nums
  · refine .inl ⟨.inl hmem, M1, k1, ?_⟩
    simp [lo4, loL, t0, hin, hmem]
  · cases hbb : blockB blk (leastOf w t.n) w with
    | false =>
      refine .inl ⟨.inr (by unfold okT; rw [hblk, hbb]; rfl), M1, k1, ?_⟩
      rw [hbb] at pb
      simp [lo4, loL, t0, hin, hmem, pb]
    | true =>
      rw [hbb] at pb
      have e4 : lo4 (loL b w dp nm wt (some t.v) (some blk) (some (.int (leastOf w t.n))) x8) M1 = some (.nx (loL b w dp nm wt (some t.v) (some blk) (some (.int (leastOf w t.n))) x8), M1) := by
        simp [lo4, loL, t0, hin, hmem, pb]
      rw [seq_step e4]
      obtain ⟨leaf, rows, hd, hlf, hpr, hrow, hle, hge⟩ := block_parts hbb
      have bk : ∀ M, oIx blk (.int 0) M = some (.str (if leaf = true then leafS else branchS), M) := fun M => by rw [hd]; exact ix0
      have b1' : ∀ M, oIx blk (.int 1) M = some (.tup rows, M) := fun M => by rw [hd]; exact ix1
      have hall := ((rowB_iff leaf rows).mp hrow).1
      have hrl : rows.length ≤ 1000 := by omega
      have hinB : t.n ∈ akeys B := by
        rw [← aget_isSome]
        cases hg : aget B t.n with
        | some d => rfl
        | none =>
          unfold blkOf at hblk
          rw [hg] at hblk
          rw [← hblk] at hbb
          cases hbb
      -- the key that led here
      by_cases hkey : keyOk B t = true
      case neg =>
        have hkf : keyOk B t = false := by simpa using hkey
        refine .inl ⟨.inr (by unfold okT; rw [hkf]; simp), M1, k1, ?_⟩
        unfold keyOk at hkf
        cases hk : t.k with
        | none => rw [hk] at hkf; cases hkf
        | some k =>
          rw [hk] at hkf
          have hpos := s.pos t List.mem_cons_self (by rw [hk]; intro z; cases z)
          unfold leastOf at hle
          rw [if_pos hpos] at hle
          have t2 : ∀ M, oIx t.v (.int 2) M = some (.int k, M) := fun M => by
            have : t.v = .tup [.int t.n, .int t.d, .int k] := by unfold Tl.v; rw [hk]
            rw [this]
            exact ix2
          cases hrows : rows with
          | nil => rw [hrows] at hle; simp at hle; omega
          | cons p0 r0 =>
            obtain ⟨q, v, hp0⟩ := pair_of (hall p0 (by rw [hrows]; exact List.mem_cons_self))
            have hfk : firstKey blk = q := by unfold firstKey; rw [hpr, hrows, hp0]; rfl
            rw [hblk, hfk] at hkf
            have hne : ¬ q = k := of_decide_eq_false hkf
            have i0 : ∀ M, oIx (.tup rows) (.int 0) M = some (.tup [.int q, v], M) := fun M => by rw [hrows, hp0]; exact ix0
            have i00 : ∀ M, oIx (.tup [.int q, v]) (.int 0) M = some (.int q, M) := fun M => ix0
            simp [lo5, loL, t2, b1', i0, i00, isNon, hne]
      case pos =>
      have e5 : lo5 (loL b w dp nm wt (some t.v) (some blk) (some (.int (leastOf w t.n))) x8) M1 = some (.nx (loL b w dp nm wt (some t.v) (some blk) (some (.int (leastOf w t.n))) x8), M1) := by
        unfold keyOk at hkey
        cases hk : t.k with
        | none =>
          have t2 : ∀ M, oIx t.v (.int 2) M = some (.non, M) := fun M => by
            have : t.v = .tup [.int t.n, .int t.d, .non] := by unfold Tl.v; rw [hk]
            rw [this]
            exact ix2
          simp [lo5, loL, t2, isNon]
        | some k =>
          rw [hk] at hkey
          have hpos := s.pos t List.mem_cons_self (by rw [hk]; intro z; cases z)
          unfold leastOf at hle
          rw [if_pos hpos] at hle
          have t2 : ∀ M, oIx t.v (.int 2) M = some (.int k, M) := fun M => by
            have : t.v = .tup [.int t.n, .int t.d, .int k] := by unfold Tl.v; rw [hk]
            rw [this]
            exact ix2
          cases hrows : rows with
          | nil => rw [hrows] at hle; simp at hle; omega
          | cons p0 r0 =>
            obtain ⟨q, v, hp0⟩ := pair_of (hall p0 (by rw [hrows]; exact List.mem_cons_self))
            have hfk : firstKey blk = q := by unfold firstKey; rw [hpr, hrows, hp0]; rfl
            rw [hblk, hfk] at hkey
            have heq : q = k := of_decide_eq_true hkey
            subst heq
            have i0 : ∀ M, oIx (.tup rows) (.int 0) M = some (.tup [.int q, v], M) := fun M => by rw [hrows, hp0]; exact ix0
            have i00 : ∀ M, oIx (.tup [.int q, v]) (.int 0) M = some (.int q, M) := fun M => ix0
            simp [lo5, loL, t2, b1', i0, i00, isNon]
      rw [seq_step e5]
      have nlen : N.length ≤ B.length := by
        have h1 := nodup_len s.nd s.sub
        rw [← s.keys] at h1
        simpa using h1
      have e6 : lo6 (loL b w dp nm wt (some t.v) (some blk) (some (.int (leastOf w t.n))) x8) M1 = some (.nx (loL b w dp nm wt (some t.v) (some blk) (some (.int (leastOf w t.n))) x8), M1.set nm (.dct (aput N t.n (.bl true)))) := by
        have := put_dct (k := t.n) (d := .bl true) n1 (by omega)
        simp [lo6, loL, t0, this]
      rw [seq_step e6]
      generalize hM2 : M1.set nm (Ob.dct (aput N t.n (.bl true))) = M2 at *
      have k2 : Kp M M2 := by rw [← hM2]; exact k1.set s.nm_ _
      have nd_ne : nm ≠ dp := fun e => by rw [e, d1] at n1; cases n1
      have nw_ne : nm ≠ wt := fun e => by rw [e, w1] at n1; cases n1
      have w2 : M2[wt]? = some (.lst ((rest.map Tl.v).reverse)) := by rw [← hM2, get_set_ne nw_ne]; exact w1
      have d2 : M2[dp]? = some (.lst (ds.map .int)) := by rw [← hM2, get_set_ne nd_ne]; exact d1
      have n2 : M2[nm]? = some (.dct (aput N t.n (.bl true))) := by rw [← hM2]; exact get_set_eq n1
      have keys2 : akeys (aput N t.n (.bl true)) = nums ++ [t.n] := by rw [akeys_aput, s.keys, if_neg hmem]
      have nd2 : (nums ++ [t.n]).Nodup := by
        rw [List.nodup_append]
        refine ⟨s.nd, by simp, fun a ha c hc => ?_⟩
        have : c = t.n := by simpa using hc
        rw [this]
        intro e
        exact hmem (by rw [← e]; exact ha)
      have sub2 : ∀ x ∈ nums ++ [t.n], x ∈ akeys B := fun x hx => by
        rcases List.mem_append.mp hx with hx | hx
        · exact s.sub x hx
        · have : x = t.n := by simpa using hx
          rw [this]
          exact hinB
      have hkl := kind_leaf (M := M2) (leaf := leaf)
      cases leaf with
      | true =>
        refine .inr ⟨hmem, by unfold okT; rw [hblk, hbb, hkey, hlf]; rfl, some t.v, some blk, some (.int (leastOf w t.n)), M2.set dp (.lst (ds.map .int ++ [.int t.d])), aput N t.n (.bl true), ?_, ⟨k2.set s.dp_ _, s.dp_, s.nm_, s.wt_, s.ne, ?_, ?_, ?_, keys2, nd2, sub2, fun x hx => s.pos x (List.mem_cons_of_mem _ ?_)⟩⟩
        · have ha := append_lst (d := .int t.d) d2 (by simp; omega)
          simp only [if_true] at hkl bk
          simp [lo7, loL, bk, hkl, t1, d2, ha]
        · rw [hlf, if_pos rfl, List.map_append]
          exact get_set_eq d2
        · rw [get_set_ne (Ne.symm nd_ne)]
          exact n2
        · rw [get_set_ne s.ne]
          have : kids B t = [] := by unfold kids; rw [hblk, hlf, if_pos rfl]
          rw [this, List.nil_append]
          exact w2
        · have : kids B t = [] := by unfold kids; rw [hblk, hlf, if_pos rfl]
          rw [this, List.nil_append] at hx
          exact hx
      | false =>
        simp only [Bool.false_eq_true, if_false] at hkl bk
        by_cases h2 : 2 ≤ rows.length
        case neg =>
          refine .inl ⟨.inr ?_, M2, k2, ?_⟩
          · unfold okT
            rw [hblk, hbb, hkey, hlf, hpr, decide_eq_false h2]
            rfl
          · have h3 : (rows.length : Int) < 2 := by omega
            simp [lo7, loL, bk, hkl, b1', h3]
        case pos =>
          have h3 : ¬ (rows.length : Int) < 2 := by omega
          have hkids : kids B t = rows.map fun p => (⟨numOf p, t.d + 1, some (keyOf p)⟩ : Tl) := by unfold kids; rw [hblk, hlf, hpr, if_neg Bool.false_ne_true]
          have hkl2 : (kids B t).length = rows.length := by rw [hkids, List.length_map]
          have hys : (rows.reverse.map fun p => (⟨numOf p, t.d + 1, some (keyOf p)⟩ : Tl).v) = ((kids B t).map Tl.v).reverse := by rw [hkids, List.map_map, List.map_reverse]; rfl
          generalize hLL : loL b w dp nm wt (some t.v) (some blk) (some (.int (leastOf w t.n))) x8 = L
          have v5 : L[5]? = some (some t.v) := by rw [← hLL]; rfl
          have v6 : L[6]? = some (some blk) := by rw [← hLL]; rfl
          have v4 : L[4]? = some (some (.ref wt)) := by rw [← hLL]; rfl
          have hi : mRev (mBin oIx (mVar 6) (mC (.int 1))) L M2 = some (.ok (Src.map List.reverse ⟨rows, none⟩) M2) := seq_at _ (by simp [v6, b1']) src_tup
          have hl := lcG_map (ok := Src.ok (Src.map List.reverse ⟨rows, none⟩)) (g := mName 8) (tt := mYes) (e := mTup (mCons (mBin oIx (mVar 8) (mC (.int 1))) (mCons (mBin oAdd (mBin oIx (mVar 5) (mC (.int 1))) (mC (.int 1))) (mCons (mBin oIx (mVar 8) (mC (.int 0))) mNil)))) (L := wipeL L [8]) (M := M2) (fun _ => true) (fun p => (⟨numOf p, t.d + 1, some (keyOf p)⟩ : Tl).v) trivial rows.reverse (fun p hp => by
            obtain ⟨k, n, rfl⟩ := branch_pair (hall p (List.mem_reverse.mp hp))
            refine ⟨_, rfl, rfl, fun _ => ?_⟩
            have j0 : ∀ M, oIx (.tup [.int k, .int n]) (.int 0) M = some (.int k, M) := fun M => ix0
            have j1 : ∀ M, oIx (.tup [.int k, .int n]) (.int 1) M = some (.int n, M) := fun M => ix1
            show mTup _ _ _ = some (.ok (.tup [.int n, .int (t.d + 1), .int k]) M2)
            rw [← hLL]
            simp [wipeL, loL, t1, j0, j1])
          rw [List.filter_eq_self.mpr (fun _ _ => rfl), hys] at hl
          have hlc := lc_at hi hl (by simp [hkl2]; omega)
          have w3 : (M2 ++ [Ob.lst ((kids B t).map Tl.v).reverse])[wt]? = some (.lst ((rest.map Tl.v).reverse)) := get_app w2
          have hx := extend_at (d := .ref M2.length) w3 (by show (match (M2 ++ [Ob.lst ((kids B t).map Tl.v).reverse])[M2.length]? with | some (.lst xs) => some xs | _ => none) = _; rw [get_new]) (by simp [hkl2]; omega)
          refine .inr ⟨hmem, by unfold okT; rw [hblk, hbb, hkey, hlf, hpr, decide_eq_true h2]; rfl, some t.v, some blk, some (.int (leastOf w t.n)), (M2 ++ [Ob.lst ((kids B t).map Tl.v).reverse]).set wt (.lst ((rest.map Tl.v).reverse ++ ((kids B t).map Tl.v).reverse)), aput N t.n (.bl true), ?_, ⟨(k2.more _).set s.wt_ _, s.dp_, s.nm_, s.wt_, s.ne, ?_, ?_, ?_, keys2, nd2, sub2, fun x hx => ?_⟩⟩
          · rw [hLL]
            simp [lo7, v4, v6, bk, hkl, b1', h3, w2, hlc, hx]
          · rw [hlf, if_neg Bool.false_ne_true, get_set_ne (Ne.symm s.ne)]
            exact get_app d2
          · rw [get_set_ne (Ne.symm nw_ne)]
            exact get_app n2
          · rw [List.map_append, List.reverse_append]
            exact get_set_eq w3
          · intro hxk
            rcases List.mem_append.mp hx with hx | hx
            · rw [hkids] at hx
              obtain ⟨p, hp, rfl⟩ := List.mem_map.mp hx
              have hpb := hall p hp
              obtain ⟨k, n, rfl⟩ := branch_pair hpb
              have : (keyB (.int k) && posB (.int n)) = true := hpb
              rw [Bool.and_eq_true] at this
              exact of_decide_eq_true this.2
            · exact s.pos x (List.mem_cons_of_mem _ hx) hxk
theorem okT_kids {B : List (Int × D)} {w : Int} {t : Tl} (h : okT B w t = true) : ((kids B t).length : Int) ≤ max w 0 := by
  unfold okT at h
  rw [Bool.and_eq_true] at h
  obtain ⟨leaf, rows, _, _, hpr, _, _, hge⟩ := block_parts h.1
  unfold kids
  split
  · simp
    omega
  · rw [List.length_map, hpr]
    omega
theorem WS.inv {B : List (Int × D)} {w : Int} {t : Tl} {rest vs : List Tl} (h : WS B w (t :: rest) vs) : ∃ vs', vs = t :: vs' ∧ okT B w t = true ∧ WS B w (kids B t ++ rest) vs' := by
  cases h with
  | step h1 h2 => exact ⟨_, rfl, h1, h2⟩
theorem lo_loop {b dp nm wt : Nat} {w : Int} {x8 : Option D} {B : List (Int × D)} (hb : M[b]? = some (.dct B)) (hL : ∀ M', Kp M M' → Look M' B) (hw : 3 ≤ w ∧ w ≤ 64) (hB : B.length ≤ 10000) : ∀ (m : Nat) (S : List Tl) (ds nums : List Int) (N : List (Int × D)) (M' : Mem) (x5 x6 x7 : Option D),
    B.length + 1 ≤ nums.length + m → S.length ≤ 1 + 64 * nums.length → ds.length ≤ nums.length → LoS M M' B dp nm wt S ds nums N →
    ∃ r, whileF loT loB m (loL b w dp nm wt x5 x6 x7 x8) M' = some r ∧
      ((∃ vs, WS B w S vs ∧ (nums ++ vs.map (·.n)).Nodup ∧ ∃ y5 y6 y7 M'' N', r = (.nx (loL b w dp nm wt y5 y6 y7 x8), M'') ∧ LoS M M'' B dp nm wt [] (ds ++ depths B vs) (nums ++ vs.map (·.n)) N') ∨
       ((∀ vs, WS B w S vs → ¬ (nums ++ vs.map (·.n)).Nodup) ∧ ∃ M'', r = (.rt .non, M'') ∧ Kp M M''))
  | 0, S, ds, nums, N, M', x5, x6, x7, hm, hS, hd, s => by
    have := nodup_len s.nd s.sub
    simp at this
    omega
  | m + 1, S, ds, nums, N, M', x5, x6, x7, hm, hS, hd, s => by
    have ht := lo_test (b := b) (dp := dp) (nm := nm) (w := w) (x5 := x5) (x6 := x6) (x7 := x7) (x8 := x8) s.w
    unfold whileF
    rw [ht]
    cases S with
    | nil =>
      refine ⟨_, rfl, .inl ⟨[], .nil, by simpa using s.nd, x5, x6, x7, M', N, rfl, ?_⟩⟩
      simpa [depths] using s
    | cons t rest =>
      have hlen := nodup_len s.nd s.sub
      simp at hlen hS
      rcases lo_step (w := w) (x5 := x5) (x6 := x6) (x7 := x7) (x8 := x8) hb s hL ⟨hw.1, by omega⟩ (by omega) (by omega) (by omega) with ⟨h1, M'', hk, e⟩ | ⟨h1, h2, y5, y6, y7, M'', N', e, s'⟩
      · refine ⟨(.rt .non, M''), ?_, .inr ⟨fun vs hv hnd => ?_, M'', rfl, hk⟩⟩
        · dsimp only [bndS, List.isEmpty, Bool.not_false]
          rw [if_pos (show (!false) = true from rfl), e]
        · obtain ⟨vs', rfl, ho, _⟩ := hv.inv
          rcases h1 with h1 | h1
          · rw [List.map_cons, List.nodup_append] at hnd
            exact hnd.2.2 _ h1 _ List.mem_cons_self rfl
          · rw [ho] at h1
            cases h1
      · have hkl := okT_kids h2
        have hle2 : (if leafB (blkOf B t.n) = true then ds ++ [t.d] else ds).length ≤ (nums ++ [t.n]).length := by
          split
          · simp; omega
          · simp; omega
        obtain ⟨r, e2, h3⟩ := lo_loop hb hL hw hB m (kids B t ++ rest) _ (nums ++ [t.n]) N' M'' y5 y6 y7 (by simp; omega) (by simp; omega) hle2 s'
        refine ⟨r, ?_, ?_⟩
        · dsimp only [bndS, List.isEmpty, Bool.not_false]
          rw [if_pos (show (!false) = true from rfl), e]
          exact e2
        · rcases h3 with ⟨vs, v1, v2, z5, z6, z7, M3, N3, hr, hs⟩ | ⟨v1, M3, hr, hk⟩
          · refine .inl ⟨t :: vs, .step h2 v1, by simpa using v2, z5, z6, z7, M3, N3, hr, ?_⟩
            have ed : (if leafB (blkOf B t.n) = true then ds ++ [t.d] else ds) ++ depths B vs = ds ++ depths B (t :: vs) := by
              unfold depths
              by_cases hf : leafB (blkOf B t.n) = true
              · rw [if_pos hf, List.filter_cons_of_pos (by simpa using hf)]
                simp
              · rw [if_neg hf, List.filter_cons_of_neg (by simpa using hf)]
            rw [ed] at hs
            simpa using hs
          · refine .inr ⟨fun vs hv hnd => ?_, M3, hr, hk⟩
            obtain ⟨vs', rfl, ho, hv'⟩ := hv.inv
            exact v1 vs' hv' (by simpa using hnd)
/-- leaves_of -/
theorem p_leaves {b : Nat} {w : Int} {B : List (Int × D)} (hb : M[b]? = some (.dct B)) (hL : ∀ M', Kp M M' → Look M' B) (hw : 3 ≤ w ∧ w ≤ 64) (hB : B.length ≤ 10000) :
    (∃ vs dp nm M' N, WS B w [⟨0, 0, none⟩] vs ∧ (vs.map (·.n)).Nodup ∧ g_leaves_of [.ref b, .int w] M = some (.ok (.tup [.ref dp, .ref nm]) M') ∧ Kp M M' ∧ M'[dp]? = some (.lst ((depths B vs).map .int)) ∧ M'[nm]? = some (.dct N) ∧ N.length = vs.length) ∨
    ((∀ vs, WS B w [⟨0, 0, none⟩] vs → ¬ (vs.map (·.n)).Nodup) ∧ ∃ M', g_leaves_of [.ref b, .int w] M = some (.ok .non M') ∧ Kp M M') := by
  generalize hM1 : M ++ [Ob.lst [], .dct [], .lst [.tup [.int 0, .int 0, .non]]] = M1
  have s0 : LoS M M1 B M.length (M.length + 1) (M.length + 2) [⟨0, 0, none⟩] [] [] [] := by
    rw [← hM1]
    exact ⟨Kp.app _ _, by omega, by omega, by omega, by omega, get_at, get_plus 1, get_plus 2, rfl, List.nodup_nil, fun x hx => by (cases hx), fun t ht hk => by
      have : t = ⟨0, 0, none⟩ := by simpa using ht
      subst this
      exact absurd rfl hk⟩
  obtain ⟨r, e, h⟩ := lo_loop (x8 := none) hb hL hw hB (B.length + 1) [⟨0, 0, none⟩] [] [] [] M1 none none none (by simp) (by simp) (by simp) s0
  have e2 : b_leaves_of_3 (loL b w M.length (M.length + 1) (M.length + 2) none none none none) M1 = some r := by rw [lo_eq]; exact mWhile_of e
  have e0 : mSeq b_leaves_of_0 (mSeq b_leaves_of_1 b_leaves_of_2) ([some (.ref b), some (.int w)] ++ List.replicate (9 - 2) none) M = some (.nx (loL b w M.length (M.length + 1) (M.length + 2) none none none none), M1) := by
    rw [← hM1]
    simp [b_leaves_of_0, b_leaves_of_1, b_leaves_of_2, loL]
  simp only [g_leaves_of, ev_def2]
  rcases h with ⟨vs, v1, v2, y5, y6, y7, M2, N2, rfl, hs⟩ | ⟨v1, M2, rfl, hk⟩
  · refine .inl ⟨vs, M.length, M.length + 1, M2, N2, v1, by simpa using v2, ?_, hs.kp, by simpa using hs.d, hs.n, ?_⟩
    · rw [b_leaves_of, seq3 e0, seq_step e2]
      simp [b_leaves_of_4, loL]
    · have := congrArg List.length hs.keys
      simpa using this
  · refine .inr ⟨fun vs hv hn => v1 vs hv (by simpa using hn), M2, ?_, hk⟩
    rw [b_leaves_of, seq3 e0, ev_seq, e2]
    rfl
end BP
/-! BLSound: listed, sound. -/
namespace BP
open BL
open PySem (Str)
variable {M : Mem}
noncomputable def liT : GT := mT (mBin oGt (mCB oLen (mCons (mVar 2) mNil)) (mC (.int 0)))
noncomputable def li1 : GS := mSet 3 (mBin oIx (mVar 0) (mMtL oPop0 (mVar 2) mNil))
noncomputable def li2 : GS := mIte (mT (mBin oEq (mBin oIx (mVar 3) (mC (.int 0))) (mC (.str "leaf")))) (mExpr (mMtL oExtend (mVar 1) (mCons (mBin oIx (mVar 3) (mC (.int 1))) mNil))) (mExpr (mMtL oExtend (mVar 2) (mCons (mLc (mRev (mBin oIx (mVar 3) (mC (.int 1)))) (mName 4) mYes (mBin oIx (mVar 4) (mC (.int 1))) [4]) mNil)))
noncomputable def liB : GS := mSeq li1 li2
theorem li_eq : b_listed_2 = mWhile liT liB := rfl
theorem intsOf_map : ∀ ns : List Int, intsOf (ns.map D.int) = some ns
  | [] => rfl
  | n :: ns => by
    rw [List.map_cons, intsOf, intsOf_map ns]
/-- a leaf's rows -/
def rowsT (B : List (Int × D)) (t : Tl) : List D := if leafB (blkOf B t.n) = true then pairsOf (blkOf B t.n) else []
def rowsW (B : List (Int × D)) (vs : List Tl) : List D := (vs.map (rowsT B)).flatten
theorem okT_block {B : List (Int × D)} {w : Int} {t : Tl} (h : okT B w t = true) : ∃ (leaf : Bool) (rows : List D), aget B t.n = some (.tup [.str (if leaf = true then leafS else branchS), .tup rows]) ∧ leafB (blkOf B t.n) = leaf ∧ pairsOf (blkOf B t.n) = rows ∧ rowB leaf rows = true ∧ leastOf w t.n ≤ rows.length ∧ (rows.length : Int) ≤ w ∧ keyOk B t = true ∧ (leaf = false → 2 ≤ rows.length) := by
  unfold okT at h
  rw [Bool.and_eq_true, Bool.and_eq_true] at h
  obtain ⟨hb, hk, h2⟩ := h
  obtain ⟨leaf, rows, hd, hl, hp, hr, h3, h4⟩ := block_parts hb
  refine ⟨leaf, rows, ?_, hl, hp, hr, h3, h4, hk, fun e => ?_⟩
  · cases hg : aget B t.n with
    | none =>
      unfold blkOf at hd
      rw [hg] at hd
      cases hd
    | some d =>
      unfold blkOf at hd
      rw [hg] at hd
      exact congrArg some hd
  · rw [hl, hp, e] at h2
    simpa using h2
structure LiS (M M' : Mem) (fd wt : Nat) (S : List Tl) (F : List D) : Prop where
  kp : Kp M M'
  fd_ : M.length ≤ fd
  wt_ : M.length ≤ wt
  ne : fd ≠ wt
  f : M'[fd]? = some (.lst F)
  w : M'[wt]? = some (.lst ((S.map fun t => D.int t.n).reverse))
abbrev liL (b fd wt : Nat) (x3 x4 : Option D) : BL.Loc := [some (.ref b), some (.ref fd), some (.ref wt), x3, x4]
theorem li_loop {b fd wt : Nat} {w : Int} {x4 : Option D} {B : List (Int × D)} (hb : M[b]? = some (.dct B)) (hw : w ≤ 64) {S vs : List Tl} (h : WS B w S vs) : ∀ (F : List D) (M' : Mem) (x3 : Option D), LiS M M' fd wt S F → F.length + 64 * vs.length ≤ 1000000 → S.length + 64 * vs.length ≤ 1000000 →
    ∃ n y3 M'', whileF liT liB n (liL b fd wt x3 x4) M' = some (.nx (liL b fd wt y3 x4), M'') ∧ LiS M M'' fd wt [] (F ++ rowsW B vs) := by
  induction h with
  | nil =>
    intro F M' x3 s _ _
    have hl := len_lst s.w
    refine ⟨1, x3, M', ?_, by simpa [rowsW] using s⟩
    unfold whileF
    simp at hl
    simp [liT, liL, hl]
  | @step t rest vs ho hv ih =>
    intro F M' x3 s hF hS
    obtain ⟨leaf, rows, hg, hlf, hpr, hrow, _, hge, _, h2⟩ := okT_block ho
    have hl := len_lst s.w
    have hwt : M'[wt]? = some (.lst ((rest.map fun t => D.int t.n).reverse ++ [.int t.n])) := by rw [s.w]; simp
    have hpop := pop0_lst hwt
    generalize hM1 : M'.set wt (Ob.lst ((rest.map fun t => D.int t.n).reverse)) = M1 at hpop
    have k1 : Kp M M1 := by rw [← hM1]; exact s.kp.set s.wt_ _
    have w1 : M1[wt]? = some (.lst ((rest.map fun t => D.int t.n).reverse)) := by rw [← hM1]; exact get_set_eq hwt
    have f1 : M1[fd]? = some (.lst F) := by rw [← hM1, get_set_ne (Ne.symm s.ne)]; exact s.f
    generalize hblk : D.tup [.str (if leaf = true then leafS else branchS), .tup rows] = blk at hg
    have hix := ix_dct (k1.get hb) hg
    have bk : ∀ M, oIx blk (.int 0) M = some (.str (if leaf = true then leafS else branchS), M) := fun M => by rw [← hblk]; exact ix0
    have bk1 : ∀ M, oIx blk (.int 1) M = some (.tup rows, M) := fun M => by rw [← hblk]; exact ix1
    have e1 : li1 (liL b fd wt x3 x4) M' = some (.nx (liL b fd wt (some blk) x4), M1) := by
      simp [li1, liL, hwt, hpop, hix]
    have hkl := kind_leaf (M := M1) (leaf := leaf)
    have hall := ((rowB_iff leaf rows).mp hrow).1
    have hrl : rows.length ≤ 64 := by omega
    simp only [List.length_cons] at hF hS
    have htest : liT (liL b fd wt x3 x4) M' = some (.ok true M') := by
      simp at hl
      have h3 : (0 : Int) < (rest.length : Int) + 1 := by omega
      simp [liT, liL, hl, h3]
    cases leaf with
    | true =>
      simp only [if_true] at hkl bk
      have hkids : kids B t = [] := by unfold kids; rw [hlf, if_pos rfl]
      have hrt : rowsT B t = rows := by unfold rowsT; rw [hlf, if_pos rfl, hpr]
      have hx := extend_at (d := .tup rows) f1 (es := rows) rfl (by omega)
      have e2 : li2 (liL b fd wt (some blk) x4) M1 = some (.nx (liL b fd wt (some blk) x4), M1.set fd (.lst (F ++ rows))) := by
        simp [li2, liL, bk, hkl, bk1, f1, hx]
      rw [hkids, List.nil_append] at ih
      obtain ⟨n, y3, M2, e3, s3⟩ := ih (F ++ rows) (M1.set fd (.lst (F ++ rows))) (some blk) ⟨k1.set s.fd_ _, s.fd_, s.wt_, s.ne, get_set_eq f1, by rw [get_set_ne s.ne]; exact w1⟩ (by rw [List.length_append]; omega) (by omega)
      refine ⟨n + 1, y3, M2, ?_, ?_⟩
      · unfold whileF
        rw [htest]
        dsimp only [bndS]
        rw [if_pos rfl, liB, seq_step e1, e2]
        exact e3
      · have : F ++ rows ++ rowsW B vs = F ++ rowsW B (t :: vs) := by
          unfold rowsW
          rw [List.map_cons, List.flatten_cons, hrt, List.append_assoc]
        rw [← this]
        exact s3
    | false =>
      simp only [Bool.false_eq_true, if_false] at hkl bk
      have hkids : kids B t = rows.map fun p => (⟨numOf p, t.d + 1, some (keyOf p)⟩ : Tl) := by unfold kids; rw [hlf, hpr, if_neg Bool.false_ne_true]
      have hrt : rowsT B t = [] := by unfold rowsT; rw [hlf, if_neg Bool.false_ne_true]
      have hkl2 : (kids B t).length = rows.length := by rw [hkids, List.length_map]
      have hys : (rows.reverse.map fun p => D.int (numOf p)) = ((kids B t).map fun t => D.int t.n).reverse := by rw [hkids, List.map_map, List.map_reverse]; rfl
      generalize hLL : liL b fd wt (some blk) x4 = L
      have v3 : L[3]? = some (some blk) := by rw [← hLL]; rfl
      have v2 : L[2]? = some (some (.ref wt)) := by rw [← hLL]; rfl
      have hi : mRev (mBin oIx (mVar 3) (mC (.int 1))) L M1 = some (.ok (Src.map List.reverse ⟨rows, none⟩) M1) := seq_at _ (by simp [v3, bk1]) src_tup
      have hlc0 := lcG_map (ok := Src.ok (Src.map List.reverse ⟨rows, none⟩)) (g := mName 4) (tt := mYes) (e := mBin oIx (mVar 4) (mC (.int 1))) (L := wipeL L [4]) (M := M1) (fun _ => true) (fun p => D.int (numOf p)) trivial rows.reverse (fun p hp => by
        obtain ⟨k, n, rfl⟩ := branch_pair (hall p (List.mem_reverse.mp hp))
        refine ⟨_, rfl, rfl, fun _ => ?_⟩
        have j1 : ∀ M, oIx (.tup [.int k, .int n]) (.int 1) M = some (.int n, M) := fun M => ix1
        rw [← hLL]
        simp [wipeL, liL, j1, numOf])
      rw [List.filter_eq_self.mpr (fun _ _ => rfl), hys] at hlc0
      have hlc := lc_at hi hlc0 (by simp [hkl2]; omega)
      have w3 : (M1 ++ [Ob.lst ((kids B t).map fun t => D.int t.n).reverse])[wt]? = some (.lst ((rest.map fun t => D.int t.n).reverse)) := get_app w1
      have hx := extend_at (d := .ref M1.length) w3 (by show (match (M1 ++ [Ob.lst ((kids B t).map fun t => D.int t.n).reverse])[M1.length]? with | some (.lst xs) => some xs | _ => none) = _; rw [get_new]) (by simp [hkl2]; omega)
      have e2 : li2 L M1 = some (.nx L, (M1 ++ [Ob.lst ((kids B t).map fun t => D.int t.n).reverse]).set wt (.lst ((rest.map fun t => D.int t.n).reverse ++ ((kids B t).map fun t => D.int t.n).reverse))) := by
        simp [li2, v2, v3, bk, hkl, bk1, w1, hlc, hx]
      obtain ⟨n, y3, M2, e3, s3⟩ := ih F ((M1 ++ [Ob.lst ((kids B t).map fun t => D.int t.n).reverse]).set wt (.lst ((rest.map fun t => D.int t.n).reverse ++ ((kids B t).map fun t => D.int t.n).reverse))) (some blk)
        ⟨(k1.more _).set s.wt_ _, s.fd_, s.wt_, s.ne, by rw [get_set_ne (Ne.symm s.ne)]; exact get_app f1, by rw [List.map_append, List.reverse_append]; exact get_set_eq w3⟩ (by omega) (by rw [List.length_append]; omega)
      refine ⟨n + 1, y3, M2, ?_, ?_⟩
      · unfold whileF
        rw [htest]
        dsimp only [bndS]
        rw [if_pos rfl, liB, seq_step e1, hLL, e2]
        dsimp only
        rw [← hLL]
        exact e3
      · have : F ++ rowsW B vs = F ++ rowsW B (t :: vs) := by
          unfold rowsW
          rw [List.map_cons, List.flatten_cons, hrt, List.nil_append]
        rw [← this]
        exact s3
theorem p_listed {b : Nat} {w : Int} {B : List (Int × D)} {vs : List Tl} (hb : M[b]? = some (.dct B)) (hw : w ≤ 64) (h : WS B w [⟨0, 0, none⟩] vs) (hl : vs.length ≤ 10000) :
    ∃ r M', g_listed [.ref b] M = some (.ok (.ref r) M') ∧ Kp M M' ∧ M.length ≤ r ∧ M'[r]? = some (.lst (rowsW B vs)) := by
  obtain ⟨n, y3, M2, e, s⟩ := li_loop (b := b) (fd := M.length) (wt := M.length + 1) (x4 := none) hb hw h [] (M ++ [Ob.lst [], .lst [.int 0]]) none ⟨Kp.app _ _, by omega, by omega, by omega, get_at, get_plus 1⟩ (by simp; omega) (by simp; omega)
  have e2 : b_listed_2 (liL b M.length (M.length + 1) none none) (M ++ [Ob.lst [], .lst [.int 0]]) = some (.nx (liL b M.length (M.length + 1) y3 none), M2) := by rw [li_eq]; exact mWhile_of e
  have e0 : mSeq b_listed_0 b_listed_1 ([some (.ref b)] ++ List.replicate (5 - 1) none) M = some (.nx (liL b M.length (M.length + 1) none none), M ++ [Ob.lst [], .lst [.int 0]]) := by
    simp [b_listed_0, b_listed_1, liL]
  refine ⟨M.length, M2, ?_, s.kp, Nat.le_refl _, by simpa using s.f⟩
  simp only [g_listed, ev_def1]
  rw [b_listed, seq2 e0, seq_step e2]
  simp [b_listed_3, liL]
/-- rising -/
def rise (ks : List Int) : Prop := ∀ (k : Nat) (a b : Int), ks[k]? = some a → ks[k + 1]? = some b → a < b
def keysW (B : List (Int × D)) (vs : List Tl) : List Int := (rowsW B vs).map keyOf
structure SoundP (B : List (Int × D)) (w : Int) (vs : List Tl) : Prop where
  ws : WS B w [⟨0, 0, none⟩] vs
  nd : (vs.map (·.n)).Nodup
  all : vs.length = B.length
  flat : (dist (depths B vs)).length = 1
  up : rise (keysW B vs)
theorem WS.det {B : List (Int × D)} {w : Int} {S vs vs' : List Tl} (h : WS B w S vs) (h' : WS B w S vs') : vs = vs' := by
  induction h generalizing vs' with
  | nil =>
    cases h'
    rfl
  | step ho hv ih =>
    obtain ⟨u, rfl, _, h2⟩ := h'.inv
    rw [ih h2]
theorem WS.ok {B : List (Int × D)} {w : Int} {S vs : List Tl} (h : WS B w S vs) : ∀ t ∈ vs, okT B w t = true := by
  induction h with
  | nil =>
    intro t ht
    cases ht
  | step ho hv ih =>
    intro t ht
    rcases List.mem_cons.mp ht with rfl | ht
    · exact ho
    · exact ih t ht
theorem rowsW_pair {B : List (Int × D)} {w : Int} {S vs : List Tl} (h : WS B w S vs) : ∀ p ∈ rowsW B vs, pairB true p = true := fun p hp => by
  unfold rowsW at hp
  obtain ⟨r, hr, hpr⟩ := List.mem_flatten.mp hp
  obtain ⟨t, ht, rfl⟩ := List.mem_map.mp hr
  obtain ⟨leaf, rows, _, hl, hq, hrow, _⟩ := okT_block (h.ok t ht)
  unfold rowsT at hpr
  split at hpr
  · rename_i hlf
    rw [hl] at hlf
    rw [hq] at hpr
    rw [hlf] at hrow
    exact ((rowB_iff true rows).mp hrow).1 p hpr
  · cases hpr
theorem rowsW_len {B : List (Int × D)} {w : Int} (hw : w ≤ 64) {S vs : List Tl} (h : WS B w S vs) : (rowsW B vs).length ≤ 64 * vs.length := by
  induction h with
  | nil => simp [rowsW]
  | @step t rest vs ho hv ih =>
    unfold rowsW at ih ⊢
    rw [List.map_cons, List.flatten_cons, List.length_append, List.length_cons]
    have : (rowsT B t).length ≤ 64 := by
      obtain ⟨leaf, rows, _, hl, hq, _, _, hge, _⟩ := okT_block ho
      unfold rowsT
      split
      · rw [hq]
        omega
      · simp
    omega
theorem p_sound {b : Nat} {w : Int} {B : List (Int × D)} (hb : M[b]? = some (.dct B)) (hL : ∀ M', Kp M M' → Look M' B) (hw : 3 ≤ w ∧ w ≤ 64) (hB : B.length ≤ 4000) :
    ∃ r M', g_sound [.ref b, .int w] M = some (.ok (.bl r) M') ∧ Kp M M' ∧ (r = true ↔ ∃ vs, SoundP B w vs) := by
  simp only [g_sound, b_sound, ev_def2]
  rcases p_leaves hb hL hw (by omega) with ⟨vs, dp, nm, M1, N, v1, v2, e, k1, d1, n1, lN⟩ | ⟨v1, M1, e, k1⟩
  · have e0 : b_sound_0 ([some (.ref b), some (.int w)] ++ List.replicate (6 - 2) none) M = some (.nx [some (.ref b), some (.int w), some (.tup [.ref dp, .ref nm]), none, none, none], M1) := by
      simp [b_sound_0, e]
    rw [seq_step e0]
    have j0 : ∀ M, oIx (.tup [.ref dp, .ref nm]) (.int 0) M = some (.ref dp, M) := fun M => ix0
    have j1 : ∀ M, oIx (.tup [.ref dp, .ref nm]) (.int 1) M = some (.ref nm, M) := fun M => ix1
    have q1 := len_dct n1
    have q2 := len_dct (k1.get hb)
    have uniq : ∀ vs', SoundP B w vs' → vs' = vs := fun vs' h => h.ws.det v1
    by_cases hl : N.length = B.length
    case neg =>
      refine ⟨false, M1, ?_, k1, ⟨fun h => (by cases h), fun ⟨vs', h⟩ => ?_⟩⟩
      · have hl' : ¬ ((N.length : Int) = (B.length : Int)) := by omega
        simp [b_sound_1, isNon, j1, q1, q2, hl']
      · have := uniq vs' h
        subst this
        exact absurd (lN.trans h.all) hl
    case pos =>
    have hl' : ((N.length : Int) = (B.length : Int)) := by omega
    have dlen : (depths B vs).length ≤ 4000 := by
      unfold depths
      rw [List.length_map]
      have := List.length_filter_le (fun t : Tl => leafB (blkOf B t.n)) vs
      omega
    have q3 : oLenSet (.ref dp) M1 = some (.int ((dist (depths B vs)).length : Int), M1) := by
      unfold oLenSet
      dsimp only
      rw [d1]
      dsimp only
      rw [intsOf_map]
      dsimp only
      exact if_pos dlen
    by_cases hd : (dist (depths B vs)).length = 1
    case neg =>
      refine ⟨false, M1, ?_, k1, ⟨fun h => (by cases h), fun ⟨vs', h⟩ => ?_⟩⟩
      · have hd' : ¬ (((dist (depths B vs)).length : Int) = 1) := by omega
        simp [b_sound_1, isNon, j0, j1, q1, q2, hl', q3, hd']
      · have := uniq vs' h
        subst this
        exact absurd h.flat hd
    case pos =>
    have e1 : b_sound_1 [some (.ref b), some (.int w), some (.tup [.ref dp, .ref nm]), none, none, none] M1 = some (.nx [some (.ref b), some (.int w), some (.tup [.ref dp, .ref nm]), none, none, none], M1) := by
      have hd' : (((dist (depths B vs)).length : Int) = 1) := by omega
      simp [b_sound_1, isNon, j0, j1, q1, q2, hl', q3, hd']
    rw [seq_step e1]
    obtain ⟨r, M2, e2, k2, _, r2⟩ := p_listed (k1.get hb) hw.2 v1 (by omega)
    have klen : (keysW B vs).length = (rowsW B vs).length := by unfold keysW; rw [List.length_map]
    have rlen := rowsW_len hw.2 v1
    have hi : mIter (mCall g_listed (mCons (mVar 0) mNil)) [some (.ref b), some (.int w), some (.tup [.ref dp, .ref nm]), none, none, none] M1 = some (.ok (Src.map (fun ds => ds) ⟨rowsW B vs, some (r, rowsW B vs)⟩) M2) := seq_at _ (by simp [e2]) (src_lst r2)
    have hlc0 := lcG_map (ok := Src.ok (Src.map (fun ds => ds) ⟨rowsW B vs, some (r, rowsW B vs)⟩)) (g := mName 5) (tt := mYes) (e := mBin oIx (mVar 5) (mC (.int 0))) (L := wipeL [some (.ref b), some (.int w), some (.tup [.ref dp, .ref nm]), none, none, none] [5]) (M := M2) (fun _ => true) (fun p => D.int (keyOf p)) r2 (rowsW B vs) (fun p hp => by
      obtain ⟨k, v, rfl⟩ := pair_of (rowsW_pair v1 p hp)
      refine ⟨_, rfl, rfl, fun _ => ?_⟩
      have i0 : ∀ M, oIx (.tup [.int k, v]) (.int 0) M = some (.int k, M) := fun M => ix0
      simp [wipeL, i0, keyOf])
    rw [List.filter_eq_self.mpr (fun _ _ => rfl), show (rowsW B vs).map (fun p => D.int (keyOf p)) = (keysW B vs).map .int by unfold keysW; rw [List.map_map]; rfl] at hlc0
    have hlc := lc_at hi hlc0 (by rw [List.length_map]; omega)
    have e3 : b_sound_2 [some (.ref b), some (.int w), some (.tup [.ref dp, .ref nm]), none, none, none] M1 = some (.nx [some (.ref b), some (.int w), some (.tup [.ref dp, .ref nm]), some (.ref M2.length), none, none], M2 ++ [.lst ((keysW B vs).map .int)]) := by
      rw [b_sound_2, ev_set, hlc]
      simp
    rw [seq_step e3]
    generalize hks : keysW B vs = ks at *
    have r3 : (M2 ++ [Ob.lst (ks.map .int)])[M2.length]? = some (.lst (ks.map .int)) := get_new
    have k3 : Kp M (M2 ++ [Ob.lst (ks.map .int)]) := (k1.trans k2).more _
    generalize hr3 : M2.length = q at *
    generalize M2 ++ [Ob.lst (ks.map .int)] = M3 at *
    have q4 := len_lst r3
    rw [List.length_map] at q4
    have hi2 : mRange2 (mC (.int 1)) (mCB oLen (mCons (mVar 3) mNil)) [some (.ref b), some (.int w), some (.tup [.ref dp, .ref nm]), some (.ref q), none, none] M3 = some (.ok ⟨rng 1 (ks.length - 1), none⟩ M3) := by
      rw [range2_int (i := 1) (j := (ks.length : Int)) (M1 := M3) (M2 := M3) (by simp) (by simp [q4]) ⟨by decide, by constructor <;> omega⟩]
      have : ((ks.length : Int) - 1).toNat = ks.length - 1 := by omega
      rw [this]
    obtain ⟨z, e4, hz⟩ := forG_gen (ok := Src.ok ⟨rng 1 (ks.length - 1), none⟩) (g := mName 4) (body := mIte (mT (mBin oLe (mBin oIx (mVar 3) (mVar 4)) (mBin oIx (mVar 3) (mBin oSub (mVar 4) (mC (.int 1)))))) (mRet (mC (.bl false))) mSkip)
      (fun z => (rise ks ∧ ∃ L, z = (.nx L, M3)) ∨ (¬ rise ks ∧ z = (.rt (.bl false), M3)))
      (fun k L M' => M' = M3 ∧ (∃ y, L = [some (.ref b), some (.int w), some (.tup [.ref dp, .ref nm]), some (.ref q), y, none]) ∧ ∀ (j : Nat) (a c : Int), j < k → ks[j]? = some a → ks[j + 1]? = some c → a < c) (rng 1 (ks.length - 1))
      (fun k L M' d hd ⟨hM, ⟨y, hLy⟩, hup⟩ => by
        subst hM hLy
        obtain ⟨rfl, hk⟩ := rng_get hd
        refine ⟨ok_non, _, rfl, ?_⟩
        have a1 : oIx (.ref q) (.int (1 + (k : Int))) M' = some (.int ks[k + 1], M') := ix_lst r3 (by
          rw [show (1 + (k : Int)) = ((k + 1 : Nat) : Int) by omega, atI_nat, List.getElem?_map, List.getElem?_eq_getElem (by omega)]
          rfl)
        have a2 : oIx (.ref q) (.int (1 + (k : Int) - 1)) M' = some (.int ks[k], M') := ix_lst r3 (by
          rw [show (1 + (k : Int) - 1) = ((k : Nat) : Int) by omega, atI_nat, List.getElem?_map, List.getElem?_eq_getElem (by omega)]
          rfl)
        have g1 : ks[k]? = some ks[k] := List.getElem?_eq_getElem (by omega)
        have g2 : ks[k + 1]? = some ks[k + 1] := List.getElem?_eq_getElem (by omega)
        by_cases hle : ks[k + 1] ≤ ks[k]
        · exact ⟨(.rt (.bl false), M'), by simp [a1, a2, hle], .inr ⟨fun h => absurd (h k _ _ g1 g2) (by omega), rfl⟩⟩
        · refine ⟨(.nx [some (.ref b), some (.int w), some (.tup [.ref dp, .ref nm]), some (.ref q), some (.int (1 + (k : Int))), none], M'), by simp [a1, a2, hle], rfl, ⟨_, rfl⟩, fun j a c hj ha hc => ?_⟩
          by_cases e : j = k
          · subst e
            rw [g1] at ha
            rw [g2] at hc
            cases ha
            cases hc
            omega
          · exact hup j a c (by omega) ha hc)
      (fun L M' ⟨hM, ⟨y, hLy⟩, hup⟩ => by
        subst hM hLy
        rw [rng_length] at hup
        refine ⟨ok_non, .inl ⟨fun j a c ha hc => hup j a c ?_ ha hc, _, rfl⟩⟩
        have := (List.getElem?_eq_some_iff.mp hc).1
        omega) (L := [some (.ref b), some (.int w), some (.tup [.ref dp, .ref nm]), some (.ref q), none, none]) (M := M3) ⟨rfl, ⟨_, rfl⟩, fun j a c hj => by omega⟩
    have e5 : b_sound_3 [some (.ref b), some (.int w), some (.tup [.ref dp, .ref nm]), some (.ref q), none, none] M3 = some z := by
      rw [b_sound_3, for_at hi2]
      exact e4
    rcases hz with ⟨hup, L, rfl⟩ | ⟨hup, rfl⟩
    · refine ⟨true, M3, ?_, k3, ⟨fun _ => ⟨vs, v1, v2, by omega, hd, by rw [hks]; exact hup⟩, fun _ => rfl⟩⟩
      rw [seq_step e5]
      simp [b_sound_4]
    · refine ⟨false, M3, ?_, k3, ⟨fun h => (by cases h), fun ⟨vs', h⟩ => ?_⟩⟩
      · rw [ev_seq, e5]
        rfl
      · have := uniq vs' h
        subst this
        rw [← hks] at hup
        exact absurd h.up hup
  · have e0 : b_sound_0 ([some (.ref b), some (.int w)] ++ List.replicate (6 - 2) none) M = some (.nx [some (.ref b), some (.int w), some .non, none, none, none], M1) := by
      simp [b_sound_0, e]
    rw [seq_step e0]
    refine ⟨false, M1, by simp [b_sound_1, isNon], k1, ⟨fun h => (by cases h), fun ⟨vs, h⟩ => absurd h.nd (v1 vs h.ws)⟩⟩
end BP
/-! BLMake: trees put together. -/
namespace BP
open BL
open PySem (Str)
variable {M : Mem}
theorem WS.append {B : List (Int × D)} {w : Int} {s1 v1 : List Tl} (h : WS B w s1 v1) {s2 v2 : List Tl} (h2 : WS B w s2 v2) : WS B w (s1 ++ s2) (v1 ++ v2) := by
  induction h with
  | nil => exact h2
  | step ho hv ih =>
    rw [List.append_assoc] at ih
    exact .step ho ih
theorem WS.split {B : List (Int × D)} {w : Int} {s v : List Tl} (h : WS B w s v) : ∀ {s1 s2 : List Tl}, s = s1 ++ s2 → ∃ v1 v2, v = v1 ++ v2 ∧ WS B w s1 v1 ∧ WS B w s2 v2 := by
  induction h with
  | nil =>
    intro s1 s2 e
    obtain ⟨rfl, rfl⟩ := List.append_eq_nil_iff.mp e.symm
    exact ⟨[], [], rfl, .nil, .nil⟩
  | @step t rest vs ho hv ih =>
    intro s1 s2 e
    cases s1 with
    | nil =>
      rw [List.nil_append] at e
      subst e
      exact ⟨[], _, rfl, .nil, .step ho hv⟩
    | cons a s1 =>
      rw [List.cons_append] at e
      obtain ⟨rfl, rfl⟩ := List.cons.inj e
      obtain ⟨v1, v2, rfl, h1, h2⟩ := ih (s1 := kids B t ++ s1) (s2 := s2) (by rw [List.append_assoc])
      exact ⟨t :: v1, v2, rfl, .step ho h1, h2⟩
/-- the same blocks at the numbers that are met -/
theorem WS.agree {B B' : List (Int × D)} {w : Int} {s v : List Tl} (h : WS B w s v) (e : ∀ t ∈ v, aget B' t.n = aget B t.n) : WS B' w s v := by
  induction h with
  | nil => exact .nil
  | @step t rest vs ho hv ih =>
    have et := e t List.mem_cons_self
    have eb : blkOf B' t.n = blkOf B t.n := by unfold blkOf; rw [et]
    refine .step ?_ ?_
    · unfold okT keyOk at ho ⊢
      rw [eb]
      exact ho
    · have : kids B' t = kids B t := by unfold kids; rw [eb]
      rw [this]
      exact ih fun u hu => e u (List.mem_cons_of_mem _ hu)
theorem rowsW_app {B : List (Int × D)} (a b : List Tl) : rowsW B (a ++ b) = rowsW B a ++ rowsW B b := by
  unfold rowsW
  rw [List.map_append, List.flatten_append]
theorem depths_app {B : List (Int × D)} (a b : List Tl) : depths B (a ++ b) = depths B a ++ depths B b := by
  unfold depths
  rw [List.filter_append, List.map_append]
theorem cut_mid {α : Type} (xs : List α) (a b : Nat) (h : a ≤ b) (hb : b ≤ xs.length) : cutD xs (some (a : Int)) (some (b : Int)) = (xs.drop a).take (b - a) := by
  unfold cutD
  rw [HT.sIx_nat, HT.sIx_nat, Nat.min_eq_left (show a ≤ xs.length by omega), Nat.min_eq_left hb]
/-! ### how many rows -/
theorem many_ok {n w a : Nat} (hw : 3 ≤ w) (h1 : n ≤ a * w) (h2 : (a - 1) * w < n) (ha : 2 ≤ a) : a * ((w + 1) / 2) ≤ n := by
  obtain ⟨c, rfl⟩ : ∃ c, a = c + 2 := ⟨a - 2, by omega⟩
  generalize hh : (w + 1) / 2 = h
  have h3 : 2 * h ≤ w + 1 := by omega
  have h4 : (c + 2) * (2 * h) ≤ (c + 2) * (w + 1) := Nat.mul_le_mul_left _ h3
  have h5 : (c + 2) * (2 * h) = 2 * ((c + 2) * h) := by rw [Nat.mul_left_comm]
  have h6 : (c + 2) * (w + 1) = c * w + c + 2 * w + 2 := by rw [Nat.add_mul, Nat.mul_add]; omega
  have h7 : (c + 2 - 1) * w = c * w + w := by rw [show c + 2 - 1 = c + 1 by omega, Nat.add_mul, Nat.one_mul]
  have h8 : c ≤ c * w := Nat.le_mul_of_pos_right c (by omega)
  omega
theorem ceil_of {n w : Nat} (hw : 0 < w) (hn : w < n) : ∃ a : Nat, -(-(n : Int) / (w : Int)) = (a : Int) ∧ 2 ≤ a ∧ n ≤ a * w ∧ (a - 1) * w < n := by
  generalize he : -(n : Int) / (w : Int) = e
  have h1 := Int.emod_nonneg (-(n : Int)) (show (w : Int) ≠ 0 by omega)
  have h2 := Int.emod_lt_of_pos (-(n : Int)) (show 0 < (w : Int) by omega)
  have h3 := Int.mul_ediv_add_emod (-(n : Int)) (w : Int)
  rw [he] at h3
  have hneg : e < 0 := by
    by_cases hh : 0 ≤ e
    · have := Int.mul_nonneg (show (0 : Int) ≤ (w : Int) by omega) hh
      omega
    · omega
  obtain ⟨a, ha⟩ := Int.eq_ofNat_of_zero_le (show 0 ≤ -e by omega)
  have hea : e = -(a : Int) := by omega
  subst hea
  rw [Int.mul_neg] at h3
  have hc : (w : Int) * (a : Int) = ((a * w : Nat) : Int) := by rw [Int.natCast_mul, Int.mul_comm]
  rw [hc] at h3
  have ha1 : 1 ≤ a := by omega
  have hpred : (a - 1) * w + w = a * w := by
    obtain ⟨c, rfl⟩ : ∃ c, a = c + 1 := ⟨a - 1, by omega⟩
    rw [Nat.add_sub_cancel, Nat.add_mul, Nat.one_mul]
  refine ⟨a, by omega, ?_, by omega, by omega⟩
  by_cases h4 : a = 1
  · subst h4
    omega
  · omega
/-- sizes as even as can be -/
theorem sizes_ok {n m w : Nat} (hm : 0 < m) (h1 : n ≤ m * w) (h2 : m * ((w + 1) / 2) ≤ n) (k : Nat) (hk : k < m) : (w + 1) / 2 ≤ n / m + (if k < n % m then 1 else 0) ∧ n / m + (if k < n % m then 1 else 0) ≤ w := by
  have h3 : (w + 1) / 2 ≤ n / m := (Nat.le_div_iff_mul_le hm).mpr (by rw [Nat.mul_comm]; exact h2)
  have h4 : n / m ≤ w := by
    have := Nat.div_le_div_right (c := m) h1
    rwa [Nat.mul_div_cancel_left w hm] at this
  refine ⟨by omega, ?_⟩
  split
  · rename_i hr
    have h5 : n / m < w := by
      have h6 := Nat.div_add_mod n m
      by_cases h7 : n / m = w
      · rw [h7] at h6
        omega
      · omega
    omega
  · omega
/-- a level cut into rows -/
theorem p_level {p : Nat} {ps : List D} {w : Nat} {c : Int} (hp : M[p]? = some (.lst ps)) (hw : 3 ≤ w ∧ w ≤ 64) (hn : w < ps.length ∧ ps.length ≤ 100000) :
    ∃ (r : Nat) (rows : List (List D)) (M' : Mem), g_law_level [.ref p, .int w, .int c] M = some (.ok (.ref r) M') ∧ Kp M M' ∧ M.length ≤ r ∧ M'[r]? = some (.lst (rows.map .tup)) ∧ rows.flatten = ps ∧ (∀ row ∈ rows, (w + 1) / 2 ≤ row.length ∧ row.length ≤ w) ∧ 2 ≤ rows.length ∧ rows.length < ps.length := by
  generalize hlen : ps.length = n at *
  obtain ⟨a, ea, ha2, ha, ha1⟩ := ceil_of (n := n) (w := w) (by omega) hn.1
  have hb := many_ok hw.1 ha ha1 ha2
  generalize hh : (w + 1) / 2 = h at *
  have hh2 : 2 ≤ h := by omega
  have hbd : a ≤ n / h := (Nat.le_div_iff_mul_le (by omega)).mpr hb
  have q1 := len_lst hp
  rw [hlen] at q1
  have hwi : (0 : Int) < (w : Int) := by omega
  have e0 : b_law_level_0 ([some (.ref p), some (.int w), some (.int c)] ++ List.replicate (10 - 3) none) M = some (.nx [some (.ref p), some (.int w), some (.int c), some (.int a), none, none, none, none, none, none], M) := by
    have hwl : (w : Int) < 1073741824 := by omega
    have hw0 : 0 < w := by omega
    simp [b_law_level_0, q1, hw0, hwl, ea]
  have e1 : b_law_level_1 [some (.ref p), some (.int w), some (.int c), some (.int a), none, none, none, none, none, none] M = some (.nx [some (.ref p), some (.int w), some (.int c), some (.int a), some (.int ((n / h : Nat) : Int)), none, none, none, none, none], M) := by
    have hhi : ((w : Int) + 1) / 2 = (h : Int) := by omega
    have hp1 : (0 : Int) < (h : Int) := by omega
    have hp2 : (h : Int) < 1073741824 := by omega
    have hdiv : (n : Int) / (h : Int) = ((n / h : Nat) : Int) := (Int.natCast_ediv n h).symm
    generalize n / h = b at *
    have hb1 : ¬ ((b : Int) > 1) ∨ (b : Int) > 1 := by omega
    have hmx : (if (b : Int) > 1 then (b : Int) else 1) = (b : Int) := by
      split
      · rfl
      · omega
    have hmx' : (if (1 : Int) < (b : Int) then (b : Int) else 1) = (b : Int) := hmx
    have hp0 : 0 < h := by omega
    simp [b_law_level_1, q1, hhi, hp0, hp2, hdiv]
    omega
  have hbn : n / h * h ≤ n := Nat.div_mul_le_self n h
  generalize n / h = b at *
  obtain ⟨m, hm1, hm2, e2⟩ : ∃ m : Nat, a ≤ m ∧ m ≤ b ∧ b_law_level_2 [some (.ref p), some (.int w), some (.int c), some (.int a), some (.int b), none, none, none, none, none] M = some (.nx [some (.ref p), some (.int w), some (.int c), some (.int a), some (.int b), some (.int m), none, none, none, none], M) := by
    have hp1 : (0 : Int) < (b : Int) - (a : Int) + 1 := by omega
    have c1 := Int.emod_nonneg c (show (b : Int) - (a : Int) + 1 ≠ 0 by omega)
    have c2 := Int.emod_lt_of_pos c hp1
    obtain ⟨m, hm⟩ := Int.eq_ofNat_of_zero_le (show 0 ≤ (a : Int) + c % ((b : Int) - (a : Int) + 1) by omega)
    exact ⟨m, by omega, by omega, by simp [b_law_level_2, hp1, hm]⟩
  have hmw : n ≤ m * w := Nat.le_trans ha (Nat.mul_le_mul_right _ hm1)
  have hmh : m * h ≤ n := Nat.le_trans (Nat.mul_le_mul_right _ hm2) hbn
  have hmpos : 0 < m := by omega
  have hmn : m < n := by
    have : m * 2 ≤ m * h := Nat.mul_le_mul_left _ hh2
    omega
  have hdm := Nat.div_add_mod n m
  have hml : n % m < m := Nat.mod_lt n hmpos
  have hsz := fun k hk => sizes_ok (n := n) (w := w) hmpos hmw (by rw [hh]; exact hmh) k hk
  have cdiv : (n : Int) / (m : Int) = ((n / m : Nat) : Int) := (Int.natCast_ediv n m).symm
  have cmod : (n : Int) % (m : Int) = ((n % m : Nat) : Int) := (Int.natCast_emod n m).symm
  generalize n / m = q at *
  generalize n % m = rr at *
  have hmi : (0 : Int) < (m : Int) := by omega
  have hmi2 : (m : Int) < 1073741824 := by omega
  have e34 : mSeq b_law_level_3 b_law_level_4 [some (.ref p), some (.int w), some (.int c), some (.int a), some (.int b), some (.int m), none, none, none, none] M = some (.nx [some (.ref p), some (.int w), some (.int c), some (.int a), some (.int b), some (.int m), some (.ref M.length), some (.int 0), none, none], M ++ [.lst []]) := by
    simp [b_law_level_3, b_law_level_4]
  have hi : mRange1 (mVar 5) [some (.ref p), some (.int w), some (.int c), some (.int a), some (.int b), some (.int m), some (.ref M.length), some (.int 0), none, none] (M ++ [.lst []]) = some (.ok ⟨rng 0 m, none⟩ (M ++ [.lst []])) := range1_int (j := (m : Int)) (by simp) (by constructor <;> omega)
  obtain ⟨L', M', e5, rows, y, z, rfl, k1, k2, k3, k4, k5⟩ := forG_run (ok := Src.ok ⟨rng 0 m, none⟩) (g := mName 8) (body := mSeq (mSet 9 (mBin oAdd (mBin oDiv (mCB oLen (mCons (mVar 0) mNil)) (mVar 5)) (mCB oInt (mCons (mBin oLt (mVar 8) (mBin oMod (mCB oLen (mCons (mVar 0) mNil)) (mVar 5))) mNil)))) (mSeq (mExpr (mMtL oAppend (mVar 6) (mCons (mCB oTuple (mCons (mSl (mVar 0) (mSome (mVar 7)) (mSome (mBin oAdd (mVar 7) (mVar 9)))) mNil)) mNil))) (mSet 7 (mBin oAdd (mVar 7) (mVar 9)))))
    (fun k L M' => ∃ (rows : List (List D)) (y z : Option D), L = [some (.ref p), some (.int w), some (.int c), some (.int a), some (.int b), some (.int m), some (.ref M.length), some (.int ((k * q + min k rr : Nat) : Int)), y, z] ∧ Kp M M' ∧ M'[M.length]? = some (.lst (rows.map .tup)) ∧ rows.flatten = ps.take (k * q + min k rr) ∧ rows.length = k ∧ ∀ row ∈ rows, h ≤ row.length ∧ row.length ≤ w) (rng 0 m)
    (fun k L M' d hd ⟨rows, y, z, hL, k1, k2, k3, k4, k5⟩ => by
      subst hL
      obtain ⟨rfl, hk⟩ := rng_get hd
      refine ⟨ok_non, _, rfl, ?_⟩
      have hs := hsz k hk
      generalize hsz2 : q + (if k < rr then 1 else 0) = sz at hs
      have hat : (k + 1) * q + min (k + 1) rr = k * q + min k rr + sz := by
        rw [Nat.add_mul, Nat.one_mul]
        split at hsz2 <;> omega
      have hle : k * q + min k rr + sz ≤ n := by
        rw [← hat]
        have : (k + 1) * q ≤ m * q := Nat.mul_le_mul_right _ hk
        omega
      generalize hA : k * q + min k rr = at_ at *
      have q1' := len_lst (k1.get hp)
      rw [hlen] at q1'
      have f1 : mSet 9 (mBin oAdd (mBin oDiv (mCB oLen (mCons (mVar 0) mNil)) (mVar 5)) (mCB oInt (mCons (mBin oLt (mVar 8) (mBin oMod (mCB oLen (mCons (mVar 0) mNil)) (mVar 5))) mNil))) ([some (.ref p), some (.int w), some (.int c), some (.int a), some (.int b), some (.int m), some (.ref M.length), some (.int at_), y, z].set 8 (some (.int (0 + (k : Int))))) M' = some (.nx [some (.ref p), some (.int w), some (.int c), some (.int a), some (.int b), some (.int m), some (.ref M.length), some (.int at_), some (.int k), some (.int sz)], M') := by
        have hm0 : 0 < m := hmpos
        by_cases hkr : k < rr
        · have hz : (q : Int) + 1 = (sz : Int) := by rw [if_pos hkr] at hsz2; omega
          simp [q1', hm0, hmi2, cdiv, cmod, hkr, hz]
        · have hz : (q : Int) = (sz : Int) := by rw [if_neg hkr] at hsz2; omega
          simp [q1', hm0, hmi2, cdiv, cmod, hkr, hz]
      have hs1 : ∀ L M, L[7]? = some (some (D.int (at_ : Int))) → mSome (mVar 7) L M = some (.ok (some (at_ : Int)) M) := fun L M h => ev_some (by simp [h])
      have hs2 : ∀ L M, L[7]? = some (some (D.int (at_ : Int))) → L[9]? = some (some (D.int (sz : Int))) → mSome (mBin oAdd (mVar 7) (mVar 9)) L M = some (.ok (some ((at_ + sz : Nat) : Int)) M) := fun L M h h' => ev_some (by simp [h, h'])
      have hsl : oSl (.ref p) (some (at_ : Int)) (some ((at_ + sz : Nat) : Int)) M' = some (.ref M'.length, M' ++ [.lst ((ps.drop at_).take sz)]) := by
        rw [sl_lst (k1.get hp), cut_mid _ _ _ (by omega) (by omega), Nat.add_sub_cancel_left]
      generalize hrow : (ps.drop at_).take sz = row at *
      have lrow : row.length = sz := by rw [← hrow, List.length_take, List.length_drop]; omega
      have htp : oTuple [.ref M'.length] (M' ++ [.lst row]) = _ := tuple_lst get_new
      have hap := append_lst (d := .tup row) (get_app (J := [Ob.lst row]) k2) (by simp; omega)
      refine ⟨[some (.ref p), some (.int w), some (.int c), some (.int a), some (.int b), some (.int m), some (.ref M.length), some (.int ((at_ + sz : Nat) : Int)), some (.int k), some (.int sz)], (M' ++ [Ob.lst row]).set M.length (Ob.lst (rows.map D.tup ++ [D.tup row])), ?_, rows ++ [row], some (.int k), some (.int sz), by rw [hat], (k1.more _).set (Nat.le_refl _) _, ?_, ?_, by simp [k4], fun x hx => ?_⟩
      · rw [seq_step f1]
        simp only [Int.natCast_add] at hs2 hsl
        simp [k2, hs1, hs2, hsl, htp, hap]
      · rw [List.map_append]
        exact get_set_eq (get_app k2)
      · rw [hat, List.flatten_append, k3, List.take_add, hrow]
        simp
      · rcases List.mem_append.mp hx with hx | hx
        · exact k5 x hx
        · rw [List.mem_singleton.mp hx, lrow]
          rw [hh] at hs
          exact hs)
    (fun L M' _ => ok_non) (L := [some (.ref p), some (.int w), some (.int c), some (.int a), some (.int b), some (.int m), some (.ref M.length), some (.int 0), none, none]) (M := M ++ [.lst []]) ⟨[], none, none, by simp, Kp.app _ _, get_new, by simp, rfl, fun x hx => by (cases hx)⟩
  rw [rng_length] at k3 k4
  have hall : m * q + min m rr = n := by rw [Nat.min_eq_right (by omega)]; exact hdm
  rw [hall, ← hlen, List.take_length] at k3
  refine ⟨M.length, rows, M', ?_, k1, Nat.le_refl _, k2, k3, k5, by omega, by omega⟩
  simp only [g_law_level, ev_def3]
  rw [b_law_level, seq_step e0, seq_step e1, seq_step e2, seq2 e34, ev_seq, b_law_level_5, for_at hi]
  rw [e5]
  simp [b_law_level_6]
end BP
/-! BLMade: a level's blocks laid. -/
namespace BP
open BL
open PySem (Str)
variable {M : Mem}
abbrev kindS (leaf : Bool) : Str := if leaf = true then leafS else branchS
def blkD (leaf : Bool) (row : List D) : D := .tup [.str (kindS leaf), .tup row]
/-- the key of a row's first pair -/
def headKey : List D → Int
  | [] => 0
  | p :: _ => keyOf p
/-- the rows laid as blocks from number nx on -/
def addRows (leaf : Bool) (s : Int) : List (Int × D) → Int → List (List D) → List (Int × D)
  | B, _, [] => B
  | B, nx, row :: rows => addRows leaf s (aput B nx (blkD leaf row)) (nx + s) rows
def above (s : Int) : Int → List (List D) → List D
  | _, [] => []
  | nx, row :: rows => .tup [.int (headKey row), .int nx] :: above s (nx + s) rows
def numAt (s : Int) : Int → List (List D) → Int
  | nx, [] => nx
  | nx, _ :: rows => numAt s (nx + s) rows
theorem above_len (s : Int) : ∀ (nx : Int) (rows : List (List D)), (above s nx rows).length = rows.length
  | _, [] => rfl
  | nx, row :: rows => by rw [above, List.length_cons, List.length_cons, above_len]
theorem addRows_len (leaf : Bool) (s : Int) : ∀ (rows : List (List D)) (B : List (Int × D)) (nx : Int), (addRows leaf s B nx rows).length ≤ B.length + rows.length
  | [], B, nx => by simp [addRows]
  | row :: rows, B, nx => by
    rw [addRows]
    have h1 := addRows_len leaf s rows (aput B nx (blkD leaf row)) (nx + s)
    have h2 := len_aput (kvs := B) (k := nx) (d := blkD leaf row)
    rw [List.length_cons]
    omega
noncomputable def tbB : GS := mSeq (mPut oPutA (mVar 3) (mVar 5) (mTup (mCons (mVar 4) (mCons (mVar 7) mNil)))) (mSeq (mExpr (mMtL oAppend (mVar 6) (mCons (mTup (mCons (mBin oIx (mBin oIx (mVar 7) (mC (.int 0))) (mC (.int 0))) (mCons (mVar 5) mNil))) mNil))) (mSet 5 (mBin oAdd (mBin oAdd (mVar 5) (mC (.int 1))) (mBin oMod (mBin oDiv (mVar 2) (mC (.int 5))) (mC (.int 2))))))
/-- the inner loop -/
theorem tb_rows {p bi ai q : Nat} {w c s : Int} {leaf : Bool} {whole : List D} (hs : 1 + c / 5 % 2 = s) : ∀ (rows : List (List D)) (B : List (Int × D)) (A : List D) (nx : Int) (M' : Mem) (x7 : Option D),
    M.length ≤ bi → M.length ≤ ai → q ≠ bi → q ≠ ai → bi ≠ ai → Kp M M' → M'[bi]? = some (.dct B) → M'[ai]? = some (.lst A) → M'[q]? = some (.lst whole) → (∀ row ∈ rows, 0 < row.length ∧ ∀ x ∈ row, ∃ (k : Int) (v : D), x = .tup [.int k, v]) → B.length + rows.length ≤ 100000 → A.length + rows.length ≤ 100000 →
    ∃ M'' y7, forG (Src.ok ⟨whole, some (q, whole)⟩) (mName 7) tbB (rows.map .tup) [some (.ref p), some (.int w), some (.int c), some (.ref bi), some (.str (kindS leaf)), some (.int nx), some (.ref ai), x7] M' = some (.nx [some (.ref p), some (.int w), some (.int c), some (.ref bi), some (.str (kindS leaf)), some (.int (numAt s nx rows)), some (.ref ai), y7], M'') ∧
      Kp M M'' ∧ M''[bi]? = some (.dct (addRows leaf s B nx rows)) ∧ M''[ai]? = some (.lst (A ++ above s nx rows)) ∧ M''[q]? = some (.lst whole)
  | [], B, A, nx, M', x7, _, _, _, _, _, hk, h1, h2, h3, _, _, _ => by
    refine ⟨M', x7, ?_, hk, h1, by simpa [above] using h2, h3⟩
    unfold forG
    exact if_pos h3
  | row :: rows, B, A, nx, M', x7, hbi, hai, hqb, hqa, hne, hk, h1, h2, h3, hr, hB, hA => by
    obtain ⟨hr0, hrp⟩ := hr row List.mem_cons_self
    rw [List.length_cons] at hB hA
    obtain ⟨x, r', hrow⟩ : ∃ x r', row = x :: r' := by
      cases row with
      | nil => simp at hr0
      | cons x r' => exact ⟨x, r', rfl⟩
    obtain ⟨k, v, hx⟩ := hrp x (by rw [hrow]; exact List.mem_cons_self)
    have i0 : ∀ M, oIx (.tup row) (.int 0) M = some (.tup [.int k, v], M) := fun M => by rw [hrow, hx]; exact ix0
    have i00 : ∀ M, oIx (.tup [.int k, v]) (.int 0) M = some (.int k, M) := fun M => ix0
    have hkey : headKey row = k := by rw [hrow, hx]; rfl
    have g1 := put_dct (k := nx) (d := blkD leaf row) h1 (by omega)
    generalize hM1 : M'.set bi (Ob.dct (aput B nx (blkD leaf row))) = M1 at g1
    have a1 : M1[ai]? = some (.lst A) := by rw [← hM1, get_set_ne hne]; exact h2
    have b1 : M1[bi]? = some (.dct (aput B nx (blkD leaf row))) := by rw [← hM1]; exact get_set_eq h1
    have c1 : M1[q]? = some (.lst whole) := by rw [← hM1, get_set_ne (Ne.symm hqb)]; exact h3
    have g2 := append_lst (d := .tup [.int k, .int nx]) a1 (by omega)
    generalize hM2 : M1.set ai (Ob.lst (A ++ [.tup [.int k, .int nx]])) = M2 at g2
    have a2 : M2[ai]? = some (.lst (A ++ [.tup [.int k, .int nx]])) := by rw [← hM2]; exact get_set_eq a1
    have b2 : M2[bi]? = some (.dct (aput B nx (blkD leaf row))) := by rw [← hM2, get_set_ne (Ne.symm hne)]; exact b1
    have c2 : M2[q]? = some (.lst whole) := by rw [← hM2, get_set_ne (Ne.symm hqa)]; exact c1
    have k2 : Kp M M2 := by rw [← hM2, ← hM1]; exact (hk.set hbi _).set hai _
    have step : tbB [some (.ref p), some (.int w), some (.int c), some (.ref bi), some (.str (kindS leaf)), some (.int nx), some (.ref ai), some (.tup row)] M' = some (.nx [some (.ref p), some (.int w), some (.int c), some (.ref bi), some (.str (kindS leaf)), some (.int (nx + s)), some (.ref ai), some (.tup row)], M2) := by
      have hns : nx + 1 + c / 5 % 2 = nx + s := by omega
      have g1' : oPutA (.ref bi) (.int nx) (.tup [.str (kindS leaf), .tup row]) M' = some M1 := g1
      simp [tbB, g1', i0, i00, a1, g2, hns]
    have hlen := len_aput (kvs := B) (k := nx) (d := blkD leaf row)
    obtain ⟨M3, y7, e, k3, b3, a3, c3⟩ := tb_rows hs rows (aput B nx (blkD leaf row)) (A ++ [.tup [.int k, .int nx]]) (nx + s) M2 (some (.tup row)) hbi hai hqb hqa hne k2 b2 a2 c2 (fun r hr2 => hr r (List.mem_cons_of_mem _ hr2)) (by omega) (by simp; omega)
    refine ⟨M3, y7, ?_, k3, b3, ?_, c3⟩
    · rw [List.map_cons]
      unfold forG
      rw [if_pos (show Src.ok ⟨whole, some (q, whole)⟩ M' from h3)]
      show (match tbB [some (.ref p), some (.int w), some (.int c), some (.ref bi), some (.str (kindS leaf)), some (.int nx), some (.ref ai), some (.tup row)] M' with
        | some (.nx L2, M2) => forG _ _ tbB _ L2 M2
        | some (.ct L2, M2) => forG _ _ tbB _ L2 M2
        | some (.bk L2, M2) => some (.nx L2, M2)
        | r => r) = _
      rw [step]
      exact e
    · rw [above, hkey]
      simpa using a3
noncomputable def toB : GS := mSeq (mSet 6 (mLst mNil)) (mSeq (mFor (mIter (mCall g_law_level (mCons (mVar 0) (mCons (mVar 1) (mCons (mBin oDiv (mVar 2) (mC (.int 3))) mNil))))) (mName 7) tbB) (mSeq (mSet 0 (mVar 6)) (mSet 4 (mC (.str "branch")))))
noncomputable def toT : GT := mT (mBin oGt (mCB oLen (mCons (mVar 0) mNil)) (mVar 1))
theorem to_eq : b_law_tree_by_3 = mWhile toT toB := rfl
/-- pairs, whose first things are whole numbers -/
def pairsD (ps : List D) : Prop := ∀ x ∈ ps, ∃ (k : Int) (v : D), x = .tup [.int k, v]
theorem above_pairs (s : Int) : ∀ (nx : Int) (rows : List (List D)), pairsD (above s nx rows)
  | _, [] => fun x hx => by cases hx
  | nx, row :: rows => fun x hx => by
    rw [above] at hx
    rcases List.mem_cons.mp hx with rfl | hx
    · exact ⟨_, _, rfl⟩
    · exact above_pairs s (nx + s) rows x hx
/-- what a level is cut into -/
structure Cut (w : Nat) (ps : List D) (rows : List (List D)) : Prop where
  flat : rows.flatten = ps
  size : ∀ row ∈ rows, (w + 1) / 2 ≤ row.length ∧ row.length ≤ w
  two : 2 ≤ rows.length
  less : rows.length < ps.length
theorem to_step {p bi : Nat} {w : Nat} {c s nx : Int} {leaf : Bool} {B : List (Int × D)} {ps : List D} {M' : Mem} {x6 x7 : Option D} (hs : 1 + c / 5 % 2 = s) (hw : 3 ≤ w ∧ w ≤ 64) (hbi : M.length ≤ bi) (hk : Kp M M') (h1 : M'[bi]? = some (.dct B)) (h2 : M'[p]? = some (.lst ps)) (hps : pairsD ps) (hn : w < ps.length ∧ ps.length ≤ 10000) (hB : B.length ≤ 50000) :
    ∃ rows p' y7 M'', toB [some (.ref p), some (.int w), some (.int c), some (.ref bi), some (.str (kindS leaf)), some (.int nx), x6, x7] M' = some (.nx [some (.ref p'), some (.int w), some (.int c), some (.ref bi), some (.str (kindS false)), some (.int (numAt s nx rows)), some (.ref p'), y7], M'') ∧
      Cut w ps rows ∧ Kp M M'' ∧ M''[bi]? = some (.dct (addRows leaf s B nx rows)) ∧ M''[p']? = some (.lst (above s nx rows)) := by
  have hbl := get_lt h1
  obtain ⟨r, rows, M2, e, k2, hr, r2, c1, c2, c3, c4⟩ := p_level (M := M' ++ [Ob.lst []]) (c := c / 3) (get_app h2) hw ⟨hn.1, by omega⟩
  have hlen1 : (M' ++ [Ob.lst []]).length = M'.length + 1 := by simp
  have a2 : M2[M'.length]? = some (.lst []) := k2.get get_new
  have b2 : M2[bi]? = some (.dct B) := k2.get (get_app h1)
  have hi : mIter (mCall g_law_level (mCons (mVar 0) (mCons (mVar 1) (mCons (mBin oDiv (mVar 2) (mC (.int 3))) mNil)))) [some (.ref p), some (.int w), some (.int c), some (.ref bi), some (.str (kindS leaf)), some (.int nx), some (.ref M'.length), x7] (M' ++ [Ob.lst []]) = some (.ok (Src.map (fun ds => ds) ⟨rows.map .tup, some (r, rows.map .tup)⟩) M2) := seq_at _ (by simp [e]) (src_lst r2)
  obtain ⟨M3, y7, e3, k3, b3, a3, _⟩ := tb_rows (M := M) (p := p) (bi := bi) (ai := M'.length) (q := r) (w := w) (leaf := leaf) hs rows B [] nx M2 x7 hbi hk.len (by omega) (by omega) (by omega) ((hk.more _).trans k2) b2 a2 r2 (fun row hrow => ⟨by have := (c2 row hrow).1; omega, fun x hx => hps x (by rw [← c1]; exact List.mem_flatten.mpr ⟨row, hrow, hx⟩)⟩) (by omega) (by simp; omega)
  refine ⟨rows, M'.length, y7, M3, ?_, ⟨c1, c2, c3, c4⟩, k3, b3, by simpa using a3⟩
  have f0 : mSet 6 (mLst mNil) [some (.ref p), some (.int w), some (.int c), some (.ref bi), some (.str (kindS leaf)), some (.int nx), x6, x7] M' = some (.nx [some (.ref p), some (.int w), some (.int c), some (.ref bi), some (.str (kindS leaf)), some (.int nx), some (.ref M'.length), x7], M' ++ [Ob.lst []]) := by simp
  have f1 : mFor (mIter (mCall g_law_level (mCons (mVar 0) (mCons (mVar 1) (mCons (mBin oDiv (mVar 2) (mC (.int 3))) mNil))))) (mName 7) tbB [some (.ref p), some (.int w), some (.int c), some (.ref bi), some (.str (kindS leaf)), some (.int nx), some (.ref M'.length), x7] (M' ++ [Ob.lst []]) = some (.nx [some (.ref p), some (.int w), some (.int c), some (.ref bi), some (.str (kindS leaf)), some (.int (numAt s nx rows)), some (.ref M'.length), y7], M3) := by
    rw [for_at hi]
    exact e3
  rw [toB, seq_step f0, seq_step f1]
  simp
  rfl
/-- the outer loop, by an invariant -/
theorem to_while {bi : Nat} {w : Nat} {c s : Int} (P : Bool → List (Int × D) → List D → Int → Prop) (hs : 1 + c / 5 % 2 = s) (hw : 3 ≤ w ∧ w ≤ 64) (hbi : M.length ≤ bi)
    (step : ∀ leaf B ps nx rows, P leaf B ps nx → Cut w ps rows → P false (addRows leaf s B nx rows) (above s nx rows) (numAt s nx rows)) : ∀ (m : Nat) (leaf : Bool) (B : List (Int × D)) (ps : List D) (nx : Int) (p : Nat) (M' : Mem) (x6 x7 : Option D),
    ps.length ≤ m → P leaf B ps nx → Kp M M' → M'[bi]? = some (.dct B) → M'[p]? = some (.lst ps) → pairsD ps → m ≤ 10000 → B.length + m * m ≤ 50000 + m * m → B.length + 2 * ps.length ≤ 40000 →
    ∃ n leaf' B' ps' nx' p' y6 y7 M'', whileF toT toB n [some (.ref p), some (.int w), some (.int c), some (.ref bi), some (.str (kindS leaf)), some (.int nx), x6, x7] M' = some (.nx [some (.ref p'), some (.int w), some (.int c), some (.ref bi), some (.str (kindS leaf')), some (.int nx'), y6, y7], M'') ∧
      P leaf' B' ps' nx' ∧ Kp M M'' ∧ M''[bi]? = some (.dct B') ∧ M''[p']? = some (.lst ps') ∧ pairsD ps' ∧ ps'.length ≤ w := by
  intro m
  induction m with
  | zero =>
    intro leaf B ps nx p M' x6 x7 hm hP hk h1 h2 hps _ _ _
    have ht : toT [some (.ref p), some (.int w), some (.int c), some (.ref bi), some (.str (kindS leaf)), some (.int nx), x6, x7] M' = some (.ok false M') := by
      have := len_lst h2
      have h3 : ¬ w < ps.length := by omega
      simp [toT, this, h3]
    refine ⟨1, leaf, B, ps, nx, p, x6, x7, M', ?_, hP, hk, h1, h2, hps, by omega⟩
    unfold whileF
    rw [ht]
    rfl
  | succ m ih =>
    intro leaf B ps nx p M' x6 x7 hm hP hk h1 h2 hps hm2 hz hB
    by_cases hwl : w < ps.length
    · have ht : toT [some (.ref p), some (.int w), some (.int c), some (.ref bi), some (.str (kindS leaf)), some (.int nx), x6, x7] M' = some (.ok true M') := by
        have := len_lst h2
        simp [toT, this, hwl]
      obtain ⟨rows, p', y7, M2, e, hc, k2, b2, a2⟩ := to_step (leaf := leaf) (nx := nx) (x6 := x6) (x7 := x7) hs hw hbi hk h1 h2 hps ⟨hwl, by omega⟩ (by omega)
      have hal := above_len s nx rows
      have hal2 := addRows_len leaf s rows B nx
      have hless := hc.less
      obtain ⟨n, leaf', B', ps', nx', p2, y6', y7', M3, e3, rest⟩ := ih false (addRows leaf s B nx rows) (above s nx rows) (numAt s nx rows) p' M2 (some (.ref p')) y7 (by omega) (step leaf B ps nx rows hP hc) k2 b2 a2 (above_pairs s nx rows) (by omega) (by omega) (by
        have h2' : 2 * rows.length ≤ ps.length + 1 := by
          have h3 : ∀ rs : List (List D), (∀ row ∈ rs, 2 ≤ row.length) → 2 * rs.length ≤ rs.flatten.length := by
            intro rs
            induction rs with
            | nil => intro _; simp
            | cons r rs ih2 =>
              intro hr
              have := ih2 fun row hrow => hr row (List.mem_cons_of_mem _ hrow)
              have := hr r List.mem_cons_self
              rw [List.flatten_cons, List.length_append, List.length_cons]
              omega
          have := h3 rows fun row hrow => by have := (hc.size row hrow).1; omega
          rw [hc.flat] at this
          omega
        omega)
      refine ⟨n + 1, leaf', B', ps', nx', p2, y6', y7', M3, ?_, rest⟩
      unfold whileF
      rw [ht]
      dsimp only [bndS]
      rw [if_pos rfl, e]
      exact e3
    · have ht : toT [some (.ref p), some (.int w), some (.int c), some (.ref bi), some (.str (kindS leaf)), some (.int nx), x6, x7] M' = some (.ok false M') := by
        have := len_lst h2
        simp [toT, this, hwl]
      refine ⟨1, leaf, B, ps, nx, p, x6, x7, M', ?_, hP, hk, h1, h2, hps, by omega⟩
      unfold whileF
      rw [ht]
      rfl
end BP
/-! BLUp: a level's blocks, as a walk. -/
namespace BP
open BL
open PySem (Str)
/-- what waits for a row of pairs -/
def told (d : Int) (ps : List D) : List Tl := ps.map fun p => ⟨numOf p, d, some (keyOf p)⟩
theorem rowB_pw {leaf : Bool} : ∀ ps : List D, rowB leaf ps = true ↔ (∀ x ∈ ps, pairB leaf x = true) ∧ ps.Pairwise (fun x y => keyOf x < keyOf y)
  | [] => by simp [rowB]
  | [d] => by simp [rowB]
  | d :: e :: r => by
    have ih := rowB_pw (leaf := leaf) (e :: r)
    rw [rowB, Bool.and_eq_true, Bool.and_eq_true, ih, decide_eq_true_eq]
    constructor
    · rintro ⟨h1, h2, h3, h4⟩
      refine ⟨fun x hx => ?_, ?_⟩
      · rcases List.mem_cons.mp hx with rfl | hx
        · exact h1
        · exact h3 x hx
      · rw [List.pairwise_cons]
        refine ⟨fun y hy => ?_, h4⟩
        rcases List.mem_cons.mp hy with rfl | hy
        · exact h2
        · exact Int.lt_trans h2 ((List.pairwise_cons.mp h4).1 y hy)
    · rintro ⟨h1, h2⟩
      rw [List.pairwise_cons] at h2
      exact ⟨h1 d List.mem_cons_self, h2.1 e List.mem_cons_self, fun x hx => h1 x (List.mem_cons_of_mem _ hx), h2.2⟩
/-- the rows' blocks stand there -/
def Has (B : List (Int × D)) (leaf : Bool) (s : Int) : Int → List (List D) → Prop
  | _, [] => True
  | nx, row :: rows => aget B nx = some (blkD leaf row) ∧ Has B leaf s (nx + s) rows
theorem addRows_low {leaf : Bool} {s : Int} (hs : 1 ≤ s) : ∀ (rows : List (List D)) (B : List (Int × D)) (nx n : Int), n < nx → aget (addRows leaf s B nx rows) n = aget B n
  | [], B, nx, n, h => rfl
  | row :: rows, B, nx, n, h => by
    rw [addRows, addRows_low hs rows _ _ _ (by omega), aget_aput, if_neg (by omega)]
theorem addRows_has {leaf : Bool} {s : Int} (hs : 1 ≤ s) : ∀ (rows : List (List D)) (B : List (Int × D)) (nx : Int), Has (addRows leaf s B nx rows) leaf s nx rows
  | [], B, nx => trivial
  | row :: rows, B, nx => by
    rw [addRows]
    refine ⟨?_, addRows_has hs rows _ _⟩
    rw [addRows_low hs rows _ _ _ (by omega), aget_aput, if_pos rfl]
theorem addRows_keys {leaf : Bool} {s : Int} (hs : 1 ≤ s) : ∀ (rows : List (List D)) (B : List (Int × D)) (nx : Int), (akeys B).Nodup → (∀ n ∈ akeys B, 0 < n ∧ n < nx) → 0 < nx →
    (akeys (addRows leaf s B nx rows)).Nodup ∧ (∀ n ∈ akeys (addRows leaf s B nx rows), 0 < n ∧ n < numAt s nx rows) ∧ 0 < numAt s nx rows ∧ (addRows leaf s B nx rows).length = B.length + rows.length
  | [], B, nx, h1, h2, h3 => ⟨h1, h2, h3, rfl⟩
  | row :: rows, B, nx, h1, h2, h3 => by
    have hnot : nx ∉ akeys B := fun z => by have := (h2 nx z).2; omega
    have hk : akeys (aput B nx (blkD leaf row)) = akeys B ++ [nx] := by rw [akeys_aput, if_neg hnot]
    obtain ⟨k1, k2, k3, k4⟩ := addRows_keys (leaf := leaf) hs rows (aput B nx (blkD leaf row)) (nx + s) (nodup_aput h1) (fun n hn => by
      rw [hk] at hn
      rcases List.mem_append.mp hn with hn | hn
      · have := h2 n hn
        omega
      · have : n = nx := by simpa using hn
        omega) (by omega)
    refine ⟨k1, k2, k3, ?_⟩
    have hl := congrArg List.length hk
    rw [akeys_len, List.length_append, akeys_len] at hl
    rw [addRows, k4, hl, List.length_cons]
    simp
    omega
theorem told_app (d : Int) (a b : List D) : told d (a ++ b) = told d a ++ told d b := by
  unfold told
  rw [List.map_append]
theorem block_of {leaf : Bool} {row : List D} {least most : Int} (h : rowB leaf row = true) (h1 : least ≤ row.length) (h2 : (row.length : Int) ≤ most) : blockB (blkD leaf row) least most = true := by
  have ne : ¬ branchS = leafS := by decide +kernel
  cases leaf
  · have e : blkD false row = .tup [.str branchS, .tup row] := rfl
    rw [e]
    simp [blockB, ne, h, h1, h2]
  · have e : blkD true row = .tup [.str leafS, .tup row] := rfl
    rw [e]
    simp [blockB, h, h1, h2]
theorem leafB_blk {leaf : Bool} {row : List D} : leafB (blkD leaf row) = leaf := by
  have ne : ¬ branchS = leafS := by decide +kernel
  unfold blkD kindS
  cases leaf
  · simp [leafB, ne]
  · simp [leafB]
/-- the walk over a new level -/
theorem made {B : List (Int × D)} {w : Nat} {leaf : Bool} {s : Int} (hw : 3 ≤ w) (hs : 1 ≤ s) : ∀ (rows : List (List D)) (nx d : Int) (U : List Tl), 0 < nx → Has B leaf s nx rows → rowB leaf rows.flatten = true → (∀ row ∈ rows, (w + 1) / 2 ≤ row.length ∧ row.length ≤ w) →
    (leaf = false → WS B w (told (d + 1) rows.flatten) U) → (leaf = true → U = []) →
    ∃ vs, WS B w (told d (above s nx rows)) vs ∧ vs.length = rows.length + U.length ∧ (∀ n ∈ vs.map (·.n), (nx ≤ n) ∨ n ∈ U.map (·.n)) ∧ ((∀ n ∈ U.map (·.n), n < nx) → (U.map (·.n)).Nodup → (vs.map (·.n)).Nodup) ∧
      rowsW B vs = (if leaf = true then rows.flatten else rowsW B U) ∧ (leaf = true → ∀ x ∈ depths B vs, x = d) ∧ (leaf = false → depths B vs = depths B U)
  | [], nx, d, U, _, _, _, _, hU, hU2 => by
    have : U = [] := by
      cases leaf with
      | true => exact hU2 rfl
      | false =>
        have := hU rfl
        cases this
        rfl
    subst this
    refine ⟨[], .nil, rfl, fun n hn => by (cases hn), fun _ _ => by simp, by cases leaf <;> rfl, fun _ x hx => by (cases hx), fun _ => rfl⟩
  | row :: rows, nx, d, U, hnx, hH, hrow, hsz, hU, hU2 => by
    obtain ⟨hg, hH2⟩ := hH
    rw [List.flatten_cons] at hrow
    obtain ⟨hp, hpw⟩ := (rowB_pw _).mp hrow
    rw [List.pairwise_append] at hpw
    have r1 : rowB leaf row = true := (rowB_pw _).mpr ⟨fun x hx => hp x (List.mem_append_left _ hx), hpw.1⟩
    have r2 : rowB leaf rows.flatten = true := (rowB_pw _).mpr ⟨fun x hx => hp x (List.mem_append_right _ hx), hpw.2.1⟩
    obtain ⟨z1, z2⟩ := hsz row List.mem_cons_self
    have hblk : blkOf B nx = blkD leaf row := by unfold blkOf; rw [hg]; rfl
    have hfk : firstKey (blkD leaf row) = headKey row := by
      show (match row with | p :: _ => keyOf p | [] => 0) = _
      cases row <;> rfl
    have ok : okT B w ⟨nx, d, some (headKey row)⟩ = true := by
      unfold okT keyOk
      rw [hblk, hfk, leafB_blk]
      have hl : leastOf (w : Int) nx ≤ row.length := by
        unfold leastOf
        rw [if_pos hnx]
        omega
      rw [block_of r1 hl (by omega)]
      have h2 : 2 ≤ (pairsOf (blkD leaf row)).length := by
        show 2 ≤ row.length
        omega
      simp [h2]
    have hkids : kids B ⟨nx, d, some (headKey row)⟩ = if leaf = true then [] else told (d + 1) row := by
      unfold kids
      rw [hblk, leafB_blk]
      rfl
    have hrt : rowsT B ⟨nx, d, some (headKey row)⟩ = if leaf = true then row else [] := by
      unfold rowsT
      rw [hblk, leafB_blk]
      rfl
    have htold : told d (above s nx (row :: rows)) = ⟨nx, d, some (headKey row)⟩ :: told d (above s (nx + s) rows) := rfl
    cases leaf with
    | true =>
      have hUn := hU2 rfl
      subst hUn
      obtain ⟨vs, w1, w2, w3, w4, w5, w6, w7⟩ := made hw hs rows (nx + s) d [] (by omega) hH2 r2 (fun r hr => hsz r (List.mem_cons_of_mem _ hr)) (fun z => by cases z) (fun _ => rfl)
      refine ⟨⟨nx, d, some (headKey row)⟩ :: vs, ?_, ?_, fun n hn => ?_, fun h1 h2 => ?_, ?_, fun _ x hx => ?_, (fun z => by cases z)⟩
      · rw [htold]
        refine .step ok ?_
        rw [hkids]
        exact w1
      · simp [w2]
      · rw [List.map_cons] at hn
        rcases List.mem_cons.mp hn with rfl | hn
        · exact .inl (Int.le_refl _)
        · rcases w3 n hn with h | h
          · exact .inl (by omega)
          · exact .inr h
      · rw [List.map_cons, List.nodup_cons]
        refine ⟨fun hn => ?_, w4 (fun n hn => by cases hn) h2⟩
        rcases w3 nx hn with h | h
        · omega
        · cases h
      · show (List.map (rowsT B) (_ :: vs)).flatten = _
        rw [List.map_cons, List.flatten_cons, hrt]
        have : (List.map (rowsT B) vs).flatten = rows.flatten := w5
        rw [this]
        rfl
      · unfold depths at hx
        rw [List.filter_cons_of_pos (by show leafB (blkOf B nx) = true; rw [hblk, leafB_blk]), List.map_cons] at hx
        rcases List.mem_cons.mp hx with rfl | hx
        · rfl
        · exact w6 rfl x hx
    | false =>
      have hUw := hU rfl
      rw [List.flatten_cons, told_app] at hUw
      obtain ⟨U1, U2, rfl, u1, u2⟩ := hUw.split rfl
      obtain ⟨vs, w1, w2, w3, w4, w5, w6, w7⟩ := made hw hs rows (nx + s) d U2 (by omega) hH2 r2 (fun r hr => hsz r (List.mem_cons_of_mem _ hr)) (fun _ => u2) (fun z => by cases z)
      refine ⟨⟨nx, d, some (headKey row)⟩ :: (U1 ++ vs), ?_, ?_, fun n hn => ?_, fun h1 h2 => ?_, ?_, (fun z => by cases z), fun _ => ?_⟩
      · rw [htold]
        refine .step ok ?_
        rw [hkids]
        exact u1.append w1
      · simp [w2]
        omega
      · rw [List.map_cons, List.map_append] at hn
        rcases List.mem_cons.mp hn with rfl | hn
        · exact .inl (Int.le_refl _)
        · rcases List.mem_append.mp hn with hn | hn
          · exact .inr (by rw [List.map_append]; exact List.mem_append_left _ hn)
          · rcases w3 n hn with h | h
            · exact .inl (by omega)
            · exact .inr (by rw [List.map_append]; exact List.mem_append_right _ h)
      · rw [List.map_append] at h1 h2
        rw [List.nodup_append] at h2
        have hv := w4 (fun n hn => by have := h1 n (List.mem_append_right _ hn); omega) h2.2.1
        rw [List.map_cons, List.map_append, List.nodup_cons, List.nodup_append]
        refine ⟨fun hn => ?_, h2.1, hv, fun a ha b hb => ?_⟩
        · rcases List.mem_append.mp hn with hn | hn
          · have := h1 nx (List.mem_append_left _ hn)
            omega
          · rcases w3 nx hn with h | h
            · omega
            · have := h1 nx (List.mem_append_right _ h)
              omega
        · rcases w3 b hb with h | h
          · have := h1 a (List.mem_append_left _ ha)
            omega
          · exact h2.2.2 a ha b h
      · show (List.map (rowsT B) (_ :: (U1 ++ vs))).flatten = rowsW B (U1 ++ U2)
        rw [List.map_cons, List.flatten_cons, hrt, rowsW_app]
        show [] ++ rowsW B (U1 ++ vs) = _
        rw [rowsW_app, List.nil_append]
        have : rowsW B vs = rowsW B U2 := w5
        rw [this]
      · have hh : depths B (⟨nx, d, some (headKey row)⟩ :: (U1 ++ vs)) = depths B (U1 ++ vs) := by
          unfold depths
          rw [List.filter_cons_of_neg (by show ¬ leafB (blkOf B nx) = true; rw [hblk, leafB_blk]; exact Bool.false_ne_true)]
        rw [hh, depths_app, depths_app, w7 rfl]
end BP
/-! BLRoot: the tree built is sound. -/
namespace BP
open BL
open PySem (Str)
open PyProof.Rows (firstMet firstMet_succ firstMet_zero firstMet_any step_dedup)
theorem range_getD (ns : List Int) : (List.range ns.length).map (fun i => ns.getD i 0) = ns := by
  apply List.ext_getElem?
  intro i
  by_cases h : i < ns.length
  · rw [List.getElem?_map, List.getElem?_range h, List.getElem?_eq_getElem h]
    simp [h]
  · rw [List.getElem?_eq_none (by simpa using h), List.getElem?_eq_none (by omega)]
theorem mem_dist {ns : List Int} {x : Int} : x ∈ dist ns ↔ x ∈ ns := by
  have h := firstMet_any (fun i => ns.getD i 0) ns.length x
  rw [range_getD] at h
  have h2 : ∀ l : List Int, l.any (· == x) = true ↔ x ∈ l := fun l => by simp
  unfold dist
  rw [← h2, ← h2, h]
theorem dist_two {ns : List Int} {x y : Int} (hx : x ∈ ns) (hy : y ∈ ns) (h : x ≠ y) : (dist ns).length ≠ 1 := fun e => by
  rw [List.length_eq_one_iff] at e
  obtain ⟨z, e⟩ := e
  have h1 := mem_dist.mpr hx
  have h2 := mem_dist.mpr hy
  rw [e] at h1 h2
  simp at h1 h2
  omega
theorem dist_one {ns : List Int} {d : Int} (h : ∀ x ∈ ns, x = d) (hne : ns ≠ []) : (dist ns).length = 1 := by
  have hv : ∀ i, i < ns.length → ns.getD i 0 = d := fun i hi => by
    have : ns.getD i 0 = ns[i] := by simp [hi]
    rw [this]
    exact h _ (List.getElem_mem hi)
  have key : ∀ i, i + 1 ≤ ns.length → firstMet (fun i => ns.getD i 0) (i + 1) = [d] := by
    intro i
    induction i with
    | zero =>
      intro hi
      rw [firstMet_succ, firstMet_zero]
      show step_dedup [] (ns.getD 0 0) = [d]
      rw [hv 0 (by omega)]
      rfl
    | succ i ih =>
      intro hi
      rw [firstMet_succ, ih (by omega)]
      show step_dedup [d] (ns.getD (i + 1) 0) = [d]
      rw [hv (i + 1) (by omega)]
      simp [step_dedup]
  unfold dist
  obtain ⟨n, hn⟩ : ∃ n, ns.length = n + 1 := ⟨ns.length - 1, by have := List.length_pos_iff.mpr hne; omega⟩
  rw [hn, key n (by omega)]
  rfl
/-- a walk over blocks that are the same elsewhere -/
theorem rowsW_agree {B B' : List (Int × D)} {vs : List Tl} (e : ∀ t ∈ vs, aget B' t.n = aget B t.n) : rowsW B' vs = rowsW B vs := by
  have : vs.map (rowsT B') = vs.map (rowsT B) := List.map_congr_left fun t ht => by
    unfold rowsT blkOf
    rw [e t ht]
  unfold rowsW
  rw [this]
theorem depths_agree {B B' : List (Int × D)} {vs : List Tl} (e : ∀ t ∈ vs, aget B' t.n = aget B t.n) : depths B' vs = depths B vs := by
  have : (vs.filter fun t => leafB (blkOf B' t.n)) = vs.filter fun t => leafB (blkOf B t.n) := List.filter_congr fun t ht => by
    unfold blkOf
    rw [e t ht]
  unfold depths
  rw [this]
theorem WS.key {B : List (Int × D)} {w : Int} {S vs : List Tl} (h : WS B w S vs) {t : Tl} (ht : t ∈ vs) : t.n ∈ akeys B := by
  obtain ⟨leaf, rows, hg, _⟩ := okT_block (h.ok t ht)
  rw [← aget_isSome, hg]
  rfl
/-- what holds between the levels -/
structure Lev (w : Nat) (row : List D) (leaf : Bool) (B : List (Int × D)) (ps : List D) (nx : Int) : Prop where
  nd : (akeys B).Nodup
  ks : ∀ n ∈ akeys B, 0 < n ∧ n < nx
  pos : 0 < nx
  good : rowB leaf ps = true
  low : leaf = true → B = [] ∧ ps = row
  high : leaf = false → 2 ≤ ps.length ∧ row ≠ [] ∧ ∃ hgt : Int, ∀ d, ∃ vs, WS B w (told d ps) vs ∧ (vs.map (·.n)).Nodup ∧ vs.length = B.length ∧ rowsW B vs = row ∧ ∀ x ∈ depths B vs, x = d + hgt
theorem head_mem {row : List D} (h : 0 < row.length) : ∃ x r, row = x :: r ∧ headKey row = keyOf x := by
  cases row with
  | nil => simp at h
  | cons x r => exact ⟨x, r, rfl, rfl⟩
theorem keyOf_pair {leaf : Bool} {x : D} (h : pairB leaf x = true) : keyB (.int (keyOf x)) = true := by
  unfold pairB at h
  split at h
  · rename_i a b
    rw [Bool.and_eq_true] at h
    have h1 := h.1
    unfold keyB at h1
    split at h1
    · rename_i k
      exact h1
    · cases h1
  · cases h
theorem above_good {leaf : Bool} {s : Int} (hs : 1 ≤ s) : ∀ (rows : List (List D)) (nx : Int), 0 < nx → (∀ row ∈ rows, 0 < row.length) → (∀ x ∈ rows.flatten, pairB leaf x = true) → rows.flatten.Pairwise (fun x y => keyOf x < keyOf y) →
    (∀ x ∈ above s nx rows, pairB false x = true) ∧ (above s nx rows).Pairwise (fun x y => keyOf x < keyOf y) ∧ ∀ x ∈ above s nx rows, ∃ y ∈ rows.flatten, keyOf x = keyOf y
  | [], nx, _, _, _, _ => ⟨fun x hx => by (cases hx), .nil, fun x hx => by (cases hx)⟩
  | row :: rows, nx, hn, h1, h2, h3 => by
    rw [List.flatten_cons] at h2 h3
    obtain ⟨x, r, hrow, hk⟩ := head_mem (h1 row List.mem_cons_self)
    have hxm : x ∈ row := by rw [hrow]; exact List.mem_cons_self
    obtain ⟨g1, g2, g3⟩ := above_good hs rows (nx + s) (by omega) (fun q hq => h1 q (List.mem_cons_of_mem _ hq)) (fun y hy => h2 y (List.mem_append_right _ hy)) (List.pairwise_append.mp h3).2.1
    have hkx : keyOf (.tup [.int (headKey row), .int nx]) = keyOf x := by rw [← hk]; rfl
    rw [above]
    refine ⟨fun y hy => ?_, ?_, fun y hy => ?_⟩
    · rcases List.mem_cons.mp hy with rfl | hy
      · have := keyOf_pair (h2 x (List.mem_append_left _ hxm))
        rw [← hk] at this
        show (keyB (.int (headKey row)) && posB (.int nx)) = true
        rw [this]
        simp [posB, hn]
      · exact g1 y hy
    · rw [List.pairwise_cons]
      refine ⟨fun y hy => ?_, g2⟩
      obtain ⟨z, hz, e⟩ := g3 y hy
      rw [hkx, e]
      exact (List.pairwise_append.mp h3).2.2 x hxm z hz
    · rcases List.mem_cons.mp hy with rfl | hy
      · exact ⟨x, by rw [List.flatten_cons]; exact List.mem_append_left _ hxm, hkx⟩
      · obtain ⟨z, hz, e⟩ := g3 y hy
        exact ⟨z, by rw [List.flatten_cons]; exact List.mem_append_right _ hz, e⟩
theorem lev_step {w : Nat} {row : List D} {s : Int} (hw : 3 ≤ w) (hs : 1 ≤ s) (leaf : Bool) (B : List (Int × D)) (ps : List D) (nx : Int) (rows : List (List D)) (h : Lev w row leaf B ps nx) (c : Cut w ps rows) : Lev w row false (addRows leaf s B nx rows) (above s nx rows) (numAt s nx rows) := by
  obtain ⟨k1, k2, k3, k4⟩ := addRows_keys (leaf := leaf) hs rows B nx h.nd h.ks h.pos
  have hgood : rowB leaf rows.flatten = true := by rw [c.flat]; exact h.good
  obtain ⟨q1, q2⟩ := (rowB_pw _).mp hgood
  obtain ⟨g1, g2, _⟩ := above_good (leaf := leaf) hs rows nx h.pos (fun r hr => by have := (c.size r hr).1; omega) q1 q2
  refine ⟨k1, k2, k3, (rowB_pw _).mpr ⟨g1, g2⟩, fun z => by (cases z), fun _ => ?_⟩
  refine ⟨by rw [above_len]; exact c.two, ?_, ?_⟩
  · cases leaf with
    | true =>
      obtain ⟨_, rfl⟩ := h.low rfl
      intro e
      have := c.less
      rw [e] at this
      simp at this
    | false => exact (h.high rfl).2.1
  · cases leaf with
    | true =>
      obtain ⟨rfl, rfl⟩ := h.low rfl
      refine ⟨0, fun d => ?_⟩
      obtain ⟨vs, w1, w2, w3, w4, w5, w6, w7⟩ := made (B := addRows true s [] nx rows) hw hs rows nx d [] h.pos (addRows_has hs rows [] nx) hgood c.size (fun z => by cases z) (fun _ => rfl)
      refine ⟨vs, w1, w4 (fun n hn => by cases hn) List.nodup_nil, ?_, ?_, fun x hx => ?_⟩
      · rw [w2, k4]
        simp
      · rw [w5, if_pos rfl, c.flat]
      · rw [w6 rfl x hx]
        omega
    | false =>
      obtain ⟨_, _, hgt, hh⟩ := h.high rfl
      refine ⟨hgt + 1, fun d => ?_⟩
      obtain ⟨U, u1, u2, u3, u4, u5⟩ := hh (d + 1)
      have ag : ∀ t ∈ U, aget (addRows false s B nx rows) t.n = aget B t.n := fun t ht => addRows_low hs rows B nx t.n (h.ks _ (u1.key ht)).2
      obtain ⟨vs, w1, w2, w3, w4, w5, w6, w7⟩ := made (B := addRows false s B nx rows) hw hs rows nx d U h.pos (addRows_has hs rows B nx) hgood c.size (fun _ => by rw [c.flat]; exact u1.agree ag) (fun z => by cases z)
      refine ⟨vs, w1, w4 (fun n hn => ?_) u2, ?_, ?_, fun x hx => ?_⟩
      · obtain ⟨t, ht, rfl⟩ := List.mem_map.mp hn
        exact (h.ks _ (u1.key ht)).2
      · rw [w2, k4, u3]
        omega
      · rw [w5, if_neg Bool.false_ne_true, rowsW_agree ag, u4]
      · rw [w7 rfl, depths_agree ag] at hx
        rw [u5 x hx]
        omega
theorem rise_of {ks : List Int} (h : ks.Pairwise (· < ·)) : rise ks := fun k a b ha hb => by
  rw [List.pairwise_iff_getElem] at h
  obtain ⟨h1, e1⟩ := List.getElem?_eq_some_iff.mp ha
  obtain ⟨h2, e2⟩ := List.getElem?_eq_some_iff.mp hb
  rw [← e1, ← e2]
  exact h k (k + 1) h1 h2 (by omega)
/-- the tree, its root put there -/
theorem lev_root {w : Nat} {row : List D} {leaf : Bool} {B : List (Int × D)} {ps : List D} {nx : Int} (hw : 3 ≤ w) (h : Lev w row leaf B ps nx) (hl : ps.length ≤ w) (hrow : rowB true row = true) : ∃ vs, SoundP (aput B 0 (blkD leaf ps)) w vs ∧ rowsW (aput B 0 (blkD leaf ps)) vs = row ∧ (akeys (aput B 0 (blkD leaf ps))).Nodup ∧ (aput B 0 (blkD leaf ps)).length = B.length + 1 := by
  have hnot : (0 : Int) ∉ akeys B := fun z => by have := (h.ks 0 z).1; omega
  have hlen : (aput B 0 (blkD leaf ps)).length = B.length + 1 := by
    have hk : akeys (aput B 0 (blkD leaf ps)) = akeys B ++ [0] := by rw [akeys_aput, if_neg hnot]
    have := congrArg List.length hk
    rw [akeys_len, List.length_append, akeys_len] at this
    exact this
  have hg : aget (aput B 0 (blkD leaf ps)) 0 = some (blkD leaf ps) := by rw [aget_aput, if_pos rfl]
  have hblk : blkOf (aput B 0 (blkD leaf ps)) 0 = blkD leaf ps := by unfold blkOf; rw [hg]; rfl
  have hup : ∀ vs, rowsW (aput B 0 (blkD leaf ps)) vs = row → rise (keysW (aput B 0 (blkD leaf ps)) vs) := fun vs e => by
    unfold keysW
    rw [e]
    exact rise_of (List.pairwise_map.mpr ((rowB_pw row).mp hrow).2)
  have hok : (leaf = false → 2 ≤ ps.length) → okT (aput B 0 (blkD leaf ps)) w ⟨0, 0, none⟩ = true := fun h2 => by
    unfold okT keyOk
    rw [hblk, leafB_blk, block_of (least := leastOf w 0) h.good (by unfold leastOf; simp) (by omega)]
    cases leaf with
    | true => rfl
    | false =>
      have h3 : 2 ≤ (pairsOf (blkD false ps)).length := h2 rfl
      simp [h3]
  cases leaf with
  | true =>
    obtain ⟨rfl, rfl⟩ := h.low rfl
    have hkids : kids (aput [] 0 (blkD true ps)) ⟨0, 0, none⟩ = [] := by
      unfold kids
      rw [hblk, leafB_blk]
      rfl
    have hr : rowsW (aput [] 0 (blkD true ps)) [⟨0, 0, none⟩] = ps := by
      unfold rowsW rowsT
      simp [hblk, leafB_blk]
      rfl
    refine ⟨[⟨0, 0, none⟩], ⟨.step (hok fun z => by cases z) (by rw [hkids]; exact .nil), by simp, by rw [hlen]; rfl, ?_, hup _ hr⟩, hr, nodup_aput h.nd, hlen⟩
    refine dist_one (d := 0) (fun x hx => ?_) ?_
    · unfold depths at hx
      obtain ⟨t, ht, rfl⟩ := List.mem_map.mp hx
      have := (List.mem_filter.mp ht).1
      simp at this
      rw [this]
    · unfold depths
      rw [List.filter_cons_of_pos (by show leafB (blkOf _ 0) = true; rw [hblk, leafB_blk])]
      simp
  | false =>
    obtain ⟨h2, hne, hgt, hh⟩ := h.high rfl
    obtain ⟨U, u1, u2, u3, u4, u5⟩ := hh 1
    have ag : ∀ t ∈ U, aget (aput B 0 (blkD false ps)) t.n = aget B t.n := fun t ht => by
      have := (h.ks _ (u1.key ht)).1
      rw [aget_aput, if_neg (by omega)]
    have hkids : kids (aput B 0 (blkD false ps)) ⟨0, 0, none⟩ = told 1 ps := by
      unfold kids
      rw [hblk, leafB_blk]
      rfl
    have hr0 : rowsT (aput B 0 (blkD false ps)) ⟨0, 0, none⟩ = [] := by
      unfold rowsT
      rw [hblk, leafB_blk]
      rfl
    have hr : rowsW (aput B 0 (blkD false ps)) (⟨0, 0, none⟩ :: U) = row := by
      have : rowsW (aput B 0 (blkD false ps)) (⟨0, 0, none⟩ :: U) = rowsT (aput B 0 (blkD false ps)) ⟨0, 0, none⟩ ++ rowsW (aput B 0 (blkD false ps)) U := by
        unfold rowsW
        rw [List.map_cons, List.flatten_cons]
      rw [this, hr0, rowsW_agree ag, u4]
      rfl
    have hd : depths (aput B 0 (blkD false ps)) (⟨0, 0, none⟩ :: U) = depths B U := by
      rw [← depths_agree ag]
      unfold depths
      rw [List.filter_cons_of_neg (by show ¬ leafB (blkOf _ 0) = true; rw [hblk, leafB_blk]; exact Bool.false_ne_true)]
    refine ⟨⟨0, 0, none⟩ :: U, ⟨.step (hok fun _ => h2) ?_, ?_, by rw [hlen, List.length_cons, u3], ?_, hup _ hr⟩, hr, nodup_aput h.nd, hlen⟩
    · rw [hkids, List.append_nil]
      exact u1.agree ag
    · rw [List.map_cons, List.nodup_cons]
      refine ⟨fun hn => ?_, u2⟩
      obtain ⟨t, ht, e⟩ := List.mem_map.mp hn
      have := (h.ks _ (u1.key ht)).1
      have e' : t.n = 0 := e
      omega
    · rw [hd]
      refine dist_one u5 fun e => hne ?_
      rw [← u4]
      unfold rowsW
      rw [List.flatten_eq_nil_iff]
      intro l hl2
      obtain ⟨t, ht, rfl⟩ := List.mem_map.mp hl2
      unfold rowsT
      rw [if_neg]
      intro hlf
      have : t.d ∈ depths B U := by
        unfold depths
        exact List.mem_map.mpr ⟨t, List.mem_filter.mpr ⟨ht, hlf⟩, rfl⟩
      rw [e] at this
      cases this
end BP
/-! BLBuiltTree: _law_tree_by. -/
namespace BP
open BL
open PySem (Str)
variable {M : Mem}
theorem rowB_pairsD {leaf : Bool} {ps : List D} (h : rowB leaf ps = true) : pairsD ps := fun x hx => by
  have h1 := ((rowB_pw _).mp h).1 x hx
  unfold pairB at h1
  split at h1
  · rename_i a b
    rw [Bool.and_eq_true] at h1
    have h2 := h1.1
    unfold keyB at h2
    split at h2
    · exact ⟨_, _, rfl⟩
    · cases h2
  · cases h1
/-- what the builder makes -/
structure Made (w : Nat) (row : List D) (B : List (Int × D)) : Prop where
  sound : ∃ vs, SoundP B w vs ∧ rowsW B vs = row
  nd : (akeys B).Nodup
  len : B.length ≤ row.length + 1
  ks : ∀ n ∈ akeys B, 0 ≤ n
theorem p_tree_by {p : Nat} {w : Nat} {c : Int} {row : List D} (h : M[p]? = some (.lst row)) (hw : 3 ≤ w ∧ w ≤ 64) (hc : 0 ≤ c) (hrow : rowB true row = true) (hl : row.length ≤ 10000) :
    ∃ b B M', g_law_tree_by [.ref p, .int w, .int c] M = some (.ok (.ref b) M') ∧ Kp M M' ∧ M.length ≤ b ∧ M'[b]? = some (.dct B) ∧ Made w row B := by
  have hs : (1 : Int) ≤ 1 + c / 5 % 2 := by omega
  have lev0 : Lev w row true [] row (1 + c % 3) := ⟨List.nodup_nil, fun n hn => by (cases hn), by omega, hrow, fun _ => ⟨rfl, rfl⟩, fun z => by (cases z)⟩
  obtain ⟨n, leaf', B', ps', nx', p', y6, y7, M2, e, ⟨hP, hPl⟩, k2, b2, a2, hps, hlw⟩ := to_while (M := M) (bi := M.length) (w := w) (c := c) (s := 1 + c / 5 % 2) (fun leaf B ps nx => Lev w row leaf B ps nx ∧ B.length + ps.length ≤ row.length) rfl hw (Nat.le_refl _)
    (fun leaf B ps nx rows hh hcut => ⟨lev_step hw.1 hs leaf B ps nx rows hh.1 hcut, by
      have h1 := addRows_len leaf (1 + c / 5 % 2) rows B nx
      rw [above_len]
      have h3 : ∀ rs : List (List D), (∀ row ∈ rs, 2 ≤ row.length) → 2 * rs.length ≤ rs.flatten.length := by
        intro rs
        induction rs with
        | nil => intro _; simp
        | cons r rs ih2 =>
          intro hr
          have := ih2 fun row hrow => hr row (List.mem_cons_of_mem _ hrow)
          have := hr r List.mem_cons_self
          rw [List.flatten_cons, List.length_append, List.length_cons]
          omega
      have h4 := h3 rows fun row hrow => by have := (hcut.size row hrow).1; omega
      rw [hcut.flat] at h4
      have := hh.2
      omega⟩) row.length true [] row (1 + c % 3) p (M ++ [Ob.dct []]) none none (Nat.le_refl _) ⟨lev0, by simp⟩ (Kp.app _ _) get_new (get_app h) (rowB_pairsD hrow) hl (by simp) (by simp; omega)
  obtain ⟨vs, sp, hr, hnd, hlen⟩ := lev_root hw.1 hP hlw hrow
  have e1 : mSeq b_law_tree_by_0 (mSeq b_law_tree_by_1 b_law_tree_by_2) ([some (.ref p), some (.int w), some (.int c)] ++ List.replicate (8 - 3) none) M = some (.nx [some (.ref p), some (.int w), some (.int c), some (.ref M.length), some (.str (kindS true)), some (.int (1 + c % 3)), none, none], M ++ [Ob.dct []]) := by
    simp [b_law_tree_by_0, b_law_tree_by_1, b_law_tree_by_2]
    rfl
  have e3 : b_law_tree_by_3 [some (.ref p), some (.int w), some (.int c), some (.ref M.length), some (.str (kindS true)), some (.int (1 + c % 3)), none, none] (M ++ [Ob.dct []]) = some (.nx [some (.ref p'), some (.int w), some (.int c), some (.ref M.length), some (.str (kindS leaf')), some (.int nx'), y6, y7], M2) := by rw [to_eq]; exact mWhile_of e
  have ht : oTuple [.ref p'] M2 = some (.tup ps', M2) := by simp [oTuple, seqOf, a2]
  have hput : oPutA (.ref M.length) (.int 0) (.tup [.str (kindS leaf'), .tup ps']) M2 = some (M2.set M.length (.dct (aput B' 0 (blkD leaf' ps')))) := put_dct (k := 0) (d := blkD leaf' ps') b2 (by omega)
  have e4 : b_law_tree_by_4 [some (.ref p'), some (.int w), some (.int c), some (.ref M.length), some (.str (kindS leaf')), some (.int nx'), y6, y7] M2 = some (.nx [some (.ref p'), some (.int w), some (.int c), some (.ref M.length), some (.str (kindS leaf')), some (.int nx'), y6, y7], M2.set M.length (.dct (aput B' 0 (blkD leaf' ps')))) := by
    simp [b_law_tree_by_4, ht, hput]
  refine ⟨M.length, aput B' 0 (blkD leaf' ps'), M2.set M.length (.dct (aput B' 0 (blkD leaf' ps'))), ?_, k2.set (Nat.le_refl _) _, Nat.le_refl _, get_set_eq b2, ⟨⟨vs, sp, hr⟩, hnd, by omega, fun n hn => ?_⟩⟩
  · simp only [g_law_tree_by, ev_def3]
    rw [b_law_tree_by, seq3 e1, seq_step e3, seq_step e4]
    simp [b_law_tree_by_5]
  · rw [akeys_aput] at hn
    split at hn
    · have := (hP.ks n hn).1
      omega
    · rcases List.mem_append.mp hn with hn | hn
      · have := (hP.ks n hn).1
        omega
      · have : n = 0 := by simpa using hn
        omega
end BP
/-! BLSpoil: what breaks a sound tree. -/
namespace BP
open BL
open PySem (Str)
variable {B B' : List (Int × D)} {w : Int} {vs vs' : List Tl}
theorem SoundP.there (h : SoundP B w vs) {n : Int} (hn : n ∈ akeys B) : ∃ t ∈ vs, t.n = n := by
  by_cases c : n ∈ vs.map (·.n)
  · obtain ⟨t, ht, e⟩ := List.mem_map.mp c
    exact ⟨t, ht, e⟩
  · have h1 : (n :: vs.map (·.n)).Nodup := List.nodup_cons.mpr ⟨c, h.nd⟩
    have h2 := nodup_len (ys := akeys B) h1 fun x hx => by
      rcases List.mem_cons.mp hx with rfl | hx
      · exact hn
      · obtain ⟨t, ht, rfl⟩ := List.mem_map.mp hx
        exact h.ws.key ht
    have h3 := h.all
    rw [akeys_len] at h2
    simp at h2
    omega
theorem SoundP.ok (h : SoundP B w vs) {n : Int} (hn : n ∈ akeys B) : ∃ t ∈ vs, t.n = n ∧ okT B w t = true := by
  obtain ⟨t, ht, e⟩ := h.there hn
  exact ⟨t, ht, e, h.ws.ok t ht⟩
theorem WS.sub {S : List Tl} (h : WS B w S vs) : (∀ t ∈ S, t ∈ vs) ∧ ∀ u ∈ vs, ∀ t ∈ kids B u, t ∈ vs := by
  induction h with
  | nil => exact ⟨fun t ht => by (cases ht), fun u hu => by (cases hu)⟩
  | @step t rest vs ho hv ih =>
    refine ⟨fun x hx => ?_, fun u hu x hx => ?_⟩
    · rcases List.mem_cons.mp hx with rfl | hx
      · exact List.mem_cons_self
      · exact List.mem_cons_of_mem _ (ih.1 x (List.mem_append_right _ hx))
    · rcases List.mem_cons.mp hu with rfl | hu
      · exact List.mem_cons_of_mem _ (ih.1 x (List.mem_append_left _ hx))
      · exact List.mem_cons_of_mem _ (ih.2 u hu x hx)
theorem WS.up {S : List Tl} (h : WS B w S vs) : ∀ t ∈ vs, t ∈ S ∨ ∃ u ∈ vs, t ∈ kids B u := by
  induction h with
  | nil => exact fun t ht => by (cases ht)
  | @step t rest vs ho hv ih =>
    intro x hx
    rcases List.mem_cons.mp hx with rfl | hx
    · exact .inl List.mem_cons_self
    · rcases ih x hx with hm | ⟨u, hu, hk⟩
      · rcases List.mem_append.mp hm with hm | hm
        · exact .inr ⟨t, List.mem_cons_self, hm⟩
        · exact .inl (List.mem_cons_of_mem _ hm)
      · exact .inr ⟨u, List.mem_cons_of_mem _ hu, hk⟩
theorem SoundP.kid (h : SoundP B w vs) {u t : Tl} (hu : u ∈ vs) (ht : t ∈ kids B u) : t ∈ vs := h.ws.sub.2 u hu t ht
theorem SoundP.root (h : SoundP B w vs) : (⟨0, 0, none⟩ : Tl) ∈ vs := h.ws.sub.1 _ List.mem_cons_self
theorem SoundP.parent (h : SoundP B w vs) {t : Tl} (ht : t ∈ vs) (hn : t.n ≠ 0) : ∃ u ∈ vs, t ∈ kids B u := by
  rcases h.ws.up t ht with hm | hm
  · have : t = ⟨0, 0, none⟩ := by simpa using hm
    rw [this] at hn
    exact absurd rfl hn
  · exact hm
theorem inj_of {α β : Type} (f : α → β) : ∀ {l : List α}, (l.map f).Nodup → ∀ {x y : α}, x ∈ l → y ∈ l → f x = f y → x = y
  | [], _, _, _, hx, _, _ => by cases hx
  | a :: l, h, x, y, hx, hy, e => by
    rw [List.map_cons, List.nodup_cons] at h
    rcases List.mem_cons.mp hx with rfl | hx1 <;> rcases List.mem_cons.mp hy with rfl | hy1
    · rfl
    · exact (h.1 (List.mem_map.mpr ⟨y, hy1, e.symm⟩)).elim
    · exact (h.1 (List.mem_map.mpr ⟨x, hx1, e⟩)).elim
    · exact inj_of f h.2 hx1 hy1 e
theorem SoundP.inj (h : SoundP B w vs) {t u : Tl} (ht : t ∈ vs) (hu : u ∈ vs) (e : t.n = u.n) : t = u := inj_of (·.n) h.nd ht hu e
theorem kid_depth {u t : Tl} (h : t ∈ kids B u) : t.d = u.d + 1 ∧ leafB (blkOf B u.n) = false ∧ ∃ p ∈ pairsOf (blkOf B u.n), t = ⟨numOf p, u.d + 1, some (keyOf p)⟩ := by
  unfold kids at h
  split at h
  · cases h
  · rename_i c
    obtain ⟨p, hp, rfl⟩ := List.mem_map.mp h
    exact ⟨rfl, by simpa using c, p, hp, rfl⟩
theorem SoundP.noSelf (h : SoundP B w vs) {u t : Tl} (hu : u ∈ vs) (ht : t ∈ kids B u) : u.n ≠ t.n := fun e => by
  have e2 := h.inj hu (h.kid hu ht) e
  have h1 := (kid_depth ht).1
  rw [← e2] at h1
  omega
theorem kids_same {u : Tl} (e : aget B' u.n = aget B u.n) : kids B' u = kids B u := by
  unfold kids blkOf
  rw [e]
theorem kids_num {u u' : Tl} (e : u'.n = u.n) {t : Tl} (h : t ∈ kids B u') : ∃ t2 ∈ kids B u, t2.n = t.n ∧ t2.k = t.k := by
  obtain ⟨_, hl, p, hp, rfl⟩ := kid_depth h
  rw [e] at hl hp
  refine ⟨⟨numOf p, u.d + 1, some (keyOf p)⟩, ?_, rfl, rfl⟩
  unfold kids
  rw [if_neg (by rw [hl]; exact Bool.false_ne_true)]
  exact List.mem_map.mpr ⟨p, hp, rfl⟩
/-- a block that is none -/
theorem not_ok {n : Int} (hn : n ∈ akeys B) (hb : blockB (blkOf B n) (leastOf w n) w = false ∨ (leafB (blkOf B n) = false ∧ (pairsOf (blkOf B n)).length < 2)) : ¬ ∃ vs, SoundP B w vs := fun ⟨vs, h⟩ => by
  obtain ⟨t, ht, rfl, ho⟩ := h.ok hn
  unfold okT at ho
  rw [Bool.and_eq_true, Bool.and_eq_true, Bool.or_eq_true, decide_eq_true_eq] at ho
  rcases hb with hb | ⟨h1, h2⟩
  · rw [hb] at ho
    cases ho.1
  · rcases ho.2.2 with h3 | h3
    · rw [h1] at h3
      cases h3
    · omega
/-- a child that is not there -/
theorem no_child (hB : SoundP B w vs) {n : Int} (hn : n ∈ akeys B) : ¬ ∃ vs', SoundP (adel B n) w vs' := fun ⟨vs', h⟩ => by
  have hno : n ∉ akeys (adel B n) := by
    rw [← aget_none, aget_adel, if_pos rfl]
  obtain ⟨t, ht, e⟩ := hB.there hn
  by_cases c : n = 0
  · subst c
    exact hno (h.ws.key h.root)
  · obtain ⟨u, hu, hk⟩ := hB.parent ht (by rw [e]; exact c)
    have hne := hB.noSelf hu hk
    have hg : aget (adel B n) u.n = aget B u.n := by rw [aget_adel, if_neg (by omega)]
    have hu2 : u.n ∈ akeys (adel B n) := by
      rw [← aget_isSome, hg, aget_isSome]
      exact hB.ws.key hu
    obtain ⟨u', hu', e'⟩ := h.there hu2
    rw [← kids_same hg] at hk
    obtain ⟨t2, ht2, e2, _⟩ := kids_num (B := adel B n) (u := u') (u' := u) e'.symm hk
    have := h.ws.key (h.kid hu' ht2)
    rw [e2, e] at this
    exact hno this
/-- a child of an old block is an old one -/
theorem old_kid (hB : SoundP B w vs) {u t : Tl} (hu : u.n ∈ akeys B) (e : aget B' u.n = aget B u.n) (ht : t ∈ kids B' u) : t.n ∈ akeys B ∧ ∃ k, t.k = some k ∧ firstKey (blkOf B t.n) = k := by
  rw [kids_same e] at ht
  obtain ⟨u2, hu2, e2⟩ := hB.there hu
  obtain ⟨t2, ht2, e3, e4⟩ := kids_num (B := B) (u := u2) (u' := u) e2.symm ht
  have hm := hB.kid hu2 ht2
  refine ⟨by rw [← e3]; exact hB.ws.key hm, ?_⟩
  obtain ⟨_, _, p, hp, rfl⟩ := kid_depth ht2
  have ho := hB.ws.ok _ hm
  unfold okT keyOk at ho
  rw [Bool.and_eq_true, Bool.and_eq_true, decide_eq_true_eq] at ho
  have e5 : numOf p = t.n := e3
  exact ⟨keyOf p, e4.symm, by rw [← e5]; exact ho.2.1⟩
/-- a number that no block leads to -/
theorem no_parent (hB : SoundP B w vs) {m : Int} {X : D} (hm : m ∉ akeys B) (h0 : m ≠ 0) : ¬ ∃ vs', SoundP (aput B m X) w vs' := fun ⟨vs', h⟩ => by
  have hmk : m ∈ akeys (aput B m X) := by rw [← aget_isSome, aget_aput, if_pos rfl]; rfl
  obtain ⟨t, ht, e⟩ := h.there hmk
  obtain ⟨u, hu, hk⟩ := h.parent ht (by omega)
  have hne := h.noSelf hu hk
  have hg : aget (aput B m X) u.n = aget B u.n := by rw [aget_aput, if_neg (by omega)]
  have hu2 : u.n ∈ akeys B := by
    rw [← aget_isSome, ← hg, aget_isSome]
    exact h.ws.key hu
  have := (old_kid hB hu2 hg hk).1
  rw [e] at this
  exact hm this
/-- a block whose first key is not the one that leads to it -/
theorem key_off (hB : SoundP B w vs) {n : Int} {X : D} (hn : n ∈ akeys B) (h0 : n ≠ 0) (hX : firstKey X ≠ firstKey (blkOf B n)) : ¬ ∃ vs', SoundP (aput B n X) w vs' := fun ⟨vs', h⟩ => by
  have hg0 : aget (aput B n X) n = some X := by rw [aget_aput, if_pos rfl]
  have hmk : n ∈ akeys (aput B n X) := by rw [← aget_isSome, hg0]; rfl
  obtain ⟨t, ht, e⟩ := h.there hmk
  obtain ⟨u, hu, hk⟩ := h.parent ht (by omega)
  have hne := h.noSelf hu hk
  have hg : aget (aput B n X) u.n = aget B u.n := by rw [aget_aput, if_neg (by omega)]
  have hu2 : u.n ∈ akeys B := by
    rw [← aget_isSome, ← hg, aget_isSome]
    exact h.ws.key hu
  obtain ⟨_, k, hk1, hk2⟩ := old_kid hB hu2 hg hk
  have ho := h.ws.ok t ht
  unfold okT keyOk at ho
  rw [hk1] at ho
  rw [Bool.and_eq_true, Bool.and_eq_true, decide_eq_true_eq] at ho
  have hb : blkOf (aput B n X) t.n = X := by
    unfold blkOf
    rw [e, hg0]
    rfl
  rw [hb] at ho
  rw [e] at hk2
  exact hX (by rw [hk2]; exact ho.2.1)
end BP
/-! BLSpoil2: what breaks a sound tree, second part. -/
namespace BP
open BL
open PySem (Str)
variable {B B' : List (Int × D)} {w : Int} {vs vs' : List Tl}
theorem kid_in {u : Tl} {p : D} (hl : leafB (blkOf B u.n) = false) (hp : p ∈ pairsOf (blkOf B u.n)) : (⟨numOf p, u.d + 1, some (keyOf p)⟩ : Tl) ∈ kids B u := by
  unfold kids
  rw [if_neg (by rw [hl]; exact Bool.false_ne_true)]
  exact List.mem_map.mpr ⟨p, hp, rfl⟩
theorem blk_put {n : Int} {X : D} : blkOf (aput B n X) n = X := by
  unfold blkOf
  rw [aget_aput, if_pos rfl]
  rfl
theorem key_put {n : Int} {X : D} : n ∈ akeys (aput B n X) := by rw [← aget_isSome, aget_aput, if_pos rfl]; rfl
/-- a pair of a branch that leads to a block of another first key -/
theorem lead_off (hB : SoundP B w vs) {n : Int} {X q p : D} (hn : n ∈ akeys B) (hl : leafB (blkOf B n) = false) (hp : p ∈ pairsOf (blkOf B n)) (hX : leafB X = false) (hq : q ∈ pairsOf X) (e : numOf q = numOf p) (hk : keyOf q ≠ keyOf p) : ¬ ∃ vs', SoundP (aput B n X) w vs' := fun ⟨vs', h⟩ => by
  obtain ⟨t, ht, rfl⟩ := hB.there hn
  have hk1 := kid_in hl hp
  have m1 := hB.kid ht hk1
  have hne := hB.noSelf ht hk1
  obtain ⟨t', ht', e'⟩ := h.there (key_put (B := B) (n := t.n) (X := X))
  have hk2 : (⟨numOf q, t'.d + 1, some (keyOf q)⟩ : Tl) ∈ kids (aput B t.n X) t' := kid_in (by rw [e', blk_put]; exact hX) (by rw [e', blk_put]; exact hq)
  have o1 := hB.ws.ok _ m1
  have o2 := h.ws.ok _ (h.kid ht' hk2)
  unfold okT keyOk at o1 o2
  rw [Bool.and_eq_true, Bool.and_eq_true, decide_eq_true_eq] at o1 o2
  have hg : blkOf (aput B t.n X) (numOf q) = blkOf B (numOf p) := by
    unfold blkOf
    rw [e, aget_aput, if_neg (by intro z; exact hne z.symm)]
  have h1 := o1.2.1
  have h2 := o2.2.1
  rw [hg] at h2
  exact hk (h2.symm.trans h1)
/-- a child twice -/
theorem twice {n : Int} {p q : D} (hn : n ∈ akeys B) (hl : leafB (blkOf B n) = false) (hp : p ∈ pairsOf (blkOf B n)) (hq : q ∈ pairsOf (blkOf B n)) (e : numOf p = numOf q) (hk : keyOf p ≠ keyOf q) : ¬ ∃ vs, SoundP B w vs := fun ⟨vs, h⟩ => by
  obtain ⟨t, ht, rfl⟩ := h.there hn
  have := h.inj (h.kid ht (kid_in hl hp)) (h.kid ht (kid_in hl hq)) e
  injection this with _ _ h3
  injection h3 with h3
  exact hk h3
/-- two that lead just to each other -/
theorem ringed (hB : SoundP B w vs) {m k : Int} (hm : m ∈ akeys B') (hk : k ∈ akeys B') (m0 : m ≠ 0) (k0 : k ≠ 0) (hmB : m ∉ akeys B) (hkB : k ∉ akeys B)
    (other : ∀ n, n ∈ akeys B' → n ≠ m → n ≠ k → aget B' n = aget B n ∧ n ∈ akeys B ∨ leafB (blkOf B' n) = true) : ¬ ∃ vs', SoundP B' w vs' := fun ⟨vs', h⟩ => by
  obtain ⟨t, ht, e⟩ := h.there hm
  obtain ⟨s, hs, e2⟩ := h.there hk
  have key : ∀ t : Tl, t ∈ vs' → t.n ≠ 0 → t.n ∉ akeys B → ∀ u ∈ vs', t ∈ kids B' u → u.n ≠ m → u.n ≠ k → False := fun t ht h0 hno u hu hk h1 h2 => by
    rcases other u.n (h.ws.key hu) h1 h2 with ⟨hg, hu2⟩ | hl
    · exact hno (old_kid hB hu2 hg hk).1
    · rw [(kid_depth hk).2.1] at hl
      cases hl
  obtain ⟨u, hu, hku⟩ := h.parent ht (by omega)
  obtain ⟨v, hv, hkv⟩ := h.parent hs (by omega)
  have n1 := h.noSelf hu hku
  have n2 := h.noSelf hv hkv
  have d1 := (kid_depth hku).1
  have d2 := (kid_depth hkv).1
  by_cases c1 : u.n = k
  · by_cases c2 : v.n = m
    · have i1 := h.inj hu hs (by omega)
      have i2 := h.inj hv ht (by omega)
      rw [i1] at d1
      rw [i2] at d2
      omega
    · exact key s hs (by omega) (by rw [e2]; exact hkB) v hv hkv c2 (by omega)
  · exact key t ht (by omega) (by rw [e]; exact hmB) u hu hku (by omega) c1
/-- every block of the walk has a leaf no less deep -/
theorem WS.deep {S : List Tl} (h : WS B w S vs) : ∀ t ∈ vs, ∃ l ∈ vs, leafB (blkOf B l.n) = true ∧ t.d ≤ l.d := by
  induction h with
  | nil => exact fun t ht => by (cases ht)
  | @step t rest vs ho hv ih =>
    intro x hx
    rcases List.mem_cons.mp hx with rfl | hx
    · obtain ⟨leaf, rows, _, hl, hp, _, _, _, _, h2⟩ := okT_block ho
      cases leaf with
      | true => exact ⟨x, List.mem_cons_self, hl, Int.le_refl _⟩
      | false =>
        have h3 := h2 rfl
        obtain ⟨p, r, e⟩ : ∃ p r, rows = p :: r := by
          cases rows with
          | nil => simp at h3
          | cons p r => exact ⟨p, r, rfl⟩
        have hk := kid_in (u := x) hl (p := p) (by rw [hp, e]; exact List.mem_cons_self)
        obtain ⟨l, hl2, h4, h5⟩ := ih _ (hv.sub.1 _ (List.mem_append_left _ hk))
        exact ⟨l, List.mem_cons_of_mem _ hl2, h4, by have : x.d + 1 ≤ l.d := h5; omega⟩
    · obtain ⟨l, hl2, h4, h5⟩ := ih x hx
      exact ⟨l, List.mem_cons_of_mem _ hl2, h4, h5⟩
theorem leaf_depth {t : Tl} (ht : t ∈ vs) (hl : leafB (blkOf B t.n) = true) : t.d ∈ depths B vs := by
  unfold depths
  exact List.mem_map.mpr ⟨t, List.mem_filter.mpr ⟨ht, hl⟩, rfl⟩
theorem SoundP.level (h : SoundP B w vs) {t u : Tl} (ht : t ∈ vs) (hu : u ∈ vs) (h1 : leafB (blkOf B t.n) = true) (h2 : leafB (blkOf B u.n) = true) : t.d = u.d := by
  by_cases c : t.d = u.d
  · exact c
  · exact absurd h.flat (dist_two (leaf_depth ht h1) (leaf_depth hu h2) c)
/-- another leaf than a leaf that is not the root -/
theorem SoundP.other (h : SoundP B w vs) {t : Tl} (ht : t ∈ vs) (h0 : t.n ≠ 0) (hl : leafB (blkOf B t.n) = true) : ∃ l ∈ vs, leafB (blkOf B l.n) = true ∧ l.n ≠ t.n := by
  obtain ⟨u, hu, hk⟩ := h.parent ht h0
  obtain ⟨hd, hul, p, hp, rfl⟩ := kid_depth hk
  obtain ⟨leaf, rows, _, hl2, hpr, hrow, _, _, _, h2⟩ := okT_block (h.ws.ok u hu)
  rw [hl2] at hul
  subst hul
  have h3 := h2 rfl
  have hpw := ((rowB_pw _).mp hrow).2
  rw [hpr] at hp
  obtain ⟨q, hq, hqk⟩ : ∃ q ∈ rows, keyOf q ≠ keyOf p := by
    match rows, h3 with
    | a :: b :: r, _ =>
      have := (List.pairwise_cons.mp hpw).1 b List.mem_cons_self
      by_cases c : keyOf a = keyOf p
      · exact ⟨b, List.mem_cons_of_mem _ List.mem_cons_self, by omega⟩
      · exact ⟨a, List.mem_cons_self, c⟩
  have hkq := kid_in (u := u) hl2 (p := q) (by rw [hpr]; exact hq)
  have mq := h.kid hu hkq
  obtain ⟨l, hl4, hl5, hl6⟩ := h.ws.deep _ mq
  have hlev := h.level hl4 ht hl5 hl
  cases hlq : leafB (blkOf B (numOf q)) with
  | true =>
    refine ⟨_, mq, hlq, fun e => ?_⟩
    have := h.inj mq ht e
    injection this with _ _ h7
    injection h7 with h7
    exact hqk h7
  | false =>
    obtain ⟨leaf2, rows2, _, hl7, hpr2, _, _, _, _, h8⟩ := okT_block (h.ws.ok _ mq)
    have hz : leaf2 = false := by rw [← hl7]; exact hlq
    have h9 := h8 hz
    obtain ⟨p2, r2, e2⟩ : ∃ p r, rows2 = p :: r := by
      cases rows2 with
      | nil => simp at h9
      | cons p r => exact ⟨p, r, rfl⟩
    have hk2 := kid_in (u := ⟨numOf q, u.d + 1, some (keyOf q)⟩) hlq (p := p2) (by rw [hpr2, e2]; exact List.mem_cons_self)
    obtain ⟨l2, hl8, hl9, hl10⟩ := h.ws.deep _ (h.kid mq hk2)
    have hlev2 := h.level hl8 ht hl9 hl
    have z1 : u.d + 1 + 1 ≤ l2.d := hl10
    have z2 : l2.d = u.d + 1 := hlev2
    omega
end BP
/-! BLSpoil3: what breaks a sound tree, third part. -/
namespace BP
open BL
open PySem (Str)
variable {B B' : List (Int × D)} {w : Int} {vs vs' : List Tl}
/-- the walk over B, as B' has it: all but the leaf n are there, as deep -/
theorem WS.same {S : List Tl} {n : Int} (hB : WS B w S vs) (h : SoundP B' w vs') (hl : leafB (blkOf B n) = true) (hg : ∀ j, j ≠ n → j ∈ akeys B → aget B' j = aget B j) : (∀ t ∈ S, ∃ t' ∈ vs', t'.n = t.n ∧ t'.d = t.d) → ∀ t ∈ vs, ∃ t' ∈ vs', t'.n = t.n ∧ t'.d = t.d := by
  induction hB with
  | nil => exact fun _ t ht => by (cases ht)
  | @step t rest vs ho hv ih =>
    intro hS
    have hall := ih fun x hx => by
      rcases List.mem_append.mp hx with hx | hx
      · obtain ⟨t', ht', e1, e2⟩ := hS t List.mem_cons_self
        obtain ⟨hd, hlf, p, hp, rfl⟩ := kid_depth hx
        have hne : t.n ≠ n := fun z => by
          rw [z, hl] at hlf
          cases hlf
        have hk : t.n ∈ akeys B := (WS.step ho hv).key List.mem_cons_self
        have hgt := hg t.n hne hk
        have hb : blkOf B' t'.n = blkOf B t.n := by unfold blkOf; rw [e1, hgt]
        have hkid := kid_in (B := B') (u := t') (p := p) (by rw [hb]; exact hlf) (by rw [hb]; exact hp)
        refine ⟨_, h.kid ht' hkid, rfl, ?_⟩
        show t'.d + 1 = t.d + 1
        omega
      · exact hS x (List.mem_cons_of_mem _ hx)
    intro x hx
    rcases List.mem_cons.mp hx with rfl | hx
    · exact hS x List.mem_cons_self
    · exact hall x hx
theorem SoundP.same {n : Int} (hB : SoundP B w vs) (h : SoundP B' w vs') (hl : leafB (blkOf B n) = true) (hg : ∀ j, j ≠ n → j ∈ akeys B → aget B' j = aget B j) : ∀ t ∈ vs, ∃ t' ∈ vs', t'.n = t.n ∧ t'.d = t.d :=
  hB.ws.same h hl hg fun t ht => by
    have : t = ⟨0, 0, none⟩ := by simpa using ht
    subst this
    exact ⟨_, h.root, rfl, rfl⟩
/-- a leaf that has become a branch -/
theorem deeper (hB : SoundP B w vs) {n : Int} (hn : n ∈ akeys B) (h0 : n ≠ 0) (hl : leafB (blkOf B n) = true) (hg : ∀ j, j ≠ n → j ∈ akeys B → aget B' j = aget B j) (hlX : leafB (blkOf B' n) = false) {p : D} (hp : p ∈ pairsOf (blkOf B' n)) (hpl : leafB (blkOf B' (numOf p)) = true) : ¬ ∃ vs', SoundP B' w vs' := fun ⟨vs', h⟩ => by
  obtain ⟨t, ht, rfl⟩ := hB.there hn
  obtain ⟨l, hl1, hl2, hl3⟩ := hB.other ht h0 hl
  have hlev := hB.level ht hl1 hl hl2
  obtain ⟨t', ht', e1, e2⟩ := hB.same h hl hg t ht
  obtain ⟨l', hl', e3, e4⟩ := hB.same h hl hg l hl1
  have hll : leafB (blkOf B' l'.n) = true := by
    unfold blkOf
    rw [e3, hg _ hl3 (hB.ws.key hl1)]
    exact hl2
  have hk := kid_in (B := B') (u := t') (p := p) (by rw [e1]; exact hlX) (by rw [e1]; exact hp)
  have := h.level (h.kid ht' hk) hl' hpl hll
  have z : t'.d + 1 = l'.d := this
  omega
theorem rise_pw : ∀ {ks : List Int}, rise ks → ks.Pairwise (· < ·)
  | [], _ => .nil
  | a :: r, h => by
    have hr : rise r := fun k x y hx hy => h (k + 1) x y (by simpa using hx) (by simpa using hy)
    have ih := rise_pw hr
    rw [List.pairwise_cons]
    refine ⟨fun y hy => ?_, ih⟩
    match r, ih with
    | b :: r2, ih =>
      have hab : a < b := h 0 a b rfl rfl
      rcases List.mem_cons.mp hy with rfl | hy
      · exact hab
      · have := (List.pairwise_cons.mp ih).1 y hy
        omega
theorem pw_flat {α : Type} {R : α → α → Prop} : ∀ {ls : List (List α)} {i j : Nat} {a b : List α} {x y : α}, ls.flatten.Pairwise R → ls[i]? = some a → ls[j]? = some b → i < j → x ∈ a → y ∈ b → R x y
  | [], i, j, a, b, x, y, h, hi, _, _, _, _ => by simp at hi
  | l :: ls, 0, j + 1, a, b, x, y, h, hi, hj, _, hx, hy => by
    rw [List.flatten_cons, List.pairwise_append] at h
    simp at hi hj
    subst hi
    exact h.2.2 x hx y (List.mem_flatten.mpr ⟨b, List.mem_of_getElem? hj, hy⟩)
  | l :: ls, i + 1, j + 1, a, b, x, y, h, hi, hj, hij, hx, hy => by
    rw [List.flatten_cons, List.pairwise_append] at h
    simp at hi hj
    exact pw_flat h.2.1 hi hj (by omega) hx hy
/-- one key in two leaves -/
theorem two_leaves {n m : Int} {x y : D} (hn : n ∈ akeys B) (hm : m ∈ akeys B) (h1 : leafB (blkOf B n) = true) (h2 : leafB (blkOf B m) = true) (hnm : n ≠ m) (hx : x ∈ pairsOf (blkOf B n)) (hy : y ∈ pairsOf (blkOf B m)) (e : keyOf x = keyOf y) : ¬ ∃ vs, SoundP B w vs := fun ⟨vs, h⟩ => by
  obtain ⟨t, ht, rfl⟩ := h.there hn
  obtain ⟨s, hs, rfl⟩ := h.there hm
  have hpw := rise_pw h.up
  unfold keysW rowsW at hpw
  rw [List.pairwise_map] at hpw
  obtain ⟨i, hi⟩ := List.mem_iff_getElem?.mp ht
  obtain ⟨j, hj⟩ := List.mem_iff_getElem?.mp hs
  have g1 : (vs.map (rowsT B))[i]? = some (pairsOf (blkOf B t.n)) := by
    rw [List.getElem?_map, hi]
    show some (rowsT B t) = _
    unfold rowsT
    rw [if_pos h1]
  have g2 : (vs.map (rowsT B))[j]? = some (pairsOf (blkOf B s.n)) := by
    rw [List.getElem?_map, hj]
    show some (rowsT B s) = _
    unfold rowsT
    rw [if_pos h2]
  rcases Nat.lt_trichotomy i j with c | c | c
  · have := pw_flat hpw g1 g2 c hx hy
    omega
  · subst c
    rw [hi] at hj
    injection hj with hj
    exact hnm (by rw [hj])
  · have := pw_flat hpw g2 g1 c hy hx
    omega
/-- a leaf's last pair for one with a key from another leaf -/
theorem key_twice (hB : SoundP B w vs) {n : Int} {x : D} {X : D} (hn : n ∈ akeys B) (hl : leafB (blkOf B n) = true) (hno : ∀ y ∈ pairsOf (blkOf B n), keyOf y ≠ keyOf x) (hX : leafB X = true) (hx : x ∈ pairsOf X) (hk : keyOf x ∈ keysW B vs) : ¬ ∃ vs', SoundP (aput B n X) w vs' := by
  unfold keysW rowsW at hk
  obtain ⟨y, hy, e⟩ := List.mem_map.mp hk
  obtain ⟨r, hr, hyr⟩ := List.mem_flatten.mp hy
  obtain ⟨t, ht, rfl⟩ := List.mem_map.mp hr
  have htl : leafB (blkOf B t.n) = true := by
    unfold rowsT at hyr
    split at hyr
    · assumption
    · cases hyr
  unfold rowsT at hyr
  rw [if_pos htl] at hyr
  have hne : t.n ≠ n := fun z => by
    rw [z] at hyr
    exact hno y hyr e
  have hb : blkOf (aput B n X) t.n = blkOf B t.n := by
    unfold blkOf
    rw [aget_aput, if_neg hne]
  have ha : t.n ∈ akeys (aput B n X) := by
    rw [← aget_isSome, aget_aput, if_neg hne, aget_isSome]
    exact hB.ws.key ht
  exact two_leaves key_put ha (by rw [blk_put]; exact hX) (by rw [hb]; exact htl) (fun z => hne z.symm) (by rw [blk_put]; exact hx) (by rw [hb]; exact hyr) e.symm
theorem blockB_wide {d : D} {least least' most : Int} (h : blockB d least most = true) (h2 : least' ≤ (pairsOf d).length) : blockB d least' (most + 1) = true := by
  obtain ⟨leaf, ds, rfl, hl, hp, hr, h3, h4⟩ := block_parts h
  rw [hp] at h2
  exact block_of (leaf := leaf) hr h2 (by omega)
/-- one wider -/
theorem wider (hB : SoundP B w vs) (hw : 0 < w) : (∃ vs', SoundP B (w + 1) vs') ↔ ∀ n ∈ akeys B, 0 < n → (w + 1 + 1) / 2 ≤ ((pairsOf (blkOf B n)).length : Int) := by
  constructor
  · rintro ⟨vs', h⟩ n hn h0
    obtain ⟨t, ht, rfl, ho⟩ := h.ok hn
    obtain ⟨leaf, rows, _, _, hp, _, h1, _⟩ := okT_block ho
    rw [hp]
    unfold leastOf at h1
    rw [if_pos h0] at h1
    exact h1
  · intro hall
    refine ⟨vs, ⟨?_, hB.nd, hB.all, hB.flat, hB.up⟩⟩
    have key : ∀ S vs2, WS B w S vs2 → WS B (w + 1) S vs2 := by
      intro S vs2 h
      induction h with
      | nil => exact .nil
      | @step t rest vs ho hv ih =>
        refine .step ?_ ih
        have hk : t.n ∈ akeys B := (WS.step ho hv).key List.mem_cons_self
        unfold okT at ho ⊢
        rw [Bool.and_eq_true] at ho ⊢
        refine ⟨blockB_wide ho.1 ?_, ho.2⟩
        unfold leastOf
        split
        · rename_i h0
          exact hall _ hk h0
        · omega
    exact key _ _ hB.ws
end BP
/-! BLSee: a sound tree's blocks may be looked at, and are plain. -/
namespace BP
open BL
open PySem (Str)
variable {M : Mem}
theorem pair_shape {leaf : Bool} {d : D} (h : pairB leaf d = true) : ∃ (k : Int) (v : D), d = .tup [.int k, v] ∧ keyB (.int k) = true ∧ (if leaf = true then valB v else posB v) = true := by
  unfold pairB at h
  split at h
  · rename_i a b
    rw [Bool.and_eq_true] at h
    obtain ⟨h1, h2⟩ := h
    cases a with
    | int k => exact ⟨k, b, rfl, h1, h2⟩
    | _ => cases h1
  · cases h
theorem val_seen {leaf : Bool} {v : D} (h : (if leaf = true then valB v else posB v) = true) : Kn M v ∧ shortD v ∧ Pl 40 v := by
  cases leaf with
  | true =>
    rw [if_pos rfl] at h
    cases v with
    | str s =>
      have hg : goodS s.cps.toList := of_decide_eq_true h
      refine ⟨kn_str, ?_, pl_str ?_⟩
      · show s.length < _
        have := hg.1
        have e : s.length = s.cps.toList.length := by simp [Str.length]
        omega
      · show (Array.all _ _) = true
        rw [← Array.all_toList, List.all_eq_true]
        intro x hx
        have := hg.2 x hx
        simp
        omega
    | _ => cases h
  | false =>
    rw [if_neg Bool.false_ne_true] at h
    cases v with
    | int i => exact ⟨kn_int, trivial, pl_int⟩
    | _ => cases h
theorem pair_seen {leaf : Bool} {d : D} (h : pairB leaf d = true) : SeenP M d ∧ Pl 41 d := by
  obtain ⟨k, v, rfl, h1, h2⟩ := pair_shape h
  obtain ⟨v1, v2, v3⟩ := val_seen (M := M) h2
  refine ⟨⟨kn_tup, fun a b e => ?_⟩, pl_tup fun x hx => ?_⟩
  · cases e
    exact ⟨kn_int, v1, v2⟩
  · rcases List.mem_cons.mp hx with rfl | hx
    · exact pl_int
    · have : x = v := by simpa using hx
      rw [this]
      exact v3
theorem kind_pl (leaf : Bool) : Pl 50 (.str (kindS leaf)) := by
  cases leaf
  · exact pl_str (by decide +kernel)
  · exact pl_str (by decide +kernel)
theorem pl_up {n : Nat} {d : D} (h : Pl n d) : ∀ k, Pl (n + k) d
  | 0 => h
  | k + 1 => (pl_up h k).mono
/-- a block of a kind that is plain, of pairs that may be looked at -/
theorem blk_seenB {a : D} {rows : List D} (ha : Pl 50 a) (h : ∀ x ∈ rows, SeenP M x) (hk : Kn M a) : SeenB M (.tup [a, .tup rows]) := ⟨kn_tup, fun a' b' e => by
  cases e
  refine ⟨kn_tup, fun s hs => ne_pl ha s hs, fun ds e2 x hx => ?_⟩
  cases e2
  exact h x hx⟩
theorem row_seen {leaf : Bool} {rows : List D} (h : rowB leaf rows = true) : (∀ x ∈ rows, SeenP M x) ∧ ∀ x ∈ rows, Pl 41 x :=
  ⟨fun x hx => (pair_seen (((rowB_pw _).mp h).1 x hx)).1, fun x hx => (pair_seen (M := M) (((rowB_pw _).mp h).1 x hx)).2⟩
theorem blk_pl {leaf : Bool} {rows : List D} (h : ∀ x ∈ rows, Pl 41 x) : Pl 50 (blkD leaf rows) := by
  refine pl_tup fun x hx => ?_
  rcases List.mem_cons.mp hx with rfl | hx
  · exact (by cases leaf <;> exact pl_str (by decide +kernel))
  · have : x = .tup rows := by simpa using hx
    rw [this]
    exact pl_up (pl_tup h) 7
/-- what stands in a sound tree -/
theorem SoundP.blk {B : List (Int × D)} {w : Int} {vs : List Tl} (h : SoundP B w vs) {n : Int} {d : D} (e : aget B n = some d) : ∃ (leaf : Bool) (rows : List D), d = blkD leaf rows ∧ rowB leaf rows = true ∧ leastOf w n ≤ rows.length ∧ (rows.length : Int) ≤ w ∧ (leaf = false → 2 ≤ rows.length) := by
  obtain ⟨t, ht, rfl, ho⟩ := h.ok (n := n) (by rw [← aget_isSome, e]; rfl)
  obtain ⟨leaf, rows, hg, _, _, hr, h1, h2, _, h3⟩ := okT_block ho
  rw [e] at hg
  injection hg with hg
  exact ⟨leaf, rows, hg, hr, h1, h2, h3⟩
theorem SoundP.look {B : List (Int × D)} {w : Int} {vs : List Tl} (h : SoundP B w vs) (hw : w ≤ 64) (M : Mem) : Look M B := ⟨fun n d e => by
  obtain ⟨leaf, rows, rfl, hr, _⟩ := h.blk e
  exact blk_seenB (kind_pl leaf) (row_seen hr).1 kn_str, fun n d a ds e e2 => by
  obtain ⟨leaf, rows, rfl, hr, _, h2, _⟩ := h.blk e
  have e3 : (D.tup [.str (kindS leaf), .tup rows]) = .tup [a, .tup ds] := e2
  injection e3 with e3
  injection e3 with _ e3
  injection e3 with e3 _
  injection e3 with e3
  subst e3
  omega⟩
theorem SoundP.plain {B : List (Int × D)} {w : Int} {vs : List Tl} (h : SoundP B w vs) (nd : (akeys B).Nodup) : plainD B := fun p hp => by
  obtain ⟨leaf, rows, e, hr, _⟩ := h.blk (mem_aget (k := p.1) (d := p.2) nd hp)
  rw [e]
  exact blk_pl (row_seen (M := []) hr).2
theorem Look.put {B : List (Int × D)} {n : Int} {X : D} (h : Look M B) (hX : SeenB M X) (hs : ∀ a ds, X = .tup [a, .tup ds] → ds.length < 1000000) : Look M (aput B n X) := ⟨fun j d e => by
  rw [aget_aput] at e
  split at e
  · injection e with e
    rw [← e]
    exact hX
  · exact h.seen j d e, fun j d a ds e e2 => by
  rw [aget_aput] at e
  split at e
  · injection e with e
    exact hs a ds (by rw [e, e2])
  · exact h.size j d a ds e e2⟩
theorem Look.del {B : List (Int × D)} {n : Int} (h : Look M B) : Look M (adel B n) := ⟨fun j d e => by
  rw [aget_adel] at e
  split at e
  · cases e
  · exact h.seen j d e, fun j d a ds e e2 => by
  rw [aget_adel] at e
  split at e
  · cases e
  · exact h.size j d a ds e e2⟩
end BP
/-! BLSet: sorted(set(xs)). -/
namespace BL
open PySem PySem.Spec PyProof.Rows L2
section
variable {P : Program} {w : World} {A : Around} {E : Value → Shared → Prop} {s : Shared}
theorem bl_call_setL {l : Addr} {its : Array Value} (zs : List Int) {Q : Value → Shared → Prop} (ehh : A.handled = none) (el : s.heap.IsList l its) (eit : IntsAre its.toList zs) (eb : zs.length + 1 < scanBound)
    (h : ∀ (hp2 : Heap) (tk c : Nat), SetR w hp2 s.heap.objs.size (fun j => decide (j ∈ zs)) c → c ≤ zs.length → (∀ b o, s.heap.get? b = some o → hp2.get? b = some o) → Q (.ref s.heap.objs.size) { s with heap := hp2, toks := tk }) :
    wpAny (model P w) A (call (.type "set") [.ref l]) Q E s := by
  have eis : its.size = zs.length := by
    have q := IntsAre.length eit
    rw [Array.length_toList] at q
    exact q
  obtain ⟨c, tl, e_mro⟩ := F.called_set.mro
  have e_made := F.called_set.made
  have e_sub := F.called_set.sub
  refine wpAny_call (codeAny_of_tree ?_)
  show wpAny _ _ (callAny (.type "set") _) _ _ _
  refine wpAny_pure ⟨Code.quiet_builtin _ (by decide +kernel), codeAny_builtin F.entry_type_call ?_⟩
  rw [Around.under_plain (weight_type_call_type "set" [.ref l] []) rfl]
  have e_not := F.called_set.notType
  have e_can := F.called_set.canCreate
  have e_tc := F.typeCall_set_1 (.ref l)
  repeat (any_goals (first | assumption | wp_step))

  refine codeAny_mono (code_set_led1 (.ref l) (E := E) (Q₁ := fun obj u1 => obj = .ref s.heap.objs.size ∧ u1 = { s with heap := s.heap.push { cls := .type "set", dict := none, data := .set #[] 0 (.fresh 0 0 (!w.params.followText "set-order")) } }) ⟨rfl, rfl⟩) fun r u1 er => ?_
  cases r with
  | error e => exact er
  | ok fl =>
    cases fl with
    | ret obj =>
      obtain ⟨rfl, rfl⟩ := er
      have eS : (s.heap.push { cls := .type "set", dict := none, data := .set #[] 0 (.fresh 0 0 (!w.params.followText "set-order")) }).get? s.heap.objs.size = some { cls := .type "set", dict := none, data := .set #[] 0 (.fresh 0 0 (!w.params.followText "set-order")) } := Heap.get?_push_size _ rfl
      have eT : Shared.TypeIs { s with heap := s.heap.push { cls := .type "set", dict := none, data := .set #[] 0 (.fresh 0 0 (!w.params.followText "set-order")) } } (.ref s.heap.objs.size) "set" := ⟨_, eS, rfl⟩
      have e_li := F.called_set.init.lookup
      have e_bi := F.called_set.init.bind (.ref s.heap.objs.size)
      repeat (any_goals (first | assumption | wp_step))

      refine codeAny_mono (codeAny_call_builtin (R := wants (fun r u2 => r = .none ∧ ∃ hp2 tk c, u2 = { s with heap := hp2, toks := tk } ∧ SetR w hp2 s.heap.objs.size (fun j => decide (j ∈ zs)) c ∧ c ≤ zs.length ∧
          (∀ b o, s.heap.get? b = some o → hp2.get? b = some o)) E) F.called_set.init.plain F.entry_set_init (check_set_init_1 eT ?_)) fun q2 u2 er2 => ?_
      · obtain ⟨ob, eol, ecl, nb, edl⟩ := el
        obtain ⟨oc, od, oa, os1⟩ := ob
        simp only at ecl edl
        subst ecl; subst edl
        have eol2 : (s.heap.push { cls := .type "set", dict := none, data := .set #[] 0 (.fresh 0 0 (!w.params.followText "set-order")) }).get? l = some { cls := .type "list", dict := od, data := .seq its nb, slots := os1 } := Heap.get?_push_of_some _ eol
        have esl := F.sub_list_set
        have esf := F.sub_list_frozenset
        have ene : (Value.type "list" == Value.type "dict") = false := by decide
        have el1 : (s.heap.push { cls := .type "set", dict := none, data := .set #[] 0 (.fresh 0 0 (!w.params.followText "set-order")) }).IsList l its := ⟨_, eol2, rfl, nb, rfl⟩
        unfold Builtin.«set.__init__» noKeywords Builtin.Frozenset.updateFrom
        generalize ePI : pyIter = PJ
        wp_walk
        subst ePI

        refine wpAny_pyIter_list el1 ?_
        refine wpAny_bind (wpAny_runValue ?_)
        have elS : l < s.heap.objs.size := Heap.lt_size eol
        have eh3 : A.in1.in1.in1.handled = none := by simp [ehh]
        have ez1 : (s.heap.push { cls := .type "set", dict := none, data := .set #[] 0 (.fresh 0 0 (!w.params.followText "set-order")) }).objs.size = s.heap.objs.size + 1 := Heap.size_push ..
        have eneI : l ≠ (s.heap.push { cls := .type "set", dict := none, data := .set #[] 0 (.fresh 0 0 (!w.params.followText "set-order")) }).objs.size := by
          rw [Heap.size_push]; exact Nat.ne_of_lt (Nat.lt_succ_of_lt elS)
        have eSf : s.heap.objs.size ∉ [(s.heap.push { cls := .type "set", dict := none, data := .set #[] 0 (.fresh 0 0 (!w.params.followText "set-order")) }).objs.size, l] := by
          rw [Heap.size_push]; simp only [List.mem_cons, List.mem_singleton, List.not_mem_nil, or_false, not_or]
          exact ⟨Nat.ne_of_lt (Nat.lt_succ_self _), Nat.ne_of_gt elS⟩
        have eval1 : ∀ (i : Nat) (v : Value), its[i]? = some v → ∃ k t, zs[i]? = some k ∧ v = .int k t := fun i v hv => by
          have hi : i < zs.length := by rw [← eis]; exact (Array.getElem?_eq_some_iff.mp hv).1
          obtain ⟨t, e⟩ := PyProof.Rows.IntsAre.int_at eit i v (by rw [Array.getElem?_toList]; exact hv)
          refine ⟨zs[i], t, List.getElem?_eq_getElem hi, ?_⟩
          rw [e, List.getD_eq_getElem?_getD, List.getElem?_eq_getElem hi] <;> rfl
        refine set_update_ints ((Walks.list eh3 _ l eneI its).toS) s.heap.objs.size
          eSf zs eis eb eval1 (its.size - 0) 0 _ (by omega) (Nat.zero_le _)
          ⟨⟨_, Heap.get?_push_size _ rfl, rfl, rfl⟩, (el1.push _)⟩ ?kS0 ?kR
        case kS0 =>
          have eget : ((s.heap.push { cls := .type "set", dict := none, data := .set #[] 0 (.fresh 0 0 (!w.params.followText "set-order")) }).push { cls := .type "list_iterator", data := .fields #[.ref l, .int 0 0] }).get? s.heap.objs.size
              = some { cls := .type "set", dict := none, data := .set #[] 0 (.fresh 0 0 (!w.params.followText "set-order")) } := Heap.get?_push_of_some _ eS
          exact ⟨0, Nat.le_refl 0, setR_new_at eget⟩
        case kR =>
          intro s' c' em ec2 eS2
          obtain ⟨hp2, g2, d', tk', os'⟩ := s'
          have eg : g2 = s.gens := em.gens
          have ed : d' = s.drawn := em.drawn
          have eo : os' = s.os := em.os
          subst eg; subst ed; subst eo
          show wpAny _ _ _ _ _ _
          refine wpAny_pure ?_
          show wpAny _ _ (PySem.ret Value.none) _ _ _
          rw [eis] at ec2
          refine wpAny_pure ⟨rfl, hp2, tk', c', rfl, eS2, ec2, fun b o e => ?_⟩
          have eb0 : b < s.heap.objs.size := Heap.lt_size e
          have eb1 : b ≠ s.heap.objs.size := Nat.ne_of_lt eb0
          have eb2 : b ≠ (s.heap.push { cls := .type "set", dict := none, data := .set #[] 0 (.fresh 0 0 (!w.params.followText "set-order")) }).objs.size := by
            rw [Heap.size_push]; exact Nat.ne_of_lt (Nat.lt_succ_of_lt eb0)
          exact em.heap b o (by simp only [List.mem_cons, List.mem_singleton, List.not_mem_nil, or_false, not_or]; exact ⟨eb1, eb2⟩) (Heap.get?_push_of_some _ (Heap.get?_push_of_some _ e))

      · cases q2 with
        | error e => exact er2
        | ok fl2 =>
          cases fl2 with
          | ret r =>
            obtain ⟨rfl, hp2, tk, c', rfl, eS2, ec2, ek2⟩ := er2
            repeat (any_goals (first | assumption | wp_step))
            exact h _ _ _ eS2 ec2 ek2
          | _ => exact er2.elim
    | _ => exact er.elim

end

/-! ### the members of a list, rising -/
def ins (k : Int) : List Int → List Int
  | [] => [k]
  | x :: r => if k < x then k :: x :: r else if k = x then x :: r else x :: ins k r
def sset (ns : List Int) : List Int := ns.foldr ins []
theorem mem_ins {k j : Int} : ∀ {l : List Int}, j ∈ ins k l ↔ j = k ∨ j ∈ l
  | [] => by simp [ins]
  | x :: r => by
    unfold ins
    split
    · simp
    · split
      · rename_i h
        subst h
        simp
      · rw [List.mem_cons, mem_ins, List.mem_cons]
        constructor
        · rintro (h | h | h)
          · exact .inr (.inl h)
          · exact .inl h
          · exact .inr (.inr h)
        · rintro (h | h | h)
          · exact .inr (.inl h)
          · exact .inl h
          · exact .inr (.inr h)
theorem ins_pw {k : Int} : ∀ {l : List Int}, l.Pairwise (· < ·) → (ins k l).Pairwise (· < ·)
  | [], _ => by simp [ins]
  | x :: r, h => by
    obtain ⟨h1, h2⟩ := List.pairwise_cons.mp h
    unfold ins
    split
    · rename_i hk
      refine List.pairwise_cons.mpr ⟨fun y hy => ?_, h⟩
      rcases List.mem_cons.mp hy with rfl | hy
      · exact hk
      · have := h1 y hy
        omega
    · split
      · exact h
      · refine List.pairwise_cons.mpr ⟨fun y hy => ?_, ins_pw h2⟩
        rcases mem_ins.mp hy with rfl | hy
        · omega
        · exact h1 y hy
theorem sset_mem {j : Int} : ∀ {ns : List Int}, j ∈ sset ns ↔ j ∈ ns
  | [] => by simp [sset]
  | k :: ns => by
    show j ∈ ins k (sset ns) ↔ _
    rw [mem_ins, sset_mem, List.mem_cons]
theorem sset_pw : ∀ ns : List Int, (sset ns).Pairwise (· < ·)
  | [] => .nil
  | k :: ns => ins_pw (sset_pw ns)
theorem pw_ext : ∀ {xs ys : List Int}, xs.Pairwise (· < ·) → ys.Pairwise (· < ·) → (∀ k, k ∈ xs ↔ k ∈ ys) → xs = ys
  | [], [], _, _, _ => rfl
  | [], y :: ys, _, _, h => absurd ((h y).mpr List.mem_cons_self) (by simp)
  | x :: xs, [], _, _, h => absurd ((h x).mp List.mem_cons_self) (by simp)
  | x :: xs, y :: ys, hx, hy, h => by
    obtain ⟨a1, a2⟩ := List.pairwise_cons.mp hx
    obtain ⟨b1, b2⟩ := List.pairwise_cons.mp hy
    have e : x = y := by
      rcases List.mem_cons.mp ((h x).mp List.mem_cons_self) with z | z
      · exact z
      · rcases List.mem_cons.mp ((h y).mpr List.mem_cons_self) with z2 | z2
        · exact z2.symm
        · have := a1 y z2
          have := b1 x z
          omega
    subst e
    refine congrArg (x :: ·) (pw_ext a2 b2 fun k => ?_)
    have hk := h k
    rw [List.mem_cons, List.mem_cons] at hk
    constructor
    · intro z
      rcases hk.mp (.inr z) with e | e
      · have := a1 k z
        omega
      · exact e
    · intro z
      rcases hk.mpr (.inr z) with e | e
      · have := b1 k z
        omega
      · exact e
/-! ### sorted(set(xs)) -/
def oSortSet : Op1 := fun x M => match x with
  | .ref n => (match M[n]? with
    | some (.lst ds) => (match intsOf ds with
      | some ns => if ns.length < 64 then some (.ref M.length, M ++ [.lst ((sset ns).map .int)]) else none
      | none => none)
    | _ => none)
  | _ => none
section
variable {X : Cx} {C : Addr} {W : WX} {a : Expr} {ga : GE} {p p2 q pos : Pos}
def tSortSetD (K : PySem.W.Frag) (ta : TE) : TE := fun σ H Q => ta σ H fun x H1 => ∃ (l : Addr) (ns : List Int), x = .ref l ∧ SqL K H1 l (ns.map V.int) ∧ ns.length < 64 ∧ ∀ p, H1 p = none → Q (.ref p) (upd H1 p (.lst ((sset ns).map V.int)))
theorem pe_sortSetD {ta : TE} (hg : Gl X "sorted") (hm : X.mg "sorted" = none) (hg2 : Gl X "set") (hm2 : X.mg "set" = none) (ha : PE X a ta) (hc : X.calm = true := by rfl)
    (na : starEach [a] X.env = (false, eval a X.env) :: starEach [] X.env := by rfl) : PE X (.Call (.Name "sorted" p) [.Call (.Name "set" p2) [a] [] q] [] pos) (tSortSetD X.K ta) := by
  refine ⟨fun pins s σ H Q I h => ?_⟩
  refine PyProof.Rows.Call_ (ld_blt I hg hm (show bootBuiltins "sorted" = some (.builtin "sorted") by decide +kernel) ?_)
  refine PyProof.Rows.callWith_builtin1 (PyProof.Rows.args_cons ?_ rfl) rfl rfl
  refine PyProof.Rows.Call_ (ld_blt I hg2 hm2 (show bootBuiltins "set" = some (.type "set") by decide +kernel) ?_)
  refine PyProof.Rows.callWith_type1 (PyProof.Rows.args_cons (thn (ha.run pins s σ H _ I h) fun v s1 ⟨x, H1, I1, r1, w1⟩ => PyProof.Rows.args_nil ?_) na) na rfl
  obtain ⟨l, ns, rfl, hq, hz, w1⟩ := w1
  cases r1
  obtain ⟨its, r, pl, _⟩ := I1.list hq
  have size1 : its.toArray.size = ns.length := by rw [List.size_toArray, ← r.length, List.length_map]
  refine bl_call_setL ns (I1.ok.hd hc) pl.isList (by simpa using RZ.intsAre_vals r) (by unfold scanBound; omega) fun h' tk c hS hcl hk => ?_
  refine PyProof.Rows.args_nil ?_
  have I2 : Inv X pins σ H1 { s1 with heap := h', toks := tk } := I1.kept fun b o e => hk b o e
  refine sorted_set (s := { s1 with heap := h', toks := tk }) hS (I2.ok.hd hc) (by omega) fun s3 p3 out c3 ks k3 g3 o3 hp3 hg3 hi3 hs3 hm3 hl3 => ?_
  have eks : ks = sset ns := pw_ext hs3 (sset_pw ns) fun k => by rw [hm3, sset_mem, decide_eq_true_eq]
  have few : (ks.map V.int).length ≤ sizeLine := by rw [List.length_map, hl3, sizeLine_eq]; omega
  have new3 : H1 p3 = none := I2.hok.fresh hp3
  have J : Inv X pins σ (upd H1 p3 (.lst (ks.map V.int))) { s1 with heap := s3.heap, gens := s3.gens, drawn := s3.drawn, toks := s3.toks } :=
    Inv.call (s := { s1 with heap := h', toks := tk }) I2 (ch := []) (Un.laid k3 hp3 new3) (I2.hok.laid k3 hp3 ⟨few, out.toList, c3, vals_of_ints hi3, hg3⟩) (by rw [g3]; exact I2.bare) (fun _ z => nomatch z)
  have e3 : s3 = { s1 with heap := s3.heap, gens := s3.gens, drawn := s3.drawn, toks := s3.toks } := by
    cases s3
    cases s1
    cases o3
    rfl
  rw [e3]
  refine ⟨.ref p3, _, J, rfl, ?_⟩
  rw [eks]
  exact w1 p3 new3
theorem se_sortSet (hg : Gl X "sorted") (hm : X.mg "sorted" = none) (hg2 : Gl X "set") (hm2 : X.mg "set" = none) (ha : SE X C W a ga) (hc : X.calm = true := by rfl)
    (na : starEach [a] X.env = (false, eval a X.env) :: starEach [] X.env := by rfl) : SE X C W (.Call (.Name "sorted" p) [.Call (.Name "set" p2) [a] [] q] [] pos) (mUn oSortSet ga) := by
  obtain ⟨t, pt, s⟩ := ha.ex
  refine ⟨_, pe_sortSetD hg hm hg2 hm2 pt hc na, fun i L M σ H r Q m l e q => ?_⟩
  refine s.step m l e q fun dx M1 i1 H1 x g1 m1 l1 rx e1 q1 => ?_
  obtain ⟨d, M', h1, h2⟩ := snd_ret e1 q1
  unfold oSortSet at h1
  split at h1
  · rename_i n
    split at h1
    · rename_i ls hn
      split at h1
      · rename_i ns hi
        split at h1
        · rename_i hz
          cases h1
          obtain ⟨b, vs, _, rfl, h3, h4⟩ := lst_at m1 hn rx
          have := intsOf_dl h4 hi
          subst this
          exact ⟨b, ns, rfl, SqL.of h3, hz, fun p hp => goLst h2 m1 (dl_ints _) p hp⟩
        · cases h1
      · cases h1
    · cases h1
  · cases h1
/-! ### list.index, list.count of whole numbers -/
def fstIx (k : Int) : List Int → Option Nat
  | [] => none
  | x :: r => if x = k then some 0 else (fstIx k r).map (· + 1)
theorem fstIx_at {k : Int} : ∀ {ns : List Int} {j : Nat}, fstIx k ns = some j → ns[j]? = some k ∧ ∀ (m : Nat) (z : Int), m < j → ns[m]? = some z → z ≠ k
  | [], j, h => by cases h
  | x :: r, j, h => by
    unfold fstIx at h
    split at h
    · rename_i e
      cases h
      exact ⟨by rw [e]; rfl, fun m z hm => absurd hm (by omega)⟩
    · rename_i e
      obtain ⟨i, hi, rfl⟩ := Option.map_eq_some_iff.mp h
      obtain ⟨h1, h2⟩ := fstIx_at hi
      refine ⟨by simpa using h1, fun m z hm hz => ?_⟩
      cases m with
      | zero =>
        cases hz
        exact e
      | succ m => exact h2 m z (by omega) (by simpa using hz)
def oIndex : OpM := fun x xs M => match x, xs with
  | .ref n, [.int k] => (match M[n]? with
    | some (.lst ds) => (match intsOf ds with
      | some ns => (match fstIx k ns with
        | some j => some (.int j, M)
        | none => none)
      | none => none)
    | _ => none)
  | _, _ => none
theorem rm_index : MtR X "list.index" (rOM X.K C oIndex) := by
  intro pins s σ H x xs v us Q I rv ru h
  obtain ⟨i, M, dx, ds, d, M', m, rx, rs, e, q⟩ := h
  unfold oIndex at e
  split at e
  · split at e
    · rename_i ls hn
      split at e
      · rename_i ns hi
        split at e
        · rename_i j hj
          cases e
          obtain ⟨a, vs, ha, rfl, h1, h2⟩ := lst_at m hn rx
          obtain ⟨w, rfl, r1⟩ := dl1 rs
          simp only [DV] at r1
          subst r1
          have := intsOf_dl h2 hi
          subst this
          obtain ⟨k1, k2⟩ := fstIx_at hj
          refine mt_index pins s σ H _ _ v us Q I rv ru ⟨a, ns.map V.int, _, j, _, rfl, rfl, SqL.of h1, rfl, ?_, by rw [List.getElem?_map, k1]; rfl, by simp [eqV], fun m' z' hm hz => ?_, goInt q m⟩
          · rw [List.all_eq_true]
            intro y hy
            obtain ⟨z, _, rfl⟩ := List.mem_map.mp hy
            rfl
          · rw [List.getElem?_map] at hz
            obtain ⟨z, hz2, rfl⟩ := Option.map_eq_some_iff.mp hz
            have := k2 m' z hm hz2
            simp [eqV, this]
        · cases e
      · cases e
    · cases e
  · cases e
end
end BL
/-! BTSub: trees by their heights. -/
namespace BP
open BL
open PySem (Str)
/-- the first pair's key -/
def fk : List D → Int
  | p :: _ => keyOf p
  | [] => 0
/-- pairs of a branch, and what stands below -/
inductive Kids (S : Int → List D → List Int → Prop) : List D → List D → List Int → Prop
  | nil : Kids S [] [] []
  | cons {k n : Int} {r rs ps : List D} {ns nss : List Int} : 0 < n → S n r ns → r ≠ [] → fk r = k → Kids S ps rs nss → Kids S (.tup [.int k, .int n] :: ps) (r ++ rs) (ns ++ nss)
/-- a block of a height, the rows of its leaves, the numbers in it -/
def Sub (B : List (Int × D)) (w : Int) : Nat → Int → List D → List Int → Prop
  | 0, n, rows, nums => aget B n = some (blkD true rows) ∧ leastOf w n ≤ rows.length ∧ (rows.length : Int) ≤ w ∧ nums = [n]
  | h + 1, n, rows, nums => ∃ ps ns, aget B n = some (blkD false ps) ∧ leastOf w n ≤ ps.length ∧ (ps.length : Int) ≤ w ∧ 2 ≤ ps.length ∧ nums = n :: ns ∧ Kids (Sub B w h) ps rows ns
section
variable {S S' : Int → List D → List Int → Prop} {ps p1 p2 r r1 r2 rows : List D} {ns n1 n2 nums : List Int}
theorem Kids.append (h : Kids S p1 r1 n1) (h2 : Kids S p2 r2 n2) : Kids S (p1 ++ p2) (r1 ++ r2) (n1 ++ n2) := by
  induction h with
  | nil => exact h2
  | cons a b c d _ ih =>
    rw [List.append_assoc, List.append_assoc]
    exact .cons a b c d ih
theorem Kids.inv {p : D} (h : Kids S (p :: ps) r ns) : ∃ k n r1 rs n1 nss, p = .tup [.int k, .int n] ∧ r = r1 ++ rs ∧ ns = n1 ++ nss ∧ 0 < n ∧ S n r1 n1 ∧ r1 ≠ [] ∧ fk r1 = k ∧ Kids S ps rs nss := by
  cases h with
  | cons a b c d e => exact ⟨_, _, _, _, _, _, rfl, rfl, rfl, a, b, c, d, e⟩
theorem Kids.split : ∀ {p1 : List D} {r : List D} {ns : List Int}, Kids S (p1 ++ p2) r ns → ∃ r1 r2 n1 n2, r = r1 ++ r2 ∧ ns = n1 ++ n2 ∧ Kids S p1 r1 n1 ∧ Kids S p2 r2 n2
  | [], r, ns, h => ⟨[], r, [], ns, rfl, rfl, .nil, h⟩
  | p :: p1, r, ns, h => by
    obtain ⟨k, n, a, b, c, d, rfl, rfl, rfl, h1, h2, h3, h4, h5⟩ := Kids.inv (ps := p1 ++ p2) h
    obtain ⟨q1, q2, m1, m2, rfl, rfl, k1, k2⟩ := Kids.split h5
    exact ⟨a ++ q1, q2, c ++ m1, m2, by rw [List.append_assoc], by rw [List.append_assoc], .cons h1 h2 h3 h4 k1, k2⟩
theorem Kids.mono (h : Kids S ps rows nums) : (∀ n r ns, (∀ j ∈ ns, j ∈ nums) → S n r ns → S' n r ns) → Kids S' ps rows nums := by
  induction h with
  | nil => exact fun _ => .nil
  | cons a b c d e ih => exact fun f => .cons a (f _ _ _ (fun j hj => List.mem_append_left _ hj) b) c d (ih fun n r ns hn hs => f n r ns (fun j hj => List.mem_append_right _ (hn j hj)) hs)
theorem Kids.first (h : Kids S ps rows nums) (hne : ps ≠ []) : rows ≠ [] ∧ fk rows = fk ps := by
  cases h with
  | nil => exact absurd rfl hne
  | @cons k n r rs ps ns nss a b c d e =>
    cases r with
    | nil => exact absurd rfl c
    | cons x r => exact ⟨by simp, d⟩
theorem Kids.pairs (h : Kids S ps rows nums) : ∀ p ∈ ps, ∃ k n, p = .tup [.int k, .int n] ∧ 0 < n ∧ ∃ x ∈ rows, keyOf x = k := by
  induction h with
  | nil => exact fun p hp => by cases hp
  | @cons k n r rs ps ns nss a b c d e ih =>
    intro p hp
    rcases List.mem_cons.mp hp with rfl | hp
    · cases r with
      | nil => exact absurd rfl c
      | cons x r => exact ⟨k, n, rfl, a, x, by simp, d⟩
    · obtain ⟨k', n', h1, h2, x, hx, h3⟩ := ih p hp
      exact ⟨k', n', h1, h2, x, List.mem_append_right _ hx, h3⟩
theorem Kids.rowB (h : Kids S ps rows nums) : rowB true rows = true → rowB false ps = true := by
  rw [rowB_pw, rowB_pw]
  induction h with
  | nil => exact fun _ => ⟨fun x hx => (by cases hx), .nil⟩
  | @cons k n r rs ps ns nss a b c d e ih =>
    rintro ⟨h1, h2⟩
    obtain ⟨i1, i2⟩ := ih ⟨fun x hx => h1 x (List.mem_append_right _ hx), (List.pairwise_append.mp h2).2.1⟩
    cases r with
    | nil => exact absurd rfl c
    | cons x r =>
      have hx := h1 x (by simp)
      obtain ⟨kx, vx, rfl, hk, _⟩ := pair_shape hx
      have hkk : kx = k := d
      subst hkk
      refine ⟨fun p hp => ?_, List.pairwise_cons.mpr ⟨fun p hp => ?_, i2⟩⟩
      · rcases List.mem_cons.mp hp with rfl | hp
        · show (keyB (.int kx) && posB (.int n)) = true
          rw [hk]
          exact decide_eq_true a
        · exact i1 p hp
      · obtain ⟨k', n', rfl, _, y, hy, hky⟩ := e.pairs p hp
        have := (List.pairwise_append.mp h2).2.2 (.tup [.int kx, vx]) List.mem_cons_self y hy
        rw [hky] at this
        exact this
theorem rowB_app {leaf : Bool} {a b : List D} (h : BP.rowB leaf (a ++ b) = true) : BP.rowB leaf a = true ∧ BP.rowB leaf b = true := by
  rw [rowB_pw] at h
  obtain ⟨h1, h2⟩ := h
  have := List.pairwise_append.mp h2
  exact ⟨(rowB_pw _).mpr ⟨fun x hx => h1 x (List.mem_append_left _ hx), this.1⟩, (rowB_pw _).mpr ⟨fun x hx => h1 x (List.mem_append_right _ hx), this.2.1⟩⟩
end
section
variable {B B' : List (Int × D)} {w : Int}
theorem Sub.agree : ∀ {h : Nat} {n : Int} {rows : List D} {nums : List Int}, Sub B w h n rows nums → (∀ j ∈ nums, aget B' j = aget B j) → Sub B' w h n rows nums
  | 0, n, rows, nums, h, e => by
    obtain ⟨h1, h2, h3, rfl⟩ := h
    exact ⟨by rw [e n (by simp)]; exact h1, h2, h3, rfl⟩
  | h + 1, n, rows, nums, hs, e => by
    obtain ⟨ps, ns, h1, h2, h3, h4, rfl, h5⟩ := hs
    exact ⟨ps, ns, by rw [e n (by simp)]; exact h1, h2, h3, h4, rfl, h5.mono fun m r ms hm hsub => hsub.agree fun j hj => e j (List.mem_cons_of_mem _ (hm j hj))⟩
theorem Sub.self : ∀ {h : Nat} {n : Int} {rows : List D} {nums : List Int}, Sub B w h n rows nums → ∃ ns, nums = n :: ns
  | 0, n, rows, nums, h => ⟨[], h.2.2.2⟩
  | h + 1, n, rows, nums, hs => by
    obtain ⟨ps, ns, h1, h2, h3, h4, rfl, h5⟩ := hs
    exact ⟨ns, rfl⟩
theorem Sub.ne (hw : 3 ≤ w) {h : Nat} {n : Int} {rows : List D} {nums : List Int} (hs : Sub B w h n rows nums) (h0 : 0 < n ∨ 0 < h) : rows ≠ [] := by
  cases h with
  | zero =>
    obtain ⟨h1, h2, h3, rfl⟩ := hs
    have h0 : 0 < n := h0.resolve_right (by omega)
    unfold leastOf at h2
    rw [if_pos h0] at h2
    intro z
    rw [z] at h2
    simp at h2
    omega
  | succ h =>
    obtain ⟨ps, ns, h1, h2, h3, h4, rfl, h5⟩ := hs
    exact (h5.first (by intro z; rw [z] at h4; simp at h4)).1
theorem Sub.block {h : Nat} {n : Int} {rows : List D} {nums : List Int} (hs : Sub B w h n rows nums) : ∃ ps, aget B n = some (blkD (decide (h = 0)) ps) ∧ leastOf w n ≤ ps.length ∧ (ps.length : Int) ≤ w ∧ (h ≠ 0 → 2 ≤ ps.length) ∧ fk ps = fk rows ∧ (h = 0 → ps = rows) := by
  cases h with
  | zero =>
    obtain ⟨h1, h2, h3, rfl⟩ := hs
    exact ⟨rows, h1, h2, h3, fun z => absurd rfl z, rfl, fun _ => rfl⟩
  | succ h =>
    obtain ⟨ps, ns, h1, h2, h3, h4, rfl, h5⟩ := hs
    exact ⟨ps, h1, h2, h3, fun _ => h4, (h5.first (by intro z; rw [z] at h4; simp at h4)).2.symm, fun z => by cases z⟩
theorem Sub.pos : ∀ {h : Nat} {n : Int} {rows : List D} {nums : List Int}, Sub B w h n rows nums → ∀ j ∈ nums, j = n ∨ 0 < j
  | 0, n, rows, nums, h => by
    obtain ⟨h1, h2, h3, rfl⟩ := h
    exact fun j hj => .inl (by simpa using hj)
  | h + 1, n, rows, nums, hs => by
    obtain ⟨ps, ns, h1, h2, h3, h4, rfl, h5⟩ := hs
    intro j hj
    rcases List.mem_cons.mp hj with rfl | hj
    · exact .inl rfl
    · refine .inr ?_
      have ih := @Sub.pos h
      clear h1 h2 h3 h4
      induction h5 with
      | nil => cases hj
      | cons a b c d e ih2 =>
        rcases List.mem_append.mp hj with hj | hj
        · rcases ih b j hj with rfl | z
          · exact a
          · exact z
        · exact ih2 (by simpa using Or.inr hj) hj
/-- as many numbers as the height asks for -/
theorem Sub.big : ∀ {h : Nat} {n : Int} {rows : List D} {nums : List Int}, Sub B w h n rows nums → 2 ^ h ≤ nums.length
  | 0, n, rows, nums, h => by
    obtain ⟨h1, h2, h3, rfl⟩ := h
    simp
  | h + 1, n, rows, nums, hs => by
    obtain ⟨ps, ns, h1, h2, h3, h4, rfl, h5⟩ := hs
    match ps, h4 with
    | p :: q :: r, _ =>
      obtain ⟨k, m, a1, a2, a3, a4, rfl, rfl, rfl, _, s1, _, _, h6⟩ := h5.inv
      obtain ⟨k2, m2, b1, b2, b3, b4, rfl, rfl, rfl, _, s2, _, _, _⟩ := h6.inv
      have := s1.big
      have := s2.big
      simp only [List.length_cons, List.length_append]
      rw [Nat.pow_succ]
      omega
/-- the walk from it -/
theorem Sub.ws (hw : 3 ≤ w) : ∀ {h : Nat} {n : Int} {rows : List D} {nums : List Int}, Sub B w h n rows nums → rowB true rows = true → ∀ (d : Int) (k : Option Int), (∀ z, k = some z → rows ≠ [] ∧ fk rows = z) → ∃ vt, WS B w [⟨n, d, k⟩] vt ∧ rowsW B vt = rows ∧ vt.map (·.n) = nums ∧ depths B vt ≠ [] ∧ ∀ x ∈ depths B vt, x = d + h
  | 0, n, rows, nums, hs, hr, d, k, hk => by
    obtain ⟨h1, h2, h3, rfl⟩ := hs
    have hb : blkOf B n = blkD true rows := by unfold blkOf; rw [h1]; rfl
    refine ⟨[⟨n, d, k⟩], .step ?_ ?_, ?_, rfl, ?_, ?_⟩
    · unfold okT keyOk
      show (blockB (blkOf B n) (leastOf w n) w && _) = true
      rw [hb, leafB_blk, block_of hr h2 h3, Bool.true_or, Bool.and_true, Bool.true_and]
      cases k with
      | none => rfl
      | some z =>
        obtain ⟨hne, hz⟩ := hk z rfl
        cases rows with
        | nil => exact absurd rfl hne
        | cons x r => exact decide_eq_true (show firstKey (blkD true (x :: r)) = z from hz)
    · have : kids B ⟨n, d, k⟩ = [] := by
        unfold kids
        show (if leafB (blkOf B n) = true then _ else _) = _
        rw [hb, leafB_blk, if_pos rfl]
      rw [this]
      exact .nil
    · unfold rowsW rowsT
      show ((if leafB (blkOf B n) = true then pairsOf (blkOf B n) else []) :: []).flatten = _
      rw [hb, leafB_blk, if_pos rfl]
      show (rows ++ []) = rows
      simp
    · unfold depths
      rw [List.filter_cons_of_pos (by show leafB (blkOf B n) = true; rw [hb, leafB_blk])]
      simp
    · unfold depths
      rw [List.filter_cons_of_pos (by show leafB (blkOf B n) = true; rw [hb, leafB_blk])]
      intro x hx
      have : x = d := by simpa using hx
      omega
  | h + 1, n, rows, nums, hs, hr, d, k, hk => by
    obtain ⟨ps, ns, h1, h2, h3, h4, rfl, h5⟩ := hs
    have hb : blkOf B n = blkD false ps := by unfold blkOf; rw [h1]; rfl
    have ih := @Sub.ws hw h
    have key : ∀ {ps rows ns}, Kids (Sub B w h) ps rows ns → rowB true rows = true → ∃ vt, WS B w (ps.map fun p => ⟨numOf p, d + 1, some (keyOf p)⟩) vt ∧ rowsW B vt = rows ∧ vt.map (·.n) = ns ∧ (ps ≠ [] → depths B vt ≠ []) ∧ ∀ x ∈ depths B vt, x = d + 1 + h := by
      intro ps rows ns h5
      induction h5 with
      | nil => exact fun _ => ⟨[], .nil, rfl, rfl, fun z => absurd rfl z, fun x hx => by cases hx⟩
      | @cons k n r rs ps ns nss a b c e g ih2 =>
        intro hr
        obtain ⟨hr1, hr2⟩ := rowB_app hr
        obtain ⟨v1, w1, q1, m1, d1, f1⟩ := ih b hr1 (d + 1) (some k) (fun z hz => by cases hz; exact ⟨c, e⟩)
        obtain ⟨v2, w2, q2, m2, d2, f2⟩ := ih2 hr2
        refine ⟨v1 ++ v2, w1.append w2, by rw [rowsW_app, q1, q2], by rw [List.map_append, m1, m2], fun _ => ?_, fun x hx => ?_⟩
        · rw [depths_app]
          exact fun z => d1 (List.append_eq_nil_iff.mp z).1
        · rw [depths_app] at hx
          rcases List.mem_append.mp hx with hx | hx
          · exact f1 x hx
          · exact f2 x hx
    obtain ⟨vt, w1, q1, m1, d1, f1⟩ := key h5 hr
    have hpne : ps ≠ [] := by intro z; rw [z] at h4; simp at h4
    have hrf := h5.rowB hr
    refine ⟨⟨n, d, k⟩ :: vt, .step ?_ ?_, ?_, by rw [List.map_cons, m1], ?_, ?_⟩
    · unfold okT keyOk
      show (blockB (blkOf B n) (leastOf w n) w && _) = true
      rw [hb, leafB_blk, block_of hrf h2 h3, Bool.true_and]
      have e2 : decide (2 ≤ (pairsOf (blkD false ps)).length) = true := decide_eq_true h4
      rw [e2, Bool.or_true, Bool.and_true]
      cases k with
      | none => rfl
      | some z =>
        obtain ⟨hne, hz⟩ := hk z rfl
        cases ps with
        | nil => exact absurd rfl hpne
        | cons x r =>
          have := (h5.first hpne).2
          rw [hz] at this
          exact decide_eq_true (show firstKey (blkD false (x :: r)) = z from this.symm)
    · have : kids B ⟨n, d, k⟩ = ps.map fun p => ⟨numOf p, d + 1, some (keyOf p)⟩ := by
        unfold kids
        show (if leafB (blkOf B n) = true then _ else _) = _
        rw [hb, leafB_blk, if_neg Bool.false_ne_true]
        rfl
      rw [this, List.append_nil]
      exact w1
    · have : rowsT B ⟨n, d, k⟩ = [] := by
        unfold rowsT
        show (if leafB (blkOf B n) = true then _ else _) = _
        rw [hb, leafB_blk, if_neg Bool.false_ne_true]
      unfold rowsW at q1 ⊢
      rw [List.map_cons, List.flatten_cons, this, List.nil_append]
      exact q1
    · unfold depths
      rw [List.filter_cons_of_neg (by show ¬ leafB (blkOf B n) = true; rw [hb, leafB_blk]; simp)]
      exact d1 hpne
    · unfold depths
      rw [List.filter_cons_of_neg (by show ¬ leafB (blkOf B n) = true; rw [hb, leafB_blk]; simp)]
      intro x hx
      have := f1 x hx
      push_cast
      omega
/-! ### from the walk -/
inductive Forest (B : List (Int × D)) (w H : Int) : List Tl → List D → List Int → Prop
  | nil : Forest B w H [] [] []
  | cons {t : Tl} {h : Nat} {S : List Tl} {r rs : List D} {ns nss : List Int} : t.d + h = H → Sub B w h t.n r ns → (∀ k, t.k = some k → 0 < t.n ∧ r ≠ [] ∧ fk r = k) → Forest B w H S rs nss → Forest B w H (t :: S) (r ++ rs) (ns ++ nss)
theorem Forest.inv {H : Int} {t : Tl} {S : List Tl} {rows : List D} {nums : List Int} (f : Forest B w H (t :: S) rows nums) : ∃ (h : Nat) (r rs : List D) (ns nss : List Int), rows = r ++ rs ∧ nums = ns ++ nss ∧ t.d + h = H ∧ Sub B w h t.n r ns ∧ (∀ k, t.k = some k → 0 < t.n ∧ r ≠ [] ∧ fk r = k) ∧ Forest B w H S rs nss := by
  cases f with
  | cons a b c d => exact ⟨_, _, _, _, _, rfl, rfl, a, b, c, d⟩
theorem Forest.kids {H d : Int} {h : Nat} {S : List Tl} (e : d + h = H) : ∀ {ps : List D} {rows : List D} {nums : List Int}, (∀ p ∈ ps, ∃ k n : Int, p = .tup [.int k, .int n]) → Forest B w H ((ps.map fun p => ⟨numOf p, d, some (keyOf p)⟩) ++ S) rows nums → ∃ r1 r2 n1 n2, rows = r1 ++ r2 ∧ nums = n1 ++ n2 ∧ Kids (Sub B w h) ps r1 n1 ∧ Forest B w H S r2 n2
  | [], rows, nums, _, f => ⟨[], rows, [], nums, rfl, rfl, .nil, f⟩
  | p :: ps, rows, nums, hp, f => by
    obtain ⟨h', r, rs, ns, nss, rfl, rfl, e', s, c, f'⟩ := Forest.inv (t := ⟨numOf p, d, some (keyOf p)⟩) f
    obtain ⟨q1, q2, m1, m2, rfl, rfl, k1, k2⟩ := Forest.kids e (fun x hx => hp x (List.mem_cons_of_mem _ hx)) f'
    obtain ⟨k, n, rfl⟩ := hp p List.mem_cons_self
    have hh : h' = h := by
      have : d + (h' : Int) = H := e'
      omega
    subst hh
    obtain ⟨c1, c2, c3⟩ := c k rfl
    exact ⟨r ++ q1, q2, ns ++ m1, m2, by rw [List.append_assoc], by rw [List.append_assoc], .cons c1 s c2 c3 k1, k2⟩
theorem WS.forest (hw : 3 ≤ w) {H : Int} {S vs : List Tl} (hv : WS B w S vs) : (∀ t ∈ vs, leafB (blkOf B t.n) = true → t.d = H) → (∀ t ∈ S, t.k ≠ none → 0 < t.n) → Forest B w H S (rowsW B vs) (vs.map (·.n)) := by
  induction hv with
  | nil => exact fun _ _ => .nil
  | @step t rest vs ho hv ih =>
    intro hl hk
    have hdeep := hv.deep
    obtain ⟨leaf, rows, hg, e1, e2, hr, h1, h2, hko, h3⟩ := okT_block ho
    have hb : blkOf B t.n = blkD leaf rows := by unfold blkOf; rw [hg]; rfl
    have hko' : ∀ k, t.k = some k → 0 < t.n ∧ rows ≠ [] ∧ fk rows = k := fun k e => by
      have h0 := hk t List.mem_cons_self (by rw [e]; exact fun z => by cases z)
      have hne : rows ≠ [] := by
        intro z
        unfold leastOf at h1
        rw [if_pos h0, z] at h1
        simp at h1
        omega
      refine ⟨h0, hne, ?_⟩
      unfold keyOk at hko
      rw [e] at hko
      have := of_decide_eq_true hko
      rw [hb] at this
      cases rows with
      | nil => exact absurd rfl hne
      | cons x r => exact this
    cases leaf with
    | true =>
      have hkids : kids B t = [] := by
        unfold kids
        rw [if_pos e1]
      rw [hkids, List.nil_append] at ih
      have hrt : rowsT B t = rows := by
        unfold rowsT
        rw [if_pos e1, e2]
      have ih := ih (fun u hu => hl u (List.mem_cons_of_mem _ hu)) (fun u hu => hk u (List.mem_cons_of_mem _ hu))
      have e : rowsW B (t :: vs) = rows ++ rowsW B vs := by
        unfold rowsW
        rw [List.map_cons, List.flatten_cons, hrt]
      rw [e]
      exact .cons (h := 0) (ns := [t.n]) (by have := hl t List.mem_cons_self e1; omega) ⟨hg, h1, h2, rfl⟩ hko' ih
    | false =>
      have h3 := h3 rfl
      have hkids : kids B t = rows.map fun p => ⟨numOf p, t.d + 1, some (keyOf p)⟩ := by
        unfold kids
        rw [if_neg (by rw [e1]; simp), e2]
      have hpair : ∀ p ∈ rows, ∃ k n : Int, p = .tup [.int k, .int n] := fun p hp => branch_pair (((rowB_pw _).mp hr).1 p hp)
      have ih := ih (fun u hu => hl u (List.mem_cons_of_mem _ hu)) (fun u hu hz => by
        rcases List.mem_append.mp hu with hu | hu
        · rw [hkids] at hu
          obtain ⟨p, hp, rfl⟩ := List.mem_map.mp hu
          have hpb := ((rowB_pw _).mp hr).1 p hp
          obtain ⟨k, n, rfl⟩ := hpair p hp
          have hpb : (keyB (.int k) && posB (.int n)) = true := hpb
          rw [Bool.and_eq_true] at hpb
          exact of_decide_eq_true hpb.2
        · exact hk u (List.mem_cons_of_mem _ hu) hz)
      -- the height
      obtain ⟨x, hx⟩ : ∃ x, x ∈ rows := ⟨_, List.getElem_mem (show 0 < rows.length by omega)⟩
      have hkx : (⟨numOf x, t.d + 1, some (keyOf x)⟩ : Tl) ∈ kids B t := by
        rw [hkids]
        exact List.mem_map.mpr ⟨x, hx, rfl⟩
      obtain ⟨l, hl1, hl2, hl3⟩ := hdeep _ (hv.sub.1 _ (List.mem_append_left _ hkx))
      have hl4 := hl l (List.mem_cons_of_mem _ hl1) hl2
      have hl3 : t.d + 1 ≤ l.d := hl3
      obtain ⟨h, hh⟩ : ∃ h : Nat, t.d + 1 + h = H := ⟨(H - t.d - 1).toNat, by omega⟩
      rw [hkids] at ih
      obtain ⟨r1, r2, n1, n2, q1, q2, k1, k2⟩ := Forest.kids hh hpair ih
      have e : rowsW B (t :: vs) = r1 ++ r2 := by
        rw [← q1]
        unfold rowsW
        have : rowsT B t = [] := by
          unfold rowsT
          rw [if_neg (by rw [e1]; simp)]
        rw [List.map_cons, List.flatten_cons, this, List.nil_append]
      rw [e, List.map_cons, q2, ← List.cons_append]
      refine .cons (h := h + 1) (by push_cast; omega) ⟨rows, n1, hg, h1, h2, h3, rfl, k1⟩ (fun k e => ?_) k2
      obtain ⟨c1, c2, c3⟩ := hko' k e
      obtain ⟨f1, f2⟩ := k1.first c2
      exact ⟨c1, f1, by rw [f2, c3]⟩
/-! ### a sound tree, both ways -/
structure Tree (B : List (Int × D)) (w : Int) (h : Nat) (rows : List D) (nums : List Int) : Prop where
  sub : Sub B w h 0 rows nums
  nd : nums.Nodup
  keys : ∀ j, j ∈ akeys B ↔ j ∈ nums
  bnd : (akeys B).Nodup
  good : rowB true rows = true
theorem Tree.len {h : Nat} {rows : List D} {nums : List Int} (t : Tree B w h rows nums) : nums.length = B.length := by
  have h1 := nodup_len t.nd fun j hj => (t.keys j).mpr hj
  have h2 := nodup_len t.bnd fun j hj => (t.keys j).mp hj
  have : (akeys B).length = B.length := by simp [akeys]
  omega
theorem Tree.sound (hw : 3 ≤ w) {h : Nat} {rows : List D} {nums : List Int} (t : Tree B w h rows nums) : ∃ vs, SoundP B w vs ∧ rowsW B vs = rows ∧ vs.map (·.n) = nums := by
  obtain ⟨vt, w1, q1, m1, d1, f1⟩ := t.sub.ws hw t.good 0 none (fun z hz => by cases hz)
  refine ⟨vt, ⟨w1, by rw [m1]; exact t.nd, ?_, dist_one f1 d1, ?_⟩, q1, m1⟩
  · have := congrArg List.length m1
    rw [List.length_map] at this
    rw [this, t.len]
  · unfold keysW
    rw [q1]
    exact rise_of (List.pairwise_map.mpr ((rowB_pw rows).mp t.good).2)
theorem SoundP.tree (hw : 3 ≤ w) {vs : List Tl} (s : SoundP B w vs) (nd : (akeys B).Nodup) : ∃ h nums, Tree B w h (rowsW B vs) nums := by
  obtain ⟨l, hl1, hl2, _⟩ := s.ws.deep _ s.root
  have f := s.ws.forest hw (H := l.d) (fun t ht hl => s.level ht hl1 hl hl2) (fun t ht hk => by
    have : t = ⟨0, 0, none⟩ := by simpa using ht
    rw [this] at hk
    exact absurd rfl hk)
  obtain ⟨h, r, rs, ns, nss, e1, e2, e3, hs, _, f'⟩ := f.inv
  cases f'
  rw [List.append_nil] at e1 e2
  rw [e1]
  refine ⟨h, ns, hs, by rw [← e2]; exact s.nd, fun j => ?_, nd, ?_⟩
  · rw [← e2]
    constructor
    · intro hj
      obtain ⟨t, ht, rfl⟩ := s.there hj
      exact List.mem_map.mpr ⟨t, ht, rfl⟩
    · intro hj
      obtain ⟨t, ht, rfl⟩ := List.mem_map.mp hj
      exact s.ws.key ht
  · rw [← e1, rowB_pw]
    exact ⟨rowsW_pair s.ws, List.pairwise_map.mp (rise_pw s.up)⟩
/-- the same blocks, wherever they lie -/
theorem Tree.same {B' : List (Int × D)} {h : Nat} {rows : List D} {nums : List Int} (t : Tree B w h rows nums) (nd : (akeys B').Nodup) (e : ∀ j, aget B' j = aget B j) : Tree B' w h rows nums :=
  ⟨t.sub.agree fun j _ => e j, t.nd, fun j => by rw [← t.keys, ← aget_isSome, ← aget_isSome, e], nd, t.good⟩
end
end BP
/-! BTCtx: a way from the root, and what stands beside it. -/
namespace BP
open BL
open PySem (Str)
/-- what a block of a height holds -/
def Cont (F : List (Int × D)) (w : Int) : Nat → List D → List D → List Int → Prop
  | 0, xs, R, N => xs = R ∧ N = []
  | h + 1, xs, R, N => Kids (Sub F w h) xs R N
/-- the way (last number first), the rows on both sides, the numbers but for the last block's own -/
inductive Ctx (F : List (Int × D)) (w key : Int) : Nat → List Int → List D → List D → List Int → Prop
  | top {h : Nat} : Ctx F w key h [0] [] [] []
  | down {h : Nat} {m n k : Int} {way : List Int} {ls rs as bs ra rb : List D} {nums na nb : List Int} : Ctx F w key (h + 1) (m :: way) ls rs nums → aget F m = some (blkD false (as ++ .tup [.int k, .int n] :: bs)) → leastOf w m ≤ (as ++ .tup [.int k, .int n] :: bs).length → ((as ++ .tup [.int k, .int n] :: bs).length : Int) ≤ w → 2 ≤ (as ++ .tup [.int k, .int n] :: bs).length → Kids (Sub F w h) as ra na → Kids (Sub F w h) bs rb nb → 0 < n → (∀ x ∈ ls ++ ra, keyOf x < key) → (∀ x ∈ rb ++ rs, key < keyOf x) → Ctx F w key h (n :: m :: way) (ls ++ ra) (rb ++ rs) (m :: (na ++ nb ++ nums))
section
variable {B F F' : List (Int × D)} {w key : Int}
theorem Ctx.inv {h : Nat} {n m : Int} {way : List Int} {l r : List D} {nums : List Int} (c : Ctx F w key h (n :: m :: way) l r nums) : ∃ (k : Int) (ls rs as bs ra rb : List D) (nu na nb : List Int), l = ls ++ ra ∧ r = rb ++ rs ∧ nums = m :: (na ++ nb ++ nu) ∧ Ctx F w key (h + 1) (m :: way) ls rs nu ∧ aget F m = some (blkD false (as ++ .tup [.int k, .int n] :: bs)) ∧ leastOf w m ≤ (as ++ .tup [.int k, .int n] :: bs).length ∧ ((as ++ .tup [.int k, .int n] :: bs).length : Int) ≤ w ∧ 2 ≤ (as ++ .tup [.int k, .int n] :: bs).length ∧ Kids (Sub F w h) as ra na ∧ Kids (Sub F w h) bs rb nb ∧ 0 < n ∧ (∀ x ∈ ls ++ ra, keyOf x < key) ∧ (∀ x ∈ rb ++ rs, key < keyOf x) := by
  cases c with
  | down a b c d e f g i j k => exact ⟨_, _, _, _, _, _, _, _, _, _, rfl, rfl, rfl, a, b, c, d, e, f, g, i, j, k⟩
theorem Ctx.agree {h : Nat} {way : List Int} {l r : List D} {nums : List Int} (c : Ctx F w key h way l r nums) : (∀ j ∈ nums, aget F' j = aget F j) → Ctx F' w key h way l r nums := by
  induction c with
  | top => exact fun _ => .top
  | @down h m n k way ls rs as bs ra rb nums na nb a b c d e f g i j l ih =>
    intro hg
    refine .down (ih fun x hx => hg x (by simp [hx])) (by rw [hg m (by simp)]; exact b) c d e (f.mono fun n r ns hn hs => hs.agree fun x hx => hg x (by simp [hn x hx])) (g.mono fun n r ns hn hs => hs.agree fun x hx => hg x (by simp [hn x hx])) i j l
theorem Ctx.sides {h : Nat} {way : List Int} {l r : List D} {nums : List Int} (c : Ctx F w key h way l r nums) : (∀ x ∈ l, keyOf x < key) ∧ ∀ x ∈ r, key < keyOf x := by
  cases c with
  | top => exact ⟨fun x hx => (by cases hx), fun x hx => (by cases hx)⟩
  | down a b c d e f g i j k => exact ⟨j, k⟩
theorem Ctx.way {h : Nat} {way : List Int} {l r : List D} {nums : List Int} (c : Ctx F w key h way l r nums) : (∃ n wy, way = n :: wy) ∧ (∀ n wy, way = n :: wy → ∀ j ∈ wy, j ∈ nums) ∧ ∀ j ∈ way, 0 ≤ j := by
  induction c with
  | top => exact ⟨⟨0, [], rfl⟩, fun n wy e => by cases e; exact fun j hj => (by cases hj), fun j hj => by simp at hj; omega⟩
  | @down h m n k way ls rs as bs ra rb nums na nb a b c d e f g i j l ih =>
    refine ⟨⟨_, _, rfl⟩, fun n' wy e2 => ?_, fun x hx => ?_⟩
    · cases e2
      intro x hx
      rcases List.mem_cons.mp hx with rfl | hx
      · simp
      · have := ih.2.1 m way rfl x hx
        simp [this]
    · rcases List.mem_cons.mp hx with rfl | hx
      · omega
      · exact ih.2.2 x hx
theorem Ctx.last {h : Nat} {n : Int} {l r : List D} {nums : List Int} (c : Ctx F w key h [n] l r nums) : n = 0 ∧ l = [] ∧ r = [] ∧ nums = [] := by
  cases c
  exact ⟨rfl, rfl, rfl, rfl⟩
theorem Cont.agree {h : Nat} {xs R : List D} {N : List Int} (c : Cont F w h xs R N) (e : ∀ j ∈ N, aget F' j = aget F j) : Cont F' w h xs R N := by
  cases h with
  | zero => exact c
  | succ h => exact Kids.mono (S := Sub F w h) c fun n r ns hn hs => hs.agree fun j hj => e j (hn j hj)
theorem Cont.split {h : Nat} {x1 x2 R : List D} {N : List Int} (c : Cont F w h (x1 ++ x2) R N) : ∃ R1 R2 N1 N2, R = R1 ++ R2 ∧ N = N1 ++ N2 ∧ Cont F w h x1 R1 N1 ∧ Cont F w h x2 R2 N2 := by
  cases h with
  | zero =>
    obtain ⟨rfl, rfl⟩ := c
    exact ⟨x1, x2, [], [], rfl, rfl, ⟨rfl, rfl⟩, ⟨rfl, rfl⟩⟩
  | succ h => exact Kids.split c
theorem Cont.append {h : Nat} {x1 x2 R1 R2 : List D} {N1 N2 : List Int} (c : Cont F w h x1 R1 N1) (c2 : Cont F w h x2 R2 N2) : Cont F w h (x1 ++ x2) (R1 ++ R2) (N1 ++ N2) := by
  cases h with
  | zero =>
    obtain ⟨rfl, rfl⟩ := c
    obtain ⟨rfl, rfl⟩ := c2
    exact ⟨rfl, rfl⟩
  | succ h => exact Kids.append (S := Sub F w h) c c2
theorem Cont.first {h : Nat} {xs R : List D} {N : List Int} (c : Cont F w h xs R N) (hne : xs ≠ []) : R ≠ [] ∧ fk R = fk xs := by
  cases h with
  | zero =>
    obtain ⟨rfl, rfl⟩ := c
    exact ⟨hne, rfl⟩
  | succ h => exact Kids.first c hne
theorem Cont.pos {h : Nat} {xs R : List D} {N : List Int} (c : Cont F w h xs R N) : ∀ j ∈ N, 0 < j := by
  cases h with
  | zero =>
    obtain ⟨rfl, rfl⟩ := c
    exact fun j hj => by cases hj
  | succ h =>
    have c' : Kids (Sub F w h) xs R N := c
    clear c
    induction c' with
    | nil => exact fun j hj => by cases hj
    | cons a b _ _ _ ih =>
      intro j hj
      rcases List.mem_append.mp hj with hj | hj
      · rcases b.pos j hj with rfl | z
        · exact a
        · exact z
      · exact ih j hj
theorem Sub.of {h : Nat} {n : Int} {xs R : List D} {N : List Int} (c : Cont F w h xs R N) (e : aget F n = some (blkD (decide (h = 0)) xs)) (h1 : leastOf w n ≤ xs.length) (h2 : (xs.length : Int) ≤ w) (h3 : h ≠ 0 → 2 ≤ xs.length) : Sub F w h n R (n :: N) := by
  cases h with
  | zero =>
    obtain ⟨rfl, rfl⟩ := c
    exact ⟨e, h1, h2, rfl⟩
  | succ h => exact ⟨xs, N, e, h1, h2, h3 (by omega), rfl, c⟩
theorem Sub.cont {h : Nat} {n : Int} {R : List D} {nums : List Int} (s : Sub F w h n R nums) : ∃ xs N, nums = n :: N ∧ Cont F w h xs R N ∧ aget F n = some (blkD (decide (h = 0)) xs) ∧ leastOf w n ≤ xs.length ∧ (xs.length : Int) ≤ w ∧ (h ≠ 0 → 2 ≤ xs.length) := by
  cases h with
  | zero =>
    obtain ⟨h1, h2, h3, rfl⟩ := s
    exact ⟨R, [], rfl, ⟨rfl, rfl⟩, h1, h2, h3, fun z => absurd rfl z⟩
  | succ h =>
    obtain ⟨ps, ns, h1, h2, h3, h4, rfl, h5⟩ := s
    exact ⟨ps, ns, rfl, h5, h1, h2, h3, fun _ => h4⟩
/-- one step down -/
theorem Ctx.descend {h : Nat} {n : Int} {way : List Int} {ls rs ps R : List D} {nums N : List Int} {i : Nat} (c : Ctx F w key (h + 1) (n :: way) ls rs nums) (e : aget F n = some (blkD false ps)) (b1 : leastOf w n ≤ ps.length) (b2 : (ps.length : Int) ≤ w) (b3 : 2 ≤ ps.length) (kd : Kids (Sub F w h) ps R N) (good : rowB true R = true) (hi : i < ps.length) (p1 : i = 0 ∨ keyOf ps[i] ≤ key) (p2 : ∀ j, i < j → ∀ p, ps[j]? = some p → key < keyOf p) :
    ∃ ch ra r rb na ns nb, numOf ps[i] = ch ∧ (∃ k, ps[i] = .tup [.int k, .int ch]) ∧ R = ra ++ (r ++ rb) ∧ N = na ++ (ns ++ nb) ∧ Sub F w h ch r ns ∧ r ≠ [] ∧ 0 < ch ∧ Ctx F w key h (ch :: n :: way) (ls ++ ra) (rb ++ rs) (n :: (na ++ nb ++ nums)) := by
  have hsp : ps = ps.take i ++ ps[i] :: ps.drop (i + 1) := by simp
  have kd' := kd
  rw [hsp] at kd'
  obtain ⟨ra, r2, na, n2, rfl, rfl, k1, k2⟩ := kd'.split
  obtain ⟨k, ch, r, rb, ns, nb, e2, rfl, rfl, h0, hs, hne, hk, k3⟩ := k2.inv
  have hpw := ((rowB_pw _).mp good).2
  obtain ⟨hs1, hs2⟩ := c.sides
  refine ⟨ch, ra, r, rb, na, ns, nb, by rw [e2]; rfl, ⟨k, e2⟩, rfl, rfl, hs, hne, h0, ?_⟩
  rw [e2] at hsp
  rw [hsp] at e b1 b2 b3
  refine .down c e b1 b2 b3 k1 k3 h0 (fun x hx => ?_) (fun x hx => ?_)
  · rcases List.mem_append.mp hx with hx | hx
    · exact hs1 x hx
    · rcases p1 with rfl | p1
      · cases k1
        cases hx
      · cases r with
        | nil => exact absurd rfl hne
        | cons y r =>
          have h1 := (List.pairwise_append.mp hpw).2.2 x hx y (by simp)
          have h2 : keyOf y = k := hk
          have h3 : keyOf ps[i] = k := by rw [e2]; rfl
          omega
  · rcases List.mem_append.mp hx with hx | hx
    · have hd : ps.drop (i + 1) ≠ [] := by
        intro z
        rw [z] at k3
        cases k3
        cases hx
      obtain ⟨f1, f2⟩ := k3.first hd
      have hlt : i + 1 < ps.length := by
        rcases Nat.lt_or_ge (i + 1) ps.length with h | h
        · exact h
        · exact absurd (List.drop_eq_nil_of_le h) hd
      have hd2 : ps.drop (i + 1) = ps[i + 1] :: ps.drop (i + 2) := List.drop_eq_getElem_cons hlt
      have h1 := p2 (i + 1) (by omega) _ (List.getElem?_eq_getElem hlt)
      rw [hd2] at f2
      have f2 : fk rb = keyOf ps[i + 1] := f2
      have hrb : rb.Pairwise (fun x y => keyOf x < keyOf y) := (List.pairwise_append.mp (List.pairwise_append.mp hpw).2.1).2.1
      cases rb with
      | nil => cases hx
      | cons y rb =>
        have f2 : keyOf y = keyOf ps[i + 1] := f2
        rcases List.mem_cons.mp hx with rfl | hx
        · omega
        · have := (List.pairwise_cons.mp hrb).1 x hx
          omega
    · exact hs2 x hx
end
end BP
/-! BTPut: what a key that comes does to a tree. -/
namespace BP
open BL
open PySem (Str)
section
variable {B F F' : List (Int × D)} {w key : Int}
theorem Kids.num_in {h : Nat} {ps R : List D} {N : List Int} (k : Kids (Sub F w h) ps R N) : ∀ p ∈ ps, numOf p ∈ N := by
  induction k with
  | nil => exact fun p hp => by cases hp
  | cons a b _ _ _ ih =>
    intro p hp
    rcases List.mem_cons.mp hp with rfl | hp
    · obtain ⟨ns, rfl⟩ := b.self
      exact List.mem_append_left _ List.mem_cons_self
    · exact List.mem_append_right _ (ih p hp)
/-- the least number that no block has -/
def Free (F : List (Int × D)) (f : Int) : Prop := f ∉ akeys F ∧ 0 < f ∧ ∀ i, 0 < i → i < f → i ∈ akeys F
/-- the new ones are the least -/
def News (B F : List (Int × D)) : Prop := (∀ j ∈ akeys B, j ∈ akeys F) ∧ ∀ j ∈ akeys F, j ∉ akeys B → 0 < j ∧ ∀ i, 0 < i → i < j → i ∈ akeys F
theorem key_aput {n j : Int} {X : D} : j ∈ akeys (aput F n X) ↔ j = n ∨ j ∈ akeys F := by
  rw [← aget_isSome, aget_aput, ← aget_isSome]
  by_cases h : j = n
  · simp [h]
  · simp [h]
theorem News.old {n : Int} {X : D} (s : News B F) (h : n ∈ akeys F) : News B (aput F n X) := by
  have e : ∀ j, j ∈ akeys (aput F n X) ↔ j ∈ akeys F := fun j => by
    rw [key_aput]
    exact ⟨fun z => z.elim (fun z => by rw [z]; exact h) id, .inr⟩
  exact ⟨fun j hj => (e j).mpr (s.1 j hj), fun j hj hb => ⟨(s.2 j ((e j).mp hj) hb).1, fun i h1 h2 => (e i).mpr ((s.2 j ((e j).mp hj) hb).2 i h1 h2)⟩⟩
theorem News.free {f : Int} {X : D} (s : News B F) (h : Free F f) : News B (aput F f X) := by
  refine ⟨fun j hj => key_aput.mpr (.inr (s.1 j hj)), fun j hj hb => ?_⟩
  rcases key_aput.mp hj with rfl | hj
  · exact ⟨h.2.1, fun i h1 h2 => key_aput.mpr (.inr (h.2.2 i h1 h2))⟩
  · exact ⟨(s.2 j hj hb).1, fun i h1 h2 => key_aput.mpr (.inr ((s.2 j hj hb).2 i h1 h2))⟩
def Tch (B F : List (Int × D)) (tou : List Int) : Prop := ∀ j, aget F j ≠ aget B j → j ∈ tou
theorem Tch.put {tou tou' : List Int} {n : Int} {X : D} (t : Tch B F tou) (hs : ∀ j ∈ tou, j ∈ tou') (hn : n ∈ tou') : Tch B (aput F n X) tou' := fun j hj => by
  by_cases e : j = n
  · rw [e]
    exact hn
  · rw [aget_aput, if_neg e] at hj
    exact hs j (t j hj)
/-- on the way up: block n is to hold the pairs xs -/
structure PutS (B F : List (Int × D)) (w key : Int) (T : List D) (h : Nat) (n : Int) (way : List Int) (xs : List D) (tou : List Int) (ls rs R : List D) (nums N : List Int) : Prop where
  ctx : Ctx F w key h (n :: way) ls rs nums
  cont : Cont F w h xs R N
  tot : ls ++ (R ++ rs) = T
  nd : (n :: (N ++ nums)).Nodup
  keys : ∀ j, j ∈ akeys F ↔ j ∈ n :: (N ++ nums)
  fnd : (akeys F).Nodup
  lo : leastOf w n ≤ xs.length
  hi : (xs.length : Int) ≤ w + 1
  two : h ≠ 0 → 2 ≤ xs.length
  tch : Tch B F tou
  chain : ∀ j ∈ n :: way, j ∈ tou
  new : News B F
theorem PutS.up {T xs ls rs R news : List D} {h : Nat} {n m : Int} {way tou tou' nums N Nn : List Int} (s : PutS B F w key T h n (m :: way) xs tou ls rs R nums N) (kn : Kids (Sub F' w h) news R Nn) (hl : 1 ≤ news.length ∧ news.length ≤ 2)
    (ag : ∀ j ∈ nums, aget F' j = aget F j) (nd : (Nn ++ nums).Nodup) (keys : ∀ j, j ∈ akeys F' ↔ j ∈ Nn ++ nums) (fnd : (akeys F').Nodup) (tch : Tch B F' tou') (sub : ∀ j ∈ tou, j ∈ tou') (new : News B F') :
    ∃ k as bs ls' rs' R' nums' N', aget F' m = some (blkD false (as ++ .tup [.int k, .int n] :: bs)) ∧ (∀ p ∈ as, numOf p ≠ n ∧ ∃ k z : Int, p = .tup [.int k, .int z]) ∧ ((as ++ .tup [.int k, .int n] :: bs).length : Int) ≤ w ∧ PutS B F' w key T (h + 1) m way (as ++ (news ++ bs)) tou' ls' rs' R' nums' N' := by
  obtain ⟨k, l', r', as, bs, ra, rb, nu, na, nb, rfl, rfl, rfl, c, e, b1, b2, b3, ka, kb, h0, o1, o2⟩ := s.ctx.inv
  have ka' := ka.mono (S' := Sub F' w h) fun n r ns hn hs => hs.agree fun j hj => ag j (by simp [hn j hj])
  have kb' := kb.mono (S' := Sub F' w h) fun n r ns hn hs => hs.agree fun j hj => ag j (by simp [hn j hj])
  have hlen : (as ++ .tup [.int k, .int n] :: bs).length = as.length + 1 + bs.length := by simp; omega
  have hlen2 : (as ++ (news ++ bs)).length = as.length + news.length + bs.length := by simp; omega
  have hperm : (m :: ((na ++ (Nn ++ nb)) ++ nu)).Perm (Nn ++ (m :: (na ++ nb ++ nu))) := by
    rw [List.perm_iff_count]
    intro a
    simp [List.count_append, List.count_cons]
    omega
  refine ⟨k, as, bs, l', r', ra ++ (R ++ rb), nu, na ++ (Nn ++ nb), by rw [ag m (by simp)]; exact e, fun p hp => ⟨fun z => ?_, ?_⟩, b2, c.agree fun j hj => ag j (by simp [hj]), ka'.append (kn.append kb'), ?_, hperm.nodup_iff.mpr nd, fun j => by rw [keys, hperm.mem_iff], fnd, by omega, by omega, fun _ => by omega, tch, fun j hj => sub j (s.chain j (List.mem_cons_of_mem _ hj)), new⟩
  · have h1 := ka.num_in p hp
    rw [z] at h1
    exact (List.nodup_cons.mp s.nd).1 (by simp [h1])
  · obtain ⟨k', n', e', _⟩ := ka.pairs p hp
    exact ⟨k', n', e'⟩
  · rw [← s.tot]
    simp
theorem PutS.ne {T xs ls rs R : List D} {h : Nat} {n : Int} {way tou nums N : List Int} (s : PutS B F w key T h n way xs tou ls rs R nums N) (hw : 3 ≤ w) (h0 : n ≠ 0) : 0 < n ∧ (w + 1) / 2 ≤ xs.length ∧ xs ≠ [] := by
  have hp : 0 < n := by
    have := s.ctx.way.2.2 n List.mem_cons_self
    omega
  have h1 := s.lo
  unfold leastOf at h1
  rw [if_pos hp] at h1
  exact ⟨hp, h1, fun z => by rw [z] at h1; simp at h1; omega⟩
/-- no parts -/
theorem PutS.one {T xs ls rs R : List D} {h : Nat} {n m : Int} {way tou nums N : List Int} (s : PutS B F w key T h n (m :: way) xs tou ls rs R nums N) (hw : 3 ≤ w) (h0 : n ≠ 0) (hx : (xs.length : Int) ≤ w) :
    ∃ k as bs ls' rs' R' nums' N', aget (aput F n (blkD (decide (h = 0)) xs)) m = some (blkD false (as ++ .tup [.int k, .int n] :: bs)) ∧ (∀ p ∈ as, numOf p ≠ n ∧ ∃ k z : Int, p = .tup [.int k, .int z]) ∧ ((as ++ .tup [.int k, .int n] :: bs).length : Int) ≤ w ∧ PutS B (aput F n (blkD (decide (h = 0)) xs)) w key T (h + 1) m way (as ++ ([.tup [.int (fk xs), .int n]] ++ bs)) (tou ++ [n]) ls' rs' R' nums' N' := by
  obtain ⟨hp, hlo, hne⟩ := s.ne hw h0
  obtain ⟨f1, f2⟩ := s.cont.first hne
  obtain ⟨n1, n2⟩ := List.nodup_cons.mp s.nd
  have ag : ∀ j, j ≠ n → aget (aput F n (blkD (decide (h = 0)) xs)) j = aget F j := fun j hj => by rw [aget_aput, if_neg hj]
  have hs : Sub (aput F n (blkD (decide (h = 0)) xs)) w h n R (n :: N) := Sub.of (s.cont.agree fun j hj => ag j fun z => n1 (by rw [← z]; simp [hj])) (by rw [aget_aput, if_pos rfl]) s.lo hx s.two
  have hk : Kids (Sub (aput F n (blkD (decide (h = 0)) xs)) w h) [.tup [.int (fk xs), .int n]] R (n :: N) := by
    have := Kids.cons hp hs f1 f2 .nil
    simpa using this
  have hin : n ∈ akeys F := (s.keys n).mpr List.mem_cons_self
  refine s.up hk ⟨by simp, by simp⟩ (fun j hj => ag j fun z => n1 (by rw [← z]; simp [hj])) s.nd (fun j => ?_) (nodup_aput s.fnd) (s.tch.put (fun j hj => List.mem_append_left _ hj) (by simp)) (fun j hj => List.mem_append_left _ hj) (s.new.old hin)
  rw [key_aput, s.keys]
  constructor
  · rintro (rfl | h)
    · exact List.mem_cons_self
    · exact h
  · exact .inr
/-- two parts -/
theorem PutS.both {T xs x1 x2 ls rs R : List D} {h : Nat} {n m f : Int} {way tou nums N : List Int} (s : PutS B F w key T h n (m :: way) xs tou ls rs R nums N) (hw : 3 ≤ w) (h0 : n ≠ 0) (hx : xs = x1 ++ x2) (l1 : (w + 1) / 2 ≤ x1.length ∧ (x1.length : Int) ≤ w) (l2 : (w + 1) / 2 ≤ x2.length ∧ (x2.length : Int) ≤ w) (hf : Free (aput F n (blkD (decide (h = 0)) x1)) f) :
    ∃ k as bs ls' rs' R' nums' N', aget (aput (aput F n (blkD (decide (h = 0)) x1)) f (blkD (decide (h = 0)) x2)) m = some (blkD false (as ++ .tup [.int k, .int n] :: bs)) ∧ (∀ p ∈ as, numOf p ≠ n ∧ ∃ k z : Int, p = .tup [.int k, .int z]) ∧ ((as ++ .tup [.int k, .int n] :: bs).length : Int) ≤ w ∧ PutS B (aput (aput F n (blkD (decide (h = 0)) x1)) f (blkD (decide (h = 0)) x2)) w key T (h + 1) m way (as ++ ([.tup [.int (fk x1), .int n], .tup [.int (fk x2), .int f]] ++ bs)) (tou ++ [n, f]) ls' rs' R' nums' N' := by
  obtain ⟨hp, hlo, hne⟩ := s.ne hw h0
  subst hx
  obtain ⟨R1, R2, N1, N2, rfl, rfl, c1, c2⟩ := s.cont.split
  have ne1 : x1 ≠ [] := fun z => by rw [z] at l1; simp at l1; omega
  have ne2 : x2 ≠ [] := fun z => by rw [z] at l2; simp at l2; omega
  obtain ⟨f1, f2⟩ := c1.first ne1
  obtain ⟨g1, g2⟩ := c2.first ne2
  obtain ⟨n1, n2⟩ := List.nodup_cons.mp s.nd
  have hfF : f ∉ akeys F := fun z => hf.1 (key_aput.mpr (.inr z))
  have hfn : f ≠ n := fun z => hf.1 (key_aput.mpr (.inl z))
  have hf2 : f ∉ n :: ((N1 ++ N2) ++ nums) := fun z => hfF ((s.keys f).mpr z)
  have ag : ∀ j, j ≠ n → j ≠ f → aget (aput (aput F n (blkD (decide (h = 0)) x1)) f (blkD (decide (h = 0)) x2)) j = aget F j := fun j hj hjf => by rw [aget_aput, if_neg hjf, aget_aput, if_neg hj]
  have agN : ∀ j ∈ (N1 ++ N2) ++ nums, aget (aput (aput F n (blkD (decide (h = 0)) x1)) f (blkD (decide (h = 0)) x2)) j = aget F j := fun j hj => ag j (fun z => n1 (by rw [← z]; exact hj)) (fun z => hf2 (by rw [← z]; exact List.mem_cons_of_mem _ hj))
  have b1 : leastOf w n ≤ x1.length := by unfold leastOf; rw [if_pos hp]; exact l1.1
  have b2 : leastOf w f ≤ x2.length := by unfold leastOf; rw [if_pos hf.2.1]; exact l2.1
  have hs1 := Sub.of (n := n) (c1.agree fun j hj => agN j (by simp [hj])) (by rw [aget_aput, if_neg (by intro z; exact hfn z.symm), aget_aput, if_pos rfl]) b1 l1.2 (fun _ => by omega)
  have hs2 := Sub.of (n := f) (c2.agree fun j hj => agN j (by simp [hj])) (by rw [aget_aput, if_pos rfl]) b2 l2.2 (fun _ => by omega)
  have hk : Kids (Sub (aput (aput F n (blkD (decide (h = 0)) x1)) f (blkD (decide (h = 0)) x2)) w h) [.tup [.int (fk x1), .int n], .tup [.int (fk x2), .int f]] (R1 ++ R2) (n :: N1 ++ (f :: N2)) := by
    have := Kids.cons hp hs1 f1 f2 (.cons hf.2.1 hs2 g1 g2 .nil)
    simpa using this
  have hin : n ∈ akeys F := (s.keys n).mpr List.mem_cons_self
  have hperm : ((n :: N1 ++ (f :: N2)) ++ nums).Perm (f :: (n :: ((N1 ++ N2) ++ nums))) := by
    rw [List.perm_iff_count]
    intro a
    simp [List.count_append, List.count_cons]
    omega
  refine s.up hk ⟨by simp, by simp⟩ (fun j hj => agN j (List.mem_append_right _ hj)) (hperm.nodup_iff.mpr (List.nodup_cons.mpr ⟨hf2, s.nd⟩)) (fun j => ?_) (nodup_aput (nodup_aput s.fnd)) ((s.tch.put (tou' := tou ++ [n, f]) (fun j hj => List.mem_append_left _ hj) (by simp)).put (fun j hj => hj) (by simp)) (fun j hj => List.mem_append_left _ hj) ((s.new.old hin).free hf)
  rw [key_aput, key_aput, s.keys, hperm.mem_iff, List.mem_cons (a := j) (b := f)]
  constructor
  · rintro (rfl | rfl | h)
    · exact .inl rfl
    · exact .inr List.mem_cons_self
    · exact .inr h
  · rintro (h | h)
    · exact .inl h
    · exact .inr (.inr h)
/-- what comes of it -/
structure Chg (B F : List (Int × D)) (w : Int) (T : List D) (tou : List Int) : Prop where
  tree : ∃ h nums, Tree F w h T nums
  tch : Tch B F tou
  ok : News B F ∨ ∀ j ∈ akeys F, j ∈ akeys B
theorem PutS.root1 {T xs ls rs R : List D} {h : Nat} {n : Int} {tou nums N : List Int} (s : PutS B F w key T h n [] xs tou ls rs R nums N) (good : rowB true T = true) (hx : (xs.length : Int) ≤ w) : Chg B (aput F 0 (blkD (decide (h = 0)) xs)) w T tou := by
  obtain ⟨rfl, rfl, rfl, rfl⟩ := s.ctx.last
  obtain ⟨n1, n2⟩ := List.nodup_cons.mp s.nd
  have hin : (0 : Int) ∈ akeys F := (s.keys 0).mpr List.mem_cons_self
  have hs : Sub (aput F 0 (blkD (decide (h = 0)) xs)) w h 0 R (0 :: N) := Sub.of (s.cont.agree fun j hj => by rw [aget_aput, if_neg (fun z => n1 (by rw [← z]; simp [hj]))]) (by rw [aget_aput, if_pos rfl]) s.lo hx s.two
  have hR : R = T := by rw [← s.tot]; simp
  subst hR
  refine ⟨⟨h, 0 :: N, hs, by simpa using s.nd, fun j => ?_, nodup_aput s.fnd, good⟩, s.tch.put (fun j hj => hj) (s.chain 0 List.mem_cons_self), .inl (s.new.old hin)⟩
  rw [key_aput, s.keys]
  constructor
  · rintro (rfl | h)
    · exact List.mem_cons_self
    · simpa using h
  · intro h
    exact .inr (by simpa using h)
theorem PutS.root2 {T xs x1 x2 ls rs R : List D} {h : Nat} {n f g : Int} {tou nums N : List Int} (s : PutS B F w key T h n [] xs tou ls rs R nums N) (hw : 3 ≤ w) (good : rowB true T = true) (hx : xs = x1 ++ x2) (l1 : (w + 1) / 2 ≤ x1.length ∧ (x1.length : Int) ≤ w) (l2 : (w + 1) / 2 ≤ x2.length ∧ (x2.length : Int) ≤ w) (hf : Free F f) (hg : Free (aput F f (blkD (decide (h = 0)) x1)) g) :
    Chg B (aput (aput (aput F f (blkD (decide (h = 0)) x1)) g (blkD (decide (h = 0)) x2)) 0 (blkD false [.tup [.int (fk x1), .int f], .tup [.int (fk x2), .int g]])) w T (tou ++ [f, g]) := by
  obtain ⟨rfl, rfl, rfl, rfl⟩ := s.ctx.last
  obtain ⟨n1, n2⟩ := List.nodup_cons.mp s.nd
  have hin : (0 : Int) ∈ akeys F := (s.keys 0).mpr List.mem_cons_self
  have hR : R = T := by rw [← s.tot]; simp
  subst hR
  subst hx
  obtain ⟨R1, R2, N1, N2, rfl, rfl, c1, c2⟩ := s.cont.split
  have ne1 : x1 ≠ [] := fun z => by rw [z] at l1; simp at l1; omega
  have ne2 : x2 ≠ [] := fun z => by rw [z] at l2; simp at l2; omega
  obtain ⟨f1, f2⟩ := c1.first ne1
  obtain ⟨g1, g2⟩ := c2.first ne2
  have hgF : g ∉ akeys F := fun z => hg.1 (key_aput.mpr (.inr z))
  have hgf : g ≠ f := fun z => hg.1 (key_aput.mpr (.inl z))
  have hf0 := hf.2.1
  have hg0 := hg.2.1
  have kN : ∀ j ∈ N1 ++ N2, j ∈ akeys F := fun j hj => (s.keys j).mpr (List.mem_cons_of_mem _ (by simpa using hj))
  let F3 := aput (aput (aput F f (blkD (decide (h = 0)) x1)) g (blkD (decide (h = 0)) x2)) 0 (blkD false [.tup [.int (fk x1), .int f], .tup [.int (fk x2), .int g]])
  have at3 : ∀ j, aget F3 j = if j = 0 then some (blkD false [.tup [.int (fk x1), .int f], .tup [.int (fk x2), .int g]]) else if j = g then some (blkD (decide (h = 0)) x2) else if j = f then some (blkD (decide (h = 0)) x1) else aget F j := fun j => by
    show aget (aput _ _ _) j = _
    rw [aget_aput, aget_aput, aget_aput]
  have agN : ∀ j ∈ N1 ++ N2, aget F3 j = aget F j := fun j hj => by
    have hj0 : j ≠ 0 := fun z => n1 (by rw [← z]; simpa using hj)
    have hjg : j ≠ g := fun z => hgF (by rw [← z]; exact kN j hj)
    have hjf : j ≠ f := fun z => hf.1 (by rw [← z]; exact kN j hj)
    rw [at3, if_neg hj0, if_neg hjg, if_neg hjf]
  have b1 : leastOf w f ≤ x1.length := by unfold leastOf; rw [if_pos hf0]; exact l1.1
  have b2 : leastOf w g ≤ x2.length := by unfold leastOf; rw [if_pos hg0]; exact l2.1
  have hs1 := Sub.of (F := F3) (n := f) (c1.agree fun j hj => agN j (by simp [hj])) (by rw [at3, if_neg (by omega), if_neg (by intro z; exact hgf z.symm), if_pos rfl]) b1 l1.2 (fun _ => by omega)
  have hs2 := Sub.of (F := F3) (n := g) (c2.agree fun j hj => agN j (by simp [hj])) (by rw [at3, if_neg (by omega), if_pos rfl]) b2 l2.2 (fun _ => by omega)
  have hk : Kids (Sub F3 w h) [.tup [.int (fk x1), .int f], .tup [.int (fk x2), .int g]] (R1 ++ R2) (f :: N1 ++ (g :: N2)) := by
    have := Kids.cons hf0 hs1 f1 f2 (.cons hg0 hs2 g1 g2 .nil)
    simpa using this
  have hperm : (0 :: (f :: N1 ++ (g :: N2))).Perm (g :: f :: (0 :: ((N1 ++ N2) ++ []))) := by
    rw [List.perm_iff_count]
    intro a
    simp [List.count_append, List.count_cons]
    omega
  have kF : ∀ j, j ∈ akeys F ↔ j ∈ (0 :: ((N1 ++ N2) ++ []) : List Int) := s.keys
  refine ⟨⟨h + 1, 0 :: (f :: N1 ++ (g :: N2)), ⟨_, _, by rw [at3, if_pos rfl], by unfold leastOf; simp, by simp; omega, by simp, rfl, hk⟩, hperm.nodup_iff.mpr (List.nodup_cons.mpr ⟨fun z => ?_, List.nodup_cons.mpr ⟨fun z => hf.1 ((kF f).mpr z), s.nd⟩⟩), fun j => ?_, nodup_aput (nodup_aput (nodup_aput s.fnd)), good⟩, ?_, .inl (((s.new.free hf).free hg).old (key_aput.mpr (.inr (key_aput.mpr (.inr hin)))))⟩
  · rcases List.mem_cons.mp z with z | z
    · exact hgf z
    · exact hgF ((kF g).mpr z)
  · show j ∈ akeys F3 ↔ _
    rw [hperm.mem_iff, List.mem_cons (b := g), List.mem_cons (b := f), ← kF]
    show j ∈ akeys (aput _ _ _) ↔ _
    rw [key_aput, key_aput, key_aput]
    constructor
    · rintro (rfl | h | h | h)
      · exact .inr (.inr hin)
      · exact .inl h
      · exact .inr (.inl h)
      · exact .inr (.inr h)
    · rintro (h | h | h)
      · exact .inr (.inl h)
      · exact .inr (.inr (.inl h))
      · exact .inr (.inr (.inr h))
  · exact (((s.tch.put (tou' := tou ++ [f, g]) (fun j hj => List.mem_append_left _ hj) (by simp)).put (fun j hj => hj) (by simp)).put (fun j hj => hj) (List.mem_append_left _ (s.chain 0 List.mem_cons_self)))
end
end BP
/-! BTDrop: what a key that goes does to a tree. -/
namespace BP
open BL
open PySem (Str)
section
variable {B F F' : List (Int × D)} {w key : Int}
theorem key_adel {n j : Int} : j ∈ akeys (adel F n) ↔ j ≠ n ∧ j ∈ akeys F := by
  rw [← aget_isSome, aget_adel, ← aget_isSome]
  by_cases h : j = n
  · simp [h]
  · simp [h]
theorem Tch.del {tou tou' : List Int} {n : Int} (t : Tch B F tou) (hs : ∀ j ∈ tou, j ∈ tou') (hn : n ∈ tou') : Tch B (adel F n) tou' := fun j hj => by
  by_cases e : j = n
  · rw [e]
    exact hn
  · rw [aget_adel, if_neg e] at hj
    exact hs j (t j hj)
/-- on the way up: block n holds the pairs xs, perhaps one too few -/
structure DropS (B F : List (Int × D)) (w key : Int) (T : List D) (h : Nat) (n : Int) (way : List Int) (xs : List D) (tou : List Int) (ls rs R : List D) (nums N : List Int) : Prop where
  ctx : Ctx F w key h (n :: way) ls rs nums
  cur : aget F n = some (blkD (decide (h = 0)) xs)
  cont : Cont F w h xs R N
  tot : ls ++ (R ++ rs) = T
  nd : (n :: (N ++ nums)).Nodup
  keys : ∀ j, j ∈ akeys F ↔ j ∈ n :: (N ++ nums)
  fnd : (akeys F).Nodup
  lo : n ≠ 0 → (w + 1) / 2 - 1 ≤ xs.length
  hi : (xs.length : Int) ≤ w
  two : h ≠ 0 → 1 ≤ xs.length
  tch : Tch B F tou
  chain : ∀ j ∈ n :: way, j ∈ tou
  old : ∀ j ∈ akeys F, j ∈ akeys B
/-- the blocks beside it, and their part of the pairs above -/
theorem DropS.up {T ls' rs' pre post news rp Rn rq : List D} {h : Nat} {m : Int} {way tou tou' np Nn nq nu : List Int} (hw : 3 ≤ w) (c : Ctx F w key (h + 1) (m :: way) ls' rs' nu)
    (kp : Kids (Sub F w h) pre rp np) (kq : Kids (Sub F w h) post rq nq) (kn : Kids (Sub F' w h) news Rn Nn)
    (ag : ∀ j ∈ np ++ (nq ++ nu), aget F' j = aget F j) (nd : (m :: ((np ++ (Nn ++ nq)) ++ nu)).Nodup) (keys : ∀ j, j ∈ akeys F' ↔ j ∈ m :: ((np ++ (Nn ++ nq)) ++ nu)) (fnd : (akeys F').Nodup) (tot : ls' ++ ((rp ++ (Rn ++ rq)) ++ rs') = T)
    (tch : Tch B F' tou') (sub : ∀ j ∈ tou, j ∈ tou') (chain : ∀ j ∈ m :: way, j ∈ tou) (old : ∀ j ∈ akeys F', j ∈ akeys B) (l1 : m ≠ 0 → (w + 1) / 2 - 1 ≤ (pre ++ (news ++ post)).length) (l2 : ((pre ++ (news ++ post)).length : Int) ≤ w) (l3 : 1 ≤ (pre ++ (news ++ post)).length) :
    DropS B (aput F' m (blkD false (pre ++ (news ++ post)))) w key T (h + 1) m way (pre ++ (news ++ post)) tou' ls' rs' (rp ++ (Rn ++ rq)) nu (np ++ (Nn ++ nq)) := by
  obtain ⟨n1, n2⟩ := List.nodup_cons.mp nd
  have ag2 : ∀ j, j ≠ m → aget (aput F' m (blkD false (pre ++ (news ++ post)))) j = aget F' j := fun j hj => by rw [aget_aput, if_neg hj]
  have ne : ∀ j ∈ (np ++ (Nn ++ nq)) ++ nu, j ≠ m := fun j hj z => n1 (by rw [← z]; exact hj)
  have hin : m ∈ akeys F' := (keys m).mpr List.mem_cons_self
  have e : ∀ j, j ∈ akeys (aput F' m (blkD false (pre ++ (news ++ post)))) ↔ j ∈ akeys F' := fun j => by
    rw [key_aput]
    exact ⟨fun z => z.elim (fun z => by rw [z]; exact hin) id, .inr⟩
  refine ⟨c.agree fun j hj => by rw [ag2 j (ne j (by simp [hj])), ag j (by simp [hj])], by rw [aget_aput, if_pos rfl]; simp, ?_, tot, nd, fun j => by rw [e, keys], nodup_aput fnd, l1, l2, fun _ => l3, ?_, fun j hj => sub j (chain j hj), fun j hj => old j ((e j).mp hj)⟩
  · refine Kids.append ?_ (Kids.append ?_ ?_)
    · exact kp.mono fun n r ns hn hs => hs.agree fun j hj => by rw [ag2 j (ne j (by simp [hn j hj])), ag j (by simp [hn j hj])]
    · exact kn.mono fun n r ns hn hs => hs.agree fun j hj => by rw [ag2 j (ne j (by simp [hn j hj]))]
    · exact kq.mono fun n r ns hn hs => hs.agree fun j hj => by rw [ag2 j (ne j (by simp [hn j hj])), ag j (by simp [hn j hj])]
  · exact tch.put (fun j hj => hj) (sub m (chain m List.mem_cons_self))
theorem DropS.pos {T xs ls rs R : List D} {h : Nat} {n m : Int} {way tou nums N : List Int} (s : DropS B F w key T h n (m :: way) xs tou ls rs R nums N) (hw : 3 ≤ w) : 0 < n ∧ 1 ≤ xs.length ∧ (w + 1) / 2 - 1 ≤ xs.length ∧ xs ≠ [] := by
  obtain ⟨k, l', r', as, bs, ra, rb, nu, na, nb, _, _, _, _, _, _, _, _, _, _, h0, _, _⟩ := s.ctx.inv
  have h1 := s.lo (by omega)
  refine ⟨h0, by omega, h1, fun z => ?_⟩
  rw [z] at h1
  simp at h1
  omega
/-- enough pairs are left -/
theorem DropS.one {T xs ls rs R : List D} {h : Nat} {n m : Int} {way tou nums N : List Int} (s : DropS B F w key T h n (m :: way) xs tou ls rs R nums N) (hw : 3 ≤ w) (hx : (w + 1) / 2 ≤ xs.length) :
    ∃ k as bs ls' rs' R' nums' N', aget F m = some (blkD false (as ++ .tup [.int k, .int n] :: bs)) ∧ n ≠ m ∧ (∀ p ∈ as, numOf p ≠ n ∧ ∃ k z : Int, p = .tup [.int k, .int z]) ∧ ((as ++ .tup [.int k, .int n] :: bs).length : Int) ≤ w ∧ DropS B (aput (aput F n (blkD (decide (h = 0)) xs)) m (blkD false (as ++ ([.tup [.int (fk xs), .int n]] ++ bs)))) w key T (h + 1) m way (as ++ ([.tup [.int (fk xs), .int n]] ++ bs)) tou ls' rs' R' nums' N' := by
  obtain ⟨hp, _, hlo, hne⟩ := s.pos hw
  obtain ⟨k, l', r', as, bs, ra, rb, nu, na, nb, rfl, rfl, rfl, c, e, b1, b2, b3, ka, kb, h0, o1, o2⟩ := s.ctx.inv
  obtain ⟨f1, f2⟩ := s.cont.first hne
  obtain ⟨n1, n2⟩ := List.nodup_cons.mp s.nd
  have hnm : n ≠ m := fun z => n1 (by rw [z]; simp)
  have ag : ∀ j, j ≠ n → aget (aput F n (blkD (decide (h = 0)) xs)) j = aget F j := fun j hj => by rw [aget_aput, if_neg hj]
  have hs : Sub (aput F n (blkD (decide (h = 0)) xs)) w h n R (n :: N) := Sub.of (s.cont.agree fun j hj => ag j fun z => n1 (by rw [← z]; simp [hj])) (by rw [aget_aput, if_pos rfl]) (by unfold leastOf; rw [if_pos hp]; exact hx) s.hi (fun _ => by omega)
  have hk : Kids (Sub (aput F n (blkD (decide (h = 0)) xs)) w h) [.tup [.int (fk xs), .int n]] R (n :: N) := by
    have := Kids.cons hp hs f1 f2 .nil
    simpa using this
  have hin : n ∈ akeys F := (s.keys n).mpr List.mem_cons_self
  have hperm : (m :: ((na ++ ((n :: N) ++ nb)) ++ nu)).Perm (n :: (N ++ (m :: (na ++ nb ++ nu)))) := by
    rw [List.perm_iff_count]
    intro a
    simp [List.count_append, List.count_cons]
    omega
  have hlen : (as ++ .tup [.int k, .int n] :: bs).length = (as ++ ([D.tup [.int (fk xs), .int n]] ++ bs)).length := by simp
  have hlen1 : (as ++ .tup [.int k, .int n] :: bs).length = as.length + 1 + bs.length := by simp; omega
  refine ⟨k, as, bs, l', r', ra ++ (R ++ rb), nu, na ++ ((n :: N) ++ nb), e, hnm, fun p hp => ⟨fun z => ?_, ?_⟩, b2, DropS.up hw c ka kb hk (fun j hj => ag j fun z => n1 (by
    rw [← z]
    have : j ∈ na ∨ j ∈ nb ∨ j ∈ nu := by simpa using hj
    rcases this with h | h | h <;> simp [h])) (hperm.nodup_iff.mpr s.nd) (fun j => ?_) (nodup_aput s.fnd) (by rw [← s.tot]; simp) (s.tch.put (fun j hj => hj) (s.chain n List.mem_cons_self)) (fun j hj => hj) (fun j hj => s.chain j (List.mem_cons_of_mem _ hj)) (fun j hj => ?_) (fun hm => ?_) (by omega) (by omega)⟩
  · have h1 := ka.num_in p hp
    rw [z] at h1
    exact n1 (by simp [h1])
  · obtain ⟨k', n', e', _⟩ := ka.pairs p hp
    exact ⟨k', n', e'⟩
  · rw [key_aput, hperm.mem_iff, s.keys]
    constructor
    · rintro (rfl | h)
      · exact List.mem_cons_self
      · exact h
    · exact .inr
  · rcases key_aput.mp hj with rfl | hj
    · exact s.old _ hin
    · exact s.old j hj
  · have hmp : 0 < m := by
      have := c.way.2.2 m List.mem_cons_self
      omega
    unfold leastOf at b1
    rw [if_pos hmp] at b1
    omega
/-- too few: with a block beside it -/
theorem Cont.shape {h : Nat} {xs R : List D} {N : List Int} (c : Cont F w h xs R N) (good : rowB true R = true) : ∀ p ∈ xs, ∃ (k : Int) (v : D), p = .tup [.int k, v] := fun p hp => by
  cases h with
  | zero =>
    obtain ⟨rfl, rfl⟩ := c
    obtain ⟨k, v, e, _, _⟩ := pair_shape (((rowB_pw _).mp good).1 p hp)
    exact ⟨k, v, e⟩
  | succ h =>
    obtain ⟨k, n, e, _⟩ := Kids.pairs (S := Sub F w h) c p hp
    exact ⟨k, _, e⟩
theorem DropS.two_ {T xs ls rs R : List D} {h : Nat} {n m : Int} {way tou nums N : List Int} (s : DropS B F w key T h n (m :: way) xs tou ls rs R nums N) (hw : 3 ≤ w) (good : rowB true T = true) :
    ∃ k as bs, aget F m = some (blkD false (as ++ .tup [.int k, .int n] :: bs)) ∧ ((as ++ .tup [.int k, .int n] :: bs).length : Int) ≤ w ∧
      ∃ (a b : Int) (ka kb : Int) (pre post ys zs : List D), as ++ .tup [.int k, .int n] :: bs = pre ++ (.tup [.int ka, .int a] :: .tup [.int kb, .int b] :: post) ∧ ((as ≠ [] ∧ b = n ∧ as = pre ++ [.tup [.int ka, .int a]] ∧ bs = post) ∨ (as = [] ∧ a = n ∧ pre = [] ∧ bs = .tup [.int kb, .int b] :: post)) ∧ (∀ p ∈ pre, numOf p ≠ a ∧ ∃ k z : Int, p = .tup [.int k, .int z]) ∧ (∀ p ∈ as, numOf p ≠ n ∧ ∃ k z : Int, p = .tup [.int k, .int z]) ∧ (∀ p ∈ bs, ∃ k z : Int, p = .tup [.int k, .int z]) ∧
        aget F a = some (blkD (decide (h = 0)) ys) ∧ aget F b = some (blkD (decide (h = 0)) zs) ∧ a ≠ b ∧ a ≠ m ∧ b ≠ m ∧ ys ≠ [] ∧ (∀ p ∈ ys ++ zs, ∃ (k : Int) (v : D), p = .tup [.int k, v]) ∧ (w + 1) / 2 - 1 + (w + 1) / 2 ≤ ((ys ++ zs).length : Int) ∧ ((ys ++ zs).length : Int) ≤ w + w ∧
        ((((ys ++ zs).length : Int) ≤ w) → ∃ ls' rs' R' nums' N', DropS B (aput (adel (aput F a (blkD (decide (h = 0)) (ys ++ zs))) b) m (blkD false (pre ++ ([.tup [.int (fk (ys ++ zs)), .int a]] ++ post)))) w key T (h + 1) m way (pre ++ ([.tup [.int (fk (ys ++ zs)), .int a]] ++ post)) (tou ++ [a, b]) ls' rs' R' nums' N') ∧
        (∀ z1 z2, ys ++ zs = z1 ++ z2 → ((w + 1) / 2 ≤ z1.length ∧ (z1.length : Int) ≤ w) → ((w + 1) / 2 ≤ z2.length ∧ (z2.length : Int) ≤ w) → ∃ ls' rs' R' nums' N', DropS B (aput (aput (aput F a (blkD (decide (h = 0)) z1)) b (blkD (decide (h = 0)) z2)) m (blkD false (pre ++ ([.tup [.int (fk z1), .int a], .tup [.int (fk z2), .int b]] ++ post)))) w key T (h + 1) m way (pre ++ ([.tup [.int (fk z1), .int a], .tup [.int (fk z2), .int b]] ++ post)) (tou ++ [a, b]) ls' rs' R' nums' N') := by
  obtain ⟨hp, _, hlo, hne⟩ := s.pos hw
  obtain ⟨k, l', r', as, bs, ra, rb, nu, na, nb, rfl, rfl, rfl, c, e, b1, b2, b3, ka, kb, h0, o1, o2⟩ := s.ctx.inv
  obtain ⟨n1, n2⟩ := List.nodup_cons.mp s.nd
  have nota : ∀ p ∈ as, numOf p ≠ n ∧ ∃ k z : Int, p = .tup [.int k, .int z] := fun p hp => ⟨fun z => by
    have h1 := ka.num_in p hp
    rw [z] at h1
    exact n1 (by simp [h1]), by
    obtain ⟨k', n', e', _⟩ := ka.pairs p hp
    exact ⟨k', n', e'⟩⟩
  have prb : ∀ p ∈ bs, ∃ k z : Int, p = .tup [.int k, .int z] := fun p hp => by
    obtain ⟨k', n', e', _⟩ := kb.pairs p hp
    exact ⟨k', n', e'⟩
  -- all that is said of two blocks in a row
  have main : ∀ (a b ka' kb' : Int) (pre post ys zs Ra Rb rp rq : List D) (Na Nb np nq : List Int), as ++ .tup [.int k, .int n] :: bs = pre ++ (.tup [.int ka', .int a] :: .tup [.int kb', .int b] :: post) →
      Kids (Sub F w h) pre rp np → Kids (Sub F w h) post rq nq → 0 < a → 0 < b → aget F a = some (blkD (decide (h = 0)) ys) → aget F b = some (blkD (decide (h = 0)) zs) → Cont F w h ys Ra Na → Cont F w h zs Rb Nb →
      (m :: ((np ++ ((a :: (Na ++ (b :: Nb))) ++ nq)) ++ nu)).Perm (n :: (N ++ (m :: (na ++ nb ++ nu)))) → l' ++ ((rp ++ ((Ra ++ Rb) ++ rq)) ++ r') = T → ys ≠ [] → (w + 1) / 2 - 1 ≤ ys.length → (w + 1) / 2 - 1 ≤ zs.length →
      a ≠ b ∧ a ≠ m ∧ b ≠ m ∧ (∀ p ∈ pre, numOf p ≠ a ∧ ∃ k z : Int, p = .tup [.int k, .int z]) ∧ (∀ p ∈ ys ++ zs, ∃ (k : Int) (v : D), p = .tup [.int k, v]) ∧
      (((w + 1) / 2 ≤ ((ys ++ zs).length : Int) ∧ ((ys ++ zs).length : Int) ≤ w) → ∃ ls' rs' R' nums' N', DropS B (aput (adel (aput F a (blkD (decide (h = 0)) (ys ++ zs))) b) m (blkD false (pre ++ ([.tup [.int (fk (ys ++ zs)), .int a]] ++ post)))) w key T (h + 1) m way (pre ++ ([.tup [.int (fk (ys ++ zs)), .int a]] ++ post)) (tou ++ [a, b]) ls' rs' R' nums' N') ∧
        (∀ z1 z2, ys ++ zs = z1 ++ z2 → ((w + 1) / 2 ≤ z1.length ∧ (z1.length : Int) ≤ w) → ((w + 1) / 2 ≤ z2.length ∧ (z2.length : Int) ≤ w) → ∃ ls' rs' R' nums' N', DropS B (aput (aput (aput F a (blkD (decide (h = 0)) z1)) b (blkD (decide (h = 0)) z2)) m (blkD false (pre ++ ([.tup [.int (fk z1), .int a], .tup [.int (fk z2), .int b]] ++ post)))) w key T (h + 1) m way (pre ++ ([.tup [.int (fk z1), .int a], .tup [.int (fk z2), .int b]] ++ post)) (tou ++ [a, b]) ls' rs' R' nums' N') := by
    intro a b ka' kb' pre post ys zs Ra Rb rp rq Na Nb np nq hsp kp kq ha0 hb0 ea eb ca cb hperm htot yne ly lz
    have nd := hperm.nodup_iff.mpr s.nd
    have hlen := congrArg List.length hsp
    simp only [List.length_append, List.length_cons] at hlen
    have hmk : m ≠ 0 → (w + 1) / 2 ≤ (as ++ .tup [.int k, .int n] :: bs).length := fun hm => by
      have hmp : 0 < m := by
        have := c.way.2.2 m List.mem_cons_self
        omega
      unfold leastOf at b1
      rw [if_pos hmp] at b1
      exact b1
    simp only [List.length_append, List.length_cons] at hmk b2 b3
    have ina : a ∈ akeys F := (s.keys a).mpr (hperm.mem_iff.mp (by simp))
    have inb : b ∈ akeys F := (s.keys b).mpr (hperm.mem_iff.mp (by simp))
    -- who is who
    have cnt : ∀ x, List.count x (m :: ((np ++ ((a :: (Na ++ (b :: Nb))) ++ nq)) ++ nu)) ≤ 1 := fun x => List.nodup_iff_count.mp nd x
    have cnt2 : ∀ x, (if m = x then 1 else 0) + (List.count x np + ((if a = x then 1 else 0) + (List.count x Na + ((if b = x then 1 else 0) + List.count x Nb)) + List.count x nq) + List.count x nu) ≤ 1 := fun x => by
      have := cnt x
      simp [List.count_append, List.count_cons] at this
      omega
    have zer : ∀ {x : Int} {l : List Int}, x ∈ l → 1 ≤ List.count x l := fun h => List.one_le_count_iff.mpr h
    have hab : a ≠ b := fun z => by
      have := cnt2 a
      rw [if_pos rfl, if_pos z.symm] at this
      omega
    have ham : a ≠ m := fun z => by
      have := cnt2 a
      rw [if_pos rfl, if_pos z.symm] at this
      omega
    have hbm : b ≠ m := fun z => by
      have := cnt2 b
      rw [if_pos rfl, if_pos z.symm] at this
      omega
    have nea : ∀ j, (j ∈ np ∨ j ∈ Na ∨ j ∈ Nb ∨ j ∈ nq ∨ j ∈ nu) → j ≠ a ∧ j ≠ b := fun j hj => by
      have h1 := cnt2 j
      constructor
      · intro z
        rw [if_pos (show a = j from z.symm)] at h1
        rcases hj with hj | hj | hj | hj | hj <;> (have := zer hj; omega)
      · intro z
        rw [if_pos (show b = j from z.symm)] at h1
        rcases hj with hj | hj | hj | hj | hj <;> (have := zer hj; omega)
    have goodT := good
    rw [← htot] at goodT
    have gRR := (rowB_app (rowB_app (rowB_app (rowB_app goodT).2).1).2).1
    refine ⟨hab, ham, hbm, fun p hp => ⟨fun z => ?_, ?_⟩, (ca.append cb).shape gRR, fun ⟨hz1, hz2⟩ => ?_, fun z1 z2 hz l1 l2 => ?_⟩
    · have := nea _ (.inl (kp.num_in p hp))
      exact this.1 z
    · obtain ⟨k', n', e', _⟩ := kp.pairs p hp
      exact ⟨k', n', e'⟩
    · have ag : ∀ j, j ≠ a → j ≠ b → aget (adel (aput F a (blkD (decide (h = 0)) (ys ++ zs))) b) j = aget F j := fun j h1 h2 => by rw [aget_adel, if_neg h2, aget_aput, if_neg h1]
      have zne : ys ++ zs ≠ [] := fun z => yne (List.append_eq_nil_iff.mp z).1
      have cz := ca.append cb
      obtain ⟨f1, f2⟩ := cz.first zne
      have hs : Sub (adel (aput F a (blkD (decide (h = 0)) (ys ++ zs))) b) w h a (Ra ++ Rb) (a :: (Na ++ Nb)) := Sub.of (cz.agree fun j hj => by
        have := nea j (by rcases List.mem_append.mp hj with h | h <;> simp [h])
        exact ag j this.1 this.2) (by rw [aget_adel, if_neg hab, aget_aput, if_pos rfl]) (by unfold leastOf; rw [if_pos ha0]; exact hz1) hz2 (fun _ => by omega)
      have hk : Kids (Sub (adel (aput F a (blkD (decide (h = 0)) (ys ++ zs))) b) w h) [.tup [.int (fk (ys ++ zs)), .int a]] (Ra ++ Rb) (a :: (Na ++ Nb)) := by
        have := Kids.cons ha0 hs f1 f2 .nil
        simpa using this
      have hperm2 : (m :: ((np ++ ((a :: (Na ++ (b :: Nb))) ++ nq)) ++ nu)).Perm (b :: (m :: ((np ++ ((a :: (Na ++ Nb)) ++ nq)) ++ nu))) := by
        rw [List.perm_iff_count]
        intro x
        simp [List.count_append, List.count_cons]
        omega
      have nd2 := hperm2.nodup_iff.mp nd
      obtain ⟨q1, q2⟩ := List.nodup_cons.mp nd2
      have hl : (pre ++ ([D.tup [.int (fk (ys ++ zs)), .int a]] ++ post)).length = pre.length + 1 + post.length := by simp; omega
      refine ⟨l', r', rp ++ ((Ra ++ Rb) ++ rq), nu, np ++ ((a :: (Na ++ Nb)) ++ nq), DropS.up hw c kp kq hk (fun j hj => ?_) q2 (fun j => ?_) (nodup_adel (nodup_aput s.fnd)) htot ((s.tch.put (tou' := tou ++ [a, b]) (fun j hj => List.mem_append_left _ hj) (by simp)).del (fun j hj => hj) (by simp)) (fun j hj => List.mem_append_left _ hj) (fun j hj => s.chain j (List.mem_cons_of_mem _ hj)) (fun j hj => ?_) (fun hm => ?_) ?_ ?_⟩
      · have : j ∈ np ∨ j ∈ nq ∨ j ∈ nu := by simpa using hj
        have := nea j (by rcases this with h | h | h <;> simp [h])
        exact ag j this.1 this.2
      · rw [key_adel, key_aput, s.keys, ← hperm.mem_iff, hperm2.mem_iff, List.mem_cons (b := b)]
        constructor
        · rintro ⟨z1, (z2 | z2 | z2)⟩
          · rw [z2]
            simp
          · exact absurd z2 z1
          · exact z2
        · intro z
          exact ⟨fun y => q1 (by rw [← y]; exact z), .inr (.inr z)⟩
      · obtain ⟨_, hj⟩ := key_adel.mp hj
        rcases key_aput.mp hj with rfl | hj
        · exact s.old _ ina
        · exact s.old _ hj
      · have := hmk hm
        omega
      · omega
      · omega
    · have ag : ∀ j, j ≠ a → j ≠ b → aget (aput (aput F a (blkD (decide (h = 0)) z1)) b (blkD (decide (h = 0)) z2)) j = aget F j := fun j h1 h2 => by rw [aget_aput, if_neg h2, aget_aput, if_neg h1]
      have cz := ca.append cb
      rw [hz] at cz
      obtain ⟨R1, R2, N1, N2, eR, eN, c1, c2⟩ := cz.split
      have ne1 : z1 ≠ [] := fun z => by rw [z] at l1; simp at l1; omega
      have ne2 : z2 ≠ [] := fun z => by rw [z] at l2; simp at l2; omega
      obtain ⟨f1, f2⟩ := c1.first ne1
      obtain ⟨g1, g2⟩ := c2.first ne2
      have mN : ∀ j, j ∈ N1 ++ N2 → j ∈ Na ∨ j ∈ Nb := fun j hj => by
        rw [← eN] at hj
        exact List.mem_append.mp hj
      have agN : ∀ j ∈ N1 ++ N2, aget (aput (aput F a (blkD (decide (h = 0)) z1)) b (blkD (decide (h = 0)) z2)) j = aget F j := fun j hj => by
        have := nea j (by rcases mN j hj with h | h <;> simp [h])
        exact ag j this.1 this.2
      have hs1 := Sub.of (n := a) (c1.agree fun j hj => agN j (by simp [hj])) (by rw [aget_aput, if_neg hab, aget_aput, if_pos rfl]) (by unfold leastOf; rw [if_pos ha0]; exact l1.1) l1.2 (fun _ => by omega)
      have hs2 := Sub.of (n := b) (c2.agree fun j hj => agN j (by simp [hj])) (by rw [aget_aput, if_pos rfl]) (by unfold leastOf; rw [if_pos hb0]; exact l2.1) l2.2 (fun _ => by omega)
      have hk : Kids (Sub (aput (aput F a (blkD (decide (h = 0)) z1)) b (blkD (decide (h = 0)) z2)) w h) [.tup [.int (fk z1), .int a], .tup [.int (fk z2), .int b]] (R1 ++ R2) (a :: N1 ++ (b :: N2)) := by
        have := Kids.cons ha0 hs1 f1 f2 (.cons hb0 hs2 g1 g2 .nil)
        simpa using this
      have cN : ∀ x, List.count x N1 + List.count x N2 = List.count x Na + List.count x Nb := fun x => by rw [← List.count_append, ← List.count_append, eN]
      have hperm2 : (m :: ((np ++ ((a :: N1 ++ (b :: N2)) ++ nq)) ++ nu)).Perm (m :: ((np ++ ((a :: (Na ++ (b :: Nb))) ++ nq)) ++ nu)) := by
        rw [List.perm_iff_count]
        intro x
        have := cN x
        simp [List.count_append, List.count_cons]
        omega
      have hl : (pre ++ ([D.tup [.int (fk z1), .int a], D.tup [.int (fk z2), .int b]] ++ post)).length = pre.length + 2 + post.length := by simp; omega
      refine ⟨l', r', rp ++ ((R1 ++ R2) ++ rq), nu, np ++ ((a :: N1 ++ (b :: N2)) ++ nq), DropS.up hw c kp kq hk (fun j hj => ?_) (hperm2.nodup_iff.mpr nd) (fun j => ?_) (nodup_aput (nodup_aput s.fnd)) (by rw [← eR]; exact htot) ((s.tch.put (tou' := tou ++ [a, b]) (fun j hj => List.mem_append_left _ hj) (by simp)).put (fun j hj => hj) (by simp)) (fun j hj => List.mem_append_left _ hj) (fun j hj => s.chain j (List.mem_cons_of_mem _ hj)) (fun j hj => ?_) (fun hm => ?_) ?_ ?_⟩
      · have : j ∈ np ∨ j ∈ nq ∨ j ∈ nu := by simpa using hj
        have := nea j (by rcases this with h | h | h <;> simp [h])
        exact ag j this.1 this.2
      · rw [key_aput, key_aput, hperm2.mem_iff, hperm.mem_iff, ← s.keys]
        constructor
        · rintro (rfl | rfl | z)
          · exact inb
          · exact ina
          · exact z
        · exact fun z => .inr (.inr z)
      · rcases key_aput.mp hj with rfl | hj
        · exact s.old _ inb
        · rcases key_aput.mp hj with rfl | hj
          · exact s.old _ ina
          · exact s.old _ hj
      · have := hmk hm
        omega
      · omega
      · omega
  have half2 : ∀ {x : Int}, 0 < x → ∀ {l : List D}, leastOf w x ≤ l.length → (w + 1) / 2 ≤ l.length := fun hx l h => by
    unfold leastOf at h
    rw [if_pos hx] at h
    exact h
  by_cases ce : as = []
  · subst ce
    cases ka
    cases bs with
    | nil => simp at b3
    | cons q post =>
      obtain ⟨kq', q, rq1, rs1, nq1, nss, rfl, rfl, rfl, hq0, sq, hqne, _, kpost⟩ := kb.inv
      obtain ⟨zs, Nq, rfl, cq, eq, lq1, lq2, lq3⟩ := sq.cont
      have lq4 := half2 hq0 lq1
      obtain ⟨m1, m2, m3, m4, msh, m5, m6⟩ := main n q k kq' [] post xs zs R rq1 [] rs1 N Nq [] nss rfl .nil kpost hp hq0 s.cur eq s.cont cq (by
        rw [List.perm_iff_count]
        intro x
        simp [List.count_append, List.count_cons]
        omega) (by rw [← s.tot]; simp) hne hlo (by omega)
      have hl : ((xs ++ zs).length : Int) = xs.length + zs.length := by simp
      have := s.hi
      refine ⟨k, [], .tup [.int kq', .int q] :: post, e, b2, n, q, k, kq', [], post, xs, zs, rfl, .inr ⟨rfl, rfl, rfl, rfl⟩, m4, nota, prb, s.cur, eq, m1, m2, m3, hne, msh, by omega, by omega, fun hz => m5 ⟨by omega, hz⟩, m6⟩
  · obtain ⟨pre, l, rfl⟩ : ∃ pre l, as = pre ++ [l] := ⟨as.dropLast, as.getLast ce, (List.dropLast_concat_getLast ce).symm⟩
    obtain ⟨rp, r2, np, n2', rfl, rfl, kpre, kl⟩ := ka.split
    obtain ⟨kp', p, rp1, rs1, np1, nss, rfl, rfl, rfl, hp0, sp, hpne, _, knil⟩ := kl.inv
    cases knil
    obtain ⟨ys, Np, rfl, cp, ep, lp1, lp2, lp3⟩ := sp.cont
    have lp4 := half2 hp0 lp1
    have yne : ys ≠ [] := fun z => by rw [z] at lp4; simp at lp4; omega
    obtain ⟨m1, m2, m3, m4, msh, m5, m6⟩ := main p n kp' k pre bs ys xs rp1 R rp rb Np N np nb (by simp) kpre kb hp0 hp ep s.cur cp s.cont (by
      rw [List.perm_iff_count]
      intro x
      simp [List.count_append, List.count_cons]
      omega) (by rw [← s.tot]; simp) yne (by omega) hlo
    have hl : ((ys ++ xs).length : Int) = ys.length + xs.length := by simp
    have := s.hi
    refine ⟨k, pre ++ [.tup [.int kp', .int p]], bs, e, b2, p, n, kp', k, pre, bs, ys, xs, by simp, .inl ⟨ce, rfl, rfl, rfl⟩, m4, nota, prb, ep, s.cur, m1, m2, m3, yne, msh, by omega, by omega, fun hz => m5 ⟨by omega, hz⟩, m6⟩
/-- the root -/
theorem DropS.root {T xs ls rs R : List D} {h : Nat} {n : Int} {tou nums N : List Int} (s : DropS B F w key T h n [] xs tou ls rs R nums N) (good : rowB true T = true) (hx : h = 0 ∨ 2 ≤ xs.length) : Chg B F w T tou := by
  obtain ⟨rfl, rfl, rfl, rfl⟩ := s.ctx.last
  have hR : R = T := by rw [← s.tot]; simp
  subst hR
  refine ⟨⟨h, 0 :: N, Sub.of s.cont s.cur (by unfold leastOf; simp) s.hi (fun hh => hx.resolve_left hh), by simpa using s.nd, fun j => by rw [s.keys]; simp, s.fnd, good⟩, s.tch, .inr s.old⟩
theorem DropS.sink {T ls rs R : List D} {h : Nat} {n : Int} {p : D} {tou nums N : List Int} (s : DropS B F w key T (h + 1) n [] [p] tou ls rs R nums N) (good : rowB true T = true) :
    ∃ k ch ys leaf, p = .tup [.int k, .int ch] ∧ aget F ch = some (blkD leaf ys) ∧ ch ≠ 0 ∧ Chg B (aput (adel F ch) 0 (blkD leaf ys)) w T (tou ++ [ch]) := by
  obtain ⟨rfl, rfl, rfl, rfl⟩ := s.ctx.last
  have hR : R = T := by rw [← s.tot]; simp
  subst hR
  obtain ⟨k, ch, r1, rs1, n1, nss, rfl, rfl, rfl, h0, hs, _, _, knil⟩ := Kids.inv (S := Sub F w h) s.cont
  cases knil
  obtain ⟨ys, Nc, rfl, cc, ec, l1, l2, l3⟩ := hs.cont
  have nd := s.nd
  simp only [List.append_nil] at nd
  obtain ⟨q1, q2⟩ := List.nodup_cons.mp nd
  obtain ⟨q3, q4⟩ := List.nodup_cons.mp q2
  have hin : (0 : Int) ∈ akeys F := (s.keys 0).mpr List.mem_cons_self
  have hinc : ch ∈ akeys F := (s.keys ch).mpr (by simp)
  have hs' : Sub (aput (adel F ch) 0 (blkD (decide (h = 0)) ys)) w h 0 r1 (0 :: Nc) := Sub.of (cc.agree fun j hj => by
    rw [aget_aput, if_neg (fun z => q1 (by rw [← z]; exact List.mem_cons_of_mem _ hj)), aget_adel, if_neg (fun z => q3 (by rw [← z]; exact hj))]) (by rw [aget_aput, if_pos rfl]) (by unfold leastOf; simp) l2 l3
  refine ⟨k, ch, ys, _, rfl, ec, by omega, ⟨h, 0 :: Nc, by simpa using hs', List.nodup_cons.mpr ⟨fun z => q1 (List.mem_cons_of_mem _ z), q4⟩, fun j => ?_, nodup_aput (nodup_adel s.fnd), by simpa using good⟩, (s.tch.del (tou' := tou ++ [ch]) (fun j hj => List.mem_append_left _ hj) (by simp)).put (fun j hj => hj) (List.mem_append_left _ (s.chain 0 List.mem_cons_self)), .inr fun j hj => ?_⟩
  · rw [key_aput, key_adel, s.keys]
    simp only [List.append_nil, List.mem_cons]
    constructor
    · rintro (h | ⟨h1, h | h | h⟩)
      · exact .inl h
      · exact .inl h
      · exact absurd h h1
      · exact .inr h
    · rintro (h | h)
      · exact .inl h
      · exact .inr ⟨fun z => q3 (by rw [← z]; exact h), .inr (.inr h)⟩
  · rcases key_aput.mp hj with rfl | hj
    · exact s.old _ hin
    · exact s.old _ (key_adel.mp hj).2
end
end BP
/-! BPTerms2: the program's functions, more of them (printed by gen.py). -/
namespace BP
open PySem BL
/-! place -/
/-! way_to -/
noncomputable def b_way_to_0 : GS := (mSet 2 (mLst (mCons (mC (.int 0)) mNil)))
noncomputable def b_way_to_1 : GS := (mWhile (mT (mBin oEq (mBin oIx (mBin oIx (mVar 0) (mBin oIx (mVar 2) (mUn oNeg (mC (.int 1))))) (mC (.int 0))) (mC (.str "branch")))) (mSeq (mSet 3 (mBin oIx (mBin oIx (mVar 0) (mBin oIx (mVar 2) (mUn oNeg (mC (.int 1))))) (mC (.int 1)))) (mExpr (mMtL oAppend (mVar 2) (mCons (mBin oIx (mBin oIx (mVar 3) (mCall g_place (mCons (mVar 3) (mCons (mVar 1) mNil)))) (mC (.int 1))) mNil)))))
noncomputable def b_way_to_2 : GS := (mRet (mVar 2))
noncomputable def b_way_to : GS := (mSeq b_way_to_0 (mSeq b_way_to_1 b_way_to_2))
noncomputable def g_way_to : Fn := mDef 2 4 b_way_to
/-! changed -/
noncomputable def b_changed_0 : GS := (mSet 3 mDnew)
noncomputable def b_changed_1 : GS := (mFor (mIter (mUn oSortSet (mVar 2))) (mName 4) (mIte (mT (mBin oNe (mMtD oGet1 (mVar 0) (mVar 4)) (mMtD oGet1 (mVar 1) (mVar 4)))) (mPut oPutA (mVar 3) (mVar 4) (mMtD oGet1 (mVar 1) (mVar 4))) mSkip))
noncomputable def b_changed_2 : GS := (mRet (mVar 3))
noncomputable def b_changed : GS := (mSeq b_changed_0 (mSeq b_changed_1 b_changed_2))
noncomputable def g_changed : Fn := mDef 3 5 b_changed
/-! free_number -/
noncomputable def b_free_number_0 : GS := (mSet 1 (mC (.int 1)))
noncomputable def b_free_number_1 : GS := (mWhile (mT (mBin oIn (mVar 1) (mVar 0))) (mSet 1 (mBin oAdd (mVar 1) (mC (.int 1)))))
noncomputable def b_free_number_2 : GS := (mRet (mVar 1))
noncomputable def b_free_number : GS := (mSeq b_free_number_0 (mSeq b_free_number_1 b_free_number_2))
noncomputable def g_free_number : Fn := mDef 1 2 b_free_number
/-! stored -/
noncomputable def b_stored_0 : GS := (mSet 4 (mLst mNil))
noncomputable def b_stored_1 : GS := (mFor (mEnum (mVar 3)) (mName2 5 6) (mSeq (mSet 7 (mIf (mT (mBin oLt (mVar 5) (mCB oLen (mCons (mVar 2) mNil)))) (mBin oIx (mVar 2) (mVar 5)) (mCall g_free_number (mCons (mVar 0) mNil)))) (mSeq (mPut oPutA (mVar 0) (mVar 7) (mTup (mCons (mVar 1) (mCons (mVar 6) mNil)))) (mExpr (mMtL oAppend (mVar 4) (mCons (mTup (mCons (mBin oIx (mBin oIx (mVar 6) (mC (.int 0))) (mC (.int 0))) (mCons (mVar 7) mNil))) mNil))))))
noncomputable def b_stored_2 : GS := (mFor (mIter (mSl (mVar 2) (mSome (mCB oLen (mCons (mVar 3) mNil))) mNo)) (mName 7) (mExpr (mMtD oPopD1 (mVar 0) (mVar 7))))
noncomputable def b_stored_3 : GS := (mRet (mVar 4))
noncomputable def b_stored : GS := (mSeq b_stored_0 (mSeq b_stored_1 (mSeq b_stored_2 b_stored_3)))
noncomputable def g_stored : Fn := mDef 4 8 b_stored
/-! replaced -/
noncomputable def b_replaced_0 : GS := (mSet 3 (mC (.int 0)))
noncomputable def b_replaced_1 : GS := (mWhile (mT (mBin oNe (mBin oIx (mBin oIx (mVar 0) (mVar 3)) (mC (.int 1))) (mBin oIx (mVar 1) (mC (.int 0))))) (mSet 3 (mBin oAdd (mVar 3) (mC (.int 1)))))
noncomputable def b_replaced_2 : GS := (mRet (mBin oAdd (mBin oAdd (mCB oList (mCons (mSl (mVar 0) mNo (mSome (mVar 3))) mNil)) (mVar 2)) (mCB oList (mCons (mSl (mVar 0) (mSome (mBin oAdd (mVar 3) (mCB oLen (mCons (mVar 1) mNil)))) mNo) mNil))))
noncomputable def b_replaced : GS := (mSeq b_replaced_0 (mSeq b_replaced_1 b_replaced_2))
noncomputable def g_replaced : Fn := mDef 3 4 b_replaced
/-! parts -/
/-! put_in -/
noncomputable def b_put_in_0 : GS := (mSet 4 (mCB oDict (mCons (mVar 0) mNil)))
noncomputable def b_put_in_1 : GS := (mSet 5 (mCall g_way_to (mCons (mVar 4) (mCons (mVar 2) mNil))))
noncomputable def b_put_in_2 : GS := (mSet 6 (mCB oList (mCons (mVar 5) mNil)))
noncomputable def b_put_in_3 : GS := (mSet 7 (mBin oIx (mBin oIx (mVar 4) (mBin oIx (mVar 5) (mUn oNeg (mC (.int 1))))) (mC (.int 1))))
noncomputable def b_put_in_4 : GS := (mSet 8 (mBin oAdd (mBin oAdd (mLc (mIter (mVar 7)) (mName 12) (mT (mBin oLt (mBin oIx (mVar 12) (mC (.int 0))) (mVar 2))) (mVar 12) [12]) (mLst (mCons (mTup (mCons (mVar 2) (mCons (mVar 3) mNil))) mNil))) (mLc (mIter (mVar 7)) (mName 12) (mT (mBin oGt (mBin oIx (mVar 12) (mC (.int 0))) (mVar 2))) (mVar 12) [12])))
noncomputable def b_put_in_5 : GS := (mSet 9 (mC (.str "leaf")))
noncomputable def b_put_in_6 : GS := (mWhile (mT (mBin oGt (mCB oLen (mCons (mVar 5) mNil)) (mC (.int 1)))) (mSeq (mSet 10 (mMtL oPop0 (mVar 5) mNil)) (mSeq (mSet 11 (mCall g_stored (mCons (mVar 4) (mCons (mVar 9) (mCons (mLst (mCons (mVar 10) mNil)) (mCons (mCall g_parts (mCons (mVar 8) (mCons (mVar 1) mNil))) mNil)))))) (mSeq (mExpr (mMtL oExtend (mVar 6) (mCons (mLc (mIter (mVar 11)) (mName 12) mYes (mBin oIx (mVar 12) (mC (.int 1))) [12]) mNil))) (mSeq (mSet 8 (mCall g_replaced (mCons (mBin oIx (mBin oIx (mVar 4) (mBin oIx (mVar 5) (mUn oNeg (mC (.int 1))))) (mC (.int 1))) (mCons (mLst (mCons (mVar 10) mNil)) (mCons (mVar 11) mNil))))) (mSet 9 (mC (.str "branch"))))))))
noncomputable def b_put_in_7 : GS := (mIte (mT (mBin oGt (mCB oLen (mCons (mVar 8) mNil)) (mVar 1))) (mSeq (mSet 8 (mCall g_stored (mCons (mVar 4) (mCons (mVar 9) (mCons (mLst mNil) (mCons (mCall g_parts (mCons (mVar 8) (mCons (mVar 1) mNil))) mNil)))))) (mSeq (mExpr (mMtL oExtend (mVar 6) (mCons (mLc (mIter (mVar 8)) (mName 12) mYes (mBin oIx (mVar 12) (mC (.int 1))) [12]) mNil))) (mSet 9 (mC (.str "branch"))))) mSkip)
noncomputable def b_put_in_8 : GS := (mPut oPutA (mVar 4) (mC (.int 0)) (mTup (mCons (mVar 9) (mCons (mCB oTuple (mCons (mVar 8) mNil)) mNil))))
noncomputable def b_put_in_9 : GS := (mRet (mCall g_changed (mCons (mVar 0) (mCons (mVar 4) (mCons (mVar 6) mNil)))))
noncomputable def b_put_in : GS := (mSeq b_put_in_0 (mSeq b_put_in_1 (mSeq b_put_in_2 (mSeq b_put_in_3 (mSeq b_put_in_4 (mSeq b_put_in_5 (mSeq b_put_in_6 (mSeq b_put_in_7 (mSeq b_put_in_8 b_put_in_9)))))))))
noncomputable def g_put_in : Fn := mDef 4 13 b_put_in
/-! half -/
/-! beside -/
noncomputable def b_beside_0 : GS := (mSet 2 (mLc (mIter (mVar 0)) (mName 4) mYes (mBin oIx (mVar 4) (mC (.int 1))) [4]))
noncomputable def b_beside_1 : GS := (mSet 3 (mCB oMax2 (mCons (mC (.int 1)) (mCons (mMtL oIndex (mVar 2) (mCons (mVar 1) mNil)) mNil))))
noncomputable def b_beside_2 : GS := (mRet (mSl (mVar 2) (mSome (mBin oSub (mVar 3) (mC (.int 1)))) (mSome (mBin oAdd (mVar 3) (mC (.int 1))))))
noncomputable def b_beside : GS := (mSeq b_beside_0 (mSeq b_beside_1 b_beside_2))
noncomputable def g_beside : Fn := mDef 2 5 b_beside
/-! drop_from -/
noncomputable def b_drop_from_0 : GS := (mSet 3 (mCB oDict (mCons (mVar 0) mNil)))
noncomputable def b_drop_from_1 : GS := (mSet 4 (mCall g_way_to (mCons (mVar 3) (mCons (mVar 2) mNil))))
noncomputable def b_drop_from_2 : GS := (mSet 5 (mCB oList (mCons (mVar 4) mNil)))
noncomputable def b_drop_from_3 : GS := (mPut oPutA (mVar 3) (mBin oIx (mVar 4) (mUn oNeg (mC (.int 1)))) (mTup (mCons (mC (.str "leaf")) (mCons (mCB oTuple (mCons (mLc (mIter (mBin oIx (mBin oIx (mVar 3) (mBin oIx (mVar 4) (mUn oNeg (mC (.int 1))))) (mC (.int 1)))) (mName 12) (mT (mBin oNe (mBin oIx (mVar 12) (mC (.int 0))) (mVar 2))) (mVar 12) [12]) mNil)) mNil))))
noncomputable def b_drop_from_4 : GS := (mWhile (mT (mBin oGt (mCB oLen (mCons (mVar 4) mNil)) (mC (.int 1)))) (mSeq (mSet 6 (mLst (mCons (mMtL oPop0 (mVar 4) mNil) mNil))) (mSeq (mSet 7 (mBin oIx (mBin oIx (mVar 3) (mBin oIx (mVar 6) (mC (.int 0)))) (mC (.int 0)))) (mSeq (mSet 8 (mBin oIx (mBin oIx (mVar 3) (mBin oIx (mVar 4) (mUn oNeg (mC (.int 1))))) (mC (.int 1)))) (mSeq (mIte (mT (mBin oLt (mCB oLen (mCons (mBin oIx (mBin oIx (mVar 3) (mBin oIx (mVar 6) (mC (.int 0)))) (mC (.int 1))) mNil)) (mCall g_half (mCons (mVar 1) mNil)))) (mSeq (mSet 6 (mCall g_beside (mCons (mVar 8) (mCons (mBin oIx (mVar 6) (mC (.int 0))) mNil)))) (mExpr (mMtL oExtend (mVar 5) (mCons (mVar 6) mNil)))) mSkip) (mSeq (mSet 9 (mLst mNil)) (mSeq (mFor (mIter (mVar 6)) (mName 10) (mExpr (mMtL oExtend (mVar 9) (mCons (mBin oIx (mBin oIx (mVar 3) (mVar 10)) (mC (.int 1))) mNil)))) (mSeq (mSet 11 (mCall g_stored (mCons (mVar 3) (mCons (mVar 7) (mCons (mVar 6) (mCons (mCall g_parts (mCons (mVar 9) (mCons (mVar 1) mNil))) mNil)))))) (mPut oPutA (mVar 3) (mBin oIx (mVar 4) (mUn oNeg (mC (.int 1)))) (mTup (mCons (mC (.str "branch")) (mCons (mCB oTuple (mCons (mCall g_replaced (mCons (mVar 8) (mCons (mVar 6) (mCons (mVar 11) mNil)))) mNil)) mNil))))))))))))
noncomputable def b_drop_from_5 : GS := (mIte (mAnd (mT (mBin oEq (mBin oIx (mBin oIx (mVar 3) (mC (.int 0))) (mC (.int 0))) (mC (.str "branch")))) (mT (mBin oEq (mCB oLen (mCons (mBin oIx (mBin oIx (mVar 3) (mC (.int 0))) (mC (.int 1))) mNil)) (mC (.int 1))))) (mSeq (mExpr (mMtL oAppend (mVar 5) (mCons (mBin oIx (mBin oIx (mBin oIx (mBin oIx (mVar 3) (mC (.int 0))) (mC (.int 1))) (mC (.int 0))) (mC (.int 1))) mNil))) (mPut oPutA (mVar 3) (mC (.int 0)) (mMtD oPopD1 (mVar 3) (mBin oIx (mBin oIx (mBin oIx (mBin oIx (mVar 3) (mC (.int 0))) (mC (.int 1))) (mC (.int 0))) (mC (.int 1)))))) mSkip)
noncomputable def b_drop_from_6 : GS := (mRet (mCall g_changed (mCons (mVar 0) (mCons (mVar 3) (mCons (mVar 5) mNil)))))
noncomputable def b_drop_from : GS := (mSeq b_drop_from_0 (mSeq b_drop_from_1 (mSeq b_drop_from_2 (mSeq b_drop_from_3 (mSeq b_drop_from_4 (mSeq b_drop_from_5 b_drop_from_6))))))
noncomputable def g_drop_from : Fn := mDef 3 13 b_drop_from
/-! value_in -/
noncomputable def b_value_in_0 : GS := (mFor (mIter (mBin oIx (mBin oIx (mVar 0) (mBin oIx (mCall g_way_to (mCons (mVar 0) (mCons (mVar 1) mNil))) (mUn oNeg (mC (.int 1))))) (mC (.int 1)))) (mName 2) (mIte (mT (mBin oEq (mBin oIx (mVar 2) (mC (.int 0))) (mVar 1))) (mRet (mBin oIx (mVar 2) (mC (.int 1)))) mSkip))
noncomputable def b_value_in_1 : GS := (mRet (mC .non))
noncomputable def b_value_in : GS := (mSeq b_value_in_0 b_value_in_1)
noncomputable def g_value_in : Fn := mDef 2 3 b_value_in
/-! _law_whole -/
noncomputable def b_law_whole_0 : GS := (mRet (mAndV (mUn (oIsi "int") (mVar 0)) (mNotV (mUn (oIsi "bool") (mVar 0)))))
noncomputable def b_law_whole : GS := b_law_whole_0
noncomputable def g_law_whole : Fn := mDef 1 1 b_law_whole
/-! _law_good -/
noncomputable def b_law_good_0 : GS := (mIte (mOr (mNot (mT (mUn (oIsi "tuple") (mVar 0)))) (mOr (mT (mBin oNe (mCB oLen (mCons (mVar 0) mNil)) (mC (.int 2)))) (mNot (mT (mUn (oIsi "tuple") (mBin oIx (mVar 0) (mC (.int 1)))))))) (mRet (mC (.bl false))) mSkip)
noncomputable def b_law_good_1 : GS := (mIte (mOr (mNot (mT (mUn (oIsi "str") (mBin oIx (mVar 0) (mC (.int 0)))))) (mOr (mT (mBin oNotIn (mBin oIx (mVar 0) (mC (.int 0))) (mTup (mCons (mC (.str "leaf")) (mCons (mC (.str "branch")) mNil))))) (mNot (mT (mChain oLe oLe (mVar 1) (mCB oLen (mCons (mBin oIx (mVar 0) (mC (.int 1))) mNil)) (mVar 2)))))) (mRet (mC (.bl false))) mSkip)
noncomputable def b_law_good_2 : GS := (mFor (mEnum (mBin oIx (mVar 0) (mC (.int 1)))) (mName2 3 4) (mSeq (mIte (mOr (mNot (mT (mUn (oIsi "tuple") (mVar 4)))) (mOr (mT (mBin oNe (mCB oLen (mCons (mVar 4) mNil)) (mC (.int 2)))) (mNot (mT (mCall g_law_whole (mCons (mBin oIx (mVar 4) (mC (.int 0))) mNil)))))) (mRet (mC (.bl false))) mSkip) (mSeq (mIte (mAnd (mT (mBin oGt (mVar 3) (mC (.int 0)))) (mT (mBin oLe (mBin oIx (mVar 4) (mC (.int 0))) (mBin oIx (mBin oIx (mBin oIx (mVar 0) (mC (.int 1))) (mBin oSub (mVar 3) (mC (.int 1)))) (mC (.int 0)))))) (mRet (mC (.bl false))) mSkip) (mSeq (mIte (mAnd (mT (mBin oEq (mBin oIx (mVar 0) (mC (.int 0))) (mC (.str "leaf")))) (mNot (mT (mUn (oIsi "str") (mBin oIx (mVar 4) (mC (.int 1))))))) (mRet (mC (.bl false))) mSkip) (mIte (mAnd (mT (mBin oEq (mBin oIx (mVar 0) (mC (.int 0))) (mC (.str "branch")))) (mNot (mT (mCall g_law_whole (mCons (mBin oIx (mVar 4) (mC (.int 1))) mNil))))) (mRet (mC (.bl false))) mSkip)))))
noncomputable def b_law_good_3 : GS := (mRet (mC (.bl true)))
noncomputable def b_law_good : GS := (mSeq b_law_good_0 (mSeq b_law_good_1 (mSeq b_law_good_2 b_law_good_3)))
noncomputable def g_law_good : Fn := mDef 3 5 b_law_good
/-! _law_row_of -/
noncomputable def b_law_row_of_0 : GS := (mSet 2 (mLst mNil))
noncomputable def b_law_row_of_1 : GS := (mSet 3 mDnew)
noncomputable def b_law_row_of_2 : GS := (mSet 4 (mC .non))
noncomputable def b_law_row_of_3 : GS := (mSet 5 (mLst (mCons (mTup (mCons (mC (.int 0)) (mCons (mC (.int 0)) (mCons (mC .non) mNil)))) mNil)))
noncomputable def b_law_row_of_4 : GS := (mWhile (mT (mBin oGt (mCB oLen (mCons (mVar 5) mNil)) (mC (.int 0)))) (mSeq (mSet 6 (mMtL oPop0 (mVar 5) mNil)) (mSeq (mSet 7 (mBin oDiv (mBin oAdd (mVar 1) (mC (.int 1))) (mC (.int 2)))) (mSeq (mIte (mT (mBin oEq (mBin oIx (mVar 6) (mC (.int 0))) (mC (.int 0)))) (mSet 7 (mC (.int 0))) mSkip) (mSeq (mSet 8 (mMtD oGet1 (mVar 0) (mBin oIx (mVar 6) (mC (.int 0))))) (mSeq (mIte (mOr (mT (mBin oIn (mBin oIx (mVar 6) (mC (.int 0))) (mVar 3))) (mNot (mT (mCall g_law_good (mCons (mVar 8) (mCons (mVar 7) (mCons (mVar 1) mNil))))))) (mRet (mC .non)) mSkip) (mSeq (mPut oPutA (mVar 3) (mBin oIx (mVar 6) (mC (.int 0))) (mC (.bl true))) (mSeq (mIte (mAnd (mT (mBin oIsNot (mBin oIx (mVar 6) (mC (.int 2))) (mC .non))) (mT (mBin oNe (mBin oIx (mBin oIx (mBin oIx (mVar 8) (mC (.int 1))) (mC (.int 0))) (mC (.int 0))) (mBin oIx (mVar 6) (mC (.int 2)))))) (mRet (mC .non)) mSkip) (mIte (mT (mBin oEq (mBin oIx (mVar 8) (mC (.int 0))) (mC (.str "leaf")))) (mSeq (mIte (mAnd (mT (mBin oIsNot (mVar 4) (mC .non))) (mT (mBin oNe (mVar 4) (mBin oIx (mVar 6) (mC (.int 1)))))) (mRet (mC .non)) mSkip) (mSeq (mSet 4 (mBin oIx (mVar 6) (mC (.int 1)))) (mSet 2 (mBin oAdd (mVar 2) (mCB oList (mCons (mBin oIx (mVar 8) (mC (.int 1))) mNil)))))) (mIte (mT (mBin oLt (mCB oLen (mCons (mBin oIx (mVar 8) (mC (.int 1))) mNil)) (mC (.int 2)))) (mRet (mC .non)) (mFor (mRev (mBin oIx (mVar 8) (mC (.int 1)))) (mName 9) (mExpr (mMtL oAppend (mVar 5) (mCons (mTup (mCons (mBin oIx (mVar 9) (mC (.int 1))) (mCons (mBin oAdd (mBin oIx (mVar 6) (mC (.int 1))) (mC (.int 1))) (mCons (mBin oIx (mVar 9) (mC (.int 0))) mNil)))) mNil))))))))))))))
noncomputable def b_law_row_of_5 : GS := (mFor (mRange2 (mC (.int 1)) (mCB oLen (mCons (mVar 2) mNil))) (mName 10) (mIte (mT (mBin oLe (mBin oIx (mBin oIx (mVar 2) (mVar 10)) (mC (.int 0))) (mBin oIx (mBin oIx (mVar 2) (mBin oSub (mVar 10) (mC (.int 1)))) (mC (.int 0))))) (mRet (mC .non)) mSkip))
noncomputable def b_law_row_of_6 : GS := (mIte (mT (mBin oNe (mCB oLen (mCons (mVar 3) mNil)) (mCB oLen (mCons (mVar 0) mNil)))) (mRet (mC .non)) mSkip)
noncomputable def b_law_row_of_7 : GS := (mRet (mVar 2))
noncomputable def b_law_row_of : GS := (mSeq b_law_row_of_0 (mSeq b_law_row_of_1 (mSeq b_law_row_of_2 (mSeq b_law_row_of_3 (mSeq b_law_row_of_4 (mSeq b_law_row_of_5 (mSeq b_law_row_of_6 b_law_row_of_7)))))))
noncomputable def g_law_row_of : Fn := mDef 2 11 b_law_row_of
end BP
/-! BTEval: the way to a key, its value, the least free number. -/
namespace BP
open BL
open PySem (Str)
variable {M : Mem}
/-! ### loops, memories -/
theorem while_end {t : GT} {b : GS} {L : BL.Loc} {M M1 : Mem} (h : t L M = some (.ok false M1)) : mWhile t b L M = some (.nx L, M1) := by
  refine mWhile_of (n := 1) ?_
  unfold whileF
  rw [h]
  rfl
theorem while_step {t : GT} {b : GS} {L L2 : BL.Loc} {M M1 M2 : Mem} {r : Fl × Mem} (h : t L M = some (.ok true M1)) (h2 : b L M1 = some (.nx L2, M2)) (h3 : mWhile t b L2 M2 = some r) : mWhile t b L M = some r := by
  obtain ⟨n, e⟩ := of_mWhile h3
  refine mWhile_of (n := n + 1) ?_
  unfold whileF
  rw [h]
  dsimp only [bndS]
  rw [if_pos rfl, h2]
  exact e
theorem forG_nil {ok : Mem → Prop} {g : GG} {b : GS} {L : BL.Loc} {M : Mem} (h : ok M) : forG ok g b [] L M = some (.nx L, M) := by
  unfold forG
  exact if_pos h
theorem forG_cons {ok : Mem → Prop} {g : GG} {b : GS} {d : D} {ds : List D} {L L1 L2 : BL.Loc} {M M2 : Mem} (h : ok M) (h1 : g d L = some L1) (h2 : b L1 M = some (.nx L2, M2)) : forG ok g b (d :: ds) L M = forG ok g b ds L2 M2 := by
  conv => lhs; unfold forG
  rw [if_pos h, h1]
  dsimp only
  rw [h2]
/-- all but one is kept -/
structure Ke (f : Nat) (M M' : Mem) : Prop where
  len : M.length ≤ M'.length
  at_ : ∀ j, j < M.length → j ≠ f → M'[j]? = M[j]?
theorem Ke.refl (f : Nat) (M : Mem) : Ke f M M := ⟨Nat.le_refl _, fun _ _ _ => rfl⟩
theorem Ke.of {f : Nat} {M M' : Mem} (h : Kp M M') : Ke f M M' := ⟨h.len, fun j hj _ => h.at_ j hj⟩
theorem Ke.trans {f : Nat} {A B C : Mem} (h : Ke f A B) (k : Ke f B C) : Ke f A C := ⟨Nat.le_trans h.len k.len, fun j hj hne => by rw [k.at_ j (Nat.lt_of_lt_of_le hj h.len) hne, h.at_ j hj hne]⟩
theorem Ke.more {f : Nat} {A B : Mem} (h : Ke f A B) (J : Mem) : Ke f A (B ++ J) := h.trans (Ke.of (Kp.app B J))
theorem Ke.set {f : Nat} {A B : Mem} (h : Ke f A B) (o : Ob) : Ke f A (B.set f o) := ⟨by rw [List.length_set]; exact h.len, fun j hj hne => by rw [get_set_ne (Ne.symm hne), h.at_ j hj hne]⟩
theorem Ke.set2 {f : Nat} {A B : Mem} (h : Ke f A B) {n : Nat} (hn : A.length ≤ n) (o : Ob) : Ke f A (B.set n o) := ⟨by rw [List.length_set]; exact h.len, fun j hj hne => by rw [get_set_ne (by omega), h.at_ j hj hne]⟩
theorem Ke.get {f : Nat} {A B : Mem} (h : Ke f A B) {n : Nat} {o : Ob} (hn : n ≠ f) (e : A[n]? = some o) : B[n]? = some o := by
  rw [h.at_ n (get_lt e) hn]
  exact e
theorem Ke.kp {f : Nat} {M0 A B : Mem} (h : Kp M0 A) (k : Ke f A B) (hf : M0.length ≤ f) : Kp M0 B := ⟨Nat.le_trans h.len k.len, fun j hj => by rw [k.at_ j (Nat.lt_of_lt_of_le hj h.len) (by omega), h.at_ j hj]⟩
theorem ixN_last {n : Nat} : L2.ixN (n + 1) (-1) = some n := by
  unfold L2.ixN
  first
    | (rw [if_pos (by omega)]; congr 1; omega)
    | (rw [if_neg (by omega), if_pos (by omega)]; congr 1; omega)
    | (simp <;> omega)
theorem atI_last {α : Type} {xs : List α} {x : α} : L2.atI (xs ++ [x]) (-1) = some x := by
  unfold L2.atI
  rw [List.length_append, List.length_singleton, ixN_last]
  simp
theorem ix_lastL {q : Nat} {xs : List D} {x : D} (h : M[q]? = some (.lst (xs ++ [x]))) : oIx (.ref q) (.int (-1)) M = some (x, M) := ix_lst h atI_last
/-! ### place -/
def plc (ps : List D) (key : Int) : Nat → Nat
  | 0 => 0
  | k + 1 => if keyOf (ps.getD k .non) ≤ key then k else plc ps key k
theorem plc_ok {ps : List D} {key : Int} : ∀ n, n ≤ ps.length → (plc ps key n = 0 ∨ plc ps key n < n ∧ keyOf (ps.getD (plc ps key n) .non) ≤ key) ∧ ∀ j, plc ps key n < j → j < n → key < keyOf (ps.getD j .non)
  | 0, _ => ⟨.inl rfl, fun j _ h => absurd h (by omega)⟩
  | n + 1, h => by
    obtain ⟨h1, h2⟩ := plc_ok (ps := ps) (key := key) n (by omega)
    unfold plc
    split
    · rename_i c
      exact ⟨.inr ⟨by omega, c⟩, fun j a b => absurd b (by omega)⟩
    · rename_i c
      refine ⟨h1.imp_right fun z => ⟨by omega, z.2⟩, fun j a b => ?_⟩
      by_cases e : j = n
      · subst e
        omega
      · exact h2 j a (by omega)
theorem p_place {ps : List D} {key : Int} (hp : ∀ p ∈ ps, ∃ (k : Int) (v : D), p = .tup [.int k, v]) : g_place [.tup ps, .int key] M = some (.ok (.int (plc ps key ps.length)) M) := by
  simp only [g_place, b_place, b_place_0, b_place_1, b_place_2, ev_def2]
  have hi : ∀ (L : BL.Loc), L[0]? = some (some (.tup ps)) → mEnum (mVar 0) L M = some (.ok (Src.map (pairUp 0) ⟨ps, none⟩) M) := fun L h => seq_at _ (by simp [h]) src_tup
  obtain ⟨L', M', e, h⟩ := forG_run (ok := Src.ok (Src.map (pairUp 0) ⟨ps, none⟩)) (g := mName2 3 4) (body := mIte (mT (mBin oLe (mBin oIx (mVar 4) (mC (.int 0))) (mVar 1))) (mSet 2 (mVar 3)) mSkip)
    (fun k L M' => M' = M ∧ ∃ y z, L = [some (.tup ps), some (.int key), some (.int (plc ps key k)), y, z]) (pairUp 0 ps)
    (fun k L M' d hd ⟨hM, y, z, hL⟩ => by
      subst hL hM
      refine ⟨trivial, ?_⟩
      rw [pairUp_get] at hd
      cases hx : ps[k]? with
      | none => rw [hx] at hd; cases hd
      | some p =>
        rw [hx] at hd
        have hd := Option.some.inj hd
        subst hd
        refine ⟨_, ev_name2, ?_⟩
        have e1 : ps.getD k .non = p := by simp [List.getD_eq_getElem?_getD, hx]
        obtain ⟨kk, v, rfl⟩ := hp p (List.mem_of_getElem? hx)
        have e2 : oIx (.tup [.int kk, v]) (.int 0) M' = some (.int kk, M') := ix_tup rfl
        by_cases hk : kk ≤ key
        · have e3 : plc ps key (k + 1) = k := by rw [plc, e1]; exact if_pos hk
          simp only [e3]
          simp [e2, hk]
          exact ⟨_, _, ⟨rfl, rfl⟩, rfl, _, _, rfl⟩
        · have e3 : plc ps key (k + 1) = plc ps key k := by rw [plc, e1]; exact if_neg hk
          simp only [e3]
          simp [e2, hk]
          exact ⟨_, _, ⟨rfl, rfl⟩, rfl, _, _, rfl⟩)
    (fun L M' h => trivial) (L := [some (.tup ps), some (.int key), some (.int 0), none, none]) (M := M) ⟨rfl, _, _, rfl⟩
  rw [pairUp_length] at h
  obtain ⟨rfl, y, z, rfl⟩ := h
  simp
  rw [for_at (hi _ rfl)]
  show endS (thenS (forG _ _ _ (pairUp 0 _) _ _) _) = _
  rw [e]
  simp
/-! ### the way -/
noncomputable def wtT : GT := mT (mBin oEq (mBin oIx (mBin oIx (mVar 0) (mBin oIx (mVar 2) (mUn oNeg (mC (.int 1))))) (mC (.int 0))) (mC (.str "branch")))
noncomputable def wtB : GS := mSeq (mSet 3 (mBin oIx (mBin oIx (mVar 0) (mBin oIx (mVar 2) (mUn oNeg (mC (.int 1))))) (mC (.int 1)))) (mExpr (mMtL oAppend (mVar 2) (mCons (mBin oIx (mBin oIx (mVar 3) (mCall g_place (mCons (mVar 3) (mCons (mVar 1) mNil)))) (mC (.int 1))) mNil)))
theorem wt_eq : b_way_to_1 = mWhile wtT wtB := rfl
def wl (way : List Int) : List D := way.reverse.map .int
theorem wl_cons {n : Int} {way : List Int} : wl (n :: way) = wl way ++ [.int n] := by simp [wl]
theorem kind_br (leaf : Bool) : oEq (.str (kindS leaf)) (.str "branch") M = some (.bl (!leaf), M) := by
  cases leaf <;> exact oEq_strs (by decide +kernel) (by decide +kernel) (by decide +kernel)
theorem way_loop {b wy : Nat} {F : List (Int × D)} {w key : Int} (hb : M[b]? = some (.dct F)) (hwy : M.length ≤ wy) : ∀ (h : Nat) (n : Int) (way : List Int) (ls rs R : List D) (nums ns : List Int) (M' : Mem) (x3 : Option D),
    Ctx F w key h (n :: way) ls rs nums → Sub F w h n R ns → rowB true R = true → Kp M M' → M'[wy]? = some (.lst (wl (n :: way))) → way.length + h ≤ 10000 →
    ∃ (n' : Int) (way' : List Int) (ls' rs' R' : List D) (nums' : List Int) (y3 : Option D) (M'' : Mem), mWhile wtT wtB [some (.ref b), some (.int key), some (.ref wy), x3] M' = some (.nx [some (.ref b), some (.int key), some (.ref wy), y3], M'') ∧ Kp M M'' ∧ M''[wy]? = some (.lst (wl (n' :: way'))) ∧
      Ctx F w key 0 (n' :: way') ls' rs' nums' ∧ Sub F w 0 n' R' [n'] ∧ ls' ++ (R' ++ rs') = ls ++ (R ++ rs) ∧ ([n'] ++ nums').Perm (ns ++ nums) ∧ (n' :: way').length = (n :: way).length + h ∧ rowB true R' = true := by
  intro h
  induction h with
  | zero =>
    intro n way ls rs R nums ns M' x3 c s good k1 hw1 hl
    obtain ⟨h1, h2, h3, rfl⟩ := s
    have i1 : oIx (.ref wy) (.int (-1)) M' = some (.int n, M') := ix_lastL (by rw [hw1, wl_cons])
    have i2 : oIx (.ref b) (.int n) M' = some (blkD true R, M') := ix_dct (k1.get hb) h1
    have i3 : oIx (blkD true R) (.int 0) M' = some (.str (kindS true), M') := ix0
    have i4 := kind_br (M := M') true
    refine ⟨n, way, ls, rs, R, nums, x3, M', ?_, k1, hw1, c, ⟨h1, h2, h3, rfl⟩, rfl, List.Perm.refl _, rfl, good⟩
    generalize blkD true R = blk at *
    generalize kindS true = kd at *
    exact while_end (by simp [wtT, i1, i2, i3, i4])
  | succ h ih =>
    intro n way ls rs R nums ns M' x3 c s good k1 hw1 hl
    obtain ⟨ps, ns2, h1, h2, h3, h4, rfl, h5⟩ := s
    have i1 : oIx (.ref wy) (.int (-1)) M' = some (.int n, M') := ix_lastL (by rw [hw1, wl_cons])
    have i2 : oIx (.ref b) (.int n) M' = some (blkD false ps, M') := ix_dct (k1.get hb) h1
    have i3 : oIx (blkD false ps) (.int 0) M' = some (.str (kindS false), M') := ix0
    have i31 : oIx (blkD false ps) (.int 1) M' = some (.tup ps, M') := ix1
    have i4 := kind_br (M := M') false
    have hpp : ∀ p ∈ ps, ∃ (k : Int) (v : D), p = .tup [.int k, v] := fun p hp => by
      obtain ⟨k, m, e, _⟩ := h5.pairs p hp
      exact ⟨k, _, e⟩
    have i5 := p_place (M := M') (key := key) hpp
    obtain ⟨q1, q2⟩ := plc_ok (ps := ps) (key := key) ps.length (Nat.le_refl _)
    have hi : plc ps key ps.length < ps.length := by
      rcases q1 with q | q
      · omega
      · exact q.1
    generalize plc ps key ps.length = i at *
    have gd : ∀ j (hj : j < ps.length), ps.getD j .non = ps[j] := fun j hj => by simp [hj]
    obtain ⟨ch, ra, r, rb, na, ns', nb, e1, ⟨k, e2⟩, rfl, rfl, s', hne, h0, c'⟩ := c.descend h1 h2 h3 h4 h5 good hi (q1.imp_right fun z => by rw [gd i hi] at z; exact z.2) (fun j hj p hp => by
      have hjl := (List.getElem?_eq_some_iff.mp hp).1
      have := q2 j hj hjl
      rw [gd j hjl, (List.getElem?_eq_some_iff.mp hp).2] at this
      exact this)
    have i6 : oIx (.tup ps) (.int (i : Int)) M' = some (.tup [.int k, .int ch], M') := ix_tup (by rw [atI_nat, List.getElem?_eq_getElem hi, e2])
    have i7 : oIx (.tup [.int k, .int ch]) (.int 1) M' = some (.int ch, M') := ix1
    have i8 : oAppend (.ref wy) [.int ch] M' = some (.non, M'.set wy (.lst (wl (n :: way) ++ [.int ch]))) := append_lst hw1 (by simp [wl]; omega)
    have good' : rowB true r = true := (rowB_app (rowB_app good).2).1
    obtain ⟨n', way', ls', rs', R', nums', y3, M'', e3, k3, w3, c3, s3, t3, p3, l3, g3⟩ := ih ch (n :: way) (ls ++ ra) (rb ++ rs) r (n :: (na ++ nb ++ nums)) ns' (M'.set wy (.lst (wl (n :: way) ++ [.int ch]))) (some (.tup ps)) c' s' good' (k1.set hwy _) (by rw [get_set_eq hw1, ← wl_cons]) (by simp at hl ⊢; omega)
    refine ⟨n', way', ls', rs', R', nums', y3, M'', ?_, k3, w3, c3, s3, by rw [t3]; simp, p3.trans ?_, by rw [l3]; simp; omega, g3⟩
    · clear e2 e1 h1 c' s'
      generalize blkD false ps = blk at *
      generalize kindS false = kd at *
      refine while_step (M1 := M') (L2 := [some (.ref b), some (.int key), some (.ref wy), some (.tup ps)]) (M2 := M'.set wy (.lst (wl (n :: way) ++ [.int ch]))) (by simp [wtT, i1, i2, i3, i4]) ?_ e3
      simp [wtB, i1, i2, i31, i5, i6, i7, i8, hw1]
    · rw [List.perm_iff_count]
      intro a
      simp [List.count_append, List.count_cons]
      omega
theorem p_way {b : Nat} {F : List (Int × D)} {w key : Int} {h : Nat} {T : List D} {ns : List Int} (hb : M[b]? = some (.dct F)) (s : Sub F w h 0 T ns) (good : rowB true T = true) (hh : h ≤ 1000) :
    ∃ (n : Int) (way : List Int) (ls rs R : List D) (nums : List Int) (wy : Nat) (M' : Mem), g_way_to [.ref b, .int key] M = some (.ok (.ref wy) M') ∧ Kp M M' ∧ M.length ≤ wy ∧ M'[wy]? = some (.lst (wl (n :: way))) ∧
      Ctx F w key 0 (n :: way) ls rs nums ∧ Sub F w 0 n R [n] ∧ ls ++ (R ++ rs) = T ∧ ([n] ++ nums).Perm ns ∧ (n :: way).length = 1 + h ∧ rowB true R = true := by
  obtain ⟨n', way', ls', rs', R', nums', y3, M'', e3, k3, w3, c3, s3, t3, p3, l3, g3⟩ := way_loop (M := M) (wy := M.length) (key := key) hb (Nat.le_refl _) h 0 [] [] [] T [] ns (M ++ [.lst [.int 0]]) none .top s good (Kp.app _ _) get_new (by simp; omega)
  refine ⟨n', way', ls', rs', R', nums', M.length, M'', ?_, k3, Nat.le_refl _, w3, c3, s3, by simpa using t3, by simpa using p3, by rw [l3]; simp, g3⟩
  simp only [g_way_to, b_way_to, ev_def2]
  have e0 : b_way_to_0 ([some (.ref b), some (.int key)] ++ List.replicate (4 - 2) none) M = some (.nx [some (.ref b), some (.int key), some (.ref M.length), none], M ++ [.lst [.int 0]]) := by
    simp [b_way_to_0]
  rw [seq_step e0, wt_eq, seq_step e3]
  simp [b_way_to_2]
end BP
/-! BTEval2: value_in, free_number, parts, replaced, beside. -/
namespace BP
open BL
open PySem (Str)
variable {M : Mem}
/-! ### value_in -/
def valOf : D → D
  | .tup [_, v] => v
  | _ => .non
def lookK : List D → Int → D
  | [], _ => .non
  | p :: ps, key => if keyOf p = key then valOf p else lookK ps key
theorem lookK_none {key : Int} : ∀ {T : List D}, (∀ p ∈ T, keyOf p ≠ key) → lookK T key = .non
  | [], _ => rfl
  | p :: ps, h => by
    unfold lookK
    rw [if_neg (h p List.mem_cons_self)]
    exact lookK_none fun q hq => h q (List.mem_cons_of_mem _ hq)
theorem lookK_app {key : Int} {rs : List D} (h2 : ∀ p ∈ rs, keyOf p ≠ key) : ∀ {R : List D}, lookK (R ++ rs) key = lookK R key
  | [] => lookK_none h2
  | p :: ps => by
    show (if _ then _ else lookK (ps ++ rs) key) = if _ then _ else _
    rw [lookK_app h2]
theorem lookK_pre {key : Int} {R : List D} : ∀ {ls : List D}, (∀ p ∈ ls, keyOf p ≠ key) → lookK (ls ++ R) key = lookK R key
  | [], _ => rfl
  | p :: ps, h => by
    show (if _ then _ else lookK (ps ++ R) key) = _
    rw [if_neg (h p List.mem_cons_self)]
    exact lookK_pre fun q hq => h q (List.mem_cons_of_mem _ hq)
theorem p_value_in {b : Nat} {F : List (Int × D)} {w key : Int} {h : Nat} {T : List D} {ns : List Int} (hb : M[b]? = some (.dct F)) (s : Sub F w h 0 T ns) (good : rowB true T = true) (hh : h ≤ 1000) :
    ∃ M', g_value_in [.ref b, .int key] M = some (.ok (lookK T key) M') ∧ Kp M M' := by
  obtain ⟨n, way, ls, rs, R, nums, wy, M1, e1, k1, hwy, w1, c, sb, tot, _, _, goodR⟩ := p_way (key := key) hb s good hh
  obtain ⟨s1, s2⟩ := c.sides
  have htot : lookK T key = lookK R key := by
    rw [← tot, lookK_pre (fun p hp => by have := s1 p hp; omega), lookK_app (fun p hp => by have := s2 p hp; omega)]
  obtain ⟨h1, h2, h3, _⟩ := sb
  have i1 : oIx (.ref wy) (.int (-1)) M1 = some (.int n, M1) := ix_lastL (by rw [w1, wl_cons])
  have i2 : oIx (.ref b) (.int n) M1 = some (blkD true R, M1) := ix_dct (k1.get hb) h1
  have i3 : oIx (blkD true R) (.int 1) M1 = some (.tup R, M1) := ix1
  generalize blkD true R = blk at *
  have hi : mIter (mBin oIx (mBin oIx (mVar 0) (mBin oIx (mCall g_way_to (mCons (mVar 0) (mCons (mVar 1) mNil))) (mUn oNeg (mC (.int 1))))) (mC (.int 1))) [some (.ref b), some (.int key), none] M = some (.ok (Src.map (fun ds => ds) ⟨R, none⟩) M1) := seq_at _ (by simp [e1, i1, i2, i3]) src_tup
  have hR := (rowB_pw R).mp goodR
  obtain ⟨r, e, hr⟩ := forG_gen (ok := Src.ok (Src.map (fun ds => ds) ⟨R, none⟩)) (g := mName 2) (body := mIte (mT (mBin oEq (mBin oIx (mVar 2) (mC (.int 0))) (mVar 1))) (mRet (mBin oIx (mVar 2) (mC (.int 1)))) mSkip)
    (fun r => r = (.rt (lookK R key), M1) ∨ ∃ x, r = (.nx [some (.ref b), some (.int key), x], M1) ∧ lookK R key = .non)
    (fun k L M' => M' = M1 ∧ (∃ x, L = [some (.ref b), some (.int key), x]) ∧ (∀ p ∈ R.take k, keyOf p ≠ key)) R
    (fun k L M' d hd ⟨hM, ⟨x, hL⟩, hI⟩ => by
      subst hM hL
      refine ⟨trivial, _, rfl, ?_⟩
      obtain ⟨kk, v, rfl, _, _⟩ := pair_shape (hR.1 d (List.mem_of_getElem? hd))
      have j0 : ∀ M, oIx (.tup [.int kk, v]) (.int 0) M = some (.int kk, M) := fun M => ix0
      have j1 : ∀ M, oIx (.tup [.int kk, v]) (.int 1) M = some (v, M) := fun M => ix1
      have hkl := (List.getElem?_eq_some_iff.mp hd).1
      by_cases hk : kk = key
      · subst hk
        refine ⟨(.rt v, M'), by simp [j0, j1], .inl ?_⟩
        have : lookK R kk = v := by
          have hs : R = R.take k ++ R[k] :: R.drop (k + 1) := by simp
          rw [hs, lookK_pre hI, (List.getElem?_eq_some_iff.mp hd).2]
          show (if kk = kk then v else _) = v
          rw [if_pos rfl]
        rw [this]
      · refine ⟨(.nx [some (.ref b), some (.int key), some (.tup [.int kk, v])], M'), by simp [j0, hk], rfl, ⟨_, rfl⟩, fun p hp => ?_⟩
        rw [List.take_succ_eq_append_getElem hkl] at hp
        rcases List.mem_append.mp hp with hp | hp
        · exact hI p hp
        · have : p = R[k] := by simpa using hp
          rw [this, (List.getElem?_eq_some_iff.mp hd).2]
          exact hk)
    (fun L M' ⟨hM, ⟨x, hL⟩, hI⟩ => by
      subst hM hL
      rw [List.take_length] at hI
      exact ⟨trivial, .inr ⟨x, rfl, lookK_none hI⟩⟩)
    (L := [some (.ref b), some (.int key), none]) (M := M1) ⟨rfl, ⟨none, rfl⟩, by simp⟩
  have e0 : b_value_in_0 [some (.ref b), some (.int key), none] M = some r := by
    unfold b_value_in_0
    rw [for_at hi]
    exact e
  refine ⟨M1, ?_, k1⟩
  rw [htot]
  simp only [g_value_in, b_value_in, ev_def2]
  show endS (mSeq b_value_in_0 b_value_in_1 [some (.ref b), some (.int key), none] M) = _
  rcases hr with rfl | ⟨x, rfl, hn⟩
  · unfold mSeq
    rw [e0]
    rfl
  · rw [seq_step e0, hn]
    simp [b_value_in_1]
/-! ### free_number -/
theorem free_ex (F : List (Int × D)) : ∃ f, Free F f ∧ f ≤ F.length + 1 := by
  have key : ∀ n : Nat, (∃ f, Free F f ∧ f ≤ n) ∨ ∀ i : Int, 0 < i → i ≤ n → i ∈ akeys F := by
    intro n
    induction n with
    | zero => exact .inr fun i h1 h2 => by omega
    | succ n ih =>
      rcases ih with ⟨f, hf, hl⟩ | h
      · exact .inl ⟨f, hf, by push_cast; omega⟩
      · by_cases c : ((n + 1 : Nat) : Int) ∈ akeys F
        · refine .inr fun i h1 h2 => ?_
          by_cases e : i = ((n + 1 : Nat) : Int)
          · rw [e]
            exact c
          · exact h i h1 (by push_cast at h2 e; omega)
        · exact .inl ⟨_, ⟨c, by push_cast; omega, fun i h1 h2 => h i h1 (by push_cast at h2; omega)⟩, Int.le_refl _⟩
  rcases key (F.length + 1) with h | h
  · obtain ⟨f, h1, h2⟩ := h
    exact ⟨f, h1, by push_cast at h2; omega⟩
  · exfalso
    have hnd : ((List.range (F.length + 1)).map fun i : Nat => ((i + 1 : Nat) : Int)).Nodup := by
      unfold List.Nodup
      rw [List.pairwise_map]
      refine List.Pairwise.imp (R := (· ≠ ·)) (fun {a b : Nat} (h : a ≠ b) (z : ((a + 1 : Nat) : Int) = ((b + 1 : Nat) : Int)) => h (by omega)) List.nodup_range
    have := nodup_len hnd (ys := akeys F) fun x hx => by
      obtain ⟨i, hi, rfl⟩ := List.mem_map.mp hx
      have := List.mem_range.mp hi
      exact h _ (by omega) (by omega)
    have hl : (akeys F).length = F.length := by simp [akeys]
    simp at this
    omega
theorem p_free {f : Nat} {F : List (Int × D)} (hf : M[f]? = some (.dct F)) : ∃ x, g_free_number [.ref f] M = some (.ok (.int x) M) ∧ Free F x := by
  obtain ⟨x, hx, _⟩ := free_ex F
  have loop : ∀ (n : Nat) (i : Int), 0 < i → x - i = n → mWhile (mT (mBin oIn (mVar 1) (mVar 0))) (mSet 1 (mBin oAdd (mVar 1) (mC (.int 1)))) [some (.ref f), some (.int i)] M = some (.nx [some (.ref f), some (.int x)], M) := by
    intro n
    induction n with
    | zero =>
      intro i h0 hi
      have : i = x := by omega
      subst this
      have hin := in_dct (k := i) hf
      have hno : (aget F i).isSome = false := by
        cases hg : (aget F i).isSome with
        | false => rfl
        | true => exact absurd (aget_isSome.mp hg) hx.1
      rw [hno] at hin
      exact while_end (by simp [hin])
    | succ n ih =>
      intro i h0 hi
      have hin := in_dct (k := i) hf
      have hyes : (aget F i).isSome = true := aget_isSome.mpr (hx.2.2 i h0 (by omega))
      rw [hyes] at hin
      exact while_step (M1 := M) (L2 := [some (.ref f), some (.int (i + 1))]) (M2 := M) (by simp [hin]) (by simp) (ih (i + 1) (by omega) (by omega))
  refine ⟨x, ?_, hx⟩
  simp only [g_free_number, b_free_number, ev_def1]
  have e0 : b_free_number_0 ([some (.ref f)] ++ List.replicate (2 - 1) none) M = some (.nx [some (.ref f), some (.int 1)], M) := by
    simp [b_free_number_0]
  have hx1 := hx.2.1
  have e1 : b_free_number_1 [some (.ref f), some (.int 1)] M = some (.nx [some (.ref f), some (.int x)], M) := loop (x - 1).toNat 1 (by omega) (by omega)
  rw [seq_step e0, seq_step e1]
  simp [b_free_number_2]
/-! ### parts -/
theorem p_parts1 {p : Nat} {xs : List D} {w : Int} (h : M[p]? = some (.lst xs)) (hl : (xs.length : Int) ≤ w) : g_parts [.ref p, .int w] M = some (.ok (.ref M.length) (M ++ [.lst [.tup xs]])) := by
  have h1 := len_lst h
  have h2 := tuple_lst h
  simp only [g_parts, b_parts, ev_def2]
  simp [b_parts_0, h1, h2, hl]
theorem p_parts2 {p : Nat} {xs : List D} {w : Int} (h : M[p]? = some (.lst xs)) (hl : ¬ (xs.length : Int) ≤ w) :
    ∃ r M', g_parts [.ref p, .int w] M = some (.ok (.ref r) M') ∧ Kp M M' ∧ M.length ≤ r ∧ M'[r]? = some (.lst [.tup (xs.take (xs.length / 2)), .tup (xs.drop (xs.length / 2))]) := by
  have h1 := len_lst h
  obtain ⟨m, hm, hm2⟩ : ∃ m : Nat, (xs.length : Int) / 2 = m ∧ xs.length / 2 = m := ⟨xs.length / 2, by omega, rfl⟩
  rw [hm2]
  have e0 : b_parts_0 ([some (.ref p), some (.int w)] ++ List.replicate (3 - 2) none) M = some (.nx [some (.ref p), some (.int w), none], M) := by
    simp [b_parts_0, h1, hl]
  have e1 : b_parts_1 [some (.ref p), some (.int w), none] M = some (.nx [some (.ref p), some (.int w), some (.int m)], M) := by
    simp [b_parts_1, h1, hm]
  have s1 : oSl (.ref p) none (some (m : Int)) M = some (.ref M.length, M ++ [.lst (xs.take m)]) := by rw [sl_lst h, cut_take]
  have t1 : oTuple [.ref M.length] (M ++ [.lst (xs.take m)]) = some (.tup (xs.take m), M ++ [.lst (xs.take m)]) := tuple_lst get_new
  have s2 : oSl (.ref p) (some (m : Int)) none (M ++ [.lst (xs.take m)]) = some (.ref (M ++ [Ob.lst (xs.take m)]).length, M ++ [.lst (xs.take m)] ++ [.lst (xs.drop m)]) := by rw [sl_lst (get_app h), cut_drop]
  have t2 : oTuple [.ref (M ++ [Ob.lst (xs.take m)]).length] (M ++ [.lst (xs.take m)] ++ [.lst (xs.drop m)]) = some (.tup (xs.drop m), M ++ [.lst (xs.take m)] ++ [.lst (xs.drop m)]) := tuple_lst get_new
  have hs : ∀ (M : Mem), mSome (mVar 2) [some (.ref p), some (.int w), some (.int m)] M = some (.ok (some (m : Int)) M) := fun M => ev_some (by simp)
  simp only [g_parts, b_parts, ev_def2]
  rw [seq_step e0, seq_step e1]
  generalize (M ++ [Ob.lst (xs.take m)]).length = q at *
  have e2 : b_parts_2 [some (.ref p), some (.int w), some (.int m)] M = some (.rt (.ref (M ++ [Ob.lst (xs.take m)] ++ [Ob.lst (xs.drop m)]).length), M ++ [.lst (xs.take m)] ++ [.lst (xs.drop m)] ++ [.lst [.tup (xs.take m), .tup (xs.drop m)]]) := by
    generalize xs.take m = x1 at *
    generalize xs.drop m = x2 at *
    simp [b_parts_2, s1, t1, hs, s2, t2, -List.append_assoc]
  rw [e2]
  exact ⟨_, _, rfl, ((Kp.app _ _).more _).more _, by simp, get_new⟩
/-! ### replaced -/
theorem p_replaced {nb ne : Nat} {as rest news : List D} {a k : Int} {more : List Int} (hn : M[nb]? = some (.lst ((a :: more).map .int))) (he : M[ne]? = some (.lst news)) (has : ∀ p ∈ as, numOf p ≠ a ∧ ∃ k z : Int, p = .tup [.int k, .int z]) (hl : as.length + rest.length + news.length + more.length ≤ 10000) :
    ∃ r M', g_replaced [.tup (as ++ .tup [.int k, .int a] :: rest), .ref nb, .ref ne] M = some (.ok (.ref r) M') ∧ Kp M M' ∧ M.length ≤ r ∧ M'[r]? = some (.lst (as ++ (news ++ rest.drop more.length))) := by
  obtain ⟨ps, hps⟩ : ∃ ps, as ++ .tup [.int k, .int a] :: rest = ps := ⟨_, rfl⟩
  have at_ : ∀ i (hi : i < as.length), ps[i]? = some as[i] := fun i hi => by rw [← hps, List.getElem?_append_left hi, List.getElem?_eq_getElem hi]
  have hn0 : oIx (.ref nb) (.int 0) M = some (.int a, M) := ix_lst hn (by rw [show (0 : Int) = ((0 : Nat) : Int) from rfl, atI_nat]; rfl)
  have loop : ∀ (n i : Nat), as.length - i = n → i ≤ as.length → mWhile (mT (mBin oNe (mBin oIx (mBin oIx (mVar 0) (mVar 3)) (mC (.int 1))) (mBin oIx (mVar 1) (mC (.int 0))))) (mSet 3 (mBin oAdd (mVar 3) (mC (.int 1)))) [some (.tup ps), some (.ref nb), some (.ref ne), some (.int i)] M = some (.nx [some (.tup ps), some (.ref nb), some (.ref ne), some (.int as.length)], M) := by
    intro n
    induction n with
    | zero =>
      intro i h1 h2
      have : i = as.length := by omega
      subst this
      have i1 : oIx (.tup ps) (.int (as.length : Int)) M = some (.tup [.int k, .int a], M) := ix_tup (by rw [atI_nat, ← hps]; simp)
      have i2 : oIx (.tup [.int k, .int a]) (.int 1) M = some (.int a, M) := ix1
      exact while_end (by simp [i1, i2, hn0])
    | succ n ih =>
      intro i h1 h2
      have hi : i < as.length := by omega
      obtain ⟨z1, kz, z, z2⟩ := has as[i] (List.getElem_mem hi)
      have i1 : oIx (.tup ps) (.int (i : Int)) M = some (.tup [.int kz, .int z], M) := ix_tup (by rw [atI_nat, at_ i hi, z2])
      have i2 : oIx (.tup [.int kz, .int z]) (.int 1) M = some (.int z, M) := ix1
      have i3 : z ≠ a := by
        rw [z2] at z1
        exact z1
      have ih' := ih (i + 1) (by omega) (by omega)
      rw [show ((i + 1 : Nat) : Int) = (i : Int) + 1 by push_cast; rfl] at ih'
      refine while_step (M1 := M) (L2 := [some (.tup ps), some (.ref nb), some (.ref ne), some (.int ((i : Int) + 1))]) (M2 := M) (by simp [i1, i2, hn0, i3]) (by simp) ih'
  have e0 : b_replaced_0 ([some (.tup ps), some (.ref nb), some (.ref ne)] ++ List.replicate (4 - 3) none) M = some (.nx [some (.tup ps), some (.ref nb), some (.ref ne), some (.int 0)], M) := by
    simp [b_replaced_0]
  have e1 : b_replaced_1 [some (.tup ps), some (.ref nb), some (.ref ne), some (.int 0)] M = some (.nx [some (.tup ps), some (.ref nb), some (.ref ne), some (.int as.length)], M) := loop as.length 0 (by omega) (by omega)
  have h1 : ∀ M, oSl (.tup ps) none (some (as.length : Int)) M = some (.tup as, M) := fun M => by
    show some (D.tup (cutD ps _ _), M) = _
    rw [cut_take, ← hps]
    simp
  have h2 : ∀ M, oSl (.tup ps) (some ((as.length : Int) + ((more.length : Int) + 1))) none M = some (.tup (rest.drop more.length), M) := fun M => by
    show some (D.tup (cutD ps _ _), M) = _
    rw [show ((as.length : Int) + ((more.length : Int) + 1)) = ((as.length + (more.length + 1) : Nat) : Int) by push_cast; rfl, cut_drop, ← hps, List.drop_append]
    simp
  have l1 : ∀ M, oList [.tup as] M = some (.ref M.length, M ++ [.lst as]) := fun M => rfl
  have l2 : ∀ M, oList [.tup (rest.drop more.length)] M = some (.ref M.length, M ++ [.lst (rest.drop more.length)]) := fun M => rfl
  have hs1 : ∀ (M : Mem), mSome (mVar 3) [some (.tup ps), some (.ref nb), some (.ref ne), some (.int as.length)] M = some (.ok (some (as.length : Int)) M) := fun M => ev_some (by simp)
  have a1 : oAdd (.ref M.length) (.ref ne) (M ++ [.lst as]) = some (.ref (M ++ [Ob.lst as]).length, M ++ [.lst as] ++ [.lst (as ++ news)]) := add_lst get_new (get_app he) (by omega)
  generalize hM2 : M ++ [Ob.lst as] ++ [.lst (as ++ news)] = M2 at *
  have k2 : Kp M M2 := by rw [← hM2]; exact (Kp.app _ _).more _
  have n2 := len_lst (k2.get hn)
  rw [List.length_map, List.length_cons, show ((more.length + 1 : Nat) : Int) = (more.length : Int) + 1 by push_cast; rfl] at n2
  have hs2 : mSome (mBin oAdd (mVar 3) (mCB oLen (mCons (mVar 1) mNil))) [some (.tup ps), some (.ref nb), some (.ref ne), some (.int as.length)] M2 = some (.ok (some ((as.length : Int) + ((more.length : Int) + 1))) M2) := ev_some (by simp [n2])
  have g2 : M2[(M ++ [Ob.lst as]).length]? = some (.lst (as ++ news)) := by rw [← hM2]; exact get_new
  generalize (M ++ [Ob.lst as]).length = q at *
  have a2 : oAdd (.ref q) (.ref M2.length) (M2 ++ [.lst (rest.drop more.length)]) = some (.ref (M2 ++ [Ob.lst (rest.drop more.length)]).length, M2 ++ [.lst (rest.drop more.length)] ++ [.lst (as ++ news ++ rest.drop more.length)]) := add_lst (get_app g2) get_new (by simp; omega)
  have l2' := l2 M2
  refine ⟨(M2 ++ [Ob.lst (rest.drop more.length)]).length, M2 ++ [.lst (rest.drop more.length)] ++ [.lst (as ++ (news ++ rest.drop more.length))], ?_, (k2.more _).more _, by have := k2.len; simp; omega, get_new⟩
  rw [show as ++ news ++ rest.drop more.length = as ++ (news ++ rest.drop more.length) from List.append_assoc ..] at a2
  rw [hps]
  simp only [g_replaced, b_replaced, ev_def3]
  rw [seq_step e0, seq_step e1]
  generalize rest.drop more.length = tl at *
  generalize as ++ (news ++ tl) = out at *
  have l1' := l1 M
  simp [b_replaced_2, hs1, h1, l1', a1, hs2, h2, l2', a2, -List.append_assoc]
/-! ### beside -/
theorem p_beside {pre post : List D} {ka a kb b n : Int} (hp : ∀ p ∈ pre ++ (D.tup [.int ka, .int a] :: .tup [.int kb, .int b] :: post), ∃ k z : Int, p = .tup [.int k, .int z]) (hl : (pre ++ (D.tup [.int ka, .int a] :: .tup [.int kb, .int b] :: post)).length ≤ 10000)
    (hn : (b = n ∧ (∀ p ∈ pre, numOf p ≠ n) ∧ a ≠ n) ∨ (a = n ∧ pre = [])) :
    ∃ r M', g_beside [.tup (pre ++ (.tup [.int ka, .int a] :: .tup [.int kb, .int b] :: post)), .int n] M = some (.ok (.ref r) M') ∧ Kp M M' ∧ M.length ≤ r ∧ M'[r]? = some (.lst [.int a, .int b]) := by
  obtain ⟨ps, hps⟩ : ∃ ps, pre ++ (D.tup [.int ka, .int a] :: .tup [.int kb, .int b] :: post) = ps := ⟨_, rfl⟩
  rw [hps] at hp hl ⊢
  have hi : mIter (mVar 0) [some (.tup ps), some (.int n), none, none, none] M = some (.ok (Src.map (fun ds => ds) ⟨ps, none⟩) M) := seq_at _ (by simp) src_tup
  have hc := lcG_map (ok := Src.ok (Src.map (fun ds => ds) ⟨ps, none⟩)) (g := mName 4) (tt := mYes) (e := mBin oIx (mVar 4) (mC (.int 1))) (L := wipeL [some (.tup ps), some (.int n), none, none, none] [4]) (M := M) (fun _ => true) (fun p => D.int (numOf p)) trivial ps (fun p hpp => by
    obtain ⟨k, z, rfl⟩ := hp p hpp
    refine ⟨_, rfl, rfl, fun _ => ?_⟩
    have j1 : ∀ M, oIx (.tup [.int k, .int z]) (.int 1) M = some (.int z, M) := fun M => ix1
    simp [wipeL, j1, numOf])
  rw [List.filter_eq_self.mpr (fun _ _ => rfl)] at hc
  have hlc := lc_at hi hc (by simp; omega)
  have hnm : ps.map (fun p => D.int (numOf p)) = (ps.map numOf).map D.int := by rw [List.map_map]; rfl
  rw [hnm] at hlc
  obtain ⟨j, hj, hmx, hcut⟩ : ∃ j : Nat, fstIx n (ps.map numOf) = some j ∧ ∃ m : Nat, (if (1 : Int) < j then (j : Int) else 1) = ((m + 1 : Nat) : Int) ∧ (((ps.map numOf).map D.int).drop m).take 2 = [.int a, .int b] ∧ m + 2 ≤ ps.length := by
    have key : ∀ (pre : List D), (∀ p ∈ pre, numOf p ≠ n) → ∀ (l : List Int), fstIx n (pre.map numOf ++ l) = (fstIx n l).map (· + pre.length) := by
      intro pre
      induction pre with
      | nil => intro _ l; cases h : fstIx n l <;> simp [h]
      | cons p pre ih =>
        intro hh l
        show (if numOf p = n then _ else (fstIx n (pre.map numOf ++ l)).map _) = _
        rw [if_neg (hh p List.mem_cons_self), ih (fun q hq => hh q (List.mem_cons_of_mem _ hq)), Option.map_map]
        congr 1
    rcases hn with ⟨rfl, h1, h2⟩ | ⟨rfl, rfl⟩
    · refine ⟨pre.length + 1, ?_, pre.length, ?_, ?_, ?_⟩
      · rw [← hps, List.map_append, key pre h1]
        show (if a = b then _ else (if b = b then _ else _ : Option Nat).map _ : Option Nat).map _ = _
        rw [if_neg h2, if_pos rfl]
        simp
        omega
      · push_cast
        split <;> omega
      · rw [← hps]
        simp [numOf]
      · rw [← hps]
        simp
    · refine ⟨0, ?_, 0, by simp, ?_, ?_⟩
      · rw [← hps]
        show (if a = a then _ else _) = _
        rw [if_pos rfl]
      · rw [← hps]
        simp [numOf]
      · rw [← hps]
        simp
  obtain ⟨hm, hcut, hml⟩ := hcut
  have e0 : b_beside_0 [some (.tup ps), some (.int n), none, none, none] M = some (.nx [some (.tup ps), some (.int n), some (.ref M.length), none, none], M ++ [.lst ((ps.map numOf).map .int)]) := by
    generalize (ps.map numOf).map D.int = out at *
    simp [b_beside_0, hlc]
  have hg : (M ++ [Ob.lst ((ps.map numOf).map .int)])[M.length]? = some (.lst ((ps.map numOf).map .int)) := get_new
  have hix : oIndex (.ref M.length) [.int n] (M ++ [.lst ((ps.map numOf).map .int)]) = some (.int j, M ++ [.lst ((ps.map numOf).map .int)]) := by
    unfold oIndex
    dsimp only
    rw [hg]
    dsimp only
    rw [intsOf_map]
    dsimp only
    rw [hj]
  have k1 : Kp M (M ++ [Ob.lst ((ps.map numOf).map .int)]) := Kp.app _ _
  have hlen2 : ((ps.map numOf).map D.int).length = ps.length := by simp
  generalize (ps.map numOf).map D.int = out at *
  generalize M ++ [Ob.lst out] = M1 at *
  have e1 : b_beside_1 [some (.tup ps), some (.int n), some (.ref M.length), none, none] M1 = some (.nx [some (.tup ps), some (.int n), some (.ref M.length), some (.int ((j + 1 : Nat) : Int)), none], M1) ∨ True := .inr trivial
  obtain ⟨m, rfl⟩ : ∃ m', hmx = m' := ⟨_, rfl⟩
  have e1 : b_beside_1 [some (.tup ps), some (.int n), some (.ref M.length), none, none] M1 = some (.nx [some (.tup ps), some (.int n), some (.ref M.length), some (.int ((hmx + 1 : Nat) : Int)), none], M1) := by
    simp only [b_beside_1]
    simp [hg, hix]
    rw [hm]
    omega
  have hs : oSl (.ref M.length) (some ((((hmx + 1 : Nat) : Int)) - 1)) (some ((((hmx + 1 : Nat) : Int)) + 1)) M1 = some (.ref M1.length, M1 ++ [.lst [.int a, .int b]]) := by
    rw [sl_lst hg, show (((hmx + 1 : Nat) : Int)) - 1 = (hmx : Int) by push_cast; omega, show (((hmx + 1 : Nat) : Int)) + 1 = ((hmx + 2 : Nat) : Int) by push_cast; omega, cut_mid _ _ _ (by omega) (by omega), show hmx + 2 - hmx = 2 by omega, hcut]
  refine ⟨M1.length, M1 ++ [.lst [.int a, .int b]], ?_, k1.more _, k1.len, get_new⟩
  simp only [g_beside, b_beside, ev_def2]
  show endS (mSeq b_beside_0 _ [some (.tup ps), some (.int n), none, none, none] M) = _
  rw [seq_step e0, seq_step e1]
  have o1 : mSome (mBin oSub (mVar 3) (mC (.int 1))) [some (.tup ps), some (.int n), some (.ref M.length), some (.int ((hmx + 1 : Nat) : Int)), none] M1 = some (.ok (some ((((hmx + 1 : Nat) : Int)) - 1)) M1) := ev_some (by simp)
  have o2 : mSome (mBin oAdd (mVar 3) (mC (.int 1))) [some (.tup ps), some (.int n), some (.ref M.length), some (.int ((hmx + 1 : Nat) : Int)), none] M1 = some (.ok (some ((((hmx + 1 : Nat) : Int)) + 1)) M1) := ev_some (by simp)
  generalize ((hmx + 1 : Nat) : Int) = z at *
  simp [b_beside_2, o1, o2, hs]
end BP
/-! BTEval3: stored, changed. -/
namespace BP
open BL
open PySem (Str)
variable {M : Mem}
/-- rows come into blocks -/
inductive Stor (leaf : Bool) (numbers : List Int) : Nat → List (List D) → List (Int × D) → List D → List (Int × D) → Prop
  | nil {j : Nat} {F : List (Int × D)} : Stor leaf numbers j [] F [] F
  | inn {j : Nat} {n : Int} {x : List D} {xs : List (List D)} {F F' : List (Int × D)} {out : List D} : numbers[j]? = some n → Stor leaf numbers (j + 1) xs (aput F n (blkD leaf x)) out F' → Stor leaf numbers j (x :: xs) F (.tup [.int (fk x), .int n] :: out) F'
  | free {j : Nat} {n : Int} {x : List D} {xs : List (List D)} {F F' : List (Int × D)} {out : List D} : numbers.length ≤ j → Free F n → Stor leaf numbers (j + 1) xs (aput F n (blkD leaf x)) out F' → Stor leaf numbers j (x :: xs) F (.tup [.int (fk x), .int n] :: out) F'
abbrev stL (f : Nat) (kd : Str) (nb rw fd : Nat) (x5 x6 x7 : Option D) : BL.Loc := [some (.ref f), some (.str kd), some (.ref nb), some (.ref rw), some (.ref fd), x5, x6, x7]
noncomputable def stB : GS := mSeq (mSet 7 (mIf (mT (mBin oLt (mVar 5) (mCB oLen (mCons (mVar 2) mNil)))) (mBin oIx (mVar 2) (mVar 5)) (mCall g_free_number (mCons (mVar 0) mNil)))) (mSeq (mPut oPutA (mVar 0) (mVar 7) (mTup (mCons (mVar 1) (mCons (mVar 6) mNil)))) (mExpr (mMtL oAppend (mVar 4) (mCons (mTup (mCons (mBin oIx (mBin oIx (mVar 6) (mC (.int 0))) (mC (.int 0))) (mCons (mVar 7) mNil))) mNil))))
theorem st_eq : b_stored_1 = mFor (mEnum (mVar 3)) (mName2 5 6) stB := rfl
theorem st_put {f nb rw fd : Nat} {leaf : Bool} {kd : Str} (hkd : ∀ x, blkD leaf x = .tup [.str kd, .tup x]) {F : List (Int × D)} {out x : List D} {j : Nat} {n : Int} {x7 : Option D} (hf : M[f]? = some (.dct F)) (hl : F.length ≤ 10000) (hfd : M[fd]? = some (.lst out)) (hol : out.length ≤ 1000) (hne : f ≠ fd) (hx : ∃ k v r, x = .tup [.int k, v] :: r)
    (e7 : mSet 7 (mIf (mT (mBin oLt (mVar 5) (mCB oLen (mCons (mVar 2) mNil)))) (mBin oIx (mVar 2) (mVar 5)) (mCall g_free_number (mCons (mVar 0) mNil))) (stL f kd nb rw fd (some (.int j)) (some (.tup x)) x7) M = some (.nx (stL f kd nb rw fd (some (.int j)) (some (.tup x)) (some (.int n))), M)) :
    stB (stL f kd nb rw fd (some (.int j)) (some (.tup x)) x7) M = some (.nx (stL f kd nb rw fd (some (.int j)) (some (.tup x)) (some (.int n))), (M.set f (.dct (aput F n (blkD leaf x)))).set fd (.lst (out ++ [.tup [.int (fk x), .int n]]))) := by
  obtain ⟨k, v, r, rfl⟩ := hx
  have hfk : fk (.tup [.int k, v] :: r) = k := rfl
  rw [hfk]
  have i0 : ∀ M, oIx (.tup (.tup [.int k, v] :: r)) (.int 0) M = some (.tup [.int k, v], M) := fun M => ix0
  have i00 : ∀ M, oIx (.tup [.int k, v]) (.int 0) M = some (.int k, M) := fun M => ix0
  generalize (D.tup [.int k, v] :: r) = x at *
  rw [hkd]
  have hp : oPutA (.ref f) (.int n) (.tup [.str (kd), .tup x]) M = some (M.set f (.dct (aput F n (.tup [.str (kd), .tup x])))) := put_dct hf (by omega)
  generalize hM1 : M.set f (.dct (aput F n (.tup [.str (kd), .tup x]))) = M1 at *
  have hfd1 : M1[fd]? = some (.lst out) := by rw [← hM1, get_set_ne hne]; exact hfd
  have ha : oAppend (.ref fd) [.tup [.int k, .int n]] M1 = some (.non, M1.set fd (.lst (out ++ [.tup [.int k, .int n]]))) := append_lst hfd1 (by omega)
  unfold stB
  rw [seq_step e7]
  simp [hp, i0, i00, ha, hfd1]
theorem st_loop {f nb rw fd : Nat} {leaf : Bool} {kd : Str} (hkd : ∀ x, blkD leaf x = .tup [.str kd, .tup x]) {numbers : List Int} {all : List D} (h1 : f ≠ fd) (h2 : f ≠ nb) (h3 : f ≠ rw) (h4 : fd ≠ nb) (h5 : fd ≠ rw) : ∀ (rows : List (List D)) (j : Nat) (F : List (Int × D)) (out0 : List D) (M : Mem) (x5 x6 x7 : Option D),
    M[f]? = some (.dct F) → F.length + rows.length ≤ 10000 → M[nb]? = some (.lst (numbers.map .int)) → M[rw]? = some (.lst all) → M[fd]? = some (.lst out0) → out0.length + rows.length ≤ 1000 → (∀ x ∈ rows, ∃ k v r, x = .tup [.int k, v] :: r) →
    ∃ (out : List D) (F' : List (Int × D)) (M' : Mem) (y5 y6 y7 : Option D), forG (Src.ok (Src.map (pairUp 0) ⟨all, some (rw, all)⟩)) (mName2 5 6) stB (pairUp j (rows.map .tup)) (stL f kd nb rw fd x5 x6 x7) M = some (.nx (stL f kd nb rw fd y5 y6 y7), M') ∧ Stor leaf numbers j rows F out F' ∧ M'[f]? = some (.dct F') ∧ M'[fd]? = some (.lst (out0 ++ out)) ∧ M'.length = M.length ∧ (∀ i, i ≠ f → i ≠ fd → M'[i]? = M[i]?) ∧ F'.length ≤ F.length + rows.length ∧ ∀ i ∈ akeys F, i ∈ akeys F'
  | [], j, F, out0, M, x5, x6, x7, hf, hl, hn, hr, hd, ho, hx => ⟨[], F, M, x5, x6, x7, forG_nil hr, .nil, hf, by simpa using hd, rfl, fun _ _ _ => rfl, by simp, fun _ h => h⟩
  | x :: rows, j, F, out0, M, x5, x6, x7, hf, hl, hn, hr, hd, ho, hx => by
    have hnl := len_lst hn
    rw [List.length_map] at hnl
    simp only [List.length_cons] at hl ho
    have cont : ∀ (n : Int), mSet 7 (mIf (mT (mBin oLt (mVar 5) (mCB oLen (mCons (mVar 2) mNil)))) (mBin oIx (mVar 2) (mVar 5)) (mCall g_free_number (mCons (mVar 0) mNil))) (stL f kd nb rw fd (some (.int j)) (some (.tup x)) x7) M = some (.nx (stL f kd nb rw fd (some (.int j)) (some (.tup x)) (some (.int n))), M) →
        ∃ (out : List D) (F' : List (Int × D)) (M' : Mem) (y5 y6 y7 : Option D), forG (Src.ok (Src.map (pairUp 0) ⟨all, some (rw, all)⟩)) (mName2 5 6) stB (pairUp j ((x :: rows).map .tup)) (stL f kd nb rw fd x5 x6 x7) M = some (.nx (stL f kd nb rw fd y5 y6 y7), M') ∧ Stor leaf numbers (j + 1) rows (aput F n (blkD leaf x)) out F' ∧ M'[f]? = some (.dct F') ∧ M'[fd]? = some (.lst (out0 ++ (.tup [.int (fk x), .int n] :: out))) ∧ M'.length = M.length ∧ (∀ i, i ≠ f → i ≠ fd → M'[i]? = M[i]?) ∧ F'.length ≤ F.length + (rows.length + 1) ∧ ∀ i ∈ akeys F, i ∈ akeys F' := by
      intro n e7
      have hp := st_put hkd hf (by omega) hd (by omega) h1 (hx x List.mem_cons_self) e7
      have ll := len_aput (kvs := F) (k := n) (d := blkD leaf x)
      obtain ⟨out, F', M', y5, y6, y7, g1, g2, g3, g4, g5, g6, g7, g8⟩ := st_loop hkd h1 h2 h3 h4 h5 rows (j + 1) (aput F n (blkD leaf x)) (out0 ++ [.tup [.int (fk x), .int n]]) ((M.set f (.dct (aput F n (blkD leaf x)))).set fd (.lst (out0 ++ [.tup [.int (fk x), .int n]]))) (some (.int j)) (some (.tup x)) (some (.int n))
        (by rw [get_set_ne (Ne.symm h1)]; exact get_set_eq hf) (by omega) (by rw [get_set_ne h4, get_set_ne h2]; exact hn) (by rw [get_set_ne h5, get_set_ne h3]; exact hr) (by rw [get_set_eq (x := .lst out0) (by rw [get_set_ne h1]; exact hd)]) (by simp; omega) (fun y hy => hx y (List.mem_cons_of_mem _ hy))
      refine ⟨out, F', M', y5, y6, y7, ?_, g2, g3, by rw [g4]; simp, by rw [g5]; simp, fun i a b => ?_, by omega, fun i hi => g8 i (key_aput.mpr (.inr hi))⟩
      · have hpu : pairUp j ((x :: rows).map .tup) = .tup [.int j, .tup x] :: pairUp (j + 1) (rows.map .tup) := rfl
        rw [hpu, forG_cons hr (L1 := stL f kd nb rw fd (some (.int j)) (some (.tup x)) x7) rfl hp]
        exact g1
      · rw [g6 i a b, get_set_ne (Ne.symm b), get_set_ne (Ne.symm a)]
    by_cases c : j < numbers.length
    · have hg : numbers[j]? = some numbers[j] := List.getElem?_eq_getElem c
      have i7 : oIx (.ref nb) (.int (j : Int)) M = some (.int numbers[j], M) := ix_lst hn (by rw [atI_nat, List.getElem?_map, hg]; rfl)
      have c' : (j : Int) < numbers.length := by omega
      generalize numbers[j] = n at *
      obtain ⟨out, F', M', y5, y6, y7, g1, g2, g3⟩ := cont n (by simp [hnl, c, i7])
      exact ⟨_, F', M', y5, y6, y7, g1, .inn hg g2, g3⟩
    · obtain ⟨n, hfr, hn2⟩ := p_free hf
      obtain ⟨out, F', M', y5, y6, y7, g1, g2, g3⟩ := cont n (by simp [hnl, c, hfr])
      exact ⟨_, F', M', y5, y6, y7, g1, .free (by omega) hn2 g2, g3⟩
theorem p_stored {f nb rw : Nat} {leaf : Bool} {numbers pops : List Int} {rows : List (List D)} {F : List (Int × D)} (hf : M[f]? = some (.dct F)) (hl : F.length ≤ 9000) (hn : M[nb]? = some (.lst (numbers.map .int))) (hr : M[rw]? = some (.lst (rows.map .tup))) (hrl : rows.length ≤ 2) (hx : ∀ x ∈ rows, ∃ k v r, x = .tup [.int k, v] :: r)
    (hpop : numbers.drop rows.length = pops) (hp1 : pops = [] ∨ ∃ b, pops = [b] ∧ b ∈ akeys F) :
    ∃ (r : Nat) (M' : Mem) (out : List D) (F1 : List (Int × D)), g_stored [.ref f, .str (kindS leaf), .ref nb, .ref rw] M = some (.ok (.ref r) M') ∧ Ke f M M' ∧ M.length ≤ r ∧ M'[r]? = some (.lst out) ∧ M'[f]? = some (.dct (pops.foldl adel F1)) ∧ Stor leaf numbers 0 rows F out F1 ∧ F1.length ≤ F.length + 2 := by
  have lf := get_lt hf
  have ln := get_lt hn
  have lr := get_lt hr
  have h2 : f ≠ nb := fun z => by rw [z, hn] at hf; cases hf
  have h3 : f ≠ rw := fun z => by rw [z, hr] at hf; cases hf
  obtain ⟨out, F1, M1, y5, y6, y7, g1, g2, g3, g4, g5, g6, g7, g8⟩ := st_loop (fun _ => rfl) (fd := M.length) (f := f) (leaf := leaf) (numbers := numbers) (all := rows.map .tup) (by omega) h2 h3 (by omega) (by omega) rows 0 F [] (M ++ [.lst []]) none none none (get_app hf) (by omega) (get_app hn) (get_app hr) get_new (by simp; omega) hx
  have e0 : b_stored_0 ([some (.ref f), some (.str (kindS leaf)), some (.ref nb), some (.ref rw)] ++ List.replicate (8 - 4) none) M = some (.nx (stL f (kindS leaf) nb rw M.length none none none), M ++ [.lst []]) := by
    simp [b_stored_0]
  have hi : mEnum (mVar 3) (stL f (kindS leaf) nb rw M.length none none none) (M ++ [.lst []]) = some (.ok (Src.map (pairUp 0) ⟨rows.map .tup, some (rw, rows.map .tup)⟩) (M ++ [.lst []])) := seq_at _ (by simp) (src_lst (get_app hr))
  have e1 : b_stored_1 (stL f (kindS leaf) nb rw M.length none none none) (M ++ [.lst []]) = some (.nx (stL f (kindS leaf) nb rw M.length y5 y6 y7), M1) := by
    rw [st_eq, for_at hi]
    exact g1
  have keep : ∀ i, i < M.length → i ≠ f → M1[i]? = M[i]? := fun i h h' => by rw [g6 i h' (by omega), List.getElem?_append_left h]
  have k1 : Ke f M M1 := ⟨by rw [g5]; simp, keep⟩
  have hr1 : M1[rw]? = some (.lst (rows.map .tup)) := by rw [keep rw lr (Ne.symm h3)]; exact hr
  have hn1 : M1[nb]? = some (.lst (numbers.map .int)) := by rw [keep nb ln (Ne.symm h2)]; exact hn
  have hlen := len_lst hr1
  rw [List.length_map] at hlen
  have hsl : oSl (.ref nb) (some (rows.length : Int)) none M1 = some (.ref M1.length, M1 ++ [.lst (pops.map .int)]) := by
    rw [sl_lst hn1, cut_drop, ← List.map_drop, hpop]
  have hs : mSome (mCB oLen (mCons (mVar 3) mNil)) (stL f (kindS leaf) nb rw M.length y5 y6 y7) M1 = some (.ok (some (rows.length : Int)) M1) := ev_some (by simp [hlen])
  have hi2 : mIter (mSl (mVar 2) (mSome (mCB oLen (mCons (mVar 3) mNil))) mNo) (stL f (kindS leaf) nb rw M.length y5 y6 y7) M1 = some (.ok (Src.map (fun ds => ds) ⟨pops.map .int, some (M1.length, pops.map .int)⟩) (M1 ++ [.lst (pops.map .int)])) := seq_at _ (by simp [hs, hsl]) (src_lst get_new)
  have hf1 : (M1 ++ [Ob.lst (pops.map .int)])[f]? = some (.dct F1) := get_app g3
  have hp2 : (M1 ++ [Ob.lst (pops.map .int)])[M1.length]? = some (.lst (pops.map .int)) := get_new
  have k2 : Ke f M (M1 ++ [Ob.lst (pops.map .int)]) := k1.more _
  have hd2 : (M1 ++ [Ob.lst (pops.map .int)])[M.length]? = some (.lst out) := get_app (by simpa using g4)
  have hne1 : f ≠ M1.length := by rw [g5]; simp; omega
  generalize M1 ++ [Ob.lst (pops.map .int)] = M2 at *
  have e2 : ∃ y M3, b_stored_2 (stL f (kindS leaf) nb rw M.length y5 y6 y7) M1 = some (.nx (stL f (kindS leaf) nb rw M.length y5 y6 y), M3) ∧ Ke f M M3 ∧ M3[f]? = some (.dct (pops.foldl adel F1)) ∧ M3[M.length]? = some (.lst out) := by
    unfold b_stored_2
    rw [for_at hi2]
    rcases hp1 with rfl | ⟨b, rfl, hb⟩
    · exact ⟨y7, M2, forG_nil hp2, k2, hf1, hd2⟩
    · obtain ⟨d, hd⟩ := Option.isSome_iff_exists.mp (aget_isSome.mpr (g8 b hb))
      have hpp : oPopD1 (.ref f) (.int b) M2 = some (d, M2.set f (.dct (adel F1 b))) := pop1_dct hf1 hd
      refine ⟨some (.int b), M2.set f (.dct (adel F1 b)), ?_, k2.set _, get_set_eq hf1, by rw [get_set_ne (by omega)]; exact hd2⟩
      show forG _ _ _ [D.int b] _ _ = _
      rw [forG_cons (L1 := stL f (kindS leaf) nb rw M.length y5 y6 (some (.int b))) (L2 := stL f (kindS leaf) nb rw M.length y5 y6 (some (.int b))) (M2 := M2.set f (.dct (adel F1 b))) hp2 rfl (by simp [hf1, hpp])]
      exact forG_nil (show (M2.set f _)[M1.length]? = _ by rw [get_set_ne hne1]; exact hp2)
  obtain ⟨y, M3, e2, k3, f3, d3⟩ := e2
  refine ⟨M.length, M3, out, F1, ?_, k3, Nat.le_refl _, d3, f3, g2, by omega⟩
  simp only [g_stored, b_stored, ev_def4]
  rw [seq_step e0, seq_step e1, seq_step e2]
  simp [b_stored_3]
/-! ### changed -/
def getN (X : List (Int × D)) (j : Int) : D := (aget X j).getD .non
theorem getN_pl {X : List (Int × D)} (h : plainD X) (j : Int) : Pl 50 (getN X j) := by
  unfold getN
  cases e : aget X j with
  | none => exact pl_non
  | some d => exact plain_get h e
open Classical in
/-- what changed tells -/
structure Told2 (B F C : List (Int × D)) (tou : List Int) : Prop where
  nd : (akeys C).Nodup
  get : ∀ j, aget C j = if j ∈ tou ∧ getN B j ≠ getN F j then some (getN F j) else none
  len : C.length ≤ 64
open Classical in
theorem p_changed {b f nu : Nat} {B F : List (Int × D)} {tou : List Int} (hb : M[b]? = some (.dct B)) (hf : M[f]? = some (.dct F)) (hn : M[nu]? = some (.lst (tou.map .int))) (pB : plainD B) (pF : plainD F) (hl : tou.length < 64) :
    ∃ r M' C, g_changed [.ref b, .ref f, .ref nu] M = some (.ok (.ref r) M') ∧ Kp M M' ∧ M.length ≤ r ∧ M'[r]? = some (.dct C) ∧ Told2 B F C tou := by
  have hss : oSortSet (.ref nu) (M ++ [.dct []]) = some (.ref (M ++ [Ob.dct []]).length, M ++ [.dct []] ++ [.lst ((sset tou).map .int)]) := by
    unfold oSortSet
    dsimp only
    rw [get_app hn]
    dsimp only
    rw [intsOf_map]
    exact if_pos hl
  have lb := get_lt hb
  have lf := get_lt hf
  obtain ⟨q, hq⟩ : ∃ q, (M ++ [Ob.dct []]).length = q := ⟨_, rfl⟩
  have hq1 : q = M.length + 1 := by rw [← hq]; simp
  rw [hq] at hss
  have e0 : b_changed_0 ([some (.ref b), some (.ref f), some (.ref nu)] ++ List.replicate (5 - 3) none) M = some (.nx [some (.ref b), some (.ref f), some (.ref nu), some (.ref M.length), none], M ++ [.dct []]) := by
    simp [b_changed_0]
  have hM2 : (M ++ [Ob.dct []] ++ [Ob.lst ((sset tou).map .int)])[q]? = some (.lst ((sset tou).map .int)) := by rw [← hq]; exact get_new
  have hi : mIter (mUn oSortSet (mVar 2)) [some (.ref b), some (.ref f), some (.ref nu), some (.ref M.length), none] (M ++ [.dct []]) = some (.ok (Src.map (fun ds => ds) ⟨(sset tou).map .int, some (q, (sset tou).map .int)⟩) (M ++ [.dct []] ++ [.lst ((sset tou).map .int)])) := seq_at _ (by simp [hss, -List.append_assoc]) (src_lst hM2)
  have hk0 : Kp M (M ++ [.dct []] ++ [.lst ((sset tou).map .int)]) := (Kp.app _ _).more _
  have hr0 : (M ++ [Ob.dct []] ++ [Ob.lst ((sset tou).map .int)])[M.length]? = some (.dct []) := get_app get_new
  generalize M ++ [Ob.dct []] ++ [Ob.lst ((sset tou).map .int)] = M2 at *
  have hsl : (sset tou).length ≤ tou.length := nodup_len ((sset_pw tou).imp fun h => by omega) fun x hx => sset_mem.mp hx
  obtain ⟨L', M', e, C, x4, rfl, k1, hC, hM', cnd, cget, clen⟩ := forG_run (ok := Src.ok (Src.map (fun ds => ds) ⟨(sset tou).map .int, some (q, (sset tou).map .int)⟩)) (g := mName 4) (body := mIte (mT (mBin oNe (mMtD oGet1 (mVar 0) (mVar 4)) (mMtD oGet1 (mVar 1) (mVar 4)))) (mPut oPutA (mVar 3) (mVar 4) (mMtD oGet1 (mVar 1) (mVar 4))) mSkip)
    (fun k L M' => ∃ C x4, L = [some (.ref b), some (.ref f), some (.ref nu), some (.ref M.length), x4] ∧ Kp M M' ∧ M'[M.length]? = some (.dct C) ∧ M'[q]? = some (.lst ((sset tou).map .int)) ∧ (akeys C).Nodup ∧ (∀ j, aget C j = if j ∈ (sset tou).take k ∧ getN B j ≠ getN F j then some (getN F j) else none) ∧ C.length ≤ k) ((sset tou).map .int)
    (fun k L M' d hd ⟨C, x4, hL, k1, hC, hM', cnd, cget, clen⟩ => by
      subst hL
      rw [List.getElem?_map] at hd
      obtain ⟨n, hn, rfl⟩ := Option.map_eq_some_iff.mp hd
      have hkl := (List.getElem?_eq_some_iff.mp hn).1
      refine ⟨hM', _, rfl, ?_⟩
      have hb' := k1.get hb
      have hf' := k1.get hf
      have q1 : oGet1 (.ref b) (.int n) M' = some (getN B n, M') := get1_dct hb'
      have q2 : oGet1 (.ref f) (.int n) M' = some (getN F n, M') := get1_dct hf'
      have tk : ∀ j, j ∈ (sset tou).take (k + 1) ↔ j ∈ (sset tou).take k ∨ j = n := fun j => by
        rw [List.take_succ_eq_append_getElem hkl, List.mem_append, (List.getElem?_eq_some_iff.mp hn).2]
        simp
      have hnot : n ∉ (sset tou).take k := fun hin => by
        obtain ⟨i, hi⟩ := List.mem_iff_getElem?.mp hin
        rw [List.getElem?_take] at hi
        split at hi
        · rename_i hik
          have hpw := sset_pw tou
          have := List.pairwise_iff_getElem.mp hpw i k (List.getElem?_eq_some_iff.mp hi).1 hkl hik
          rw [(List.getElem?_eq_some_iff.mp hi).2, (List.getElem?_eq_some_iff.mp hn).2] at this
          omega
        · cases hi
      by_cases c : getN B n = getN F n
      · have hne : oNe (getN B n) (getN F n) M' = some (.bl false, M') := by rw [c]; exact oNe_same (getN_pl pF n)
        refine ⟨[some (.ref b), some (.ref f), some (.ref nu), some (.ref M.length), some (.int n)], M', ?_, C, _, rfl, k1, hC, hM', cnd, fun j => ?_, by omega⟩
        · simp [hb', hf', q1, q2, hne]
        · rw [cget]
          by_cases e : j = n
          · subst e
            rw [if_neg (fun z => z.2 c), if_neg (fun z => z.2 c)]
          · have : j ∈ (sset tou).take (k + 1) ↔ j ∈ (sset tou).take k := by
              rw [tk]
              exact ⟨fun z => z.elim id fun z => absurd z e, .inl⟩
            simp only [this]
      · have hne : oNe (getN B n) (getN F n) M' = some (.bl true, M') := oNe_diff (getN_pl pB n) (getN_pl pF n) c
        have hput : oPutA (.ref M.length) (.int n) (getN F n) M' = some (M'.set M.length (.dct (aput C n (getN F n)))) := put_dct hC (by omega)
        have ll := len_aput (kvs := C) (k := n) (d := getN F n)
        refine ⟨[some (.ref b), some (.ref f), some (.ref nu), some (.ref M.length), some (.int n)], M'.set M.length (.dct (aput C n (getN F n))), ?_, aput C n (getN F n), _, rfl, k1.set (Nat.le_refl _) _, get_set_eq hC, by rw [get_set_ne (by omega)]; exact hM', nodup_aput cnd, fun j => ?_, by omega⟩
        · simp [hb', hf', q1, q2, hne, hput]
        · rw [aget_aput, cget]
          by_cases e : j = n
          · subst e
            rw [if_pos rfl, if_pos ⟨(tk j).mpr (.inr rfl), c⟩]
          · have : j ∈ (sset tou).take (k + 1) ↔ j ∈ (sset tou).take k := by
              rw [tk]
              exact ⟨fun z => z.elim id fun z => absurd z e, .inl⟩
            simp only [this, if_neg e])
    (fun L M' ⟨C, x4, _, _, _, hM', _⟩ => hM') (L := [some (.ref b), some (.ref f), some (.ref nu), some (.ref M.length), none]) (M := M2) ⟨[], none, rfl, hk0, hr0, hM2, List.nodup_nil, fun j => by simp [aget], Nat.le_refl _⟩
  have e1 : b_changed_1 [some (.ref b), some (.ref f), some (.ref nu), some (.ref M.length), none] (M ++ [.dct []]) = some (.nx [some (.ref b), some (.ref f), some (.ref nu), some (.ref M.length), x4], M') := by
    unfold b_changed_1
    rw [for_at hi]
    exact e
  refine ⟨M.length, M', C, ?_, k1, Nat.le_refl _, hC, cnd, fun j => ?_, ?_⟩
  · simp only [g_changed, b_changed, ev_def3]
    rw [seq_step e0, seq_step e1]
    simp [b_changed_2]
  · rw [cget, List.length_map, List.take_length]
    simp only [sset_mem]
  · rw [List.length_map] at clen
    omega
end BP
/-! BTPutE: put_in. -/
namespace BP
open BL
open PySem (Str)
variable {M : Mem}
abbrev PL (b : Nat) (w key : Int) (v : D) (f wy nu : Nat) (x7 : D) (rw : Nat) (kd : Str) (x10 x11 : Option D) : BL.Loc := [some (.ref b), some (.int w), some (.int key), some v, some (.ref f), some (.ref wy), some (.ref nu), some x7, some (.ref rw), some (.str kd), x10, x11, none]
noncomputable def ptT : GT := mT (mBin oGt (mCB oLen (mCons (mVar 5) mNil)) (mC (.int 1)))
noncomputable def pt0 : GS := mSet 10 (mMtL oPop0 (mVar 5) mNil)
noncomputable def pt1 : GS := mSet 11 (mCall g_stored (mCons (mVar 4) (mCons (mVar 9) (mCons (mLst (mCons (mVar 10) mNil)) (mCons (mCall g_parts (mCons (mVar 8) (mCons (mVar 1) mNil))) mNil)))))
noncomputable def pt2 : GS := mExpr (mMtL oExtend (mVar 6) (mCons (mLc (mIter (mVar 11)) (mName 12) mYes (mBin oIx (mVar 12) (mC (.int 1))) [12]) mNil))
noncomputable def pt3 : GS := mSet 8 (mCall g_replaced (mCons (mBin oIx (mBin oIx (mVar 4) (mBin oIx (mVar 5) (mUn oNeg (mC (.int 1))))) (mC (.int 1))) (mCons (mLst (mCons (mVar 10) mNil)) (mCons (mVar 11) mNil))))
noncomputable def pt4 : GS := mSet 9 (mC (.str "branch"))
noncomputable def ptB : GS := mSeq pt0 (mSeq pt1 (mSeq pt2 (mSeq pt3 pt4)))
theorem pt_eq : b_put_in_6 = mWhile ptT ptB := rfl
/-- the numbers of pairs, as a list -/
theorem nums_lc {r i : Nat} {news : List D} {L : BL.Loc} (hr : M[r]? = some (.lst news)) (hi : L[i]? = some (some (.ref r))) (h12 : L.length = 13) (hn : ∀ p ∈ news, ∃ k z : Int, p = .tup [.int k, .int z]) (hl : news.length ≤ 1000) :
    mLc (mIter (mVar i)) (mName 12) mYes (mBin oIx (mVar 12) (mC (.int 1))) [12] L M = some (.ok (.ref M.length) (M ++ [.lst ((news.map numOf).map .int)])) := by
  have hi2 : mIter (mVar i) L M = some (.ok (Src.map (fun ds => ds) ⟨news, some (r, news)⟩) M) := seq_at _ (by simp [hi]) (src_lst hr)
  have hc := lcG_map (ok := Src.ok (Src.map (fun ds => ds) ⟨news, some (r, news)⟩)) (g := mName 12) (tt := mYes) (e := mBin oIx (mVar 12) (mC (.int 1))) (L := wipeL L [12]) (M := M) (fun _ => true) (fun p => D.int (numOf p)) hr news (fun p hp => by
    obtain ⟨k, z, rfl⟩ := hn p hp
    refine ⟨_, rfl, rfl, fun _ => ?_⟩
    have j1 : ∀ M, oIx (.tup [.int k, .int z]) (.int 1) M = some (.int z, M) := fun M => ix1
    simp [wipeL, j1, numOf, h12])
  rw [List.filter_eq_self.mpr (fun _ _ => rfl)] at hc
  have hlc := lc_at hi2 hc (by simp; omega)
  rw [hlc]
  have : news.map (fun p => D.int (numOf p)) = (news.map numOf).map D.int := by rw [List.map_map]; rfl
  rw [this]
/-- what follows when the parts lie in blocks -/
theorem pt_tail {b f wy nu rw r2 : Nat} {w key : Int} {v x7 : D} {kd : Str} {F : List (Int × D)} {n m k : Int} {way tou : List Int} {as bs news : List D} (hf : M[f]? = some (.dct F)) (hwy : M[wy]? = some (.lst (wl (m :: way)))) (hnu : M[nu]? = some (.lst (tou.map .int))) (hr2 : M[r2]? = some (.lst news)) (h1 : nu ≠ f) (h2 : nu ≠ wy) (h3 : nu ≠ r2)
    (hm : aget F m = some (blkD false (as ++ .tup [.int k, .int n] :: bs))) (has : ∀ p ∈ as, numOf p ≠ n ∧ ∃ k z : Int, p = .tup [.int k, .int z]) (hl : (as ++ .tup [.int k, .int n] :: bs).length ≤ 64) (hn : ∀ p ∈ news, ∃ k z : Int, p = .tup [.int k, .int z]) (hnl : news.length ≤ 2) (ht : tou.length ≤ 1000) :
    ∃ rw' M', mSeq pt2 (mSeq pt3 pt4) (PL b w key v f wy nu x7 rw kd (some (.int n)) (some (.ref r2))) M = some (.nx (PL b w key v f wy nu x7 rw' "branch" (some (.int n)) (some (.ref r2))), M') ∧ Ke nu M M' ∧ M'[nu]? = some (.lst ((tou ++ news.map numOf).map .int)) ∧ M.length ≤ rw' ∧ M'[rw']? = some (.lst (as ++ (news ++ bs))) := by
  have hlc := nums_lc (i := 11) (L := PL b w key v f wy nu x7 rw kd (some (.int n)) (some (.ref r2))) hr2 rfl rfl hn (by omega)
  have lnu := get_lt hnu
  have hex : oExtend (.ref nu) [.ref M.length] (M ++ [Ob.lst ((news.map numOf).map D.int)]) = some (.non, (M ++ [Ob.lst ((news.map numOf).map D.int)]).set nu (Ob.lst (tou.map D.int ++ (news.map numOf).map D.int))) := extend_at (es := (news.map numOf).map D.int) (get_app hnu) (by show (match (M ++ [Ob.lst ((news.map numOf).map D.int)])[M.length]? with | some (.lst xs) => some xs | _ => none) = _; rw [get_new]) (by simp; omega)
  have e2 : pt2 (PL b w key v f wy nu x7 rw kd (some (.int n)) (some (.ref r2))) M = some (.nx (PL b w key v f wy nu x7 rw kd (some (.int n)) (some (.ref r2))), (M ++ [Ob.lst ((news.map numOf).map D.int)]).set nu (Ob.lst (tou.map D.int ++ (news.map numOf).map D.int))) := by
    generalize tou.map D.int ++ (news.map numOf).map D.int = t2 at *
    generalize (news.map numOf).map D.int = t1 at *
    simp [pt2, hlc, hex, hnu]
  have k2 : Ke nu M ((M ++ [Ob.lst ((news.map numOf).map D.int)]).set nu (Ob.lst (tou.map D.int ++ (news.map numOf).map D.int))) := ((Ke.refl nu M).more _).set _
  have n2 : ((M ++ [Ob.lst ((news.map numOf).map D.int)]).set nu (Ob.lst (tou.map D.int ++ (news.map numOf).map D.int)))[nu]? = some (.lst (tou.map .int ++ (news.map numOf).map .int)) := get_set_eq (get_app hnu)
  generalize (M ++ [Ob.lst ((news.map numOf).map D.int)]).set nu (Ob.lst (tou.map D.int ++ (news.map numOf).map D.int)) = M2 at *
  have f2 := k2.get (Ne.symm h1) hf
  have w2 := k2.get (Ne.symm h2) hwy
  have r2' := k2.get (Ne.symm h3) hr2
  have i1 : oIx (.ref wy) (.int (-1)) M2 = some (.int m, M2) := ix_lastL (by rw [w2, wl_cons])
  have i2 : oIx (.ref f) (.int m) M2 = some (blkD false (as ++ .tup [.int k, .int n] :: bs), M2) := ix_dct f2 hm
  have i3 : ∀ M, oIx (blkD false (as ++ .tup [.int k, .int n] :: bs)) (.int 1) M = some (.tup (as ++ .tup [.int k, .int n] :: bs), M) := fun M => ix1
  obtain ⟨r, M3, e3, k3, hr3, g3⟩ := p_replaced (M := M2 ++ [.lst [.int n]]) (nb := M2.length) (ne := r2) (as := as) (rest := bs) (news := news) (a := n) (k := k) (more := []) get_new (get_app r2') has (by simp at hl; simp; omega)
  simp only [List.length_nil, List.drop_zero] at g3
  have e3' : pt3 (PL b w key v f wy nu x7 rw kd (some (.int n)) (some (.ref r2))) M2 = some (.nx (PL b w key v f wy nu x7 r kd (some (.int n)) (some (.ref r2))), M3) := by
    generalize blkD false (as ++ .tup [.int k, .int n] :: bs) = blk at *
    generalize as ++ D.tup [.int k, .int n] :: bs = ps at *
    simp [pt3, i1, i2, i3, e3]
  have kf : Kp M2 M3 := (Kp.app _ _).trans k3
  refine ⟨r, M3, ?_, k2.trans (Ke.of kf), by rw [kf.get n2, List.map_append], ?_, g3⟩
  · rw [seq_step e2, seq_step e3']
    simp [pt4]
  · have := k2.len
    simp at hr3
    omega
theorem fk_shape {h : Nat} {F : List (Int × D)} {w : Int} {xs R : List D} {N : List Int} (c : Cont F w h xs R N) (hne : xs ≠ []) (good : rowB true R = true) : ∃ k v r, xs = .tup [.int k, v] :: r := by
  cases xs with
  | nil => exact absurd rfl hne
  | cons p r =>
    cases h with
    | zero =>
      obtain ⟨rfl, rfl⟩ := c
      obtain ⟨k, v, rfl, _, _⟩ := pair_shape (((rowB_pw _).mp good).1 p List.mem_cons_self)
      exact ⟨k, v, r, rfl⟩
    | succ h =>
      obtain ⟨k, n, e, _⟩ := Kids.pairs (S := Sub F w h) c p List.mem_cons_self
      exact ⟨k, _, r, by rw [e]⟩
theorem kd_of (h : Nat) : kindS (decide (h + 1 = 0)) = "branch" := by
  have : decide (h + 1 = 0) = false := decide_eq_false (by omega)
  rw [this]
  rfl
/-- once around -/
theorem pt_step {M0 : Mem} {b f wy nu rw : Nat} {w key : Int} {v x7 : D} {x10 x11 : Option D} {B F : List (Int × D)} {T xs ls rs R : List D} {h : Nat} {n m : Int} {way tou nums N : List Int} (s : PutS B F w key T h n (m :: way) xs tou ls rs R nums N) (hw : 3 ≤ w ∧ w ≤ 64) (good : rowB true T = true) (hF : F.length ≤ 8000)
    (hf : M[f]? = some (.dct F)) (hwy : M[wy]? = some (.lst (wl (n :: m :: way)))) (hnu : M[nu]? = some (.lst (tou.map .int))) (hrw : M[rw]? = some (.lst xs)) (h1 : nu ≠ wy) (h2 : rw ≠ wy) (hk : Kp M0 M) (z1 : M0.length ≤ f) (z2 : M0.length ≤ wy) (z3 : M0.length ≤ nu) (ht : tou.length ≤ 900) :
    ∃ F' xs' tou' ls' rs' R' nums' N' rw' y10 y11 M', ptB (PL b w key v f wy nu x7 rw (kindS (decide (h = 0))) x10 x11) M = some (.nx (PL b w key v f wy nu x7 rw' (kindS (decide (h + 1 = 0))) y10 y11), M') ∧ PutS B F' w key T (h + 1) m way xs' tou' ls' rs' R' nums' N' ∧
      M'[f]? = some (.dct F') ∧ M'[wy]? = some (.lst (wl (m :: way))) ∧ M'[nu]? = some (.lst (tou'.map .int)) ∧ M'[rw']? = some (.lst xs') ∧ rw' ≠ wy ∧ Kp M0 M' ∧ F'.length ≤ F.length + 2 ∧ tou'.length ≤ tou.length + 2 := by
  have hn0 : n ≠ 0 := by
    obtain ⟨_, _, _, _, _, _, _, _, _, _, _, _, _, _, _, _, _, _, _, _, h0, _⟩ := s.ctx.inv
    omega
  obtain ⟨hnp, hlo, hne⟩ := s.ne hw.1 hn0
  have hfw : f ≠ wy := fun z => by rw [z, hwy] at hf; cases hf
  have hfn : f ≠ nu := fun z => by rw [z, hnu] at hf; cases hf
  have hfr : f ≠ rw := fun z => by rw [z, hrw] at hf; cases hf
  rw [wl_cons] at hwy
  have hpop := pop0_lst hwy
  have lw := get_lt hwy
  have lf := get_lt hf
  have ln := get_lt hnu
  have lr := get_lt hrw
  have goodR : rowB true R = true := by
    have := s.tot
    rw [← this] at good
    exact (rowB_app (rowB_app good).2).1
  have e0 : pt0 (PL b w key v f wy nu x7 rw (kindS (decide (h = 0))) x10 x11) M = some (.nx (PL b w key v f wy nu x7 rw (kindS (decide (h = 0))) (some (.int n)) x11), M.set wy (.lst (wl (m :: way)))) := by
    generalize kindS (decide (h = 0)) = kd
    simp [pt0, hwy, hpop]
  obtain ⟨M1, hM1⟩ : ∃ M1, M.set wy (Ob.lst (wl (m :: way))) = M1 := ⟨_, rfl⟩
  rw [hM1] at e0
  have f1 : M1[f]? = some (.dct F) := by rw [← hM1, get_set_ne (Ne.symm hfw)]; exact hf
  have w1 : M1[wy]? = some (.lst (wl (m :: way))) := by rw [← hM1]; exact get_set_eq hwy
  have n1 : M1[nu]? = some (.lst (tou.map .int)) := by rw [← hM1, get_set_ne (Ne.symm h1)]; exact hnu
  have r1 : M1[rw]? = some (.lst xs) := by rw [← hM1, get_set_ne (Ne.symm h2)]; exact hrw
  have k1 : Kp M0 M1 := by rw [← hM1]; exact hk.set z2 _
  have len1 : M1.length = M.length := by rw [← hM1]; simp
  -- the parts lie in blocks
  have main : ∀ (rws : List (List D)) (rp : Nat) (M2 : Mem), g_parts [.ref rw, .int w] (M1 ++ [.lst [.int n]]) = some (.ok (.ref rp) M2) → Kp (M1 ++ [Ob.lst [.int n]]) M2 → M2[rp]? = some (.lst (rws.map .tup)) → rws.length ≤ 2 → (∀ x ∈ rws, ∃ k v r, x = .tup [.int k, v] :: r) → 1 ≤ rws.length →
      ∃ (r2 : Nat) (M3 : Mem) (out : List D) (F1 : List (Int × D)), pt1 (PL b w key v f wy nu x7 rw (kindS (decide (h = 0))) (some (.int n)) x11) M1 = some (.nx (PL b w key v f wy nu x7 rw (kindS (decide (h = 0))) (some (.int n)) (some (.ref r2))), M3) ∧ Kp M0 M3 ∧ M3[wy]? = some (.lst (wl (m :: way))) ∧ M3[nu]? = some (.lst (tou.map .int)) ∧ M3[f]? = some (.dct F1) ∧ M3[r2]? = some (.lst out) ∧ M.length ≤ r2 ∧ Stor (decide (h = 0)) [n] 0 rws F out F1 ∧ F1.length ≤ F.length + 2 := by
    intro rws rp M2 ep kp grp hl2 hsh hl1
    have hdrop : ([n] : List Int).drop rws.length = [] := by
      rw [List.drop_eq_nil_of_le]
      simpa using hl1
    obtain ⟨r2, M3, out, F1, es, ke, hr2, g2, g3, st, fl⟩ := p_stored (M := M2) (f := f) (nb := M1.length) (rw := rp) (leaf := decide (h = 0)) (numbers := [n]) (pops := []) (rows := rws) (kp.get (get_app f1)) (by omega) (kp.get get_new) grp hl2 hsh hdrop (.inl rfl)
    have kk : Kp M1 M2 := (Kp.app _ _).trans kp
    refine ⟨r2, M3, out, F1, ?_, Ke.kp (k1.trans kk) ke z1, ke.get (Ne.symm hfw) (kk.get w1), ke.get (Ne.symm hfn) (kk.get n1), g3, g2, by have := kk.len; omega, st, fl⟩
    generalize kindS (decide (h = 0)) = kd at *
    simp [pt1, ep, es]
  have r1' : (M1 ++ [Ob.lst [.int n]])[rw]? = some (.lst xs) := get_app r1
  have fin : ∀ (r2 : Nat) (M3 : Mem) (news : List D) (F1 : List (Int × D)) (k : Int) (as bs : List D) (ls' rs' R' : List D) (nums' N' tou' : List Int), pt1 (PL b w key v f wy nu x7 rw (kindS (decide (h = 0))) (some (.int n)) x11) M1 = some (.nx (PL b w key v f wy nu x7 rw (kindS (decide (h = 0))) (some (.int n)) (some (.ref r2))), M3) → Kp M0 M3 → M3[wy]? = some (.lst (wl (m :: way))) → M3[nu]? = some (.lst (tou.map .int)) → M3[f]? = some (.dct F1) → M3[r2]? = some (.lst news) → M.length ≤ r2 → F1.length ≤ F.length + 2 →
      aget F1 m = some (blkD false (as ++ .tup [.int k, .int n] :: bs)) → (∀ p ∈ as, numOf p ≠ n ∧ ∃ k z : Int, p = .tup [.int k, .int z]) → ((as ++ .tup [.int k, .int n] :: bs).length : Int) ≤ w → (∀ p ∈ news, ∃ k z : Int, p = .tup [.int k, .int z]) → news.length ≤ 2 → tou' = tou ++ news.map numOf → PutS B F1 w key T (h + 1) m way (as ++ (news ++ bs)) tou' ls' rs' R' nums' N' →
      ∃ F' xs' tou' ls' rs' R' nums' N' rw' y10 y11 M', ptB (PL b w key v f wy nu x7 rw (kindS (decide (h = 0))) x10 x11) M = some (.nx (PL b w key v f wy nu x7 rw' (kindS (decide (h + 1 = 0))) y10 y11), M') ∧ PutS B F' w key T (h + 1) m way xs' tou' ls' rs' R' nums' N' ∧
        M'[f]? = some (.dct F') ∧ M'[wy]? = some (.lst (wl (m :: way))) ∧ M'[nu]? = some (.lst (tou'.map .int)) ∧ M'[rw']? = some (.lst xs') ∧ rw' ≠ wy ∧ Kp M0 M' ∧ F'.length ≤ F.length + 2 ∧ tou'.length ≤ tou.length + 2 := by
    intro r2 M3 news F1 k as bs ls' rs' R' nums' N' tou' e1 k3 w3 n3 f3 g3 hr2 fl hm has hwl hnews hnl htou s'
    obtain ⟨rw', M4, e4, k4, n4, hr4, g4⟩ := pt_tail (b := b) (rw := rw) (key := key) (v := v) (x7 := x7) (kd := kindS (decide (h = 0))) (w := w) f3 w3 n3 g3 (Ne.symm hfn) h1 (by omega) hm has (by omega) hnews hnl (by omega)
    rw [← htou] at n4
    refine ⟨F1, as ++ (news ++ bs), tou', ls', rs', R', nums', N', rw', some (.int n), some (.ref r2), M4, ?_, s', k4.get hfn f3, k4.get (Ne.symm h1) w3, n4, g4, ?_, Ke.kp k3 k4 z3, fl, by rw [htou]; simp; omega⟩
    · rw [kd_of]
      unfold ptB
      rw [seq_step e0, seq_step e1]
      exact e4
    · have := get_lt w3
      omega
  by_cases hx : (xs.length : Int) ≤ w
  · have ep := p_parts1 (M := M1 ++ [.lst [.int n]]) (w := w) r1' hx
    obtain ⟨r2, M3, out, F1, e1, k3, w3, n3, f3, g3, hr2, st, fl⟩ := main [xs] _ _ ep (Kp.app _ _) get_new (by simp) (fun x hx => by
      have : x = xs := by simpa using hx
      rw [this]
      exact fk_shape s.cont hne goodR) (by simp)
    cases st with
    | free h0 => simp at h0
    | inn hin st =>
      cases st
      have := Option.some.inj (show some n = some _ from hin)
      subst this
      obtain ⟨k, as, bs, ls', rs', R', nums', N', hm, has, hwl, s'⟩ := s.one hw.1 hn0 hx
      exact fin r2 M3 _ _ k as bs ls' rs' R' nums' N' _ e1 k3 w3 n3 f3 g3 hr2 fl hm has hwl (fun p hp => ⟨_, _, List.mem_singleton.mp hp⟩) (by simp) rfl s'
  · obtain ⟨rp, M2, ep, kp, hrp, grp⟩ := p_parts2 (M := M1 ++ [.lst [.int n]]) (w := w) r1' hx
    have hi := s.hi
    have hsp : xs = xs.take (xs.length / 2) ++ xs.drop (xs.length / 2) := (List.take_append_drop _ _).symm
    have l1 : (xs.take (xs.length / 2)).length = xs.length / 2 := by rw [List.length_take]; omega
    have l2 : (xs.drop (xs.length / 2)).length = xs.length - xs.length / 2 := by rw [List.length_drop]
    have g1 : (w + 1) / 2 ≤ ((xs.take (xs.length / 2)).length : Int) ∧ ((xs.take (xs.length / 2)).length : Int) ≤ w := by rw [l1]; omega
    have g2 : (w + 1) / 2 ≤ ((xs.drop (xs.length / 2)).length : Int) ∧ ((xs.drop (xs.length / 2)).length : Int) ≤ w := by rw [l2]; omega
    generalize xs.take (xs.length / 2) = x1 at *
    generalize xs.drop (xs.length / 2) = x2 at *
    have ne1 : x1 ≠ [] := fun z => by rw [z] at g1; simp at g1; omega
    have ne2 : x2 ≠ [] := fun z => by rw [z] at g2; simp at g2; omega
    have shp : ∀ x ∈ [x1, x2], ∃ k v r, x = .tup [.int k, v] :: r := fun x hx => by
      have cc := s.cont
      rw [hsp] at cc
      obtain ⟨R1, R2, N1, N2, eR, eN, c1, c2⟩ := cc.split
      rw [eR] at goodR
      rcases List.mem_cons.mp hx with rfl | hx
      · exact fk_shape c1 ne1 (rowB_app goodR).1
      · have : x = x2 := by simpa using hx
        rw [this]
        exact fk_shape c2 ne2 (rowB_app goodR).2
    obtain ⟨r2, M3, out, F1, e1, k3, w3, n3, f3, g3, hr2, st, fl⟩ := main [x1, x2] rp M2 ep kp grp (by simp) shp (by simp)
    cases st with
    | free h0 => simp at h0
    | inn hin st =>
      have := Option.some.inj (show some n = some _ from hin)
      subst this
      cases st with
      | inn hin2 => simp at hin2
      | free _ hfree st =>
        cases st
        obtain ⟨k, as, bs, ls', rs', R', nums', N', hm, has, hwl, s'⟩ := s.both hw.1 hn0 hsp g1 g2 hfree
        refine fin r2 M3 _ _ k as bs ls' rs' R' nums' N' _ e1 k3 w3 n3 f3 g3 hr2 fl hm has hwl (fun p hp => ?_) (by simp) rfl s'
        rcases List.mem_cons.mp hp with rfl | hp
        · exact ⟨_, _, rfl⟩
        · exact ⟨_, _, List.mem_singleton.mp hp⟩
theorem pt_loop {M0 : Mem} {b f wy nu : Nat} {w key : Int} {v x7 : D} {B : List (Int × D)} {T : List D} (hw : 3 ≤ w ∧ w ≤ 64) (good : rowB true T = true) (h1 : nu ≠ wy) (z1 : M0.length ≤ f) (z2 : M0.length ≤ wy) (z3 : M0.length ≤ nu) : ∀ (way : List Int) (n : Int) (h rw : Nat) (F : List (Int × D)) (xs ls rs R : List D) (tou nums N : List Int) (x10 x11 : Option D) (M : Mem),
    PutS B F w key T h n way xs tou ls rs R nums N → F.length + 2 * way.length ≤ 8000 → M[f]? = some (.dct F) → M[wy]? = some (.lst (wl (n :: way))) → M[nu]? = some (.lst (tou.map .int)) → M[rw]? = some (.lst xs) → rw ≠ wy → Kp M0 M → tou.length + 2 * way.length ≤ 900 →
    ∃ h' rw' F' xs' R' tou' N' y10 y11 M', mWhile ptT ptB (PL b w key v f wy nu x7 rw (kindS (decide (h = 0))) x10 x11) M = some (.nx (PL b w key v f wy nu x7 rw' (kindS (decide (h' = 0))) y10 y11), M') ∧ PutS B F' w key T h' 0 [] xs' tou' [] [] R' [] N' ∧
      M'[f]? = some (.dct F') ∧ M'[nu]? = some (.lst (tou'.map .int)) ∧ M'[rw']? = some (.lst xs') ∧ Kp M0 M' ∧ F'.length ≤ F.length + 2 * way.length ∧ tou'.length ≤ tou.length + 2 * way.length
  | [], n, h, rw, F, xs, ls, rs, R, tou, nums, N, x10, x11, M, s, hF, hf, hwy, hnu, hrw, h2, hk, ht => by
    obtain ⟨rfl, rfl, rfl, rfl⟩ := s.ctx.last
    have hl := len_lst hwy
    have e : (wl [0]).length = 1 := rfl
    rw [e] at hl
    refine ⟨h, rw, F, xs, R, tou, N, x10, x11, M, while_end ?_, s, hf, hnu, hrw, hk, by simp, by simp⟩
    simp [ptT, hl]
  | m :: way, n, h, rw, F, xs, ls, rs, R, tou, nums, N, x10, x11, M, s, hF, hf, hwy, hnu, hrw, h2, hk, ht => by
    simp only [List.length_cons] at hF ht
    obtain ⟨F', xs', tou', ls', rs', R', nums', N', rw', y10, y11, M', e, s', f', w', n', r', h2', k', fl, tl⟩ := pt_step (b := b) (v := v) (x7 := x7) (x10 := x10) (x11 := x11) s hw good (by omega) hf hwy hnu hrw h1 h2 hk z1 z2 z3 (by omega)
    obtain ⟨h'', rw'', F'', xs'', R'', tou'', N'', q10, q11, M'', e2, s2, f2, n2, r2, k2, fl2, tl2⟩ := pt_loop hw good h1 z1 z2 z3 way m (h + 1) rw' F' xs' ls' rs' R' tou' nums' N' y10 y11 M' s' (by omega) f' w' n' r' h2' k' (by omega)
    have hl := len_lst hwy
    have e3 : (wl (n :: m :: way)).length = way.length + 2 := by simp [wl]
    rw [e3] at hl
    refine ⟨h'', rw'', F'', xs'', R'', tou'', N'', q10, q11, M'', while_step (M1 := M) ?_ e e2, s2, f2, n2, r2, k2, by simp only [List.length_cons]; omega, by simp only [List.length_cons]; omega⟩
    have : (1 : Int) < ((way.length + 2 : Nat) : Int) := by omega
    simp only [ptT]
    generalize ((way.length + 2 : Nat) : Int) = z at *
    generalize kindS (decide (h = 0)) = kd at *
    simp [hl, this]
end BP
/-! BTPutF: put_in, the whole. -/
namespace BP
open BL
open PySem (Str)
variable {M : Mem}
/-- the rows with a key -/
def ltK (T : List D) (key : Int) : List D := T.filter fun p => decide (keyOf p < key)
def gtK (T : List D) (key : Int) : List D := T.filter fun p => decide (key < keyOf p)
theorem ltK_all {T : List D} {key : Int} (h : ∀ p ∈ T, keyOf p < key) : ltK T key = T ∧ gtK T key = [] := by
  constructor
  · exact List.filter_eq_self.mpr fun p hp => decide_eq_true (h p hp)
  · exact List.filter_eq_nil_iff.mpr fun p hp => by have := h p hp; simp; omega
theorem gtK_all {T : List D} {key : Int} (h : ∀ p ∈ T, key < keyOf p) : gtK T key = T ∧ ltK T key = [] := by
  constructor
  · exact List.filter_eq_self.mpr fun p hp => decide_eq_true (h p hp)
  · exact List.filter_eq_nil_iff.mpr fun p hp => by have := h p hp; simp; omega
theorem ltK_app {a b : List D} {key : Int} : ltK (a ++ b) key = ltK a key ++ ltK b key := List.filter_append ..
theorem gtK_app {a b : List D} {key : Int} : gtK (a ++ b) key = gtK a key ++ gtK b key := List.filter_append ..
theorem split_len {T : List D} {key : Int} (h : T.Pairwise fun x y => keyOf x < keyOf y) : (ltK T key).length + (gtK T key).length ≤ T.length ∧ T.length ≤ (ltK T key).length + (gtK T key).length + 1 := by
  induction T with
  | nil => simp [ltK, gtK]
  | cons p T ih =>
    obtain ⟨h1, h2⟩ := List.pairwise_cons.mp h
    have ih := ih h2
    by_cases c : keyOf p < key
    · have e1 : ltK (p :: T) key = p :: ltK T key := List.filter_cons_of_pos (decide_eq_true c)
      have e2 : gtK (p :: T) key = gtK T key := List.filter_cons_of_neg (by simp; omega)
      rw [e1, e2]
      simp only [List.length_cons]
      omega
    · have hall : ∀ q ∈ T, key < keyOf q := fun q hq => by
        have := h1 q hq
        omega
      obtain ⟨g1, g2⟩ := gtK_all hall
      have e1 : ltK (p :: T) key = ltK T key := List.filter_cons_of_neg (by simp; omega)
      rw [e1, g2]
      by_cases c2 : key < keyOf p
      · have e2 : gtK (p :: T) key = p :: gtK T key := List.filter_cons_of_pos (decide_eq_true c2)
        rw [e2, g1]
        simp
      · have e2 : gtK (p :: T) key = gtK T key := List.filter_cons_of_neg (by simp; omega)
        rw [e2, g1]
        simp
def heldK (T : List D) (key : Int) (v : D) : List D := ltK T key ++ (.tup [.int key, v] :: gtK T key)
theorem held_good {T : List D} {key : Int} {v : D} (h : rowB true T = true) (hp : pairB true (.tup [.int key, v]) = true) : rowB true (heldK T key v) = true := by
  rw [rowB_pw] at h ⊢
  obtain ⟨h1, h2⟩ := h
  refine ⟨fun x hx => ?_, List.pairwise_append.mpr ⟨h2.filter _, List.pairwise_cons.mpr ⟨fun y hy => ?_, h2.filter _⟩, fun x hx y hy => ?_⟩⟩
  · rcases List.mem_append.mp hx with hx | hx
    · exact h1 x (List.mem_filter.mp hx).1
    · rcases List.mem_cons.mp hx with rfl | hx
      · exact hp
      · exact h1 x (List.mem_filter.mp hx).1
  · exact of_decide_eq_true (List.mem_filter.mp hy).2
  · have := of_decide_eq_true (List.mem_filter.mp hx).2
    rcases List.mem_cons.mp hy with rfl | hy
    · exact this
    · have := of_decide_eq_true (List.mem_filter.mp hy).2
      omega
/-- pairs of a tuple, by their keys -/
theorem fil_lc {i : Nat} {T : List D} {L : BL.Loc} {op : Op2} {c : D → Bool} {key : Int} (hi : L[i]? = some (some (.tup T))) (h2 : L[2]? = some (some (.int key))) (h12 : L.length = 13) (hp : ∀ p ∈ T, ∃ (k : Int) (v : D), p = .tup [.int k, v] ∧ op (.int k) (.int key) M = some (.bl (c p), M)) (hl : T.length ≤ 10000) :
    mLc (mIter (mVar i)) (mName 12) (mT (mBin op (mBin oIx (mVar 12) (mC (.int 0))) (mVar 2))) (mVar 12) [12] L M = some (.ok (.ref M.length) (M ++ [.lst (T.filter c)])) := by
  have hi2 : mIter (mVar i) L M = some (.ok (Src.map (fun ds => ds) ⟨T, none⟩) M) := seq_at _ (by simp [hi]) src_tup
  have hc := lcG_map (ok := Src.ok (Src.map (fun ds => ds) ⟨T, none⟩)) (g := mName 12) (tt := mT (mBin op (mBin oIx (mVar 12) (mC (.int 0))) (mVar 2))) (e := mVar 12) (L := wipeL L [12]) (M := M) c (fun d => d) trivial T (fun p hpp => by
    obtain ⟨k, v, rfl, ho⟩ := hp p hpp
    have j0 : ∀ M, oIx (.tup [.int k, v]) (.int 0) M = some (.int k, M) := fun M => ix0
    have hw2 : (wipeL L [12])[2]? = some (some (.int key)) := by
      show (L.set 12 none)[2]? = _
      rw [List.getElem?_set, if_neg (by omega)]
      exact h2
    have hw2' : ((wipeL L [12]).set 12 (some (.tup [.int k, v])))[2]? = some (some (.int key)) := by
      rw [List.getElem?_set, if_neg (by omega)]
      exact hw2
    have hw12 : ((wipeL L [12]).set 12 (some (.tup [.int k, v])))[12]? = some (some (.tup [.int k, v])) := by
      rw [List.getElem?_set, if_pos rfl, if_pos (by show 12 < (L.set 12 none).length; rw [List.length_set, h12]; decide)]
    refine ⟨(wipeL L [12]).set 12 (some (.tup [.int k, v])), rfl, ?_, fun _ => ?_⟩
    · generalize (wipeL L [12]).set 12 (some (.tup [.int k, v])) = L1 at *
      generalize c (.tup [.int k, v]) = cc at *
      simp [hw12, hw2', j0, ho]
    · generalize (wipeL L [12]).set 12 (some (.tup [.int k, v])) = L1 at *
      simp [hw12])
  have hm : (T.filter c).map (fun d => d) = T.filter c := List.map_id' _
  rw [hm] at hc
  have hfl := List.length_filter_le c T
  exact lc_at hi2 hc (by omega)
/-- what an edit does -/
structure Done (M M' : Mem) (B : List (Int × D)) (w : Int) (T : List D) (r : Nat) (C F : List (Int × D)) (tou : List Int) : Prop where
  kp : Kp M M'
  at_ : M'[r]? = some (.dct C)
  new : M.length ≤ r
  told : Told2 B F C tou
  chg : Chg B F w T tou
  len : F.length ≤ B.length + 100
theorem Chg.plain {B F : List (Int × D)} {w : Int} {T : List D} {tou : List Int} (c : Chg B F w T tou) (hw : 3 ≤ w) : plainD F := by
  obtain ⟨h, nums, t⟩ := c.tree
  obtain ⟨vs, s, _⟩ := t.sound hw
  exact s.plain t.bnd
theorem Tree.plain {B : List (Int × D)} {w : Int} {h : Nat} {T : List D} {nums : List Int} (t : Tree B w h T nums) (hw : 3 ≤ w) : plainD B := by
  obtain ⟨vs, s, _⟩ := t.sound hw
  exact s.plain t.bnd
theorem Tree.low {B : List (Int × D)} {w : Int} {h : Nat} {T : List D} {nums : List Int} (t : Tree B w h T nums) (hB : B.length ≤ 4000) : h ≤ 11 := by
  have h1 := t.sub.big
  rw [t.len] at h1
  rcases Nat.lt_or_ge h 12 with h2 | h2
  · omega
  · have : 2 ^ 12 ≤ 2 ^ h := Nat.pow_le_pow_right (by decide) h2
    omega
theorem p_put_in {b : Nat} {B : List (Int × D)} {w key : Int} {h : Nat} {T : List D} {nums : List Int} {v : D} (hb : M[b]? = some (.dct B)) (t : Tree B w h T nums) (hw : 3 ≤ w ∧ w ≤ 64) (hB : B.length ≤ 4000) (hv : pairB true (.tup [.int key, v]) = true) :
    ∃ r M' C F tou, g_put_in [.ref b, .int w, .int key, v] M = some (.ok (.ref r) M') ∧ Done M M' B w (heldK T key v) r C F tou := by
  have hlow := t.low hB
  have hd : oDict [.ref b] M = some (.ref M.length, M ++ [.dct B]) := dict_dct hb
  obtain ⟨n, way, ls, rs, R, nu0, wy, M2, e1, k12, hwy, w2, c, sb, tot, perm, wlen, goodR⟩ := p_way (M := M ++ [.dct B]) (b := M.length) (key := key) get_new t.sub t.good (by omega)
  have k2 : Kp M M2 := (Kp.app _ _).trans k12
  have f2 : M2[M.length]? = some (.dct B) := k12.get get_new
  simp at hwy
  have hl2 : oList [.ref wy] M2 = some (.ref M2.length, M2 ++ [.lst (wl (n :: way))]) := list_lst w2
  have f3 : (M2 ++ [Ob.lst (wl (n :: way))])[M.length]? = some (.dct B) := get_app f2
  have w3 : (M2 ++ [Ob.lst (wl (n :: way))])[wy]? = some (.lst (wl (n :: way))) := get_app w2
  have n3 : (M2 ++ [Ob.lst (wl (n :: way))])[M2.length]? = some (.lst (wl (n :: way))) := get_new
  have k3 : Kp M (M2 ++ [.lst (wl (n :: way))]) := k2.more _
  have hl2' := get_lt w2
  have hl3 : (M2 ++ [Ob.lst (wl (n :: way))]).length = M2.length + 1 := by simp
  generalize M2 ++ [Ob.lst (wl (n :: way))] = M3 at *
  obtain ⟨s1, s2, s3, _⟩ := sb
  have i1 : oIx (.ref wy) (.int (-1)) M3 = some (.int n, M3) := ix_lastL (by rw [w3, wl_cons])
  have i2 : oIx (.ref M.length) (.int n) M3 = some (blkD true R, M3) := ix_dct f3 s1
  have i3 : ∀ M, oIx (blkD true R) (.int 1) M = some (.tup R, M) := fun M => ix1
  have hRl : R.length ≤ 64 := by omega
  have hpr : ∀ p ∈ R, ∃ (k : Int) (v : D), p = .tup [.int k, v] := fun p hp => by
    obtain ⟨k, v, e, _, _⟩ := pair_shape (((rowB_pw _).mp goodR).1 p hp)
    exact ⟨k, v, e⟩
  -- the rows
  let L8 : BL.Loc := [some (.ref b), some (.int w), some (.int key), some v, some (.ref M.length), some (.ref wy), some (.ref M2.length), some (.tup R), none, none, none, none, none]
  have lc1 := fil_lc (M := M3) (i := 7) (T := R) (L := L8) (op := oLt) (c := fun p => decide (keyOf p < key)) (key := key) rfl rfl rfl (fun p hp => by
    obtain ⟨k, v, rfl⟩ := hpr p hp
    exact ⟨k, v, rfl, lt_int⟩) (by omega)
  have e_lt : R.filter (fun p => decide (keyOf p < key)) = ltK R key := rfl
  rw [e_lt] at lc1
  have a1 : oAdd (.ref M3.length) (.ref (M3.length + 1)) (M3 ++ [.lst (ltK R key)] ++ [.lst [.tup [.int key, v]]]) = some (.ref (M3 ++ [Ob.lst (ltK R key)] ++ [Ob.lst [.tup [.int key, v]]]).length, M3 ++ [.lst (ltK R key)] ++ [.lst [.tup [.int key, v]]] ++ [.lst (ltK R key ++ [.tup [.int key, v]])]) := add_lst (get_app get_new) (by have := get_new (M := M3 ++ [Ob.lst (ltK R key)]) (o := .lst [.tup [.int key, v]]); simpa using this) (by
    have := List.length_filter_le (fun p => decide (keyOf p < key)) R
    show (R.filter _).length + _ < _
    simp
    omega)
  have lc2 := fun M => fil_lc (M := M) (i := 7) (T := R) (L := L8) (op := oGt) (c := fun p => decide (key < keyOf p)) (key := key) rfl rfl rfl (fun p hp => by
    obtain ⟨k, v, rfl⟩ := hpr p hp
    exact ⟨k, v, rfl, gt_int⟩) (by omega)
  have e_gt : R.filter (fun p => decide (key < keyOf p)) = gtK R key := rfl
  rw [e_gt] at lc2
  obtain ⟨hsl1, hsl2⟩ := split_len (key := key) ((rowB_pw _).mp goodR).2
  obtain ⟨rw4, M4, e4, k4, r4, hrw4⟩ : ∃ rw4 M4, b_put_in_4 L8 M3 = some (.nx (L8.set 8 (some (.ref rw4))), M4) ∧ Kp M3 M4 ∧ M4[rw4]? = some (.lst (ltK R key ++ (.tup [.int key, v] :: gtK R key))) ∧ M3.length ≤ rw4 := by
    obtain ⟨q, hq⟩ : ∃ q, (M3 ++ [Ob.lst (ltK R key)] ++ [Ob.lst [.tup [.int key, v]]]).length = q := ⟨_, rfl⟩
    rw [hq] at a1
    obtain ⟨M5, hM5⟩ : ∃ M5, M3 ++ [Ob.lst (ltK R key)] ++ [Ob.lst [.tup [.int key, v]]] ++ [Ob.lst (ltK R key ++ [.tup [.int key, v]])] = M5 := ⟨_, rfl⟩
    have g5 : M5[q]? = some (.lst (ltK R key ++ [.tup [.int key, v]])) := by rw [← hM5, ← hq]; exact get_new
    have k5 : Kp M3 M5 := by rw [← hM5]; exact ((Kp.app _ _).more _).more _
    rw [hM5] at a1
    have a2 : oAdd (.ref q) (.ref M5.length) (M5 ++ [.lst (gtK R key)]) = some (.ref (M5 ++ [Ob.lst (gtK R key)]).length, M5 ++ [.lst (gtK R key)] ++ [.lst (ltK R key ++ [.tup [.int key, v]] ++ gtK R key)]) := add_lst (get_app g5) get_new (by simp; omega)
    have lc2' := lc2 M5
    refine ⟨(M5 ++ [Ob.lst (gtK R key)]).length, M5 ++ [Ob.lst (gtK R key)] ++ [Ob.lst (ltK R key ++ [.tup [.int key, v]] ++ gtK R key)], ?_, (k5.more _).more _, (by rw [show ltK R key ++ (.tup [.int key, v] :: gtK R key) = ltK R key ++ [.tup [.int key, v]] ++ gtK R key by simp]; exact get_new), by have := k5.len; simp; omega⟩
    clear e1 i2 i3 s1 c
    generalize ltK R key ++ [D.tup [.int key, v]] ++ gtK R key = out at *
    generalize ltK R key ++ [D.tup [.int key, v]] = o2 at *
    generalize ltK R key = o1 at *
    generalize gtK R key = o3 at *
    have v2 : L8[2]? = some (some (.int key)) := rfl
    have v3 : L8[3]? = some (some v) := rfl
    generalize L8 = L at *
    simp only [b_put_in_4]
    simp [lc1, v2, v3, a1, lc2', a2, -List.append_assoc]
  -- the state
  have hfr : ∀ j, j ∈ akeys B ↔ j ∈ n :: (([] : List Int) ++ nu0) := fun j => by
    rw [t.keys, ← perm.mem_iff]
    simp
  have hnd : (n :: (([] : List Int) ++ nu0)).Nodup := by
    have := perm.nodup_iff.mpr t.nd
    simpa using this
  obtain ⟨sd1, sd2⟩ := c.sides
  have htot : ls ++ ((ltK R key ++ (.tup [.int key, v] :: gtK R key)) ++ rs) = heldK T key v := by
    unfold heldK
    obtain ⟨q1, q2⟩ := ltK_all sd1
    obtain ⟨q3, q4⟩ := gtK_all sd2
    rw [← tot, ltK_app, ltK_app, gtK_app, gtK_app, q1, q2, q3, q4]
    simp
  have good2 := held_good t.good hv
  have hlo : leastOf w n ≤ ((ltK R key ++ (D.tup [.int key, v] :: gtK R key)).length : Int) := by
    rw [List.length_append, List.length_cons]
    omega
  have hhi : ((ltK R key ++ (D.tup [.int key, v] :: gtK R key)).length : Int) ≤ w + 1 := by
    rw [List.length_append, List.length_cons]
    omega
  have s0 : PutS B B w key (heldK T key v) 0 n way (ltK R key ++ (.tup [.int key, v] :: gtK R key)) ((n :: way).reverse) ls rs (ltK R key ++ (.tup [.int key, v] :: gtK R key)) nu0 [] :=
    ⟨c, ⟨rfl, rfl⟩, htot, hnd, hfr, t.bnd, hlo, hhi, fun z => absurd rfl z, fun j hj => absurd rfl hj, fun j hj => List.mem_reverse.mpr hj, fun j hj => hj, fun j hj hb => absurd hj hb⟩
  generalize ltK R key ++ (D.tup [.int key, v] :: gtK R key) = xs at *
  have f4 := k4.get f3
  have w4 := k4.get w3
  have n4 := k4.get n3
  have hwl : (n :: way).length = 1 + h := wlen
  simp only [List.length_cons] at hwl
  obtain ⟨h', rw', F', xs', R', tou', N', y10, y11, M6, eW, s', f6, n6, r6, k6, fl, tl⟩ := pt_loop (M0 := M) (b := b) (f := M.length) (wy := wy) (nu := M2.length) (v := v) (x7 := .tup R) hw good2 (by omega) (Nat.le_refl _) (by omega) (by have := k2.len; omega) way n 0 rw4 B xs ls rs _ ((n :: way).reverse) nu0 [] none none M4 s0 (by omega) f4 w4 (by rw [n4]; rfl) r4 (by omega) (k3.trans k4) (by simp; omega)
  simp only [List.length_reverse, List.length_cons] at tl
  -- the root
  have hk0 : ∀ (F : List (Int × D)) (xs : List D) (tou : List Int) (kd : Str) (rr : Nat) (M7 : Mem) (X : D), F.length ≤ 9000 → M7[M.length]? = some (.dct F) → M7[rr]? = some (.lst xs) → M7[M2.length]? = some (.lst (tou.map .int)) → Kp M M7 → X = .tup [.str kd, .tup xs] → Chg B (aput F 0 X) w (heldK T key v) tou → tou.length < 64 → F.length ≤ B.length + 90 →
      ∃ r M' C tou', mSeq b_put_in_8 b_put_in_9 (PL b w key v M.length wy M2.length (.tup R) rr kd y10 y11) M7 = some (.rt (.ref r), M') ∧ Done M M' B w (heldK T key v) r C (aput F 0 X) tou' := by
    intro F xs tou kd rr M7 X hF f7 r7 n7 k7 hX hc htl hfl
    subst hX
    have ht7 : oTuple [.ref rr] M7 = some (.tup xs, M7) := tuple_lst r7
    have hp7 : oPutA (.ref M.length) (.int 0) (.tup [.str kd, .tup xs]) M7 = some (M7.set M.length (.dct (aput F 0 (.tup [.str kd, .tup xs])))) := put_dct f7 (by omega)
    have e8 : b_put_in_8 (PL b w key v M.length wy M2.length (.tup R) rr kd y10 y11) M7 = some (.nx (PL b w key v M.length wy M2.length (.tup R) rr kd y10 y11), M7.set M.length (.dct (aput F 0 (.tup [.str kd, .tup xs])))) := by
      simp [b_put_in_8, ht7, hp7]
    have f8 : (M7.set M.length (.dct (aput F 0 (.tup [.str kd, .tup xs]))))[M.length]? = some (.dct (aput F 0 (.tup [.str kd, .tup xs]))) := get_set_eq f7
    have n8 : (M7.set M.length (.dct (aput F 0 (.tup [.str kd, .tup xs]))))[M2.length]? = some (.lst (tou.map .int)) := by rw [get_set_ne (by have := k2.len; omega)]; exact n7
    have k8 : Kp M (M7.set M.length (.dct (aput F 0 (.tup [.str kd, .tup xs])))) := k7.set (Nat.le_refl _) _
    generalize M7.set M.length (.dct (aput F 0 (.tup [.str kd, .tup xs]))) = M8 at *
    obtain ⟨r, M9, C, ec, k9, hr9, g9, td⟩ := p_changed (k8.get hb) f8 n8 (t.plain hw.1) (hc.plain hw.1) htl
    have ll := len_aput (kvs := F) (k := 0) (d := .tup [.str kd, .tup xs])
    refine ⟨r, M9, C, tou, ?_, k8.trans k9, g9, by have := k8.len; omega, td, hc, by omega⟩
    rw [seq_step e8]
    simp [b_put_in_9, ec]
  have e0 : b_put_in_0 ([some (.ref b), some (.int w), some (.int key), some v] ++ List.replicate (13 - 4) none) M = some (.nx [some (.ref b), some (.int w), some (.int key), some v, some (.ref M.length), none, none, none, none, none, none, none, none], M ++ [.dct B]) := by
    simp [b_put_in_0, hd]
  have e1' : b_put_in_1 [some (.ref b), some (.int w), some (.int key), some v, some (.ref M.length), none, none, none, none, none, none, none, none] (M ++ [.dct B]) = some (.nx [some (.ref b), some (.int w), some (.int key), some v, some (.ref M.length), some (.ref wy), none, none, none, none, none, none, none], M2) := by
    simp [b_put_in_1, e1]
  have e2 : b_put_in_2 [some (.ref b), some (.int w), some (.int key), some v, some (.ref M.length), some (.ref wy), none, none, none, none, none, none, none] M2 = some (.nx [some (.ref b), some (.int w), some (.int key), some v, some (.ref M.length), some (.ref wy), some (.ref M2.length), none, none, none, none, none, none], M3) := by
    simp [b_put_in_2, hl2]
  have e3 : b_put_in_3 [some (.ref b), some (.int w), some (.int key), some v, some (.ref M.length), some (.ref wy), some (.ref M2.length), none, none, none, none, none, none] M3 = some (.nx L8, M3) := by
    generalize blkD true R = blk at *
    simp [b_put_in_3, i1, i2, i3, L8]
  have e5 : b_put_in_5 (L8.set 8 (some (.ref rw4))) M4 = some (.nx (PL b w key v M.length wy M2.length (.tup R) rw4 (kindS (decide (0 = 0))) none none), M4) := by
    have : kindS (decide (0 = 0)) = leafS := rfl
    rw [this]
    simp [b_put_in_5, L8]
    rfl
  have e6 : b_put_in_6 (PL b w key v M.length wy M2.length (.tup R) rw4 (kindS (decide (0 = 0))) none none) M4 = some (.nx (PL b w key v M.length wy M2.length (.tup R) rw' (kindS (decide (h' = 0))) y10 y11), M6) := by
    rw [pt_eq]
    exact eW
  simp only [g_put_in, b_put_in, ev_def4]
  rw [seq_step e0, seq_step e1', seq_step e2, seq_step e3, seq_step e4, seq_step e5, seq_step e6]
  have hlr := len_lst r6
  by_cases hx : (xs'.length : Int) ≤ w
  · have hng : ¬ w < (xs'.length : Int) := by omega
    have e7 : b_put_in_7 (PL b w key v M.length wy M2.length (.tup R) rw' (kindS (decide (h' = 0))) y10 y11) M6 = some (.nx (PL b w key v M.length wy M2.length (.tup R) rw' (kindS (decide (h' = 0))) y10 y11), M6) := by
      generalize kindS (decide (h' = 0)) = kd at *
      simp [b_put_in_7, hlr, hng]
    obtain ⟨r, M', C, tou'', e89, dn⟩ := hk0 F' xs' tou' _ rw' M6 _ (by omega) f6 r6 n6 k6 rfl (s'.root1 good2 hx) (by omega) (by omega)
    rw [seq_step e7, e89]
    exact ⟨_, _, _, _, _, rfl, dn⟩
  · have hi := s'.hi
    have hsp : xs' = xs'.take (xs'.length / 2) ++ xs'.drop (xs'.length / 2) := (List.take_append_drop _ _).symm
    have l1 : (xs'.take (xs'.length / 2)).length = xs'.length / 2 := by rw [List.length_take]; omega
    have l2 : (xs'.drop (xs'.length / 2)).length = xs'.length - xs'.length / 2 := by rw [List.length_drop]
    have g1 : (w + 1) / 2 ≤ ((xs'.take (xs'.length / 2)).length : Int) ∧ ((xs'.take (xs'.length / 2)).length : Int) ≤ w := by rw [l1]; omega
    have g2 : (w + 1) / 2 ≤ ((xs'.drop (xs'.length / 2)).length : Int) ∧ ((xs'.drop (xs'.length / 2)).length : Int) ≤ w := by rw [l2]; omega
    obtain ⟨rp, M7, ep, kp, hrp, grp⟩ := p_parts2 (M := M6 ++ [.lst []]) (p := rw') (w := w) (get_app r6) hx
    generalize xs'.take (xs'.length / 2) = x1 at *
    generalize xs'.drop (xs'.length / 2) = x2 at *
    have ne1 : x1 ≠ [] := fun z => by rw [z] at g1; simp at g1; omega
    have ne2 : x2 ≠ [] := fun z => by rw [z] at g2; simp at g2; omega
    have hR' : R' = heldK T key v := by have := s'.tot; simpa using this
    have goodR' : rowB true R' = true := by rw [hR']; exact good2
    have shp : ∀ x ∈ [x1, x2], ∃ k v r, x = .tup [.int k, v] :: r := fun x hx => by
      have cc := s'.cont
      rw [hsp] at cc
      obtain ⟨R1, R2, N1, N2, eR, eN, c1, c2⟩ := cc.split
      rw [eR] at goodR'
      rcases List.mem_cons.mp hx with rfl | hx
      · exact fk_shape c1 ne1 (rowB_app goodR').1
      · have : x = x2 := by simpa using hx
        rw [this]
        exact fk_shape c2 ne2 (rowB_app goodR').2
    obtain ⟨r2, M8, out, F1, es, ke, hr2, q2, q3, st, fl1⟩ := p_stored (M := M7) (f := M.length) (nb := M6.length) (rw := rp) (leaf := decide (h' = 0)) (numbers := []) (pops := []) (rows := [x1, x2]) (kp.get (get_app f6)) (by omega) (kp.get get_new) grp (by simp) shp (by simp) (.inl rfl)
    cases st with
    | inn hin => simp at hin
    | @free _ fn _ _ _ _ _ _ hf1 st =>
      cases st with
      | inn hin => simp at hin
      | @free _ gn _ _ _ _ _ _ hf2 st =>
        cases st
        have kk : Kp M6 M7 := (Kp.app _ _).trans kp
        have k8 : Kp M M8 := Ke.kp (k6.trans kk) ke (Nat.le_refl _)
        have hM2 := k2.len
        have n8 : M8[M2.length]? = some (.lst (tou'.map .int)) := ke.get (by omega) (kk.get n6)
        have hnw : ∀ p ∈ [D.tup [.int (fk x1), .int fn], D.tup [.int (fk x2), .int gn]], ∃ k z : Int, p = .tup [.int k, .int z] := fun p hp => by
          rcases List.mem_cons.mp hp with rfl | hp
          · exact ⟨_, _, rfl⟩
          · exact ⟨_, _, List.mem_singleton.mp hp⟩
        have hlc := nums_lc (M := M8) (i := 8) (L := PL b w key v M.length wy M2.length (.tup R) r2 (kindS (decide (h' = 0))) y10 y11) q2 rfl rfl hnw (by simp)
        have hnm : ([D.tup [.int (fk x1), .int fn], D.tup [.int (fk x2), .int gn]].map numOf) = [fn, gn] := rfl
        rw [hnm] at hlc
        have hex : oExtend (.ref M2.length) [.ref M8.length] (M8 ++ [Ob.lst ([fn, gn].map D.int)]) = some (.non, (M8 ++ [Ob.lst ([fn, gn].map D.int)]).set M2.length (Ob.lst (tou'.map D.int ++ [fn, gn].map D.int))) := extend_at (es := [fn, gn].map D.int) (get_app n8) (by show (match (M8 ++ [Ob.lst ([fn, gn].map D.int)])[M8.length]? with | some (.lst xs) => some xs | _ => none) = _; rw [get_new]) (by simp; omega)
        have e7 : b_put_in_7 (PL b w key v M.length wy M2.length (.tup R) rw' (kindS (decide (h' = 0))) y10 y11) M6 = some (.nx (PL b w key v M.length wy M2.length (.tup R) r2 "branch" y10 y11), (M8 ++ [Ob.lst ([fn, gn].map D.int)]).set M2.length (Ob.lst (tou'.map D.int ++ [fn, gn].map D.int))) := by
          have hgt : w < (xs'.length : Int) := by omega
          generalize tou'.map D.int ++ [fn, gn].map D.int = t2 at *
          generalize [fn, gn].map D.int = t1 at *
          generalize kindS (decide (h' = 0)) = kd at *
          simp [b_put_in_7, hlr, hgt, ep, es, hlc, hex, n8]
        have hM8 : M2.length < M8.length := get_lt n8
        obtain ⟨r, M', C, tou'', e89, dn⟩ := hk0 _ [D.tup [.int (fk x1), .int fn], D.tup [.int (fk x2), .int gn]] (tou' ++ [fn, gn]) "branch" r2 ((M8 ++ [Ob.lst ([fn, gn].map D.int)]).set M2.length (Ob.lst (tou'.map D.int ++ [fn, gn].map D.int))) _ (by omega) (by rw [get_set_ne (by omega)]; exact get_app q3) (by rw [get_set_ne (by have := kk.len; have := get_lt n6; omega)]; exact get_app q2) (by rw [get_set_eq (get_app n8), List.map_append]) ((k8.more _).set hM2 _) rfl (s'.root2 hw.1 good2 hsp g1 g2 hf1 hf2) (by simp; omega) (by omega)
        rw [seq_step e7, e89]
        exact ⟨_, _, _, _, _, rfl, dn⟩
end BP
/-! BTDropE: drop_from. -/
namespace BP
open BL
open PySem (Str)
variable {M : Mem}
abbrev DL (b : Nat) (w key : Int) (f wy tu : Nat) (x6 x7 x8 x9 x10 x11 : Option D) : BL.Loc := [some (.ref b), some (.int w), some (.int key), some (.ref f), some (.ref wy), some (.ref tu), x6, x7, x8, x9, x10, x11, none]
noncomputable def dtT : GT := mT (mBin oGt (mCB oLen (mCons (mVar 4) mNil)) (mC (.int 1)))
noncomputable def dt0 : GS := mSet 6 (mLst (mCons (mMtL oPop0 (mVar 4) mNil) mNil))
noncomputable def dt1 : GS := mSet 7 (mBin oIx (mBin oIx (mVar 3) (mBin oIx (mVar 6) (mC (.int 0)))) (mC (.int 0)))
noncomputable def dt2 : GS := mSet 8 (mBin oIx (mBin oIx (mVar 3) (mBin oIx (mVar 4) (mUn oNeg (mC (.int 1))))) (mC (.int 1)))
noncomputable def dt3 : GS := mIte (mT (mBin oLt (mCB oLen (mCons (mBin oIx (mBin oIx (mVar 3) (mBin oIx (mVar 6) (mC (.int 0)))) (mC (.int 1))) mNil)) (mCall g_half (mCons (mVar 1) mNil)))) (mSeq (mSet 6 (mCall g_beside (mCons (mVar 8) (mCons (mBin oIx (mVar 6) (mC (.int 0))) mNil)))) (mExpr (mMtL oExtend (mVar 5) (mCons (mVar 6) mNil)))) mSkip
noncomputable def dt4 : GS := mSet 9 (mLst mNil)
noncomputable def dt5b : GS := mExpr (mMtL oExtend (mVar 9) (mCons (mBin oIx (mBin oIx (mVar 3) (mVar 10)) (mC (.int 1))) mNil))
noncomputable def dt5 : GS := mFor (mIter (mVar 6)) (mName 10) dt5b
noncomputable def dt6 : GS := mSet 11 (mCall g_stored (mCons (mVar 3) (mCons (mVar 7) (mCons (mVar 6) (mCons (mCall g_parts (mCons (mVar 9) (mCons (mVar 1) mNil))) mNil)))))
noncomputable def dt7 : GS := mPut oPutA (mVar 3) (mBin oIx (mVar 4) (mUn oNeg (mC (.int 1)))) (mTup (mCons (mC (.str "branch")) (mCons (mCB oTuple (mCons (mCall g_replaced (mCons (mVar 8) (mCons (mVar 6) (mCons (mVar 11) mNil)))) mNil)) mNil)))
noncomputable def dtB : GS := mSeq dt0 (mSeq dt1 (mSeq dt2 (mSeq dt3 (mSeq dt4 (mSeq dt5 (mSeq dt6 dt7))))))
theorem dt_eq : b_drop_from_4 = mWhile dtT dtB := rfl
theorem dt_rows {b f wy tu nb rr : Nat} {w key : Int} {x7 x8 x11 : Option D} {F : List (Int × D)} {leaf : Bool} {all : List D} (h1 : rr ≠ f) (h2 : rr ≠ nb) : ∀ (pl : List (Int × List D)) (acc : List D) (M : Mem) (x10 : Option D), M[f]? = some (.dct F) → M[nb]? = some (.lst all) → M[rr]? = some (.lst acc) → (∀ p ∈ pl, aget F p.1 = some (blkD leaf p.2)) → acc.length + (pl.map (·.2)).flatten.length ≤ 10000 →
    ∃ y10 M', forG (Src.ok (Src.map (fun ds => ds) ⟨all, some (nb, all)⟩)) (mName 10) dt5b (pl.map fun p => D.int p.1) (DL b w key f wy tu (some (.ref nb)) x7 x8 (some (.ref rr)) x10 x11) M = some (.nx (DL b w key f wy tu (some (.ref nb)) x7 x8 (some (.ref rr)) y10 x11), M') ∧ M'.length = M.length ∧ (∀ i, i ≠ rr → M'[i]? = M[i]?) ∧ M'[rr]? = some (.lst (acc ++ (pl.map (·.2)).flatten))
  | [], acc, M, x10, hf, hn, hr, hp, hl => ⟨x10, M, forG_nil hn, rfl, fun _ _ => rfl, by simpa using hr⟩
  | p :: pl, acc, M, x10, hf, hn, hr, hp, hl => by
    simp only [List.map_cons, List.flatten_cons, List.length_append] at hl
    have i1 : oIx (.ref f) (.int p.1) M = some (blkD leaf p.2, M) := ix_dct hf (hp p List.mem_cons_self)
    have i2 : ∀ M, oIx (blkD leaf p.2) (.int 1) M = some (.tup p.2, M) := fun M => ix1
    have hx := extend_at (d := .tup p.2) hr (es := p.2) rfl (by omega)
    obtain ⟨y10, M', e, l, k, g⟩ := dt_rows (b := b) (wy := wy) (tu := tu) (w := w) (key := key) (x7 := x7) (x8 := x8) (x11 := x11) h1 h2 pl (acc ++ p.2) (M.set rr (.lst (acc ++ p.2))) (some (.int p.1)) (by rw [get_set_ne h1]; exact hf) (by rw [get_set_ne h2]; exact hn) (get_set_eq hr) (fun q hq => hp q (List.mem_cons_of_mem _ hq)) (by rw [List.length_append]; omega)
    refine ⟨y10, M', ?_, by rw [l]; simp, fun i hi => by rw [k i hi, get_set_ne (Ne.symm hi)], by rw [g]; simp⟩
    show forG _ _ _ (D.int p.1 :: _) _ _ = _
    generalize blkD leaf p.2 = blk at *
    rw [forG_cons (L1 := DL b w key f wy tu (some (.ref nb)) x7 x8 (some (.ref rr)) (some (.int p.1)) x11) (L2 := DL b w key f wy tu (some (.ref nb)) x7 x8 (some (.ref rr)) (some (.int p.1)) x11) (M2 := M.set rr (.lst (acc ++ p.2))) hn rfl (by
      generalize acc ++ p.2 = ac at *
      simp [dt5b, i1, i2, hx, hr])]
    exact e
/-- when it is known which blocks -/
theorem dt_tail {M0 : Mem} {b f wy tu nb : Nat} {w key m a ka : Int} {leaf : Bool} {x9 x10 x11 : Option D} {F : List (Int × D)} {way more pops : List Int} {pre rest : List D} {pl : List (Int × List D)} {zs : List D} {rws : List (List D)}
    (hf : M[f]? = some (.dct F)) (hwy : M[wy]? = some (.lst (wl (m :: way)))) (hnb : M[nb]? = some (.lst ((a :: more).map .int))) (hk : Kp M0 M) (z1 : M0.length ≤ f)
    (hF : F.length ≤ 8000) (hpl : pl.map (·.1) = a :: more) (hbl : ∀ p ∈ pl, aget F p.1 = some (blkD leaf p.2)) (hz : (pl.map (·.2)).flatten = zs) (hzl : zs.length ≤ 200)
    (hr : (rws = [zs] ∧ (zs.length : Int) ≤ w) ∨ (rws = [zs.take (zs.length / 2), zs.drop (zs.length / 2)] ∧ ¬ (zs.length : Int) ≤ w)) (hsh : ∀ x ∈ rws, ∃ k v r, x = .tup [.int k, v] :: r)
    (hdrop : (a :: more).drop rws.length = pops) (hpop : pops = [] ∨ ∃ b, pops = [b] ∧ b ∈ akeys F) (hpre : ∀ p ∈ pre, numOf p ≠ a ∧ ∃ k z : Int, p = .tup [.int k, .int z]) (hll : (pre ++ .tup [.int ka, .int a] :: rest).length ≤ 64) (hml : more.length ≤ 1) :
    ∃ y9 y10 y11 M' out F1, mSeq dt4 (mSeq dt5 (mSeq dt6 dt7)) (DL b w key f wy tu (some (.ref nb)) (some (.str (kindS leaf))) (some (.tup (pre ++ .tup [.int ka, .int a] :: rest))) x9 x10 x11) M = some (.nx (DL b w key f wy tu (some (.ref nb)) (some (.str (kindS leaf))) (some (.tup (pre ++ .tup [.int ka, .int a] :: rest))) y9 y10 y11), M') ∧
      Stor leaf (a :: more) 0 rws F out F1 ∧ F1.length ≤ F.length + 2 ∧ Ke f M M' ∧ Kp M0 M' ∧ M'[f]? = some (.dct (aput (pops.foldl adel F1) m (blkD false (pre ++ (out ++ rest.drop more.length))))) := by
  have lf := get_lt hf
  have ln := get_lt hnb
  have lw := get_lt hwy
  have hfw : f ≠ wy := fun z => by rw [z, hwy] at hf; cases hf
  have hfn : f ≠ nb := fun z => by rw [z, hnb] at hf; cases hf
  have e4 : dt4 (DL b w key f wy tu (some (.ref nb)) (some (.str (kindS leaf))) (some (.tup (pre ++ .tup [.int ka, .int a] :: rest))) x9 x10 x11) M = some (.nx (DL b w key f wy tu (some (.ref nb)) (some (.str (kindS leaf))) (some (.tup (pre ++ .tup [.int ka, .int a] :: rest))) (some (.ref M.length)) x10 x11), M ++ [.lst []]) := by
    generalize kindS leaf = kd
    generalize pre ++ D.tup [.int ka, .int a] :: rest = ps
    simp [dt4]
  have hpm : (a :: more).map D.int = pl.map fun p => D.int p.1 := by rw [← hpl, List.map_map]; rfl
  obtain ⟨y10, M2, e5, l2, k2, g2⟩ := dt_rows (b := b) (f := f) (wy := wy) (tu := tu) (nb := nb) (rr := M.length) (w := w) (key := key) (x7 := some (.str (kindS leaf))) (x8 := some (.tup (pre ++ .tup [.int ka, .int a] :: rest))) (x11 := x11) (F := F) (leaf := leaf) (all := (a :: more).map .int) (by omega) (by omega) pl [] (M ++ [.lst []]) x10 (get_app hf) (get_app hnb) get_new hbl (by rw [hz]; simp; omega)
  rw [hz, List.nil_append] at g2
  have hi5 : mIter (mVar 6) (DL b w key f wy tu (some (.ref nb)) (some (.str (kindS leaf))) (some (.tup (pre ++ .tup [.int ka, .int a] :: rest))) (some (.ref M.length)) x10 x11) (M ++ [.lst []]) = some (.ok (Src.map (fun ds => ds) ⟨(a :: more).map .int, some (nb, (a :: more).map .int)⟩) (M ++ [.lst []])) := seq_at _ (by simp) (src_lst (get_app hnb))
  have e5' : dt5 (DL b w key f wy tu (some (.ref nb)) (some (.str (kindS leaf))) (some (.tup (pre ++ .tup [.int ka, .int a] :: rest))) (some (.ref M.length)) x10 x11) (M ++ [.lst []]) = some (.nx (DL b w key f wy tu (some (.ref nb)) (some (.str (kindS leaf))) (some (.tup (pre ++ .tup [.int ka, .int a] :: rest))) (some (.ref M.length)) y10 x11), M2) := by
    unfold dt5
    rw [for_at hi5]
    show forG _ _ _ ((a :: more).map D.int) _ _ = _
    rw [hpm] at e5 ⊢
    exact e5
  have kk2 : Kp M M2 := ⟨by rw [l2]; simp, fun j hj => by rw [k2 j (by omega), List.getElem?_append_left hj]⟩
  -- the parts
  obtain ⟨rp, M3, ep, k3, g3⟩ : ∃ rp M3, g_parts [.ref M.length, .int w] M2 = some (.ok (.ref rp) M3) ∧ Kp M2 M3 ∧ M3[rp]? = some (.lst (rws.map .tup)) := by
    rcases hr with ⟨rfl, hl⟩ | ⟨rfl, hl⟩
    · exact ⟨_, _, p_parts1 g2 hl, Kp.app _ _, get_new⟩
    · obtain ⟨r, M3, e, k, _, g⟩ := p_parts2 (w := w) g2 hl
      exact ⟨r, M3, e, k, g⟩
  have k13 : Kp M M3 := kk2.trans k3
  obtain ⟨r4, M4, out, F1, es, ke, hr4, q4, f4, st, fl⟩ := p_stored (M := M3) (f := f) (nb := nb) (rw := rp) (leaf := leaf) (numbers := a :: more) (pops := pops) (rows := rws) (k13.get hf) (by omega) (k13.get hnb) g3 (by rcases hr with ⟨rfl, _⟩ | ⟨rfl, _⟩ <;> simp) hsh hdrop hpop
  have e6 : dt6 (DL b w key f wy tu (some (.ref nb)) (some (.str (kindS leaf))) (some (.tup (pre ++ .tup [.int ka, .int a] :: rest))) (some (.ref M.length)) y10 x11) M2 = some (.nx (DL b w key f wy tu (some (.ref nb)) (some (.str (kindS leaf))) (some (.tup (pre ++ .tup [.int ka, .int a] :: rest))) (some (.ref M.length)) y10 (some (.ref r4))), M4) := by
    generalize kindS leaf = kd at *
    generalize pre ++ D.tup [.int ka, .int a] :: rest = ps at *
    simp [dt6, ep, es]
  have w4 : M4[wy]? = some (.lst (wl (m :: way))) := ke.get (Ne.symm hfw) (k13.get hwy)
  have n4 : M4[nb]? = some (.lst ((a :: more).map .int)) := ke.get (Ne.symm hfn) (k13.get hnb)
  have hol : out.length ≤ 2 := by
    cases st with
    | nil => simp
    | inn _ st => cases st with
      | nil => simp
      | inn _ st =>
        cases st with
        | nil => simp
        | inn _ st => rcases hr with ⟨hr, _⟩ | ⟨hr, _⟩ <;> simp at hr
        | free _ _ st => rcases hr with ⟨hr, _⟩ | ⟨hr, _⟩ <;> simp at hr
      | free _ _ st =>
        cases st with
        | nil => simp
        | inn _ st => rcases hr with ⟨hr, _⟩ | ⟨hr, _⟩ <;> simp at hr
        | free _ _ st => rcases hr with ⟨hr, _⟩ | ⟨hr, _⟩ <;> simp at hr
    | free h0 => simp at h0
  have hll' : pre.length + 1 + rest.length ≤ 64 := by simp at hll; omega
  obtain ⟨r5, M5, er, k5, hr5, g5⟩ := p_replaced (M := M4) (nb := nb) (ne := r4) (as := pre) (rest := rest) (news := out) (a := a) (k := ka) (more := more) n4 q4 hpre (by omega)
  have t5 := tuple_lst g5
  have w5 := k5.get w4
  have f5 := k5.get f4
  have i1 : oIx (.ref wy) (.int (-1)) M5 = some (.int m, M5) := ix_lastL (by rw [w5, wl_cons])
  have hpopl : (pops.foldl adel F1).length ≤ F1.length := by
    rcases hpop with rfl | ⟨b, rfl, _⟩
    · exact Nat.le_refl _
    · exact (List.filter_sublist).length_le
  have hb : blkD false (pre ++ (out ++ rest.drop more.length)) = .tup [.str "branch", .tup (pre ++ (out ++ rest.drop more.length))] := rfl
  have hp5 : oPutA (.ref f) (.int m) (blkD false (pre ++ (out ++ rest.drop more.length))) M5 = some (M5.set f (.dct (aput (pops.foldl adel F1) m (blkD false (pre ++ (out ++ rest.drop more.length)))))) := put_dct f5 (by omega)
  refine ⟨some (.ref M.length), y10, some (.ref r4), M5.set f (.dct (aput (pops.foldl adel F1) m (blkD false (pre ++ (out ++ rest.drop more.length))))), out, F1, ?_, st, fl, (((Ke.of k13).trans ke).trans (Ke.of k5)).set _, ((Ke.kp (hk.trans k13) ke z1).trans k5).set z1 _, get_set_eq f5⟩
  rw [seq_step e4, seq_step e5', seq_step e6]
  rw [hb] at hp5 ⊢
  generalize pre ++ (out ++ rest.drop more.length) = o2 at *
  generalize pops.foldl adel F1 = F2 at *
  generalize pre ++ D.tup [.int ka, .int a] :: rest = ps at *
  generalize kindS leaf = kd at *
  simp [dt7, er, t5, i1, hp5]
/-- once around -/
theorem dt_step {M0 : Mem} {b f wy tu : Nat} {w key : Int} {x6 x7 x8 x9 x10 x11 : Option D} {B F : List (Int × D)} {T xs ls rs R : List D} {h : Nat} {n m : Int} {way tou nums N : List Int} (s : DropS B F w key T h n (m :: way) xs tou ls rs R nums N) (hw : 3 ≤ w ∧ w ≤ 64) (good : rowB true T = true) (hF : F.length ≤ 8000)
    (hf : M[f]? = some (.dct F)) (hwy : M[wy]? = some (.lst (wl (n :: m :: way)))) (htu : M[tu]? = some (.lst (tou.map .int))) (h1 : tu ≠ wy) (hk : Kp M0 M) (z1 : M0.length ≤ f) (z2 : M0.length ≤ wy) (z3 : M0.length ≤ tu) (ht : tou.length ≤ 900) :
    ∃ F' xs' tou' ls' rs' R' nums' N' y6 y7 y8 y9 y10 y11 M', dtB (DL b w key f wy tu x6 x7 x8 x9 x10 x11) M = some (.nx (DL b w key f wy tu y6 y7 y8 y9 y10 y11), M') ∧ DropS B F' w key T (h + 1) m way xs' tou' ls' rs' R' nums' N' ∧
      M'[f]? = some (.dct F') ∧ M'[wy]? = some (.lst (wl (m :: way))) ∧ M'[tu]? = some (.lst (tou'.map .int)) ∧ Kp M0 M' ∧ F'.length ≤ F.length + 4 ∧ tou'.length ≤ tou.length + 2 := by
  obtain ⟨hnp, _, hlo, hne⟩ := s.pos hw.1
  have hfw : f ≠ wy := fun z => by rw [z, hwy] at hf; cases hf
  have hft : f ≠ tu := fun z => by rw [z, htu] at hf; cases hf
  rw [wl_cons] at hwy
  have hpop := pop0_lst hwy
  have lw := get_lt hwy
  have lf := get_lt hf
  have lt := get_lt htu
  have goodR : rowB true R = true := by
    have := s.tot
    rw [← this] at good
    exact (rowB_app (rowB_app good).2).1
  obtain ⟨M1, hM1⟩ : ∃ M1, M.set wy (Ob.lst (wl (m :: way))) ++ [Ob.lst [.int n]] = M1 := ⟨_, rfl⟩
  have e0 : dt0 (DL b w key f wy tu x6 x7 x8 x9 x10 x11) M = some (.nx (DL b w key f wy tu (some (.ref M.length)) x7 x8 x9 x10 x11), M1) := by
    rw [← hM1]
    simp [dt0, hwy, hpop]
  have f1 : M1[f]? = some (.dct F) := by rw [← hM1]; exact get_app (by rw [get_set_ne (Ne.symm hfw)]; exact hf)
  have w1 : M1[wy]? = some (.lst (wl (m :: way))) := by rw [← hM1]; exact get_app (get_set_eq hwy)
  have t1 : M1[tu]? = some (.lst (tou.map .int)) := by rw [← hM1]; exact get_app (by rw [get_set_ne (Ne.symm h1)]; exact htu)
  have n1 : M1[M.length]? = some (.lst [.int n]) := by
    rw [← hM1]
    have := get_new (M := M.set wy (Ob.lst (wl (m :: way)))) (o := Ob.lst [.int n])
    simpa using this
  have k1 : Kp M0 M1 := by rw [← hM1]; exact (hk.set z2 _).more _
  have l1 : M1.length = M.length + 1 := by rw [← hM1]; simp
  clear hM1 hpop
  have i6 : oIx (.ref M.length) (.int 0) M1 = some (.int n, M1) := ix_lst n1 (by rw [show (0 : Int) = ((0 : Nat) : Int) from rfl, atI_nat]; rfl)
  have ic : oIx (.ref f) (.int n) M1 = some (blkD (decide (h = 0)) xs, M1) := ix_dct f1 s.cur
  have ic0 : ∀ M, oIx (blkD (decide (h = 0)) xs) (.int 0) M = some (.str (kindS (decide (h = 0))), M) := fun M => ix0
  have ic1 : ∀ M, oIx (blkD (decide (h = 0)) xs) (.int 1) M = some (.tup xs, M) := fun M => ix1
  have iw : oIx (.ref wy) (.int (-1)) M1 = some (.int m, M1) := ix_lastL (by rw [w1, wl_cons])
  have hhalf := p_half w M1
  have e1 : dt1 (DL b w key f wy tu (some (.ref M.length)) x7 x8 x9 x10 x11) M1 = some (.nx (DL b w key f wy tu (some (.ref M.length)) (some (.str (kindS (decide (h = 0))))) x8 x9 x10 x11), M1) := by
    generalize blkD (decide (h = 0)) xs = blk at *
    generalize kindS (decide (h = 0)) = kd at *
    simp [dt1, i6, ic, ic0]
  have e2 : ∀ ps, aget F m = some (blkD false ps) → dt2 (DL b w key f wy tu (some (.ref M.length)) (some (.str (kindS (decide (h = 0))))) x8 x9 x10 x11) M1 = some (.nx (DL b w key f wy tu (some (.ref M.length)) (some (.str (kindS (decide (h = 0))))) (some (.tup ps)) x9 x10 x11), M1) := fun ps hm => by
    have im : oIx (.ref f) (.int m) M1 = some (blkD false ps, M1) := ix_dct f1 hm
    have im1 : ∀ M, oIx (blkD false ps) (.int 1) M = some (.tup ps, M) := fun M => ix1
    generalize blkD false ps = blk at *
    generalize kindS (decide (h = 0)) = kd at *
    simp [dt2, iw, im, im1]
  by_cases hx : (w + 1) / 2 ≤ (xs.length : Int)
  · obtain ⟨k, as, bs, ls', rs', R', nums', N', hm, hnm, has, hwl, s'⟩ := s.one hw.1 hx
    have e3 : dt3 (DL b w key f wy tu (some (.ref M.length)) (some (.str (kindS (decide (h = 0))))) (some (.tup (as ++ .tup [.int k, .int n] :: bs))) x9 x10 x11) M1 = some (.nx (DL b w key f wy tu (some (.ref M.length)) (some (.str (kindS (decide (h = 0))))) (some (.tup (as ++ .tup [.int k, .int n] :: bs))) x9 x10 x11), M1) := by
      have hnlt : ¬ (xs.length : Int) < (w + 1) / 2 := by omega
      generalize as ++ D.tup [.int k, .int n] :: bs = ps at *
      generalize blkD (decide (h = 0)) xs = blk at *
      generalize kindS (decide (h = 0)) = kd at *
      simp [dt3, i6, ic, ic1, hhalf, hnlt]
    obtain ⟨y9, y10, y11, M', out, F1, et, st, fl, ke, kp, f'⟩ := dt_tail (M := M1) (M0 := M0) (b := b) (tu := tu) (key := key) (m := m) (a := n) (ka := k) (leaf := decide (h = 0)) (x9 := x9) (x10 := x10) (x11 := x11) (more := []) (pops := []) (pre := as) (rest := bs) (pl := [(n, xs)]) (zs := xs) (rws := [xs]) f1 w1 n1 k1 z1 hF rfl (fun p hp => by rw [List.mem_singleton.mp hp]; exact s.cur) (by simp) (by have := s.hi; omega) (.inl ⟨rfl, s.hi⟩) (fun x hx => by
      rw [List.mem_singleton.mp hx]
      exact fk_shape s.cont hne goodR) (by simp) (.inl rfl) has (by omega) (by simp)
    cases st with
    | free h0 => simp at h0
    | inn hin st =>
      cases st
      have := Option.some.inj (show some n = some _ from hin)
      subst this
      have lf2 := len_aput (kvs := aput F n (blkD (decide (h = 0)) xs)) (k := m) (d := blkD false (as ++ ([D.tup [.int (fk xs), .int n]] ++ bs)))
      refine ⟨_, _, _, ls', rs', R', nums', N', some (.ref M.length), some (.str (kindS (decide (h = 0)))), some (.tup (as ++ .tup [.int k, .int n] :: bs)), y9, y10, y11, M', ?_, s', by simpa using f', ke.get (Ne.symm hfw) w1, ke.get (Ne.symm hft) t1, kp, by omega, by omega⟩
      unfold dtB
      rw [seq_step e0, seq_step e1, seq_step (e2 _ hm), seq_step e3]
      exact et
  · obtain ⟨k, as, bs, hm, hwl, a, b2, ka, kb, pre, post, ys, zs, hsp, hwho, hpre, has, hbs, ea, eb, hab, ham, hbm, yne, hshp, hzlo, hzhi, hjoin, hsplit⟩ := s.two_ hw.1 good
    have hpsh : ∀ p ∈ pre ++ (D.tup [.int ka, .int a] :: .tup [.int kb, .int b2] :: post), ∃ k z : Int, p = .tup [.int k, .int z] := fun p hp => by
      rw [← hsp] at hp
      rcases List.mem_append.mp hp with hp | hp
      · exact (has p hp).2
      · rcases List.mem_cons.mp hp with rfl | hp
        · exact ⟨_, _, rfl⟩
        · exact hbs p hp
    have hpl64 : (pre ++ (D.tup [.int ka, .int a] :: .tup [.int kb, .int b2] :: post)).length ≤ 64 := by
      rw [← hsp]
      omega
    obtain ⟨rb, M2, ebs, k2, hrb, g2⟩ := p_beside (M := M1) (pre := pre) (post := post) (ka := ka) (a := a) (kb := kb) (b := b2) (n := n) hpsh (by omega) (by
      rcases hwho with ⟨_, h2, h3, _⟩ | ⟨_, h2, h3, _⟩
      · refine .inl ⟨h2, fun p hp => (has p (by rw [h3]; exact List.mem_append_left _ hp)).1, ?_⟩
        have := (has (.tup [.int ka, .int a]) (by rw [h3]; simp)).1
        exact this
      · exact .inr ⟨h2, h3⟩)
    have t2 := k2.get t1
    have hx2 := extend_at (M := M2) (n := tu) (xs := tou.map .int) (es := [.int a, .int b2]) (d := .ref rb) t2 (by show (match M2[rb]? with | some (.lst xs) => some xs | _ => none) = _; rw [g2]) (by simp; omega)
    have hti : tou.map D.int ++ [.int a, .int b2] = (tou ++ [a, b2]).map .int := by simp
    rw [hti] at hx2
    have e3 : dt3 (DL b w key f wy tu (some (.ref M.length)) (some (.str (kindS (decide (h = 0))))) (some (.tup (pre ++ (.tup [.int ka, .int a] :: .tup [.int kb, .int b2] :: post)))) x9 x10 x11) M1 = some (.nx (DL b w key f wy tu (some (.ref rb)) (some (.str (kindS (decide (h = 0))))) (some (.tup (pre ++ (.tup [.int ka, .int a] :: .tup [.int kb, .int b2] :: post)))) x9 x10 x11), M2.set tu (.lst ((tou ++ [a, b2]).map .int))) := by
      have hlt : (xs.length : Int) < (w + 1) / 2 := by omega
      generalize pre ++ (D.tup [.int ka, .int a] :: .tup [.int kb, .int b2] :: post) = ps at *
      generalize blkD (decide (h = 0)) xs = blk at *
      generalize kindS (decide (h = 0)) = kd at *
      generalize (tou ++ [a, b2]).map D.int = tt at *
      simp [dt3, i6, ic, ic1, hhalf, hlt, ebs, hx2, t2]
    have htr : tu ≠ rb := by omega
    have f2 : (M2.set tu (.lst ((tou ++ [a, b2]).map .int)))[f]? = some (.dct F) := by rw [get_set_ne (Ne.symm hft)]; exact k2.get f1
    have w2 : (M2.set tu (.lst ((tou ++ [a, b2]).map .int)))[wy]? = some (.lst (wl (m :: way))) := by rw [get_set_ne h1]; exact k2.get w1
    have n2 : (M2.set tu (.lst ((tou ++ [a, b2]).map .int)))[rb]? = some (.lst ([a, b2].map .int)) := by rw [get_set_ne htr]; exact g2
    have t3 : (M2.set tu (.lst ((tou ++ [a, b2]).map .int)))[tu]? = some (.lst ((tou ++ [a, b2]).map .int)) := get_set_eq t2
    have kk2 : Kp M0 (M2.set tu (.lst ((tou ++ [a, b2]).map .int))) := (k1.trans k2).set z3 _
    generalize M2.set tu (.lst ((tou ++ [a, b2]).map .int)) = M3 at *
    have inb : b2 ∈ akeys F := by rw [← aget_isSome, eb]; rfl
    have hflat : ([(a, ys), (b2, zs)].map (·.2)).flatten = ys ++ zs := by simp
    have hblk : ∀ p ∈ [(a, ys), (b2, zs)], aget F p.1 = some (blkD (decide (h = 0)) p.2) := fun p hp => by
      rcases List.mem_cons.mp hp with rfl | hp
      · exact ea
      · rw [List.mem_singleton.mp hp]
        exact eb
    have shx : ∀ (z : List D), z ≠ [] → (∀ p ∈ z, p ∈ ys ++ zs) → ∃ k v r, z = .tup [.int k, v] :: r := fun z hz hsub => by
      cases z with
      | nil => exact absurd rfl hz
      | cons p r =>
        obtain ⟨k, v, rfl⟩ := hshp p (hsub p List.mem_cons_self)
        exact ⟨k, v, r, rfl⟩
    have hsp2 : pre ++ (D.tup [.int ka, .int a] :: .tup [.int kb, .int b2] :: post) = pre ++ .tup [.int ka, .int a] :: (.tup [.int kb, .int b2] :: post) := rfl
    have hm2 : aget F m = some (blkD false (pre ++ (.tup [.int ka, .int a] :: .tup [.int kb, .int b2] :: post))) := by rw [← hsp]; exact hm
    have e2' := e2 _ hm2
    by_cases hz : ((ys ++ zs).length : Int) ≤ w
    · obtain ⟨ls', rs', R', nums', N', s'⟩ := hjoin hz
      obtain ⟨y9, y10, y11, M', out, F1, et, st, fl, ke, kp, f'⟩ := dt_tail (M := M3) (M0 := M0) (b := b) (tu := tu) (key := key) (m := m) (a := a) (ka := ka) (leaf := decide (h = 0)) (x9 := x9) (x10 := x10) (x11 := x11) (more := [b2]) (pops := [b2]) (pre := pre) (rest := .tup [.int kb, .int b2] :: post) (pl := [(a, ys), (b2, zs)]) (zs := ys ++ zs) (rws := [ys ++ zs]) f2 w2 n2 kk2 z1 hF rfl hblk hflat (by omega) (.inl ⟨rfl, hz⟩) (fun x hx => by
        rw [List.mem_singleton.mp hx]
        exact shx _ (fun z => yne (List.append_eq_nil_iff.mp z).1) (fun p hp => hp)) (by simp) (.inr ⟨b2, rfl, inb⟩) hpre hpl64 (by simp)
      cases st with
      | free h0 => simp at h0
      | inn hin st =>
        cases st
        have := Option.some.inj (show some a = some _ from hin)
        subst this
        have lf1 : (adel (aput F a (blkD (decide (h = 0)) (ys ++ zs))) b2).length ≤ (aput F a (blkD (decide (h = 0)) (ys ++ zs))).length := (List.filter_sublist).length_le
        have lf2 := len_aput (kvs := adel (aput F a (blkD (decide (h = 0)) (ys ++ zs))) b2) (k := m) (d := blkD false (pre ++ ([D.tup [.int (fk (ys ++ zs)), .int a]] ++ post)))
        refine ⟨_, _, _, ls', rs', R', nums', N', some (.ref rb), some (.str (kindS (decide (h = 0)))), some (.tup (pre ++ (.tup [.int ka, .int a] :: .tup [.int kb, .int b2] :: post))), y9, y10, y11, M', ?_, s', by simpa using f', ke.get (Ne.symm hfw) w2, ke.get (Ne.symm hft) t3, kp, by omega, by simp⟩
        unfold dtB
        rw [seq_step e0, seq_step e1, seq_step e2', seq_step e3]
        exact et
    · have hsq : ys ++ zs = (ys ++ zs).take ((ys ++ zs).length / 2) ++ (ys ++ zs).drop ((ys ++ zs).length / 2) := (List.take_append_drop _ _).symm
      have q1 : ((ys ++ zs).take ((ys ++ zs).length / 2)).length = (ys ++ zs).length / 2 := by rw [List.length_take]; omega
      have q2 : ((ys ++ zs).drop ((ys ++ zs).length / 2)).length = (ys ++ zs).length - (ys ++ zs).length / 2 := by rw [List.length_drop]
      have g1 : (w + 1) / 2 ≤ (((ys ++ zs).take ((ys ++ zs).length / 2)).length : Int) ∧ (((ys ++ zs).take ((ys ++ zs).length / 2)).length : Int) ≤ w := by rw [q1]; omega
      have g2' : (w + 1) / 2 ≤ (((ys ++ zs).drop ((ys ++ zs).length / 2)).length : Int) ∧ (((ys ++ zs).drop ((ys ++ zs).length / 2)).length : Int) ≤ w := by rw [q2]; omega
      obtain ⟨ls', rs', R', nums', N', s'⟩ := hsplit _ _ hsq g1 g2'
      obtain ⟨y9, y10, y11, M', out, F1, et, st, fl, ke, kp, f'⟩ := dt_tail (M := M3) (M0 := M0) (b := b) (tu := tu) (key := key) (m := m) (a := a) (ka := ka) (leaf := decide (h = 0)) (x9 := x9) (x10 := x10) (x11 := x11) (more := [b2]) (pops := []) (pre := pre) (rest := .tup [.int kb, .int b2] :: post) (pl := [(a, ys), (b2, zs)]) (zs := ys ++ zs) (rws := [(ys ++ zs).take ((ys ++ zs).length / 2), (ys ++ zs).drop ((ys ++ zs).length / 2)]) f2 w2 n2 kk2 z1 hF rfl hblk hflat (by omega) (.inr ⟨rfl, hz⟩) (fun x hx => by
        rcases List.mem_cons.mp hx with rfl | hx
        · exact shx _ (fun z => by rw [z] at g1; simp at g1; omega) (fun p hp => List.mem_of_mem_take hp)
        · rw [List.mem_singleton.mp hx]
          exact shx _ (fun z => by rw [z] at g2'; simp at g2'; omega) (fun p hp => List.mem_of_mem_drop hp)) (by simp) (.inl rfl) hpre hpl64 (by simp)
      generalize (ys ++ zs).take ((ys ++ zs).length / 2) = u1 at *
      generalize (ys ++ zs).drop ((ys ++ zs).length / 2) = u2 at *
      cases st with
      | free h0 => simp at h0
      | inn hin st =>
        have := Option.some.inj (show some a = some _ from hin)
        subst this
        cases st with
        | free h0 => simp at h0
        | inn hin2 st =>
          cases st
          have := Option.some.inj (show some b2 = some _ from hin2)
          subst this
          have lf2 := len_aput (kvs := aput (aput F a (blkD (decide (h = 0)) u1)) b2 (blkD (decide (h = 0)) u2)) (k := m) (d := blkD false (pre ++ ([D.tup [.int (fk u1), .int a], .tup [.int (fk u2), .int b2]] ++ post)))
          refine ⟨_, _, _, ls', rs', R', nums', N', some (.ref rb), some (.str (kindS (decide (h = 0)))), some (.tup (pre ++ (.tup [.int ka, .int a] :: .tup [.int kb, .int b2] :: post))), y9, y10, y11, M', ?_, s', by simpa using f', ke.get (Ne.symm hfw) w2, ke.get (Ne.symm hft) t3, kp, by omega, by simp⟩
          unfold dtB
          rw [seq_step e0, seq_step e1, seq_step e2', seq_step e3]
          exact et
end BP
/-! BTDropF: drop_from, the whole. -/
namespace BP
open BL
open PySem (Str)
variable {M : Mem}
theorem dt_loop {M0 : Mem} {b f wy tu : Nat} {w key : Int} {B : List (Int × D)} {T : List D} (hw : 3 ≤ w ∧ w ≤ 64) (good : rowB true T = true) (h1 : tu ≠ wy) (z1 : M0.length ≤ f) (z2 : M0.length ≤ wy) (z3 : M0.length ≤ tu) : ∀ (way : List Int) (n : Int) (h : Nat) (F : List (Int × D)) (xs ls rs R : List D) (tou nums N : List Int) (x6 x7 x8 x9 x10 x11 : Option D) (M : Mem),
    DropS B F w key T h n way xs tou ls rs R nums N → F.length + 4 * way.length ≤ 8000 → M[f]? = some (.dct F) → M[wy]? = some (.lst (wl (n :: way))) → M[tu]? = some (.lst (tou.map .int)) → Kp M0 M → tou.length + 2 * way.length ≤ 900 →
    ∃ h' F' xs' R' tou' N' y6 y7 y8 y9 y10 y11 M', mWhile dtT dtB (DL b w key f wy tu x6 x7 x8 x9 x10 x11) M = some (.nx (DL b w key f wy tu y6 y7 y8 y9 y10 y11), M') ∧ DropS B F' w key T h' 0 [] xs' tou' [] [] R' [] N' ∧
      M'[f]? = some (.dct F') ∧ M'[tu]? = some (.lst (tou'.map .int)) ∧ Kp M0 M' ∧ F'.length ≤ F.length + 4 * way.length ∧ tou'.length ≤ tou.length + 2 * way.length
  | [], n, h, F, xs, ls, rs, R, tou, nums, N, x6, x7, x8, x9, x10, x11, M, s, hF, hf, hwy, htu, hk, ht => by
    obtain ⟨rfl, rfl, rfl, rfl⟩ := s.ctx.last
    have hl := len_lst hwy
    have e : (wl [0]).length = 1 := rfl
    rw [e] at hl
    exact ⟨h, F, xs, R, tou, N, x6, x7, x8, x9, x10, x11, M, while_end (by simp [dtT, hl]), s, hf, htu, hk, by simp, by simp⟩
  | m :: way, n, h, F, xs, ls, rs, R, tou, nums, N, x6, x7, x8, x9, x10, x11, M, s, hF, hf, hwy, htu, hk, ht => by
    simp only [List.length_cons] at hF ht
    obtain ⟨F', xs', tou', ls', rs', R', nums', N', y6, y7, y8, y9, y10, y11, M', e, s', f', w', t', k', fl, tl⟩ := dt_step (b := b) (x6 := x6) (x7 := x7) (x8 := x8) (x9 := x9) (x10 := x10) (x11 := x11) s hw good (by omega) hf hwy htu h1 hk z1 z2 z3 (by omega)
    obtain ⟨h'', F'', xs'', R'', tou'', N'', q6, q7, q8, q9, q10, q11, M'', e2, s2, f2, t2, k2, fl2, tl2⟩ := dt_loop hw good h1 z1 z2 z3 way m (h + 1) F' xs' ls' rs' R' tou' nums' N' y6 y7 y8 y9 y10 y11 M' s' (by omega) f' w' t' k' (by omega)
    have hl := len_lst hwy
    have e3 : (wl (n :: m :: way)).length = way.length + 2 := by simp [wl]
    rw [e3] at hl
    refine ⟨h'', F'', xs'', R'', tou'', N'', q6, q7, q8, q9, q10, q11, M'', while_step (M1 := M) ?_ e e2, s2, f2, t2, k2, by simp only [List.length_cons]; omega, by simp only [List.length_cons]; omega⟩
    have : (1 : Int) < ((way.length + 2 : Nat) : Int) := by omega
    simp only [dtT]
    generalize ((way.length + 2 : Nat) : Int) = z at *
    simp [hl, this]
def outK (T : List D) (key : Int) : List D := ltK T key ++ gtK T key
theorem ne_split {T : List D} {key : Int} (h : T.Pairwise fun x y => keyOf x < keyOf y) : T.filter (fun p => !decide (keyOf p = key)) = outK T key := by
  unfold outK
  induction T with
  | nil => rfl
  | cons p T ih =>
    obtain ⟨h1, h2⟩ := List.pairwise_cons.mp h
    have ih := ih h2
    by_cases c : keyOf p < key
    · have e1 : ltK (p :: T) key = p :: ltK T key := List.filter_cons_of_pos (decide_eq_true c)
      have e2 : gtK (p :: T) key = gtK T key := List.filter_cons_of_neg (by simp; omega)
      rw [List.filter_cons_of_pos (by simp; omega), ih, e1, e2]
      rfl
    · have hall : ∀ q ∈ T, key < keyOf q := fun q hq => by
        have := h1 q hq
        omega
      obtain ⟨g1, g2⟩ := gtK_all hall
      have e1 : ltK (p :: T) key = [] := by
        rw [show ltK (p :: T) key = ltK T key from List.filter_cons_of_neg (by simp; omega), g2]
      rw [g1, g2] at ih
      rw [e1]
      by_cases c2 : key < keyOf p
      · have e2 : gtK (p :: T) key = p :: gtK T key := List.filter_cons_of_pos (decide_eq_true c2)
        rw [List.filter_cons_of_pos (by simp; omega), ih, e2, g1]
        rfl
      · have e2 : gtK (p :: T) key = gtK T key := List.filter_cons_of_neg (by simp; omega)
        rw [List.filter_cons_of_neg (by simp; omega), ih, e2, g1]
theorem out_good {T : List D} {key : Int} (h : rowB true T = true) : rowB true (outK T key) = true := by
  rw [rowB_pw] at h ⊢
  obtain ⟨h1, h2⟩ := h
  rw [← ne_split h2]
  exact ⟨fun x hx => h1 x (List.mem_filter.mp hx).1, h2.filter _⟩
theorem p_drop_from {b : Nat} {B : List (Int × D)} {w key : Int} {h : Nat} {T : List D} {nums : List Int} (hb : M[b]? = some (.dct B)) (t : Tree B w h T nums) (hw : 3 ≤ w ∧ w ≤ 64) (hB : B.length ≤ 4000) :
    ∃ r M' C F tou, g_drop_from [.ref b, .int w, .int key] M = some (.ok (.ref r) M') ∧ Done M M' B w (outK T key) r C F tou ∧ ∀ j ∈ akeys F, j ∈ akeys B := by
  have hlow := t.low hB
  have hd : oDict [.ref b] M = some (.ref M.length, M ++ [.dct B]) := dict_dct hb
  obtain ⟨n, way, ls, rs, R, nu0, wy, M2, e1, k12, hwy, w2, c, sb, tot, perm, wlen, goodR⟩ := p_way (M := M ++ [.dct B]) (b := M.length) (key := key) get_new t.sub t.good (by omega)
  have k2 : Kp M M2 := (Kp.app _ _).trans k12
  have f2 : M2[M.length]? = some (.dct B) := k12.get get_new
  simp at hwy
  have hl2 : oList [.ref wy] M2 = some (.ref M2.length, M2 ++ [.lst (wl (n :: way))]) := list_lst w2
  have f3 : (M2 ++ [Ob.lst (wl (n :: way))])[M.length]? = some (.dct B) := get_app f2
  have w3 : (M2 ++ [Ob.lst (wl (n :: way))])[wy]? = some (.lst (wl (n :: way))) := get_app w2
  have n3 : (M2 ++ [Ob.lst (wl (n :: way))])[M2.length]? = some (.lst (wl (n :: way))) := get_new
  have k3 : Kp M (M2 ++ [.lst (wl (n :: way))]) := k2.more _
  have hl2' := get_lt w2
  have hl3 : (M2 ++ [Ob.lst (wl (n :: way))]).length = M2.length + 1 := by simp
  generalize M2 ++ [Ob.lst (wl (n :: way))] = M3 at *
  obtain ⟨s1, s2, s3, _⟩ := sb
  have i1 : ∀ (J : Mem), oIx (.ref wy) (.int (-1)) (M3 ++ J) = some (.int n, M3 ++ J) := fun J => ix_lastL (by rw [get_app w3, wl_cons])
  have i1' : oIx (.ref wy) (.int (-1)) M3 = some (.int n, M3) := ix_lastL (by rw [w3, wl_cons])
  have i2 : oIx (.ref M.length) (.int n) M3 = some (blkD true R, M3) := ix_dct f3 s1
  have i3 : ∀ M, oIx (blkD true R) (.int 1) M = some (.tup R, M) := fun M => ix1
  have hRl : R.length ≤ 64 := by omega
  have hpwR := ((rowB_pw _).mp goodR).2
  let L3 : BL.Loc := DL b w key M.length wy M2.length none none none none none none
  have hi3 : mIter (mBin oIx (mBin oIx (mVar 3) (mBin oIx (mVar 4) (mUn oNeg (mC (.int 1))))) (mC (.int 1))) L3 M3 = some (.ok (Src.map (fun ds => ds) ⟨R, none⟩) M3) := seq_at _ (by
    generalize blkD true R = blk at *
    simp [L3, i1', i2, i3]) src_tup
  have hc := lcG_map (ok := Src.ok (Src.map (fun ds => ds) ⟨R, none⟩)) (g := mName 12) (tt := mT (mBin oNe (mBin oIx (mVar 12) (mC (.int 0))) (mVar 2))) (e := mVar 12) (L := wipeL L3 [12]) (M := M3) (fun p => !decide (keyOf p = key)) (fun d => d) trivial R (fun p hpp => by
    obtain ⟨k, v, rfl, _, _⟩ := pair_shape (((rowB_pw _).mp goodR).1 p hpp)
    have j0 : ∀ M, oIx (.tup [.int k, v]) (.int 0) M = some (.int k, M) := fun M => ix0
    refine ⟨_, rfl, ?_, fun _ => ?_⟩
    · have : keyOf (.tup [.int k, v]) = k := rfl
      rw [this]
      simp [wipeL, L3, j0]
    · simp [wipeL, L3])
  have hm : (R.filter (fun p => !decide (keyOf p = key))).map (fun d => d) = outK R key := by rw [List.map_id', ne_split hpwR]
  rw [hm] at hc
  obtain ⟨hsl1, hsl2⟩ := split_len (key := key) hpwR
  have hol : (outK R key).length = (ltK R key).length + (gtK R key).length := by unfold outK; simp
  have hlc := lc_at hi3 hc (by omega)
  have ht3 : oTuple [.ref M3.length] (M3 ++ [.lst (outK R key)]) = some (.tup (outK R key), M3 ++ [.lst (outK R key)]) := tuple_lst get_new
  have hp3 : oPutA (.ref M.length) (.int n) (blkD true (outK R key)) (M3 ++ [.lst (outK R key)]) = some ((M3 ++ [Ob.lst (outK R key)]).set M.length (.dct (aput B n (blkD true (outK R key))))) := put_dct (get_app f3) (by omega)
  have e3 : b_drop_from_3 L3 M3 = some (.nx L3, (M3 ++ [Ob.lst (outK R key)]).set M.length (.dct (aput B n (blkD true (outK R key))))) := by
    have hb3 : blkD true (outK R key) = .tup [.str "leaf", .tup (outK R key)] := rfl
    rw [hb3] at hp3 ⊢
    have i1q := i1 [Ob.lst (outK R key)]
    generalize outK R key = xs at *
    have v3 : L3[3]? = some (some (.ref M.length)) := rfl
    have v4 : L3[4]? = some (some (.ref wy)) := rfl
    generalize L3 = L at *
    simp only [b_drop_from_3]
    simp [hlc, ht3, v3, v4, i1q, hp3]
  have f4 : ((M3 ++ [Ob.lst (outK R key)]).set M.length (.dct (aput B n (blkD true (outK R key)))))[M.length]? = some (.dct (aput B n (blkD true (outK R key)))) := get_set_eq (get_app f3)
  have w4 : ((M3 ++ [Ob.lst (outK R key)]).set M.length (.dct (aput B n (blkD true (outK R key)))))[wy]? = some (.lst (wl (n :: way))) := by rw [get_set_ne (by omega)]; exact get_app w3
  have n4 : ((M3 ++ [Ob.lst (outK R key)]).set M.length (.dct (aput B n (blkD true (outK R key)))))[M2.length]? = some (.lst (wl (n :: way))) := by rw [get_set_ne (by have := k2.len; omega)]; exact get_app n3
  have k4 : Kp M ((M3 ++ [Ob.lst (outK R key)]).set M.length (.dct (aput B n (blkD true (outK R key))))) := (k3.more _).set (Nat.le_refl _) _
  generalize (M3 ++ [Ob.lst (outK R key)]).set M.length (.dct (aput B n (blkD true (outK R key)))) = M4 at *
  -- the state
  have hfr : ∀ j, j ∈ akeys B ↔ j ∈ n :: (([] : List Int) ++ nu0) := fun j => by
    rw [t.keys, ← perm.mem_iff]
    simp
  have hnd : (n :: (([] : List Int) ++ nu0)).Nodup := by
    have := perm.nodup_iff.mpr t.nd
    simpa using this
  obtain ⟨q1, q2⟩ := List.nodup_cons.mp hnd
  have hin : n ∈ akeys B := (hfr n).mpr List.mem_cons_self
  have hkB : ∀ j, j ∈ akeys (aput B n (blkD true (outK R key))) ↔ j ∈ akeys B := fun j => by
    rw [key_aput]
    exact ⟨fun z => z.elim (fun z => by rw [z]; exact hin) id, .inr⟩
  obtain ⟨sd1, sd2⟩ := c.sides
  have htot : ls ++ (outK R key ++ rs) = outK T key := by
    obtain ⟨z1, z2⟩ := ltK_all sd1
    obtain ⟨z3, z4⟩ := gtK_all sd2
    unfold outK
    rw [← tot, ltK_app, ltK_app, gtK_app, gtK_app, z1, z2, z3, z4]
    simp
  have good2 := out_good (key := key) t.good
  have s0 : DropS B (aput B n (blkD true (outK R key))) w key (outK T key) 0 n way (outK R key) ((n :: way).reverse) ls rs (outK R key) nu0 [] :=
    ⟨c.agree fun j hj => by rw [aget_aput, if_neg (fun z => q1 (by rw [← z]; simpa using hj))], by rw [aget_aput, if_pos rfl]; rfl, ⟨rfl, rfl⟩, htot, hnd, fun j => by rw [hkB, hfr], nodup_aput t.bnd, fun hn => by
      have hnp : 0 < n := by
        have := c.way.2.2 n List.mem_cons_self
        omega
      unfold leastOf at s2
      rw [if_pos hnp] at s2
      omega, by omega, fun z => absurd rfl z, Tch.put (tou := (n :: way).reverse) (fun j hj => absurd rfl hj) (fun j hj => hj) (List.mem_reverse.mpr List.mem_cons_self), fun j hj => List.mem_reverse.mpr hj, fun j hj => (hkB j).mp hj⟩
  have ll0 := len_aput (kvs := B) (k := n) (d := blkD true (outK R key))
  have hwl : (n :: way).length = 1 + h := wlen
  simp only [List.length_cons] at hwl
  obtain ⟨h', F', xs', R', tou', N', y6, y7, y8, y9, y10, y11, M6, eW, s', f6, t6, k6, fl, tl⟩ := dt_loop (M0 := M) (b := b) (f := M.length) (wy := wy) (tu := M2.length) hw good2 (by omega) (Nat.le_refl _) (by omega) (by have := k2.len; omega) way n 0 _ _ ls rs _ ((n :: way).reverse) nu0 [] none none none none none none M4 s0 (by omega) f4 w4 (by rw [n4]; rfl) k4 (by simp; omega)
  simp only [List.length_reverse, List.length_cons] at tl
  have fin : ∀ (F7 : List (Int × D)) (tou7 : List Int) (M7 : Mem), b_drop_from_5 (DL b w key M.length wy M2.length y6 y7 y8 y9 y10 y11) M6 = some (.nx (DL b w key M.length wy M2.length y6 y7 y8 y9 y10 y11), M7) → Kp M M7 → M7[M.length]? = some (.dct F7) → M7[M2.length]? = some (.lst (tou7.map .int)) → Chg B F7 w (outK T key) tou7 → (∀ j ∈ akeys F7, j ∈ akeys B) → tou7.length < 64 → F7.length ≤ B.length + 100 →
      ∃ r M' C F tou, mSeq b_drop_from_5 b_drop_from_6 (DL b w key M.length wy M2.length y6 y7 y8 y9 y10 y11) M6 = some (.rt (.ref r), M') ∧ Done M M' B w (outK T key) r C F tou ∧ ∀ j ∈ akeys F, j ∈ akeys B := by
    intro F7 tou7 M7 e5 k7 f7 t7 hc hold htl hfl
    obtain ⟨r, M9, C, ec, k9, hr9, g9, td⟩ := p_changed (k7.get hb) f7 t7 (t.plain hw.1) (hc.plain hw.1) htl
    refine ⟨r, M9, C, F7, tou7, ?_, ⟨k7.trans k9, g9, by have := k7.len; omega, td, hc, hfl⟩, hold⟩
    rw [seq_step e5]
    simp [b_drop_from_6, ec]
  have e0 : b_drop_from_0 ([some (.ref b), some (.int w), some (.int key)] ++ List.replicate (13 - 3) none) M = some (.nx [some (.ref b), some (.int w), some (.int key), some (.ref M.length), none, none, none, none, none, none, none, none, none], M ++ [.dct B]) := by
    simp [b_drop_from_0, hd]
  have e1' : b_drop_from_1 [some (.ref b), some (.int w), some (.int key), some (.ref M.length), none, none, none, none, none, none, none, none, none] (M ++ [.dct B]) = some (.nx [some (.ref b), some (.int w), some (.int key), some (.ref M.length), some (.ref wy), none, none, none, none, none, none, none, none], M2) := by
    simp [b_drop_from_1, e1]
  have e2 : b_drop_from_2 [some (.ref b), some (.int w), some (.int key), some (.ref M.length), some (.ref wy), none, none, none, none, none, none, none, none] M2 = some (.nx L3, M3) := by
    simp [b_drop_from_2, hl2, L3]
  have e4 : b_drop_from_4 L3 M4 = some (.nx (DL b w key M.length wy M2.length y6 y7 y8 y9 y10 y11), M6) := by
    rw [dt_eq]
    exact eW
  simp only [g_drop_from, b_drop_from, ev_def3]
  rw [seq_step e0, seq_step e1', seq_step e2, seq_step e3, seq_step e4]
  have ir : oIx (.ref M.length) (.int 0) M6 = some (blkD (decide (h' = 0)) xs', M6) := ix_dct f6 s'.cur
  have ir0 : ∀ M, oIx (blkD (decide (h' = 0)) xs') (.int 0) M = some (.str (kindS (decide (h' = 0))), M) := fun M => ix0
  have ir1 : ∀ M, oIx (blkD (decide (h' = 0)) xs') (.int 1) M = some (.tup xs', M) := fun M => ix1
  have hkb := kind_br (M := M6) (decide (h' = 0))
  by_cases hx : h' = 0 ∨ 2 ≤ xs'.length
  · have e5 : b_drop_from_5 (DL b w key M.length wy M2.length y6 y7 y8 y9 y10 y11) M6 = some (.nx (DL b w key M.length wy M2.length y6 y7 y8 y9 y10 y11), M6) := by
      by_cases h0 : h' = 0
      · have hd0 : decide (h' = 0) = true := decide_eq_true h0
        rw [hd0] at ir ir0 ir1 hkb
        generalize blkD true xs' = blk at *
        generalize kindS true = kd at *
        simp [b_drop_from_5, ir, ir0, ir1, hkb]
      · have hd0 : decide (h' = 0) = false := decide_eq_false h0
        rw [hd0] at ir ir0 ir1 hkb
        have hl1 : ¬ ((xs'.length : Int) = 1) := by
          have := hx.resolve_left h0
          omega
        generalize blkD false xs' = blk at *
        generalize kindS false = kd at *
        simp [b_drop_from_5, ir, ir0, ir1, hkb, hl1]
    obtain ⟨r, M', C, F, tou, e56, dn, hold⟩ := fin F' tou' M6 e5 k6 f6 t6 (s'.root good2 hx) s'.old (by omega) (by omega)
    rw [e56]
    exact ⟨_, _, _, _, _, rfl, dn, hold⟩
  · obtain ⟨k, rfl⟩ : ∃ k, h' = k + 1 := ⟨h' - 1, by omega⟩
    have h1 := s'.two (by omega)
    obtain ⟨p, rfl⟩ : ∃ p, xs' = [p] := by
      cases xs' with
      | nil => simp at h1
      | cons p r =>
        cases r with
        | nil => exact ⟨p, rfl⟩
        | cons q r => exact absurd (.inr (by simp)) hx
    obtain ⟨kk, ch, ys, leaf, rfl, hch, hch0, hc⟩ := s'.sink good2
    have hd0 : decide (k + 1 = 0) = false := decide_eq_false (by omega)
    rw [hd0] at ir ir0 ir1 hkb
    have ip : ∀ M, oIx (.tup [.tup [.int kk, .int ch]]) (.int 0) M = some (.tup [.int kk, .int ch], M) := fun M => ix0
    have ip1 : ∀ M, oIx (.tup [.int kk, .int ch]) (.int 1) M = some (.int ch, M) := fun M => ix1
    have happ : oAppend (.ref M2.length) [.int ch] M6 = some (.non, M6.set M2.length (.lst ((tou' ++ [ch]).map .int))) := by
      rw [append_lst t6 (by simp; omega), List.map_append]
      rfl
    have hM2 := k2.len
    have hM2' : M.length ≠ M2.length := by omega
    have f7 : (M6.set M2.length (.lst ((tou' ++ [ch]).map .int)))[M.length]? = some (.dct F') := by rw [get_set_ne (by omega)]; exact f6
    have t7 : (M6.set M2.length (.lst ((tou' ++ [ch]).map .int)))[M2.length]? = some (.lst ((tou' ++ [ch]).map .int)) := get_set_eq t6
    have k7 : Kp M (M6.set M2.length (.lst ((tou' ++ [ch]).map .int))) := k6.set hM2 _
    generalize M6.set M2.length (.lst ((tou' ++ [ch]).map .int)) = M7 at *
    have ir7 : oIx (.ref M.length) (.int 0) M7 = some (blkD false [.tup [.int kk, .int ch]], M7) := ix_dct f7 (by rw [s'.cur, hd0])
    have hpp : oPopD1 (.ref M.length) (.int ch) M7 = some (blkD leaf ys, M7.set M.length (.dct (adel F' ch))) := pop1_dct f7 hch
    have hput : oPutA (.ref M.length) (.int 0) (blkD leaf ys) (M7.set M.length (.dct (adel F' ch))) = some ((M7.set M.length (.dct (adel F' ch))).set M.length (.dct (aput (adel F' ch) 0 (blkD leaf ys)))) := put_dct (get_set_eq f7) (by
      have : (adel F' ch).length ≤ F'.length := (List.filter_sublist).length_le
      omega)
    have e5 : b_drop_from_5 (DL b w key M.length wy M2.length y6 y7 y8 y9 y10 y11) M6 = some (.nx (DL b w key M.length wy M2.length y6 y7 y8 y9 y10 y11), (M7.set M.length (.dct (adel F' ch))).set M.length (.dct (aput (adel F' ch) 0 (blkD leaf ys)))) := by
      generalize blkD false [D.tup [.int kk, .int ch]] = blk at *
      generalize blkD leaf ys = blk2 at *
      generalize kindS false = kd at *
      generalize aput (adel F' ch) 0 blk2 = F3 at *
      simp [b_drop_from_5, ir, ir0, ir1, hkb, ip, ip1, happ, t6, ir7, hpp, hput, f7]
    obtain ⟨r, M', C, F, tou, e56, dn, hold⟩ := fin _ (tou' ++ [ch]) _ e5 ((k7.set (Nat.le_refl _) _).set (Nat.le_refl _) _) (get_set_eq (get_set_eq f7)) (by rw [get_set_ne hM2', get_set_ne hM2']; exact t7) hc (fun j hj => by
      rcases key_aput.mp hj with rfl | hj
      · exact (t.keys 0).mpr (by obtain ⟨ns, rfl⟩ := t.sub.self; exact List.mem_cons_self)
      · exact s'.old j (key_adel.mp hj).2) (by simp; omega) (by
      have l1 : (adel F' ch).length ≤ F'.length := (List.filter_sublist).length_le
      have l2 := len_aput (kvs := adel F' ch) (k := 0) (d := blkD leaf ys)
      omega)
    rw [e56]
    exact ⟨_, _, _, _, _, rfl, dn, hold⟩
end BP
/-! BTRow: the laws' own walk over a sound tree. -/
namespace BP
open BL
open PySem (Str)
variable {M : Mem}
theorem p_lwhole {i : Int} : g_law_whole [.int i] M = some (.ok (.bl true) M) := by
  simp only [g_law_whole, b_law_whole, ev_def1]
  simp [b_law_whole_0]
theorem notIn_kind (leaf : Bool) : oNotIn (.str (kindS leaf)) (.tup [.str "leaf", .str "branch"]) M = some (.bl false, M) := by
  cases leaf
  · show some (D.bl (!decide (kindS false ∈ [leafS, branchS])), M) = _
    rw [decide_eq_true (by show branchS ∈ [leafS, branchS]; simp)]
    rfl
  · show some (D.bl (!decide (kindS true ∈ [leafS, branchS])), M) = _
    rw [decide_eq_true (by show leafS ∈ [leafS, branchS]; simp)]
    rfl
theorem kind_lf (leaf : Bool) : oEq (.str (kindS leaf)) (.str "leaf") M = some (.bl leaf, M) := by
  cases leaf <;> exact oEq_strs (by decide +kernel) (by decide +kernel) (by decide +kernel)
noncomputable def lg0 : GS := mIte (mOr (mNot (mT (mUn (oIsi "tuple") (mVar 4)))) (mOr (mT (mBin oNe (mCB oLen (mCons (mVar 4) mNil)) (mC (.int 2)))) (mNot (mT (mCall g_law_whole (mCons (mBin oIx (mVar 4) (mC (.int 0))) mNil)))))) (mRet (mC (.bl false))) mSkip
noncomputable def lg1 : GS := mIte (mAnd (mT (mBin oGt (mVar 3) (mC (.int 0)))) (mT (mBin oLe (mBin oIx (mVar 4) (mC (.int 0))) (mBin oIx (mBin oIx (mBin oIx (mVar 0) (mC (.int 1))) (mBin oSub (mVar 3) (mC (.int 1)))) (mC (.int 0)))))) (mRet (mC (.bl false))) mSkip
noncomputable def lg2 : GS := mIte (mAnd (mT (mBin oEq (mBin oIx (mVar 0) (mC (.int 0))) (mC (.str "leaf")))) (mNot (mT (mUn (oIsi "str") (mBin oIx (mVar 4) (mC (.int 1))))))) (mRet (mC (.bl false))) mSkip
noncomputable def lg3 : GS := mIte (mAnd (mT (mBin oEq (mBin oIx (mVar 0) (mC (.int 0))) (mC (.str "branch")))) (mNot (mT (mCall g_law_whole (mCons (mBin oIx (mVar 4) (mC (.int 1))) mNil))))) (mRet (mC (.bl false))) mSkip
noncomputable def lgB : GS := mSeq lg0 (mSeq lg1 (mSeq lg2 lg3))
theorem lg_eq : b_law_good_2 = mFor (mEnum (mBin oIx (mVar 0) (mC (.int 1)))) (mName2 3 4) lgB := rfl
theorem p_lgood {leaf : Bool} {ds : List D} {least most : Int} (hr : rowB leaf ds = true) (h1 : least ≤ ds.length) (h2 : (ds.length : Int) ≤ most) : g_law_good [blkD leaf ds, .int least, .int most] M = some (.ok (.bl true) M) := by
  obtain ⟨hp, hup⟩ := (rowB_iff _ _).mp hr
  have ib0 : ∀ M, oIx (blkD leaf ds) (.int 0) M = some (.str (kindS leaf), M) := fun M => ix0
  have ib1 : ∀ M, oIx (blkD leaf ds) (.int 1) M = some (.tup ds, M) := fun M => ix1
  have t1 : ∀ M, oIsi "tuple" (blkD leaf ds) M = some (.bl true, M) := fun M => isi_tup_tuple
  have t2 : ∀ M, oLen [blkD leaf ds] M = some (.int 2, M) := fun M => rfl
  have t3 : ∀ M, oIsi "str" (.str (kindS leaf)) M = some (.bl true, M) := fun M => isi_str_str
  have t4 := notIn_kind (M := M) leaf
  have t5 := kind_lf (M := M) leaf
  have t6 := kind_br (M := M) leaf
  generalize blkD leaf ds = blk at *
  generalize kindS leaf = kd at *
  have e0 : b_law_good_0 [some blk, some (.int least), some (.int most), none, none] M = some (.nx [some blk, some (.int least), some (.int most), none, none], M) := by
    simp [b_law_good_0, t1, t2, ib1]
  have e1 : b_law_good_1 [some blk, some (.int least), some (.int most), none, none] M = some (.nx [some blk, some (.int least), some (.int most), none, none], M) := by
    simp [b_law_good_1, ib0, ib1, t3, t4, h1, h2]
  have hi : mEnum (mBin oIx (mVar 0) (mC (.int 1))) [some blk, some (.int least), some (.int most), none, none] M = some (.ok (Src.map (pairUp 0) ⟨ds, none⟩) M) := seq_at _ (by simp [ib1]) src_tup
  obtain ⟨L', M', e, y, z, rfl, rfl⟩ := forG_run (ok := Src.ok (Src.map (pairUp 0) ⟨ds, none⟩)) (g := mName2 3 4) (body := lgB)
    (fun k L M' => ∃ y z, L = [some blk, some (.int least), some (.int most), y, z] ∧ M' = M) (pairUp 0 ds)
    (fun k L M' d hd ⟨y, z, hL, hM⟩ => by
      subst hL hM
      refine ⟨trivial, ?_⟩
      rw [pairUp_get] at hd
      cases hx : ds[k]? with
      | none => rw [hx] at hd; cases hd
      | some p =>
        rw [hx] at hd
        have hd := Option.some.inj hd
        subst hd
        obtain ⟨kk, v, rfl, hk, hv⟩ := pair_shape (hp p (List.mem_of_getElem? hx))
        have j0 : ∀ M, oIx (.tup [.int kk, v]) (.int 0) M = some (.int kk, M) := fun M => ix0
        have j1 : ∀ M, oIx (.tup [.int kk, v]) (.int 1) M = some (v, M) := fun M => ix1
        have jt : ∀ M, oIsi "tuple" (.tup [.int kk, v]) M = some (.bl true, M) := fun M => isi_tup_tuple
        have jl : ∀ M, oLen [.tup [.int kk, v]] M = some (.int 2, M) := fun M => rfl
        refine ⟨_, ev_name2, [some blk, some (.int least), some (.int most), some (.int ((0 + k : Nat) : Int)), some (.tup [.int kk, v])], M', ?_, _, _, rfl, rfl⟩
        show lgB [some blk, some (.int least), some (.int most), some (.int ((0 + k : Nat) : Int)), some (.tup [.int kk, v])] M' = _
        rw [Nat.zero_add]
        have s0 : lg0 [some blk, some (.int least), some (.int most), some (.int (k : Int)), some (.tup [.int kk, v])] M' = some (.nx [some blk, some (.int least), some (.int most), some (.int (k : Int)), some (.tup [.int kk, v])], M') := by
          simp [lg0, jt, jl, j0, p_lwhole]
        have s1 : lg1 [some blk, some (.int least), some (.int most), some (.int (k : Int)), some (.tup [.int kk, v])] M' = some (.nx [some blk, some (.int least), some (.int most), some (.int (k : Int)), some (.tup [.int kk, v])], M') := by
          cases k with
          | zero => simp [lg1]
          | succ j =>
            have hjl : j < ds.length := by
              have := (List.getElem?_eq_some_iff.mp hx).1
              omega
            obtain ⟨kj, vj, ej, _, _⟩ := pair_shape (hp ds[j] (List.getElem_mem hjl))
            have hlt := hup j ds[j] _ (List.getElem?_eq_getElem hjl) hx
            rw [ej] at hlt
            have hlt : kj < kk := hlt
            have jx : oIx (.tup ds) (.int (j : Int)) M' = some (.tup [.int kj, vj], M') := ix_tup (by rw [atI_nat, List.getElem?_eq_getElem hjl, ej])
            have jx0 : oIx (.tup [.int kj, vj]) (.int 0) M' = some (.int kj, M') := ix0
            have hpos : (0 : Int) < (j : Int) + 1 := by omega
            have hsub : (j : Int) + 1 - 1 = j := by omega
            have hnle : ¬ kk ≤ kj := by omega
            rw [show ((j + 1 : Nat) : Int) = (j : Int) + 1 by push_cast; rfl]
            simp [lg1, hpos, j0, ib1, hsub, jx, jx0, hnle]
        have s2 : lg2 [some blk, some (.int least), some (.int most), some (.int (k : Int)), some (.tup [.int kk, v])] M' = some (.nx [some blk, some (.int least), some (.int most), some (.int (k : Int)), some (.tup [.int kk, v])], M') := by
          cases leaf with
          | false => simp [lg2, ib0, t5]
          | true =>
            rw [if_pos rfl] at hv
            cases v with
            | str sv =>
              have q : ∀ M, oIsi "str" (.str sv) M = some (.bl true, M) := fun M => isi_str_str
              simp [lg2, ib0, t5, j1, q]
            | _ => cases hv
        have s3 : lg3 [some blk, some (.int least), some (.int most), some (.int (k : Int)), some (.tup [.int kk, v])] M' = some (.nx [some blk, some (.int least), some (.int most), some (.int (k : Int)), some (.tup [.int kk, v])], M') := by
          cases leaf with
          | true => simp [lg3, ib0, t6]
          | false =>
            rw [if_neg Bool.false_ne_true] at hv
            cases v with
            | int iv => simp [lg3, ib0, t6, j1, p_lwhole]
            | _ => cases hv
        unfold lgB
        rw [seq_step s0, seq_step s1, seq_step s2]
        exact s3)
    (fun L M' h => trivial) (L := [some blk, some (.int least), some (.int most), none, none]) (M := M) ⟨none, none, rfl, rfl⟩
  have e2 : b_law_good_2 [some blk, some (.int least), some (.int most), none, none] M' = some (.nx [some blk, some (.int least), some (.int most), y, z], M') := by
    rw [lg_eq, for_at hi]
    exact e
  simp only [g_law_good, b_law_good, ev_def3]
  show endS (mSeq b_law_good_0 _ [some blk, some (.int least), some (.int most), none, none] M') = _
  rw [seq_step e0, seq_step e1, seq_step e2]
  simp [b_law_good_3]
/-! the walk -/
noncomputable def roT : GT := mT (mBin oGt (mCB oLen (mCons (mVar 5) mNil)) (mC (.int 0)))
noncomputable def ro0 : GS := mSet 6 (mMtL oPop0 (mVar 5) mNil)
noncomputable def ro1 : GS := mSet 7 (mBin oDiv (mBin oAdd (mVar 1) (mC (.int 1))) (mC (.int 2)))
noncomputable def ro2 : GS := mIte (mT (mBin oEq (mBin oIx (mVar 6) (mC (.int 0))) (mC (.int 0)))) (mSet 7 (mC (.int 0))) mSkip
noncomputable def ro3 : GS := mSet 8 (mMtD oGet1 (mVar 0) (mBin oIx (mVar 6) (mC (.int 0))))
noncomputable def ro4 : GS := mIte (mOr (mT (mBin oIn (mBin oIx (mVar 6) (mC (.int 0))) (mVar 3))) (mNot (mT (mCall g_law_good (mCons (mVar 8) (mCons (mVar 7) (mCons (mVar 1) mNil))))))) (mRet (mC .non)) mSkip
noncomputable def ro5 : GS := mPut oPutA (mVar 3) (mBin oIx (mVar 6) (mC (.int 0))) (mC (.bl true))
noncomputable def ro6 : GS := mIte (mAnd (mT (mBin oIsNot (mBin oIx (mVar 6) (mC (.int 2))) (mC .non))) (mT (mBin oNe (mBin oIx (mBin oIx (mBin oIx (mVar 8) (mC (.int 1))) (mC (.int 0))) (mC (.int 0))) (mBin oIx (mVar 6) (mC (.int 2)))))) (mRet (mC .non)) mSkip
noncomputable def ro7b : GS := mExpr (mMtL oAppend (mVar 5) (mCons (mTup (mCons (mBin oIx (mVar 9) (mC (.int 1))) (mCons (mBin oAdd (mBin oIx (mVar 6) (mC (.int 1))) (mC (.int 1))) (mCons (mBin oIx (mVar 9) (mC (.int 0))) mNil)))) mNil))
noncomputable def ro7 : GS := mIte (mT (mBin oEq (mBin oIx (mVar 8) (mC (.int 0))) (mC (.str "leaf")))) (mSeq (mIte (mAnd (mT (mBin oIsNot (mVar 4) (mC .non))) (mT (mBin oNe (mVar 4) (mBin oIx (mVar 6) (mC (.int 1)))))) (mRet (mC .non)) mSkip) (mSeq (mSet 4 (mBin oIx (mVar 6) (mC (.int 1)))) (mSet 2 (mBin oAdd (mVar 2) (mCB oList (mCons (mBin oIx (mVar 8) (mC (.int 1))) mNil)))))) (mIte (mT (mBin oLt (mCB oLen (mCons (mBin oIx (mVar 8) (mC (.int 1))) mNil)) (mC (.int 2)))) (mRet (mC .non)) (mFor (mRev (mBin oIx (mVar 8) (mC (.int 1)))) (mName 9) ro7b))
noncomputable def roB : GS := mSeq ro0 (mSeq ro1 (mSeq ro2 (mSeq ro3 (mSeq ro4 (mSeq ro5 (mSeq ro6 ro7))))))
theorem ro_eq : b_law_row_of_4 = mWhile roT roB := rfl
abbrev RL (b : Nat) (w : Int) (row sn : Nat) (deep : D) (td : Nat) (x6 x7 x8 x9 : Option D) : BL.Loc := [some (.ref b), some (.int w), some (.ref row), some (.ref sn), some deep, some (.ref td), x6, x7, x8, x9, none]
structure RoS (M M' : Mem) (row sn td : Nat) (S : List Tl) (acc : List D) (N : List (Int × D)) (nums : List Int) : Prop where
  kp : Kp M M'
  sn_ : M.length ≤ sn
  td_ : M.length ≤ td
  ne : row ≠ td
  r : M'[row]? = some (.lst acc)
  s : M'[sn]? = some (.dct N)
  t : M'[td]? = some (.lst ((S.map Tl.v).reverse))
  keys : akeys N = nums
theorem ro_step {b row sn td : Nat} {w H : Int} {deep : D} {x6 x7 x8 x9 : Option D} {M' : Mem} {B N : List (Int × D)} {t : Tl} {rest : List Tl} {acc : List D} {nums : List Int} (hb : M[b]? = some (.dct B)) (s : RoS M M' row sn td (t :: rest) acc N nums) (ho : okT B w t = true) (hw : 3 ≤ w ∧ w ≤ 64) (hn : t.n ∉ nums) (h0 : 0 ≤ t.n) (hd : leafB (blkOf B t.n) = true → t.d = H) (hdeep : deep = .non ∨ deep = .int H) (hkn : t.k ≠ none → 0 < t.n) (hl : rest.length ≤ 1000000) (hN : N.length ≤ 100000) (ha : acc.length ≤ 1000000) :
    ∃ row' deep' y6 y7 y8 y9 M'', roB (RL b w row sn deep td x6 x7 x8 x9) M' = some (.nx (RL b w row' sn deep' td y6 y7 y8 y9), M'') ∧ RoS M M'' row' sn td (kids B t ++ rest) (acc ++ rowsT B t) (aput N t.n (.bl true)) (nums ++ [t.n]) ∧ (deep' = .non ∨ deep' = .int H) := by
  obtain ⟨leaf, rows, hg, hlf, hpr, hrow, h1, h2, hko, h3⟩ := okT_block ho
  have hst : sn ≠ td := fun z => by
    have h1 := s.s
    rw [z, s.t] at h1
    cases h1
  have hrs : row ≠ sn := fun z => by
    have h1 := s.r
    rw [z, s.s] at h1
    cases h1
  have htd : M'[td]? = some (.lst ((rest.map Tl.v).reverse ++ [t.v])) := by rw [s.t]; simp
  have hpop := pop0_lst htd
  have e0 : ro0 (RL b w row sn deep td x6 x7 x8 x9) M' = some (.nx (RL b w row sn deep td (some t.v) x7 x8 x9), M'.set td (.lst ((rest.map Tl.v).reverse))) := by
    simp [ro0, htd, hpop]
  obtain ⟨M1, hM1⟩ : ∃ M1, M'.set td (Ob.lst ((rest.map Tl.v).reverse)) = M1 := ⟨_, rfl⟩
  rw [hM1] at e0
  have k1 : Kp M M1 := by rw [← hM1]; exact s.kp.set s.td_ _
  have t1 : M1[td]? = some (.lst ((rest.map Tl.v).reverse)) := by rw [← hM1]; exact get_set_eq htd
  have s1 : M1[sn]? = some (.dct N) := by rw [← hM1, get_set_ne (Ne.symm hst)]; exact s.s
  have r1 : M1[row]? = some (.lst acc) := by rw [← hM1, get_set_ne (Ne.symm s.ne)]; exact s.r
  clear hM1 hpop htd
  have tv0 : ∀ M, oIx t.v (.int 0) M = some (.int t.n, M) := fun M => ix0
  have tv1 : ∀ M, oIx t.v (.int 1) M = some (.int t.d, M) := fun M => ix1
  have tv2 : ∀ M, oIx t.v (.int 2) M = some (match t.k with | none => .non | some k => .int k, M) := fun M => ix2
  have e1 : ro1 (RL b w row sn deep td (some t.v) x7 x8 x9) M1 = some (.nx (RL b w row sn deep td (some t.v) (some (.int ((w + 1) / 2))) x8 x9), M1) := by
    generalize t.v = tv at *
    simp [ro1]
  have e2 : ro2 (RL b w row sn deep td (some t.v) (some (.int ((w + 1) / 2))) x8 x9) M1 = some (.nx (RL b w row sn deep td (some t.v) (some (.int (leastOf w t.n))) x8 x9), M1) := by
    unfold leastOf
    generalize t.v = tv at *
    by_cases h : 0 < t.n
    · have hne : ¬ t.n = 0 := by omega
      simp [ro2, tv0, h, hne]
    · have he : t.n = 0 := by omega
      simp [ro2, tv0, he]
  have hget : oGet1 (.ref b) (.int t.n) M1 = some (blkD leaf rows, M1) := by
    rw [get1_dct (k1.get hb), hg]
    rfl
  have hb1 := k1.get hb
  have hgood := p_lgood (M := M1) hrow h1 h2
  have hin : oIn (.int t.n) (.ref sn) M1 = some (.bl false, M1) := by
    rw [in_dct s1]
    have : (aget N t.n).isSome = false := by
      cases h : (aget N t.n).isSome with
      | false => rfl
      | true =>
        rw [aget_isSome, s.keys] at h
        exact absurd h hn
    rw [this]
  have e3 : ro3 (RL b w row sn deep td (some t.v) (some (.int (leastOf w t.n))) x8 x9) M1 = some (.nx (RL b w row sn deep td (some t.v) (some (.int (leastOf w t.n))) (some (blkD leaf rows)) x9), M1) := by
    generalize t.v = tv at *
    generalize blkD leaf rows = blk at *
    simp [ro3, tv0, hget, hb1]
  have e4 : ro4 (RL b w row sn deep td (some t.v) (some (.int (leastOf w t.n))) (some (blkD leaf rows)) x9) M1 = some (.nx (RL b w row sn deep td (some t.v) (some (.int (leastOf w t.n))) (some (blkD leaf rows)) x9), M1) := by
    generalize t.v = tv at *
    generalize blkD leaf rows = blk at *
    simp [ro4, tv0, hin, hgood]
  have hput : oPutA (.ref sn) (.int t.n) (.bl true) M1 = some (M1.set sn (.dct (aput N t.n (.bl true)))) := put_dct s1 (by omega)
  have e5 : ro5 (RL b w row sn deep td (some t.v) (some (.int (leastOf w t.n))) (some (blkD leaf rows)) x9) M1 = some (.nx (RL b w row sn deep td (some t.v) (some (.int (leastOf w t.n))) (some (blkD leaf rows)) x9), M1.set sn (.dct (aput N t.n (.bl true)))) := by
    generalize t.v = tv at *
    generalize blkD leaf rows = blk at *
    simp [ro5, tv0, hput]
  have k2 : Kp M (M1.set sn (.dct (aput N t.n (.bl true)))) := k1.set s.sn_ _
  have s2 : (M1.set sn (.dct (aput N t.n (.bl true))))[sn]? = some (.dct (aput N t.n (.bl true))) := get_set_eq s1
  have t2 : (M1.set sn (.dct (aput N t.n (.bl true))))[td]? = some (.lst ((rest.map Tl.v).reverse)) := by rw [get_set_ne hst]; exact t1
  have r2 : (M1.set sn (.dct (aput N t.n (.bl true))))[row]? = some (.lst acc) := by rw [get_set_ne (Ne.symm hrs)]; exact r1
  generalize M1.set sn (.dct (aput N t.n (.bl true))) = M2 at *
  have kN : akeys (aput N t.n (.bl true)) = nums ++ [t.n] := by
    rw [akeys_aput, if_neg (by rw [s.keys]; exact hn), s.keys]
  have ib0 : ∀ M, oIx (blkD leaf rows) (.int 0) M = some (.str (kindS leaf), M) := fun M => ix0
  have ib1 : ∀ M, oIx (blkD leaf rows) (.int 1) M = some (.tup rows, M) := fun M => ix1
  have e6 : ro6 (RL b w row sn deep td (some t.v) (some (.int (leastOf w t.n))) (some (blkD leaf rows)) x9) M2 = some (.nx (RL b w row sn deep td (some t.v) (some (.int (leastOf w t.n))) (some (blkD leaf rows)) x9), M2) := by
    unfold keyOk at hko
    cases hk : t.k with
    | none =>
      rw [hk] at tv2
      dsimp only at tv2
      generalize t.v = tv at *
      generalize blkD leaf rows = blk at *
      simp [ro6, tv2, isNon]
    | some k =>
      rw [hk] at tv2 hko
      dsimp only at tv2
      have hko := of_decide_eq_true hko
      have hbo : blkOf B t.n = blkD leaf rows := by unfold blkOf; rw [hg]; rfl
      rw [hbo] at hko
      cases rows with
      | nil =>
        have := hkn (by rw [hk]; exact fun z => by cases z)
        unfold leastOf at h1
        rw [if_pos this] at h1
        simp at h1
        omega
      | cons p r =>
        obtain ⟨kp, vp, rfl, _, _⟩ := pair_shape (((rowB_pw _).mp hrow).1 p List.mem_cons_self)
        have hko : kp = k := hko
        have q0 : ∀ M, oIx (.tup (.tup [.int kp, vp] :: r)) (.int 0) M = some (.tup [.int kp, vp], M) := fun M => ix0
        have q1 : ∀ M, oIx (.tup [.int kp, vp]) (.int 0) M = some (.int kp, M) := fun M => ix0
        subst hko
        generalize t.v = tv at *
        generalize blkD leaf (.tup [.int kp, vp] :: r) = blk at *
        simp [ro6, tv2, isNon, ib1, q0, q1]
  have e06 : ∀ r, ro7 (RL b w row sn deep td (some t.v) (some (.int (leastOf w t.n))) (some (blkD leaf rows)) x9) M2 = r → roB (RL b w row sn deep td x6 x7 x8 x9) M' = r := fun r e => by
    unfold roB
    rw [seq_step e0, seq_step e1, seq_step e2, seq_step e3, seq_step e4, seq_step e5, seq_step e6]
    exact e
  clear e0 e1 e2 e3 e4 e5 e6
  have hlk := kind_lf (M := M2) leaf
  cases leaf with
  | true =>
    have hkids : kids B t = [] := by unfold kids; rw [if_pos hlf]
    have hrt : rowsT B t = rows := by unfold rowsT; rw [if_pos hlf, hpr]
    have hdd := hd hlf
    have hll : oList [.tup rows] M2 = some (.ref M2.length, M2 ++ [.lst rows]) := rfl
    have hadd : oAdd (.ref row) (.ref M2.length) (M2 ++ [.lst rows]) = some (.ref (M2 ++ [Ob.lst rows]).length, M2 ++ [.lst rows] ++ [.lst (acc ++ rows)]) := add_lst (get_app r2) get_new (by omega)
    rw [hkids, hrt]
    refine ⟨(M2 ++ [Ob.lst rows]).length, .int t.d, some t.v, some (.int (leastOf w t.n)), some (blkD true rows), x9, M2 ++ [.lst rows] ++ [.lst (acc ++ rows)], e06 _ ?_, ⟨(k2.more _).more _, s.sn_, s.td_, ?_, get_new, get_app (get_app s2), get_app (get_app (by rw [List.nil_append]; exact t2)), kN⟩, .inr (by rw [hdd])⟩
    · generalize t.v = tv at *
      generalize blkD true rows = blk at *
      generalize kindS true = kd at *
      generalize (M2 ++ [Ob.lst rows]).length = q at *
      rcases hdeep with rfl | rfl
      · simp [ro7, ib0, ib1, hlk, tv1, isNon, hll, hadd, -List.append_assoc]
      · simp [ro7, ib0, ib1, hlk, tv1, isNon, hdd, hll, hadd, -List.append_assoc]
    · have := get_lt t2
      simp
      omega
  | false =>
    have h3 := h3 rfl
    have hkids : kids B t = rows.map fun p => (⟨numOf p, t.d + 1, some (keyOf p)⟩ : Tl) := by unfold kids; rw [if_neg (by rw [hlf]; simp), hpr]
    have hrt : rowsT B t = [] := by unfold rowsT; rw [if_neg (by rw [hlf]; simp)]
    have hall := ((rowB_iff false rows).mp hrow).1
    let kv : D → D := fun p => Tl.v ⟨numOf p, t.d + 1, some (keyOf p)⟩
    have hi : mRev (mBin oIx (mVar 8) (mC (.int 1))) (RL b w row sn deep td (some t.v) (some (.int (leastOf w t.n))) (some (blkD false rows)) x9) M2 = some (.ok (Src.map List.reverse ⟨rows, none⟩) M2) := seq_at _ (by
      generalize t.v = tv at *
      generalize blkD false rows = blk at *
      simp [ib1]) src_tup
    obtain ⟨L', M3, e, y9, rfl, rfl⟩ := forG_run (ok := Src.ok (Src.map List.reverse ⟨rows, none⟩)) (g := mName 9) (body := ro7b)
      (fun k L M3 => ∃ y9, L = RL b w row sn deep td (some t.v) (some (.int (leastOf w t.n))) (some (blkD false rows)) y9 ∧ M3 = M2.set td (.lst ((rest.map Tl.v).reverse ++ (rows.reverse.take k).map kv))) rows.reverse
      (fun k L M3 d hdk ⟨y9, hL, hM⟩ => by
        subst hL hM
        refine ⟨trivial, _, rfl, ?_⟩
        obtain ⟨kk, n, rfl⟩ := branch_pair (hall d (List.mem_reverse.mp (List.mem_of_getElem? hdk)))
        have j0 : ∀ M, oIx (.tup [.int kk, .int n]) (.int 0) M = some (.int kk, M) := fun M => ix0
        have j1 : ∀ M, oIx (.tup [.int kk, .int n]) (.int 1) M = some (.int n, M) := fun M => ix1
        have ht3 : (M2.set td (.lst ((rest.map Tl.v).reverse ++ (rows.reverse.take k).map kv)))[td]? = some (.lst ((rest.map Tl.v).reverse ++ (rows.reverse.take k).map kv)) := get_set_eq t2
        have happ : oAppend (.ref td) [.tup [.int n, .int (t.d + 1), .int kk]] (M2.set td (.lst ((rest.map Tl.v).reverse ++ (rows.reverse.take k).map kv))) = some (.non, M2.set td (.lst ((rest.map Tl.v).reverse ++ (rows.reverse.take (k + 1)).map kv))) := by
          have htk : (rest.map Tl.v).reverse ++ (rows.reverse.take k).map kv ++ [.tup [.int n, .int (t.d + 1), .int kk]] = (rest.map Tl.v).reverse ++ (rows.reverse.take (k + 1)).map kv := by
            have hkl := (List.getElem?_eq_some_iff.mp hdk).1
            rw [List.take_succ_eq_append_getElem hkl, (List.getElem?_eq_some_iff.mp hdk).2, List.map_append, ← List.append_assoc]
            rfl
          rw [append_lst ht3 (by simp; omega), htk, List.set_set]
        refine ⟨RL b w row sn deep td (some t.v) (some (.int (leastOf w t.n))) (some (blkD false rows)) (some (.tup [.int kk, .int n])), _, ?_, _, rfl, rfl⟩
        clear e06 hlk ib0 ib1
        generalize t.v = tv at *
        generalize blkD false rows = blk at *
        generalize M2.set td (.lst ((rest.map Tl.v).reverse ++ (rows.reverse.take (k + 1)).map kv)) = M5 at *
        generalize (rest.map Tl.v).reverse ++ (rows.reverse.take k).map kv = ls at *
        generalize M2.set td (.lst ls) = M4 at *
        simp [ro7b, j0, j1, tv1, happ, ht3])
      (fun L M3 h => trivial) (L := RL b w row sn deep td (some t.v) (some (.int (leastOf w t.n))) (some (blkD false rows)) x9) (M := M2) ⟨x9, rfl, by
        simp only [List.take_zero, List.map_nil, List.append_nil]
        apply List.ext_getElem?
        intro j
        rw [List.getElem?_set]
        split
        · rename_i hj
          subst hj
          rw [if_pos (get_lt t2), t2]
        · rfl⟩
    rw [hrt, List.append_nil]
    refine ⟨row, deep, some t.v, some (.int (leastOf w t.n)), some (blkD false rows), y9, M2.set td (.lst ((rest.map Tl.v).reverse ++ (rows.reverse.take rows.reverse.length).map kv)), e06 _ ?_, ⟨k2.set s.td_ _, s.sn_, s.td_, s.ne, by rw [get_set_ne (Ne.symm s.ne)]; exact r2, by rw [get_set_ne (Ne.symm hst)]; exact s2, ?_, kN⟩, hdeep⟩
    · have hnl : ¬ ((rows.length : Int) < 2) := by omega
      have e' := (for_at (g := mName 9) (body := ro7b) hi).trans e
      clear e06 e
      generalize t.v = tv at *
      generalize blkD false rows = blk at *
      generalize kindS false = kd at *
      simp [ro7, ib0, ib1, hlk, hnl, e']
    · rw [get_set_eq t2]
      congr 2
      rw [List.length_reverse, List.take_of_length_le (by simp), List.map_append, List.reverse_append, hkids, List.map_map, List.map_reverse]
      rfl
theorem SoundP.num {B : List (Int × D)} {w : Int} {vs : List Tl} (s : SoundP B w vs) : ∀ t ∈ vs, 0 ≤ t.n ∧ (t.k ≠ none → 0 < t.n) := fun t ht => by
  by_cases h : t.n = 0
  · have : t = ⟨0, 0, none⟩ := s.inj ht s.root h
    subst this
    exact ⟨Int.le_refl _, fun z => absurd rfl z⟩
  · obtain ⟨u, hu, hk⟩ := s.parent ht h
    obtain ⟨_, hl, p, hp, rfl⟩ := kid_depth hk
    obtain ⟨leaf, rows, hg, e1, e2, hr, _⟩ := okT_block (s.ws.ok u hu)
    rw [hl] at e1
    subst e1
    rw [e2] at hp
    have hpb := ((rowB_pw _).mp hr).1 p hp
    obtain ⟨k, n, rfl⟩ := branch_pair hpb
    have hpb : (keyB (.int k) && posB (.int n)) = true := hpb
    rw [Bool.and_eq_true] at hpb
    have h0 : 0 < n := of_decide_eq_true hpb.2
    exact ⟨Int.le_of_lt h0, fun _ => h0⟩
theorem ro_loop {b sn td : Nat} {w H : Int} {B : List (Int × D)} (hb : M[b]? = some (.dct B)) (hw : 3 ≤ w ∧ w ≤ 64) {S vs : List Tl} (h : WS B w S vs) : ∀ (acc : List D) (N : List (Int × D)) (nums : List Int) (row : Nat) (deep : D) (x6 x7 x8 x9 : Option D) (M' : Mem), RoS M M' row sn td S acc N nums → (nums ++ vs.map (·.n)).Nodup → (∀ t ∈ vs, leafB (blkOf B t.n) = true → t.d = H) → (∀ t ∈ vs, 0 ≤ t.n ∧ (t.k ≠ none → 0 < t.n)) → (deep = .non ∨ deep = .int H) → S.length + 64 * vs.length ≤ 1000000 → N.length + vs.length ≤ 100000 → acc.length + 64 * vs.length ≤ 1000000 →
    ∃ row' deep' N' y6 y7 y8 y9 M'', mWhile roT roB (RL b w row sn deep td x6 x7 x8 x9) M' = some (.nx (RL b w row' sn deep' td y6 y7 y8 y9), M'') ∧ RoS M M'' row' sn td [] (acc ++ rowsW B vs) N' (nums ++ vs.map (·.n)) := by
  induction h with
  | nil =>
    intro acc N nums row deep x6 x7 x8 x9 M' s _ _ _ _ _ _ _
    have hl := len_lst s.t
    refine ⟨row, deep, N, x6, x7, x8, x9, M', while_end ?_, by simpa [rowsW] using s⟩
    simp at hl
    simp [roT, hl]
  | @step t rest vs ho hv ih =>
    intro acc N nums row deep x6 x7 x8 x9 M' s nd hd h0 hdeep l1 l2 l3
    simp only [List.length_cons, List.map_cons] at l1 l2 l3 nd
    have hn : t.n ∉ nums := fun z => (List.nodup_append.mp nd).2.2 _ z _ List.mem_cons_self rfl
    obtain ⟨g1, g2⟩ := h0 t List.mem_cons_self
    obtain ⟨row', deep', y6, y7, y8, y9, M2, e, s', hdeep'⟩ := ro_step (x6 := x6) (x7 := x7) (x8 := x8) (x9 := x9) hb s ho hw hn g1 (hd t List.mem_cons_self) hdeep g2 (by omega) (by omega) (by omega)
    have hkl : ((kids B t).length : Int) ≤ 64 := by
      have := okT_kids ho
      omega
    have hrl : (rowsT B t).length ≤ 64 := by
      obtain ⟨leaf, rows, _, hl, hq, _, _, hge, _⟩ := okT_block ho
      unfold rowsT
      split
      · rw [hq]
        omega
      · simp
    have ll := len_aput (kvs := N) (k := t.n) (d := .bl true)
    obtain ⟨row2, deep2, N2, z6, z7, z8, z9, M3, e2, s2⟩ := ih (acc ++ rowsT B t) (aput N t.n (.bl true)) (nums ++ [t.n]) row' deep' y6 y7 y8 y9 M2 s' (by simpa using nd) (fun u hu => hd u (List.mem_cons_of_mem _ hu)) (fun u hu => h0 u (List.mem_cons_of_mem _ hu)) hdeep' (by rw [List.length_append]; omega) (by omega) (by rw [List.length_append]; omega)
    refine ⟨row2, deep2, N2, z6, z7, z8, z9, M3, while_step (M1 := M') ?_ e e2, ?_⟩
    · have hl := len_lst s.t
      simp at hl
      have : (0 : Int) < (rest.length : Int) + 1 := by omega
      simp [roT, hl, this]
    · have e3 : acc ++ rowsT B t ++ rowsW B vs = acc ++ rowsW B (t :: vs) := by
        unfold rowsW
        rw [List.map_cons, List.flatten_cons, List.append_assoc]
      have e4 : nums ++ [t.n] ++ vs.map (·.n) = nums ++ (t :: vs).map (·.n) := by simp
      rw [← e3, ← e4]
      exact s2
/-- the walk tells all pairs -/
theorem p_row_of {b : Nat} {w : Int} {B : List (Int × D)} {vs : List Tl} (hb : M[b]? = some (.dct B)) (s : SoundP B w vs) (hw : 3 ≤ w ∧ w ≤ 64) (hB : B.length ≤ 5000) :
    ∃ r M', g_law_row_of [.ref b, .int w] M = some (.ok (.ref r) M') ∧ Kp M M' ∧ M'[r]? = some (.lst (rowsW B vs)) := by
  obtain ⟨l, hl1, hl2, _⟩ := s.ws.deep _ s.root
  have hall := s.all
  obtain ⟨row, deep, N, y6, y7, y8, y9, M2, e4, st⟩ := ro_loop (M := M) (b := b) (sn := M.length + 1) (td := M.length + 2) (H := l.d) hb hw s.ws [] [] [] M.length .non none none none none (M ++ [.lst [], .dct [], .lst [(⟨0, 0, none⟩ : Tl).v]]) ⟨Kp.app _ _, by omega, by omega, by omega, get_at, get_plus 1, get_plus 2, rfl⟩ (by simpa using s.nd) (fun t ht hl => s.level ht hl1 hl hl2) s.num (.inl rfl) (by simp; omega) (by simp; omega) (by simp; omega)
  have hkeysN : N.length = vs.length := by
    have h1 := st.keys
    have h2 := congrArg List.length h1
    simp [akeys] at h2
    exact h2
  have e03 : mSeq b_law_row_of_0 (mSeq b_law_row_of_1 (mSeq b_law_row_of_2 b_law_row_of_3)) ([some (.ref b), some (.int w)] ++ List.replicate (11 - 2) none) M = some (.nx (RL b w M.length (M.length + 1) .non (M.length + 2) none none none none), M ++ [.lst [], .dct [], .lst [(⟨0, 0, none⟩ : Tl).v]]) := by
    simp [b_law_row_of_0, b_law_row_of_1, b_law_row_of_2, b_law_row_of_3, Tl.v]
  have hr := st.r
  rw [List.nil_append] at hr
  have hup := s.up
  have hpair := rowsW_pair s.ws
  unfold keysW at hup
  have hrl : (rowsW B vs).length ≤ 320000 := by
    have := rowsW_len hw.2 s.ws
    omega
  generalize rowsW B vs = T at *
  have hlen := len_lst hr
  have hi : mRange2 (mC (.int 1)) (mCB oLen (mCons (mVar 2) mNil)) (RL b w row (M.length + 1) deep (M.length + 2) y6 y7 y8 y9) M2 = some (.ok ⟨rng 1 (T.length - 1), none⟩ M2) := by
    have := range2_int (a := mC (.int 1)) (b := mCB oLen (mCons (mVar 2) mNil)) (L := RL b w row (M.length + 1) deep (M.length + 2) y6 y7 y8 y9) (M := M2) (M1 := M2) (M2 := M2) (i := 1) (j := T.length) (by simp) (by simp [hlen]) (by constructor <;> constructor <;> omega)
    rw [this]
    congr 4
    omega
  obtain ⟨L', M', e5, y, rfl, rfl⟩ := forG_run (ok := Src.ok ⟨rng 1 (T.length - 1), none⟩) (g := mName 10) (body := mIte (mT (mBin oLe (mBin oIx (mBin oIx (mVar 2) (mVar 10)) (mC (.int 0))) (mBin oIx (mBin oIx (mVar 2) (mBin oSub (mVar 10) (mC (.int 1)))) (mC (.int 0))))) (mRet (mC .non)) mSkip)
    (fun k L M' => ∃ y, L = (RL b w row (M.length + 1) deep (M.length + 2) y6 y7 y8 y9).set 10 y ∧ M' = M2) (rng 1 (T.length - 1))
    (fun k L M' d hd ⟨y, hL, hM⟩ => by
      subst hL hM
      obtain ⟨rfl, hk⟩ := rng_get hd
      refine ⟨trivial, _, rfl, (RL b w row (M.length + 1) deep (M.length + 2) y6 y7 y8 y9).set 10 (some (.int (1 + k))), M', ?_, _, rfl, rfl⟩
      have hk1 : k + 1 < T.length := by omega
      have hk0 : k < T.length := by omega
      obtain ⟨ka, va, ea, _, _⟩ := pair_shape (hpair T[k] (List.getElem_mem hk0))
      obtain ⟨kb, vb, eb, _, _⟩ := pair_shape (hpair T[k + 1] (List.getElem_mem hk1))
      have hlt := hup k (keyOf T[k]) (keyOf T[k + 1]) (by rw [List.getElem?_map, List.getElem?_eq_getElem hk0]; rfl) (by rw [List.getElem?_map, List.getElem?_eq_getElem hk1]; rfl)
      rw [ea, eb] at hlt
      have hlt : ka < kb := hlt
      have j1 : oIx (.ref row) (.int (1 + (k : Int))) M' = some (.tup [.int kb, vb], M') := ix_lst hr (by rw [show 1 + (k : Int) = ((k + 1 : Nat) : Int) by push_cast; omega, atI_nat, List.getElem?_eq_getElem hk1, eb])
      have j2 : oIx (.ref row) (.int (k : Int)) M' = some (.tup [.int ka, va], M') := ix_lst hr (by rw [atI_nat, List.getElem?_eq_getElem hk0, ea])
      have q1 : ∀ M, oIx (.tup [.int kb, vb]) (.int 0) M = some (.int kb, M) := fun M => ix0
      have q2 : ∀ M, oIx (.tup [.int ka, va]) (.int 0) M = some (.int ka, M) := fun M => ix0
      have hs : 1 + (k : Int) - 1 = k := by omega
      have hn : ¬ kb ≤ ka := by omega
      simp [j1, q1, hs, j2, q2, hn])
    (fun L M' h => trivial) (L := RL b w row (M.length + 1) deep (M.length + 2) y6 y7 y8 y9) (M := M2) ⟨none, rfl, rfl⟩
  have e5' : b_law_row_of_5 (RL b w row (M.length + 1) deep (M.length + 2) y6 y7 y8 y9) M' = some (.nx ((RL b w row (M.length + 1) deep (M.length + 2) y6 y7 y8 y9).set 10 y), M') := by
    unfold b_law_row_of_5
    rw [for_at hi]
    exact e5
  have ls := len_dct st.s
  have lb := len_dct (st.kp.get hb)
  have e6 : b_law_row_of_6 ((RL b w row (M.length + 1) deep (M.length + 2) y6 y7 y8 y9).set 10 y) M' = some (.nx ((RL b w row (M.length + 1) deep (M.length + 2) y6 y7 y8 y9).set 10 y), M') := by
    have : N.length = B.length := by omega
    simp [b_law_row_of_6, ls, lb, this]
  have e4' : b_law_row_of_4 (RL b w M.length (M.length + 1) .non (M.length + 2) none none none none) (M ++ [.lst [], .dct [], .lst [(⟨0, 0, none⟩ : Tl).v]]) = some (.nx (RL b w row (M.length + 1) deep (M.length + 2) y6 y7 y8 y9), M') := by
    rw [ro_eq]
    exact e4
  refine ⟨row, M', ?_, st.kp, hr⟩
  simp only [g_law_row_of, b_law_row_of, ev_def2]
  rw [seq4 e03, seq_step e4', seq_step e5', seq_step e6]
  simp [b_law_row_of_7]
end BP
/-! BPTerms3: functions of the laws (printed by gen.py). -/
namespace BP
open PySem BL
/-! _law_value_by -/
noncomputable def b_law_value_by_0 : GS := (mSet 1 (mC (.str " !\"#$&'()*+,-./0123456789:;<=>?@ABCDEFGHIJKLMNOPQRSTUVWXYZ[\\]^_`")))
noncomputable def b_law_value_by_1 : GS := (mSet 1 (mBin oAdd (mVar 1) (mC (.str "abcdefghijklmnopqrstuvwxyz{|}~"))))
noncomputable def b_law_value_by_2 : GS := (mSet 0 (mBin oMod (mBin oMul (mVar 0) (mC (.int 69621))) (mC (.int 2097143))))
noncomputable def b_law_value_by_3 : GS := (mSet 2 (mBin oMod (mVar 0) (mC (.int 5))))
noncomputable def b_law_value_by_4 : GS := (mIte (mT (mBin oEq (mBin oMod (mBin oDiv (mVar 0) (mC (.int 5))) (mC (.int 3))) (mC (.int 1)))) (mSet 2 (mBin oMod (mBin oDiv (mVar 0) (mC (.int 15))) (mC (.int 61)))) mSkip)
noncomputable def b_law_value_by_5 : GS := (mSet 3 (mBin oIx (mLst (mCons (mC (.int 0)) (mCons (mC (.int 1)) (mCons (mC (.int 7)) mNil)))) (mBin oMod (mBin oDiv (mVar 0) (mC (.int 915))) (mC (.int 3)))))
noncomputable def b_law_value_by_6 : GS := (mRet (mMtS oJoin (mC (.str "")) (mCons (mLc (mRange1 (mVar 2)) (mName 4) mYes (mBin oIx (mVar 1) (mBin oMod (mBin oAdd (mBin oDiv (mVar 0) (mC (.int 2745))) (mBin oMul (mVar 3) (mVar 4))) (mC (.int 94)))) [4]) mNil)))
noncomputable def b_law_value_by : GS := (mSeq b_law_value_by_0 (mSeq b_law_value_by_1 (mSeq b_law_value_by_2 (mSeq b_law_value_by_3 (mSeq b_law_value_by_4 (mSeq b_law_value_by_5 b_law_value_by_6))))))
noncomputable def g_law_value_by : Fn := mDef 1 5 b_law_value_by
/-! _law_held -/
noncomputable def b_law_held_0 : GS := (mSet 3 (mLc (mIter (mVar 0)) (mName 4) (mT (mBin oLt (mBin oIx (mVar 4) (mC (.int 0))) (mVar 1))) (mVar 4) [4]))
noncomputable def b_law_held_1 : GS := (mIte (mT (mBin oIsNot (mVar 2) (mC .non))) (mExpr (mMtL oAppend (mVar 3) (mCons (mTup (mCons (mVar 1) (mCons (mVar 2) mNil))) mNil))) mSkip)
noncomputable def b_law_held_2 : GS := (mRet (mBin oAdd (mVar 3) (mLc (mIter (mVar 0)) (mName 4) (mT (mBin oGt (mBin oIx (mVar 4) (mC (.int 0))) (mVar 1))) (mVar 4) [4])))
noncomputable def b_law_held : GS := (mSeq b_law_held_0 (mSeq b_law_held_1 b_law_held_2))
noncomputable def g_law_held : Fn := mDef 3 5 b_law_held
/-! _law_behind -/
noncomputable def b_law_behind_0 : GS := (mSet 2 (mCB oDict (mCons (mVar 0) mNil)))
noncomputable def b_law_behind_1 : GS := (mFor (mIter (mCB oList (mCons (mVar 1) mNil))) (mName 3) (mSeq (mExpr (mMtD oPopD2 (mVar 2) (mVar 3))) (mIte (mT (mBin oIsNot (mBin oIx (mVar 1) (mVar 3)) (mC .non))) (mPut oPutA (mVar 2) (mVar 3) (mBin oIx (mVar 1) (mVar 3))) mSkip)))
noncomputable def b_law_behind_2 : GS := (mRet (mVar 2))
noncomputable def b_law_behind : GS := (mSeq b_law_behind_0 (mSeq b_law_behind_1 b_law_behind_2))
noncomputable def g_law_behind : Fn := mDef 2 4 b_law_behind
end BP
/-! BTVal: values, rows, widths of the laws. -/
namespace BP
open BL
open PySem (Str)
variable {M : Mem}
/-- the text that signs are taken from -/
def some94 : List Nat := (Str.ofString " !\"#$&'()*+,-./0123456789:;<=>?@ABCDEFGHIJKLMNOPQRSTUVWXYZ[\\]^_`").cps.toList ++ (Str.ofString "abcdefghijklmnopqrstuvwxyz{|}~").cps.toList
theorem some94_len : some94.length = 94 := by decide +kernel
theorem some94_good : ∀ c ∈ some94, 32 ≤ c ∧ c ≤ 126 := by decide +kernel
def sgn (c s : Int) : D → D
  | .int k => .str ⟨#[some94.getD ((c + s * k) % 94).toNat 32]⟩
  | _ => .non
theorem p_value_by (c0 : Int) (m0 : mulFits c0 69621) : ∃ (l : List Nat) (J : Mem), goodS l ∧ g_law_value_by [.int c0] M = some (.ok (T l) (M ++ J)) := by
  simp only [g_law_value_by, b_law_value_by, ev_def1]
  have hadd : oAdd (.str (Str.ofString " !\"#$&'()*+,-./0123456789:;<=>?@ABCDEFGHIJKLMNOPQRSTUVWXYZ[\\]^_`")) (.str (Str.ofString "abcdefghijklmnopqrstuvwxyz{|}~")) M = some (T some94, M) := by
    rw [add_str, if_pos (by decide +kernel)]
    rfl
  generalize hc : c0 * 69621 % 2097143 = c
  have c1 : 0 ≤ c ∧ c < 2097143 := by rw [← hc]; exact ⟨Int.emod_nonneg _ (by decide), Int.emod_lt_of_pos _ (by decide)⟩
  have e02 : mSeq b_law_value_by_0 (mSeq b_law_value_by_1 b_law_value_by_2) ([some (.int c0)] ++ List.replicate (5 - 1) none) M = some (.nx [some (.int c), some (T some94), none, none, none], M) := by
    simp [b_law_value_by_0, b_law_value_by_1, b_law_value_by_2, hadd, mul_int m0, hc]
  obtain ⟨n, hn, e34⟩ : ∃ n : Nat, n ≤ 60 ∧ mSeq b_law_value_by_3 b_law_value_by_4 [some (.int c), some (T some94), none, none, none] M = some (.nx [some (.int c), some (T some94), some (.int n), none, none], M) := by
    by_cases h : c / 5 % 3 = 1
    · obtain ⟨n, h4⟩ := Int.eq_ofNat_of_zero_le (Int.emod_nonneg (c / 15) (show (61 : Int) ≠ 0 by decide))
      exact ⟨n, by omega, by simp [b_law_value_by_3, b_law_value_by_4, h, h4]⟩
    · obtain ⟨n, h4⟩ := Int.eq_ofNat_of_zero_le (Int.emod_nonneg c (show (5 : Int) ≠ 0 by decide))
      exact ⟨n, by omega, by simp [b_law_value_by_3, b_law_value_by_4, h, h4]⟩
  obtain ⟨s, hs, e5⟩ : ∃ s : Int, (0 ≤ s ∧ s ≤ 7) ∧ b_law_value_by_5 [some (.int c), some (T some94), some (.int n), none, none] M = some (.nx [some (.int c), some (T some94), some (.int n), some (.int s), none], M ++ [.lst [.int 0, .int 1, .int 7]]) := by
    have key : ∀ f : Int, L2.atI [D.int 0, .int 1, .int 7] (c / 915 % 3) = some (.int f) → b_law_value_by_5 [some (.int c), some (T some94), some (.int n), none, none] M = some (.nx [some (.int c), some (T some94), some (.int n), some (.int f), none], M ++ [.lst [.int 0, .int 1, .int 7]]) := fun f hx => by
      have := ix_lst (M := M ++ [.lst [.int 0, .int 1, .int 7]]) get_new hx
      simp [b_law_value_by_5, this]
    rcases (show c / 915 % 3 = 0 ∨ c / 915 % 3 = 1 ∨ c / 915 % 3 = 2 by omega) with h | h | h
    · exact ⟨0, by decide, key 0 (by rw [h]; rfl)⟩
    · exact ⟨1, by decide, key 1 (by rw [h]; rfl)⟩
    · exact ⟨7, by decide, key 7 (by rw [h]; rfl)⟩
  generalize hM1 : M ++ [Ob.lst [.int 0, .int 1, .int 7]] = M1 at e5
  generalize hL : [some (D.int c), some (T some94), some (.int (n : Int)), some (.int s), none] = L at e5
  have hi : mRange1 (mVar 2) L M1 = some (.ok ⟨rng 0 n, none⟩ M1) := range1_int (j := (n : Int)) (by rw [← hL]; simp) (by constructor <;> omega)
  have hl := lcG_map (ok := Src.ok ⟨rng 0 n, none⟩) (g := mName 4) (tt := mYes) (e := mBin oIx (mVar 1) (mBin oMod (mBin oAdd (mBin oDiv (mVar 0) (mC (.int 2745))) (mBin oMul (mVar 3) (mVar 4))) (mC (.int 94)))) (L := wipeL L [4]) (M := M1)
    (fun _ => true) (sgn (c / 2745) s) trivial (rng 0 n) (fun d hd => by
      obtain ⟨j, hj⟩ := List.mem_iff_getElem?.mp hd
      obtain ⟨rfl, hk⟩ := rng_get hj
      refine ⟨_, rfl, rfl, fun _ => ?_⟩
      have hm : mulFits s (j : Int) := fits_small (by constructor <;> omega) (by constructor <;> omega)
      have h1 := Int.emod_nonneg (c / 2745 + s * (j : Int)) (show (94 : Int) ≠ 0 by decide)
      have h2 := Int.emod_lt_of_pos (c / 2745 + s * (j : Int)) (show (0 : Int) < 94 by decide)
      have hx : L2.atI some94 ((c / 2745 + s * (j : Int)) % 94) = some (some94.getD ((c / 2745 + s * (j : Int)) % 94).toNat 32) := by
        rw [atI_pos h1, List.getD_eq_getElem?_getD, List.getElem?_eq_getElem (by rw [some94_len]; omega)]
        rfl
      have := ix_str (M := M1) (l := some94) (by rw [some94_len]; omega) hx
      rw [← hL]
      simp [wipeL, mul_int hm, this, sgn])
  rw [List.filter_eq_self.mpr (fun _ _ => rfl)] at hl
  generalize hll : (List.range n).map (fun k : Nat => some94.getD ((c / 2745 + s * (k : Int)) % 94).toNat 32) = l at *
  have len : l.length = n := by rw [← hll]; simp
  have hg : ∀ x ∈ l, 32 ≤ x ∧ x ≤ 126 := by
    rw [← hll]
    intro x hx
    obtain ⟨k, _, rfl⟩ := List.mem_map.mp hx
    rw [List.getD_eq_getElem?_getD]
    cases h : some94[((c / 2745 + s * (k : Int)) % 94).toNat]? with
    | none => decide
    | some y => exact some94_good y (List.mem_of_getElem? h)
  rw [show (rng 0 n).map (sgn (c / 2745) s) = l.map fun c => .str ⟨#[c]⟩ by
    rw [← hll, rng, List.map_map, List.map_map]
    exact List.map_congr_left fun k _ => by simp [sgn]] at hl
  have hlc := lc_at hi hl (by rw [List.length_map]; omega)
  refine ⟨l, [Ob.lst [.int 0, .int 1, .int 7], .lst (l.map fun c => .str ⟨#[c]⟩)], ⟨by omega, hg⟩, ?_⟩
  have hj : oJoin (.str (Str.ofString "")) [.ref M1.length] (M1 ++ [.lst (l.map fun c => .str ⟨#[c]⟩)]) = _ := join_signs get_new (by omega)
  rw [seq3 e02, seq2 e34, seq_step e5]
  simp [b_law_value_by_6, ev_mtS, hlc, hj]
  rw [← hM1]
  simp
end BP
/-! BTVal2: _law_held, _law_behind. -/
namespace BP
open BL
open PySem (Str)
variable {M : Mem}
theorem p_held {p : Nat} {T : List D} {key : Int} {v : D} (hp : M[p]? = some (.lst T)) (good : rowB true T = true) (hl : T.length ≤ 10000) :
    ∃ r M', g_law_held [.ref p, .int key, v] M = some (.ok (.ref r) M') ∧ Kp M M' ∧ M'[r]? = some (.lst (if isNon v = true then outK T key else heldK T key v)) := by
  have hpr : ∀ q ∈ T, ∃ (k : Int) (v : D), q = .tup [.int k, v] := fun q hq => by
    obtain ⟨k, v, e, _, _⟩ := pair_shape (((rowB_pw _).mp good).1 q hq)
    exact ⟨k, v, e⟩
  have lcs : ∀ (M : Mem) (x3 : Option D) (op : Op2) (c : D → Bool), M[p]? = some (.lst T) → (∀ (k : Int) (v : D) (M : Mem), op (.int k) (.int key) M = some (.bl (c (.tup [.int k, v])), M)) →
      mLc (mIter (mVar 0)) (mName 4) (mT (mBin op (mBin oIx (mVar 4) (mC (.int 0))) (mVar 1))) (mVar 4) [4] [some (.ref p), some (.int key), some v, x3, none] M = some (.ok (.ref M.length) (M ++ [.lst (T.filter c)])) := by
    intro M x3 op c hM hop
    have hi2 : mIter (mVar 0) [some (.ref p), some (.int key), some v, x3, none] M = some (.ok (Src.map (fun ds => ds) ⟨T, some (p, T)⟩) M) := seq_at _ (by simp) (src_lst hM)
    have hc := lcG_map (ok := Src.ok (Src.map (fun ds => ds) ⟨T, some (p, T)⟩)) (g := mName 4) (tt := mT (mBin op (mBin oIx (mVar 4) (mC (.int 0))) (mVar 1))) (e := mVar 4) (L := wipeL [some (.ref p), some (.int key), some v, x3, none] [4]) (M := M) c (fun d => d) hM T (fun q hq => by
      obtain ⟨k, vq, rfl⟩ := hpr q hq
      have j0 : ∀ M, oIx (.tup [.int k, vq]) (.int 0) M = some (.int k, M) := fun M => ix0
      have ho := hop k vq M
      refine ⟨_, rfl, ?_, fun _ => ?_⟩
      · generalize c (.tup [.int k, vq]) = cc at *
        simp [wipeL, j0, ho]
      · simp [wipeL])
    have hm : (T.filter c).map (fun d => d) = T.filter c := List.map_id' _
    rw [hm] at hc
    have hfl := List.length_filter_le c T
    exact lc_at hi2 hc (by omega)
  have l1 := lcs M none oLt (fun q => decide (keyOf q < key)) hp (fun k v M => lt_int)
  have e_lt : T.filter (fun q => decide (keyOf q < key)) = ltK T key := rfl
  rw [e_lt] at l1
  have e_gt : T.filter (fun q => decide (key < keyOf q)) = gtK T key := rfl
  have e0 : b_law_held_0 [some (.ref p), some (.int key), some v, none, none] M = some (.nx [some (.ref p), some (.int key), some v, some (.ref M.length), none], M ++ [.lst (ltK T key)]) := by
    generalize ltK T key = o1 at *
    simp [b_law_held_0, l1]
  obtain ⟨hs1, hs2⟩ := split_len (key := key) ((rowB_pw _).mp good).2
  have tail : ∀ (xs : List D) (M1 : Mem), Kp M M1 → M1[M.length]? = some (.lst xs) → xs.length ≤ 20000 → ∃ r M', b_law_held_2 [some (.ref p), some (.int key), some v, some (.ref M.length), none] M1 = some (.rt (.ref r), M') ∧ Kp M M' ∧ M'[r]? = some (.lst (xs ++ gtK T key)) := by
    intro xs M1 k1 h1 hx
    have l2 := lcs M1 (some (.ref M.length)) oGt (fun q => decide (key < keyOf q)) (k1.get hp) (fun k v M => gt_int)
    rw [e_gt] at l2
    have a2 : oAdd (.ref M.length) (.ref M1.length) (M1 ++ [.lst (gtK T key)]) = some (.ref (M1 ++ [Ob.lst (gtK T key)]).length, M1 ++ [.lst (gtK T key)] ++ [.lst (xs ++ gtK T key)]) := add_lst (get_app h1) get_new (by omega)
    refine ⟨(M1 ++ [Ob.lst (gtK T key)]).length, M1 ++ [.lst (gtK T key)] ++ [.lst (xs ++ gtK T key)], ?_, (k1.more _).more _, get_new⟩
    generalize gtK T key = o3 at *
    generalize (M1 ++ [Ob.lst o3]).length = q at *
    simp [b_law_held_2, l2, a2, -List.append_assoc]
  simp only [g_law_held, b_law_held, ev_def3]
  show ∃ r M', endS (mSeq b_law_held_0 _ [some (.ref p), some (.int key), some v, none, none] M) = _ ∧ _
  rw [seq_step e0]
  have g1 : (M ++ [Ob.lst (ltK T key)])[M.length]? = some (.lst (ltK T key)) := get_new
  by_cases hv : isNon v = true
  · have e1 : b_law_held_1 [some (.ref p), some (.int key), some v, some (.ref M.length), none] (M ++ [.lst (ltK T key)]) = some (.nx [some (.ref p), some (.int key), some v, some (.ref M.length), none], M ++ [.lst (ltK T key)]) := by
      simp [b_law_held_1, hv]
    obtain ⟨r, M', e, k, g⟩ := tail (ltK T key) _ (Kp.app _ _) g1 (by omega)
    rw [seq_step e1, e, if_pos hv]
    exact ⟨r, M', rfl, k, g⟩
  · have hv' : isNon v = false := by simpa using hv
    have happ : oAppend (.ref M.length) [.tup [.int key, v]] (M ++ [.lst (ltK T key)]) = some (.non, M ++ [.lst (ltK T key ++ [.tup [.int key, v]])]) := by
      rw [append_lst g1 (by omega), set_app]
    have e1 : b_law_held_1 [some (.ref p), some (.int key), some v, some (.ref M.length), none] (M ++ [.lst (ltK T key)]) = some (.nx [some (.ref p), some (.int key), some v, some (.ref M.length), none], M ++ [.lst (ltK T key ++ [.tup [.int key, v]])]) := by
      generalize ltK T key ++ [D.tup [.int key, v]] = o2 at *
      generalize ltK T key = o1 at *
      simp [b_law_held_1, hv', happ]
    obtain ⟨r, M', e, k, g⟩ := tail (ltK T key ++ [.tup [.int key, v]]) (M ++ [.lst (ltK T key ++ [.tup [.int key, v]])]) (Kp.app _ _) get_new (by simp; omega)
    rw [seq_step e1, e, if_neg hv]
    refine ⟨r, M', rfl, k, ?_⟩
    rw [g]
    unfold heldK
    simp
/-- what stands behind an edit -/
theorem p_behind {b c : Nat} {B C : List (Int × D)} (hb : M[b]? = some (.dct B)) (hc : M[c]? = some (.dct C)) (nB : (akeys B).Nodup) (nC : (akeys C).Nodup) (lB : B.length ≤ 10000) (lC : C.length ≤ 1000) :
    ∃ r M' O, g_law_behind [.ref b, .ref c] M = some (.ok (.ref r) M') ∧ Kp M M' ∧ M'[r]? = some (.dct O) ∧ (akeys O).Nodup ∧ O.length ≤ B.length + C.length ∧ ∀ j, aget O j = match aget C j with | some d => if isNon d = true then none else some d | none => aget B j := by
  have hd : oDict [.ref b] M = some (.ref M.length, M ++ [.dct B]) := dict_dct hb
  have hc1 : (M ++ [Ob.dct B])[c]? = some (.dct C) := get_app hc
  have hl : oList [.ref c] (M ++ [.dct B]) = some (.ref (M ++ [Ob.dct B]).length, M ++ [.dct B] ++ [.lst ((akeys C).map .int)]) := list_dct hc1
  obtain ⟨q, hq⟩ : ∃ q, (M ++ [Ob.dct B]).length = q := ⟨_, rfl⟩
  rw [hq] at hl
  have g2 : (M ++ [Ob.dct B] ++ [Ob.lst ((akeys C).map .int)])[q]? = some (.lst ((akeys C).map .int)) := by rw [← hq]; exact get_new
  have o2 : (M ++ [Ob.dct B] ++ [Ob.lst ((akeys C).map .int)])[M.length]? = some (.dct B) := get_app get_new
  have k2 : Kp M (M ++ [.dct B] ++ [.lst ((akeys C).map .int)]) := (Kp.app _ _).more _
  have hq1 : q = M.length + 1 := by rw [← hq]; simp
  have e0 : b_law_behind_0 [some (.ref b), some (.ref c), none, none] M = some (.nx [some (.ref b), some (.ref c), some (.ref M.length), none], M ++ [.dct B]) := by
    simp [b_law_behind_0, hd]
  have hi : mIter (mCB oList (mCons (mVar 1) mNil)) [some (.ref b), some (.ref c), some (.ref M.length), none] (M ++ [.dct B]) = some (.ok (Src.map (fun ds => ds) ⟨(akeys C).map .int, some (q, (akeys C).map .int)⟩) (M ++ [.dct B] ++ [.lst ((akeys C).map .int)])) := seq_at _ (by simp [hl, -List.append_assoc]) (src_lst g2)
  have lc := get_lt hc
  have lkC : (akeys C).length = C.length := by simp [akeys]
  generalize M ++ [Ob.dct B] ++ [Ob.lst ((akeys C).map .int)] = M2 at *
  obtain ⟨L', M', e, O, x3, rfl, k3, hO, hg, nO, gO, lO⟩ := forG_run (ok := Src.ok (Src.map (fun ds => ds) ⟨(akeys C).map .int, some (q, (akeys C).map .int)⟩)) (g := mName 3) (body := mSeq (mExpr (mMtD oPopD2 (mVar 2) (mVar 3))) (mIte (mT (mBin oIsNot (mBin oIx (mVar 1) (mVar 3)) (mC .non))) (mPut oPutA (mVar 2) (mVar 3) (mBin oIx (mVar 1) (mVar 3))) mSkip))
    (fun k L M' => ∃ O x3, L = [some (.ref b), some (.ref c), some (.ref M.length), x3] ∧ Kp M M' ∧ M'[M.length]? = some (.dct O) ∧ M'[q]? = some (.lst ((akeys C).map .int)) ∧ (akeys O).Nodup ∧ (∀ j, aget O j = if j ∈ (akeys C).take k then (match aget C j with | some d => if isNon d = true then none else some d | none => aget B j) else aget B j) ∧ O.length ≤ B.length + k) ((akeys C).map .int)
    (fun k L M' d hdk ⟨O, x3, hL, k3, hO, hg, nO, gO, lO⟩ => by
      subst hL
      rw [List.getElem?_map] at hdk
      obtain ⟨n, hn, rfl⟩ := Option.map_eq_some_iff.mp hdk
      have hkl := (List.getElem?_eq_some_iff.mp hn).1
      refine ⟨hg, _, rfl, ?_⟩
      have hin : n ∈ akeys C := List.mem_of_getElem? hn
      obtain ⟨d, hdC⟩ := Option.isSome_iff_exists.mp (aget_isSome.mpr hin)
      have hc' := k3.get hc
      have hx : oIx (.ref c) (.int n) = oIx (.ref c) (.int n) := rfl
      have hp := pop2_dct (k := n) hO
      have o3 : (M'.set M.length (.dct (adel O n)))[M.length]? = some (.dct (adel O n)) := get_set_eq hO
      have c3 : (M'.set M.length (.dct (adel O n)))[c]? = some (.dct C) := by rw [get_set_ne (by omega)]; exact hc'
      have hx3 : oIx (.ref c) (.int n) (M'.set M.length (.dct (adel O n))) = some (d, M'.set M.length (.dct (adel O n))) := ix_dct c3 hdC
      have ladel : (adel O n).length ≤ O.length := (List.filter_sublist).length_le
      have tk : ∀ j, j ∈ (akeys C).take (k + 1) ↔ j ∈ (akeys C).take k ∨ j = n := fun j => by
        rw [List.take_succ_eq_append_getElem hkl, List.mem_append, (List.getElem?_eq_some_iff.mp hn).2]
        simp
      have rest : ∀ j, j ≠ n → (if j ∈ (akeys C).take (k + 1) then (match aget C j with | some d => if isNon d = true then none else some d | none => aget B j) else aget B j) = aget O j := fun j hj => by
        rw [gO]
        have : j ∈ (akeys C).take (k + 1) ↔ j ∈ (akeys C).take k := by
          rw [tk]
          exact ⟨fun z => z.elim id fun z => absurd z hj, .inl⟩
        simp only [this]
      by_cases hnd : isNon d = true
      · refine ⟨[some (.ref b), some (.ref c), some (.ref M.length), some (.int n)], M'.set M.length (.dct (adel O n)), ?_, adel O n, _, rfl, k3.set (Nat.le_refl _) _, o3, by rw [get_set_ne (by omega)]; exact hg, nodup_adel nO, fun j => ?_, by omega⟩
        · simp [hO, hp, hx3, hnd]
        · rw [aget_adel]
          by_cases e : j = n
          · subst e
            rw [if_pos rfl, if_pos ((tk j).mpr (.inr rfl)), hdC]
            dsimp only
            rw [if_pos hnd]
          · rw [if_neg e, rest j e]
      · have hnd' : isNon d = false := by simpa using hnd
        have hput : oPutA (.ref M.length) (.int n) d (M'.set M.length (.dct (adel O n))) = some (M'.set M.length (.dct (aput (adel O n) n d))) := by
          rw [put_dct o3 (by omega), List.set_set]
        have ll := len_aput (kvs := adel O n) (k := n) (d := d)
        refine ⟨[some (.ref b), some (.ref c), some (.ref M.length), some (.int n)], M'.set M.length (.dct (aput (adel O n) n d)), ?_, aput (adel O n) n d, _, rfl, k3.set (Nat.le_refl _) _, get_set_eq hO, by rw [get_set_ne (by omega)]; exact hg, nodup_aput (nodup_adel nO), fun j => ?_, by omega⟩
        · simp [hO, hp, hx3, hnd', hput]
        · rw [aget_aput, aget_adel]
          by_cases e : j = n
          · subst e
            rw [if_pos rfl, if_pos ((tk j).mpr (.inr rfl)), hdC]
            dsimp only
            rw [if_neg hnd]
          · rw [if_neg e, if_neg e, rest j e])
    (fun L M' ⟨O, x3, _, _, _, hg, _⟩ => hg) (L := [some (.ref b), some (.ref c), some (.ref M.length), none]) (M := M2) ⟨B, none, rfl, k2, o2, g2, nB, fun j => by simp, by omega⟩
  have e1 : b_law_behind_1 [some (.ref b), some (.ref c), some (.ref M.length), none] (M ++ [.dct B]) = some (.nx [some (.ref b), some (.ref c), some (.ref M.length), x3], M') := by
    unfold b_law_behind_1
    rw [for_at hi]
    exact e
  refine ⟨M.length, M', O, ?_, k3, hO, nO, by rw [List.length_map, lkC] at lO; exact lO, fun j => ?_⟩
  · simp only [g_law_behind, b_law_behind, ev_def2]
    show endS (mSeq b_law_behind_0 _ [some (.ref b), some (.ref c), none, none] M) = _
    rw [seq_step e0, seq_step e1]
    simp [b_law_behind_2]
  · rw [gO, List.length_map, List.take_length]
    by_cases h : j ∈ akeys C
    · rw [if_pos h]
    · rw [if_neg h, aget_none.mpr h]
end BP
/-! BTEdit: what an edit tells, plainly. -/
namespace BP
open BL
open PySem (Str)
variable {M : Mem}
def NoN (X : List (Int × D)) : Prop := ∀ j d, aget X j = some d → isNon d = false
theorem getN_non {X : List (Int × D)} (h : NoN X) {j : Int} : isNon (getN X j) = true ↔ j ∉ akeys X := by
  rw [← aget_none]
  unfold getN
  cases e : aget X j with
  | none => simp [isNon]
  | some d =>
    have := h j d e
    simp [this]
theorem getN_ext {X Y : List (Int × D)} (hX : NoN X) (hY : NoN Y) {j : Int} (h : getN X j = getN Y j) : aget X j = aget Y j := by
  unfold getN at h
  cases e : aget X j with
  | none =>
    cases e2 : aget Y j with
    | none => rfl
    | some d =>
      rw [e, e2] at h
      have h1 := hY j d e2
      have h : D.non = d := h
      rw [← h] at h1
      cases h1
  | some d =>
    cases e2 : aget Y j with
    | none =>
      rw [e, e2] at h
      have h1 := hX j d e
      have h : d = D.non := h
      rw [h] at h1
      cases h1
    | some d2 =>
      rw [e, e2] at h
      exact congrArg some h
open Classical in
structure Edit (B F C : List (Int × D)) : Prop where
  nC : (akeys C).Nodup
  nB : (akeys B).Nodup
  nF : (akeys F).Nodup
  noB : NoN B
  noF : NoN F
  pB : plainD B
  pF : plainD F
  get : ∀ j, aget C j = if getN B j ≠ getN F j then some (getN F j) else none
  len : C.length ≤ 64
  ok : News B F ∨ ∀ j ∈ akeys F, j ∈ akeys B
  root : (0 : Int) ∈ akeys F
theorem SoundP.noN {B : List (Int × D)} {w : Int} {vs : List Tl} (s : SoundP B w vs) : NoN B := fun j d e => by
  obtain ⟨leaf, rows, rfl, _⟩ := s.blk e
  rfl
theorem Tree.noN {B : List (Int × D)} {w : Int} {h : Nat} {T : List D} {nums : List Int} (t : Tree B w h T nums) (hw : 3 ≤ w) : NoN B := by
  obtain ⟨vs, s, _⟩ := t.sound hw
  exact s.noN
theorem Tree.zero {B : List (Int × D)} {w : Int} {h : Nat} {T : List D} {nums : List Int} (t : Tree B w h T nums) : (0 : Int) ∈ akeys B := (t.keys 0).mpr (by
  obtain ⟨ns, rfl⟩ := t.sub.self
  exact List.mem_cons_self)
theorem Done.edit {M' : Mem} {B F C : List (Int × D)} {w : Int} {h : Nat} {T T' : List D} {nums : List Int} {r : Nat} {tou : List Int} (d : Done M M' B w T' r C F tou) (t : Tree B w h T nums) (hw : 3 ≤ w) : Edit B F C := by
  obtain ⟨h2, nums2, t2⟩ := d.chg.tree
  refine ⟨d.told.nd, t.bnd, t2.bnd, t.noN hw, t2.noN hw, t.plain hw, t2.plain hw, fun j => ?_, d.told.len, d.chg.ok, t2.zero⟩
  rw [d.told.get]
  by_cases e : getN B j = getN F j
  · rw [if_neg (fun z => z.2 e), if_neg (fun z => z e)]
  · have hj : j ∈ tou := d.chg.tch j fun z => e (by unfold getN; rw [z])
    rw [if_pos ⟨hj, e⟩, if_pos e]
section
variable {B F C : List (Int × D)} (E : Edit B F C)
include E
theorem Edit.key {j : Int} : j ∈ akeys C ↔ getN B j ≠ getN F j := by
  rw [← aget_isSome, E.get]
  by_cases e : getN B j = getN F j
  · simp [e]
  · simp [e]
theorem Edit.val {j : Int} (h : j ∈ akeys C) : aget C j = some (getN F j) := by
  rw [E.get, if_pos (E.key.mp h)]
theorem Edit.behind {O : List (Int × D)} (hO : ∀ j, aget O j = match aget C j with | some d => if isNon d = true then none else some d | none => aget B j) (j : Int) : aget O j = aget F j := by
  rw [hO]
  by_cases h : j ∈ akeys C
  · rw [E.val h]
    dsimp only
    by_cases hn : isNon (getN F j) = true
    · rw [if_pos hn]
      exact (aget_none.mpr ((getN_non E.noF).mp hn)).symm
    · rw [if_neg hn]
      unfold getN at hn ⊢
      cases e : aget F j with
      | none =>
        rw [e] at hn
        exact absurd rfl hn
      | some d => rfl
  · rw [aget_none.mpr h]
    have : getN B j = getN F j := Classical.byContradiction fun z => h (E.key.mpr z)
    exact getN_ext E.noB E.noF this
theorem Edit.gone_news : (∀ j ∈ akeys C, isNon (getN F j) = false) ∨ ∀ j ∈ akeys C, j ∈ akeys B := by
  rcases E.ok with h | h
  · refine .inl fun j hj => ?_
    cases e : isNon (getN F j) with
    | false => rfl
    | true =>
      have hF := (getN_non E.noF).mp e
      have hB : j ∉ akeys B := fun z => hF (h.1 j z)
      refine absurd ?_ (E.key.mp hj)
      unfold getN
      rw [aget_none.mpr hF, aget_none.mpr hB]
  · refine .inr fun j hj => Classical.byContradiction fun z => ?_
    have hF : j ∉ akeys F := fun y => z (h j y)
    refine absurd ?_ (E.key.mp hj)
    unfold getN
    rw [aget_none.mpr hF, aget_none.mpr z]
end
theorem take_of {g : List Int} : ∀ {ns : List Int}, g.Pairwise (· < ·) → ns.Pairwise (· < ·) → (∀ x ∈ ns, x ∈ g) → (∀ x ∈ ns, ∀ y ∈ g, y < x → y ∈ ns) → ns = g.take ns.length := by
  induction g with
  | nil =>
    intro ns _ _ h _
    cases ns with
    | nil => rfl
    | cons x ns => exact absurd (h x List.mem_cons_self) (by simp)
  | cons y g ih =>
    intro ns hg hn h1 h2
    cases ns with
    | nil => rfl
    | cons x ns =>
      obtain ⟨g1, g2⟩ := List.pairwise_cons.mp hg
      obtain ⟨n1, n2⟩ := List.pairwise_cons.mp hn
      have e : x = y := by
        rcases List.mem_cons.mp (h1 x List.mem_cons_self) with z | z
        · exact z
        · have h3 := g1 x z
          rcases List.mem_cons.mp (h2 x List.mem_cons_self y List.mem_cons_self h3) with z2 | z2
          · exact z2.symm
          · have := n1 y z2
            omega
      subst e
      rw [List.length_cons, List.take_succ_cons]
      refine congrArg (x :: ·) (ih g2 n2 (fun z hz => ?_) fun z hz u hu huz => ?_)
      · rcases List.mem_cons.mp (h1 z (List.mem_cons_of_mem _ hz)) with e | e
        · have := n1 z hz
          omega
        · exact e
      · rcases List.mem_cons.mp (h2 z (List.mem_cons_of_mem _ hz) u (List.mem_cons_of_mem _ hu) huz) with e | e
        · have := g1 u hu
          omega
        · exact e
/-- the new ones, and the free ones -/
def newsL (B C : List (Int × D)) : List Int := ((akeys C).filter fun j => !(aget B j).isSome).mergeSort (fun a b => decide (a ≤ b))
def freeL (B : List (Int × D)) (n : Nat) : List Int := ((List.range n).map fun k : Nat => 1 + (k : Int)).filter fun j => !(aget B j).isSome
theorem newsL_mem {B C : List (Int × D)} {j : Int} : j ∈ newsL B C ↔ j ∈ akeys C ∧ j ∉ akeys B := by
  unfold newsL
  rw [(List.mergeSort_perm _ _).mem_iff, List.mem_filter]
  constructor
  · rintro ⟨h1, h2⟩
    refine ⟨h1, fun z => ?_⟩
    rw [← aget_isSome] at z
    rw [z] at h2
    cases h2
  · rintro ⟨h1, h2⟩
    refine ⟨h1, ?_⟩
    cases e : (aget B j).isSome with
    | true => exact absurd (aget_isSome.mp e) h2
    | false => rfl
theorem newsL_pw {B C : List (Int × D)} (h : (akeys C).Nodup) : (newsL B C).Pairwise (· < ·) := by
  have h1 : (newsL B C).Nodup := by
    unfold newsL
    exact (List.mergeSort_perm _ _).nodup_iff.mpr (h.sublist (List.filter_sublist))
  have h2 : (newsL B C).Pairwise (fun a b => decide (a ≤ b) = true) := List.pairwise_mergeSort (fun a b c h h' => by simp at h h' ⊢; omega) (fun a b => by simp; omega) _
  exact (h2.and h1).imp fun ⟨a, b⟩ => by
    have := of_decide_eq_true a
    omega
theorem news_free {B F C : List (Int × D)} (E : Edit B F C) : newsL B C = (freeL B (B.length + (newsL B C).length)).take (newsL B C).length := by
  rcases E.ok with h | h
  · have hmem : ∀ j, j ∈ newsL B C ↔ j ∈ akeys F ∧ j ∉ akeys B := fun j => by
      rw [newsL_mem]
      constructor
      · rintro ⟨h1, h2⟩
        refine ⟨Classical.byContradiction fun z => ?_, h2⟩
        refine absurd ?_ (E.key.mp h1)
        unfold getN
        rw [aget_none.mpr h2, aget_none.mpr z]
      · rintro ⟨h1, h2⟩
        refine ⟨E.key.mpr fun z => ?_, h2⟩
        have := getN_ext E.noB E.noF z
        rw [aget_none.mpr h2] at this
        exact aget_none.mp this.symm h1
    have hcard : F.length ≤ B.length + (newsL B C).length := by
      have := nodup_len E.nF (ys := akeys B ++ newsL B C) fun x hx => by
        by_cases hb : x ∈ akeys B
        · exact List.mem_append_left _ hb
        · exact List.mem_append_right _ ((hmem x).mpr ⟨hx, hb⟩)
      simpa [akeys] using this
    have hfm : ∀ n j, j ∈ freeL B n ↔ (1 ≤ j ∧ j ≤ n) ∧ j ∉ akeys B := fun n j => by
      unfold freeL
      rw [List.mem_filter, List.mem_map]
      constructor
      · rintro ⟨⟨k, hk, rfl⟩, h2⟩
        have := List.mem_range.mp hk
        refine ⟨by omega, fun z => ?_⟩
        rw [← aget_isSome] at z
        rw [z] at h2
        cases h2
      · rintro ⟨⟨h1, h1'⟩, h2⟩
        refine ⟨⟨(j - 1).toNat, List.mem_range.mpr (by omega), by omega⟩, ?_⟩
        cases e : (aget B j).isSome with
        | true => exact absurd (aget_isSome.mp e) h2
        | false => rfl
    refine take_of ?_ (newsL_pw E.nC) (fun x hx => ?_) fun x hx y hy hyx => ?_
    · unfold freeL
      refine List.Pairwise.filter _ (List.pairwise_map.mpr (List.pairwise_lt_range.imp fun h => by omega))
    · rw [hfm]
      obtain ⟨h1, h2⟩ := (hmem x).mp hx
      obtain ⟨h3, h4⟩ := h.2 x h1 h2
      refine ⟨⟨by omega, ?_⟩, h2⟩
      obtain ⟨n, hn⟩ : ∃ n : Nat, x = n := ⟨x.toNat, by omega⟩
      have hsub := nodup_len (xs := 0 :: (List.range n).map fun k : Nat => 1 + (k : Int)) (ys := akeys F) (by
        refine List.nodup_cons.mpr ⟨fun z => ?_, ?_⟩
        · obtain ⟨k, _, e⟩ := List.mem_map.mp z
          omega
        · unfold List.Nodup
          rw [List.pairwise_map]
          exact List.nodup_range.imp fun h => by omega) (fun z hz => by
        rcases List.mem_cons.mp hz with rfl | hz
        · exact E.root
        · obtain ⟨k, hk, rfl⟩ := List.mem_map.mp hz
          have := List.mem_range.mp hk
          by_cases e : 1 + (k : Int) = x
          · rw [e]
            exact h1
          · exact h4 _ (by omega) (by omega))
      have hlF : (akeys F).length = F.length := by simp [akeys]
      simp only [List.length_cons, List.length_map, List.length_range] at hsub
      omega
    · rw [hmem]
      obtain ⟨⟨g1, _⟩, g2⟩ := (hfm _ y).mp hy
      obtain ⟨h1, h2⟩ := (hmem x).mp hx
      exact ⟨(h.2 x h1 h2).2 y (by omega) hyx, g2⟩
  · have : newsL B C = [] := by
      rw [List.eq_nil_iff_forall_not_mem]
      intro j hj
      obtain ⟨h1, h2⟩ := newsL_mem.mp hj
      have hF : j ∉ akeys F := fun y => h2 (h j y)
      refine absurd ?_ (E.key.mp h1)
      unfold getN
      rw [aget_none.mpr hF, aget_none.mpr h2]
    rw [this]
    rfl
end BP
namespace BK08
open PySem L2 BL
def topS (i : Nat) : Stmt := PySem.Challenge.pw_btreelog_k08_a_key_comes_or_goes.main.body.getD i (.Pass ⟨0, 0, 0, 0⟩)
def d_law_width_by : He.DefD := ⟨("_law_width_by", none), "_law_width_by", "_law_width_by", defArgs (topS 18), defBody (topS 18), defScope (topS 18), [], []⟩
def d_law_level : He.DefD := ⟨("_law_level", none), "_law_level", "_law_level", defArgs (topS 23), defBody (topS 23), defScope (topS 23), [], []⟩
def d_law_tree_by : He.DefD := ⟨("_law_tree_by", none), "_law_tree_by", "_law_tree_by", defArgs (topS 24), defBody (topS 24), defScope (topS 24), [], []⟩
def d_law_value_by : He.DefD := ⟨("_law_value_by", none), "_law_value_by", "_law_value_by", defArgs (topS 19), defBody (topS 19), defScope (topS 19), [], []⟩
def d_law_cell_at : He.DefD := ⟨("_law_cell_at", none), "_law_cell_at", "_law_cell_at", defArgs (topS 16), defBody (topS 16), defScope (topS 16), [], []⟩
def d_listed : He.DefD := ⟨("listed", none), "listed", "listed", defArgs (topS 7), defBody (topS 7), defScope (topS 7), [], []⟩
def d_place : He.DefD := ⟨("place", none), "place", "place", defArgs (topS 2), defBody (topS 2), defScope (topS 2), [], []⟩
def d_way_to : He.DefD := ⟨("way_to", none), "way_to", "way_to", defArgs (topS 5), defBody (topS 5), defScope (topS 5), [], []⟩
def d_value_in : He.DefD := ⟨("value_in", none), "value_in", "value_in", defArgs (topS 6), defBody (topS 6), defScope (topS 6), [], []⟩
def d_law_listed : He.DefD := ⟨("_law_listed", none), "_law_listed", "_law_listed", defArgs (topS 27), defBody (topS 27), defScope (topS 27), [], []⟩
def d_changed : He.DefD := ⟨("changed", none), "changed", "changed", defArgs (topS 11), defBody (topS 11), defScope (topS 11), [], []⟩
def d_free_number : He.DefD := ⟨("free_number", none), "free_number", "free_number", defArgs (topS 8), defBody (topS 8), defScope (topS 8), [], []⟩
def d_stored : He.DefD := ⟨("stored", none), "stored", "stored", defArgs (topS 9), defBody (topS 9), defScope (topS 9), [], []⟩
def d_half : He.DefD := ⟨("half", none), "half", "half", defArgs (topS 1), defBody (topS 1), defScope (topS 1), [], []⟩
def d_beside : He.DefD := ⟨("beside", none), "beside", "beside", defArgs (topS 13), defBody (topS 13), defScope (topS 13), [], []⟩
def d_parts : He.DefD := ⟨("parts", none), "parts", "parts", defArgs (topS 3), defBody (topS 3), defScope (topS 3), [], []⟩
def d_replaced : He.DefD := ⟨("replaced", none), "replaced", "replaced", defArgs (topS 10), defBody (topS 10), defScope (topS 10), [], []⟩
def d_drop_from : He.DefD := ⟨("drop_from", none), "drop_from", "drop_from", defArgs (topS 14), defBody (topS 14), defScope (topS 14), [], []⟩
def d_put_in : He.DefD := ⟨("put_in", none), "put_in", "put_in", defArgs (topS 12), defBody (topS 12), defScope (topS 12), [], []⟩
def d_law_whole : He.DefD := ⟨("_law_whole", none), "_law_whole", "_law_whole", defArgs (topS 17), defBody (topS 17), defScope (topS 17), [], []⟩
def d_law_good : He.DefD := ⟨("_law_good", none), "_law_good", "_law_good", defArgs (topS 21), defBody (topS 21), defScope (topS 21), [], []⟩
def d_law_row_of : He.DefD := ⟨("_law_row_of", none), "_law_row_of", "_law_row_of", defArgs (topS 22), defBody (topS 22), defScope (topS 22), [], []⟩
def d_law_held : He.DefD := ⟨("_law_held", none), "_law_held", "_law_held", defArgs (topS 20), defBody (topS 20), defScope (topS 20), [], []⟩
def d_law_numbered : He.DefD := ⟨("_law_numbered", none), "_law_numbered", "_law_numbered", defArgs (topS 25), defBody (topS 25), defScope (topS 25), [], []⟩
def d_law_behind : He.DefD := ⟨("_law_behind", none), "_law_behind", "_law_behind", defArgs (topS 26), defBody (topS 26), defScope (topS 26), [], []⟩
def d_law : He.DefD := ⟨("law", none), "law", "law", defArgs (topS 28), defBody (topS 28), defScope (topS 28), [], []⟩
def fn : List He.DefD := [d_law_width_by, d_law_level, d_law_tree_by, d_law_value_by, d_law_cell_at, d_listed, d_place, d_way_to, d_value_in, d_law_listed, d_changed, d_free_number, d_stored, d_half, d_beside, d_parts, d_replaced, d_drop_from, d_put_in, d_law_whole, d_law_good, d_law_row_of, d_law_held, d_law_numbered, d_law_behind, d_law]
def fa : List He.Fa := [.glo "_law_width_by", .free "len", .free "max", .free "range", .free "int", .free "tuple", .glo "_law_level", .glo "_law_tree_by", .glo "_law_value_by", .glo "_law_cell_at", .free "reversed", .glo "listed", .free "enumerate", .glo "place", .glo "way_to", .glo "value_in", .free "isinstance", .free "str", .free "list", .glo "_law_listed", .free "sorted", .free "set", .glo "changed", .glo "free_number", .glo "stored", .glo "half", .glo "beside", .glo "parts", .glo "replaced", .free "dict", .glo "drop_from", .glo "put_in", .free "bool", .glo "_law_whole", .glo "_law_good", .glo "_law_row_of", .glo "_law_held", .glo "_law_numbered", .glo "_law_behind", .glo "law"]
def tf : List (Str × List He.Dv) := []
section
variable {P : Program} {w : World} {K : PySem.W.Frag} {mg : Str → Option Value} {base : Heap} {C : Addr}
/-! _law_width_by -/
abbrev s_law_width_by : Stmt := topS 18
theorem sc_law_width_by : FnScope ["_law_cell"] ["_law_cell"] (defScope s_law_width_by) := ⟨rfl, rfl, rfl, by decide +kernel, rfl, by decide +kernel, by decide +kernel⟩
noncomputable def b_law_width_by_0 : GS := (mIte (mT (mBin oEq (mBin oMod (mVar 0) (mC (.int 8))) (mC (.int 7)))) (mRet (mBin oAdd (mC (.int 3)) (mBin oMod (mBin oDiv (mVar 0) (mC (.int 8))) (mC (.int 62))))) mSkip)
noncomputable def b_law_width_by_1 : GS := (mRet (mBin oAdd (mC (.int 3)) (mBin oMod (mBin oDiv (mVar 0) (mC (.int 8))) (mC (.int 4)))))
noncomputable def b_law_width_by : GS := (mSeq b_law_width_by_0 b_law_width_by_1)
noncomputable def g_law_width_by : Fn := mDef 1 1 b_law_width_by
theorem cal_law_width_by (T : Tx fa fn tf K mg) : Cal P w K mg base C 1 "_law_width_by" ["_law_cell"] g_law_width_by :=
  ok_calT (st := s_law_width_by) (N := ["_law_cell"]) (k := 0) (body := b_law_width_by) (T.def_ 0 0) sc_law_width_by (fun _ _ _ _ _ _ us hl => match us, hl with | [_], _ => rfl)
    (fun X W f cdv A outer s H E hX hW hr hp tk => by
      have hN := sc_law_width_by.nd
      have hu := room100 hr
      have hu1 := L2.hu_of hr
      have lx := lets_of tk
      refine sss_cons (show SS _ _ _ _ b_law_width_by_0 from (ss_if (st_cmp (or_eq hu) (se_bin or_mod (se_var (pv 0)) se_int) se_int (by first | rfl | exact nomark _ | decide)) (sss_one (ss_ret (se_bin or_add se_int (se_bin or_mod (se_bin or_div (se_var (pv 0)) se_int) se_int)))) sss_nil)) ?_
      exact sss_one (show SS _ _ _ _ b_law_width_by_1 from (ss_ret (se_bin or_add se_int (se_bin or_mod (se_bin or_div (se_var (pv 0)) se_int) se_int)))))
/-! _law_level -/
abbrev s_law_level : Stmt := topS 23
theorem sc_law_level : FnScope ["_law_pairs", "_law_width", "_law_cell", "_law_least", "_law_most", "_law_many", "_law_rows", "_law_at", "_law_k", "_law_size"] ["_law_pairs", "_law_width", "_law_cell"] (defScope s_law_level) := ⟨rfl, rfl, rfl, by decide +kernel, rfl, by decide +kernel, by decide +kernel⟩
noncomputable def b_law_level_0 : GS := (mSet 3 (mUn oNeg (mBin oDiv (mUn oNeg (mCB oLen (mCons (mVar 0) mNil))) (mVar 1))))
noncomputable def b_law_level_1 : GS := (mSet 4 (mCB oMax2 (mCons (mC (.int 1)) (mCons (mBin oDiv (mCB oLen (mCons (mVar 0) mNil)) (mBin oDiv (mBin oAdd (mVar 1) (mC (.int 1))) (mC (.int 2)))) mNil))))
noncomputable def b_law_level_2 : GS := (mSet 5 (mBin oAdd (mVar 3) (mBin oMod (mVar 2) (mBin oAdd (mBin oSub (mVar 4) (mVar 3)) (mC (.int 1))))))
noncomputable def b_law_level_3 : GS := (mSet 6 (mLst mNil))
noncomputable def b_law_level_4 : GS := (mSet 7 (mC (.int 0)))
noncomputable def b_law_level_5 : GS := (mFor (mRange1 (mVar 5)) (mName 8) (mSeq (mSet 9 (mBin oAdd (mBin oDiv (mCB oLen (mCons (mVar 0) mNil)) (mVar 5)) (mCB oInt (mCons (mBin oLt (mVar 8) (mBin oMod (mCB oLen (mCons (mVar 0) mNil)) (mVar 5))) mNil)))) (mSeq (mExpr (mMtL oAppend (mVar 6) (mCons (mCB oTuple (mCons (mSl (mVar 0) (mSome (mVar 7)) (mSome (mBin oAdd (mVar 7) (mVar 9)))) mNil)) mNil))) (mSet 7 (mBin oAdd (mVar 7) (mVar 9))))))
noncomputable def b_law_level_6 : GS := (mRet (mVar 6))
noncomputable def b_law_level : GS := (mSeq b_law_level_0 (mSeq b_law_level_1 (mSeq b_law_level_2 (mSeq b_law_level_3 (mSeq b_law_level_4 (mSeq b_law_level_5 b_law_level_6))))))
noncomputable def g_law_level : Fn := mDef 3 10 b_law_level
theorem cal_law_level (T : Tx fa fn tf K mg) : Cal P w K mg base C 1 "_law_level" ["_law_pairs", "_law_width", "_law_cell"] g_law_level :=
  ok_calT (st := s_law_level) (N := ["_law_pairs", "_law_width", "_law_cell", "_law_least", "_law_most", "_law_many", "_law_rows", "_law_at", "_law_k", "_law_size"]) (k := 0) (body := b_law_level) (T.def_ 1 6) sc_law_level (fun _ _ _ _ _ _ us hl => match us, hl with | [_, _, _], _ => rfl)
    (fun X W f cdv A outer s H E hX hW hr hp tk => by
      have hN := sc_law_level.nd
      have hu := room100 hr
      have hu1 := L2.hu_of hr
      have lx := lets_of tk
      refine sss_cons (show SS _ _ _ _ b_law_level_0 from (ss_set hN rfl (by first | exact Or.inl rfl | exact Or.inr rfl) (se_un ur_neg (se_bin or_div (se_un ur_neg (se_cb cl_len rfl (T.free 1) bv_len (sa_cons (se_var (pv 0)) sa_nil))) (se_var (pv 1)))))) ?_
      refine sss_cons (show SS _ _ _ _ b_law_level_1 from (ss_set hN rfl (by first | exact Or.inl rfl | exact Or.inr rfl) (se_cb (cl_max2 rfl) rfl (T.free 2) bv_max (sa_cons se_int (sa_cons (se_bin or_div (se_cb cl_len rfl (T.free 1) bv_len (sa_cons (se_var (pv 0)) sa_nil)) (se_bin or_div (se_bin or_add (se_var (pv 1)) se_int) se_int)) sa_nil))))) ?_
      refine sss_cons (show SS _ _ _ _ b_law_level_2 from (ss_set hN rfl (by first | exact Or.inl rfl | exact Or.inr rfl) (se_bin or_add (se_var (pv 3)) (se_bin or_mod (se_var (pv 2)) (se_bin or_add (se_bin or_sub (se_var (pv 4)) (se_var (pv 3))) se_int))))) ?_
      refine sss_cons (show SS _ _ _ _ b_law_level_3 from (ss_set hN rfl (by first | exact Or.inl rfl | exact Or.inr rfl) (se_lst sa_nil))) ?_
      refine sss_cons (show SS _ _ _ _ b_law_level_4 from (ss_set hN rfl (by first | exact Or.inl rfl | exact Or.inr rfl) se_int)) ?_
      refine sss_cons (show SS _ _ _ _ b_law_level_5 from (ss_for hp rfl (si_range1 rfl (T.free 3) (se_var (pv 5))) (stg_name hN rfl (by first | exact Or.inl rfl | exact Or.inr rfl)) (sss_cons (ss_set hN rfl (by first | exact Or.inl rfl | exact Or.inr rfl) (se_bin or_add (se_bin or_div (se_cb cl_len rfl (T.free 1) bv_len (sa_cons (se_var (pv 0)) sa_nil)) (se_var (pv 5))) (se_cty cl_int rfl (T.free 4) bv_int (sa_cons (se_cmp or_lt (se_var (pv 8)) (se_bin or_mod (se_cb cl_len rfl (T.free 1) bv_len (sa_cons (se_var (pv 0)) sa_nil)) (se_var (pv 5))) (by first | rfl | exact nomark _ | decide)) sa_nil)))) (sss_cons (ss_expr (se_mtL PySem.F.slot_list_append PySem.F.type_list_append rm_append (se_var (pv 6)) (sa_cons (se_cty cl_tuple rfl (T.free 5) bv_tuple (sa_cons (se_sl (se_var (pv 0)) (so_some (se_var (pv 7))) (so_some (se_bin or_add (se_var (pv 7)) (se_var (pv 9))))) sa_nil)) sa_nil))) (sss_one (ss_set hN rfl (by first | exact Or.inl rfl | exact Or.inr rfl) (se_bin or_add (se_var (pv 7)) (se_var (pv 9))))))))) ?_
      exact sss_one (show SS _ _ _ _ b_law_level_6 from (ss_ret (se_var (pv 6)))))
/-! _law_tree_by -/
abbrev s_law_tree_by : Stmt := topS 24
theorem sc_law_tree_by : FnScope ["_law_pairs", "_law_width", "_law_cell", "_law_blocks", "_law_kind", "_law_number", "_law_above", "_law_row"] ["_law_pairs", "_law_width", "_law_cell"] (defScope s_law_tree_by) := ⟨rfl, rfl, rfl, by decide +kernel, rfl, by decide +kernel, by decide +kernel⟩
noncomputable def b_law_tree_by_0 : GS := (mSet 3 mDnew)
noncomputable def b_law_tree_by_1 : GS := (mSet 4 (mC (.str "leaf")))
noncomputable def b_law_tree_by_2 : GS := (mSet 5 (mBin oAdd (mC (.int 1)) (mBin oMod (mVar 2) (mC (.int 3)))))
noncomputable def b_law_tree_by_3 : GS := (mWhile (mT (mBin oGt (mCB oLen (mCons (mVar 0) mNil)) (mVar 1))) (mSeq (mSet 6 (mLst mNil)) (mSeq (mFor (mIter (mCall g_law_level (mCons (mVar 0) (mCons (mVar 1) (mCons (mBin oDiv (mVar 2) (mC (.int 3))) mNil))))) (mName 7) (mSeq (mPut oPutA (mVar 3) (mVar 5) (mTup (mCons (mVar 4) (mCons (mVar 7) mNil)))) (mSeq (mExpr (mMtL oAppend (mVar 6) (mCons (mTup (mCons (mBin oIx (mBin oIx (mVar 7) (mC (.int 0))) (mC (.int 0))) (mCons (mVar 5) mNil))) mNil))) (mSet 5 (mBin oAdd (mBin oAdd (mVar 5) (mC (.int 1))) (mBin oMod (mBin oDiv (mVar 2) (mC (.int 5))) (mC (.int 2)))))))) (mSeq (mSet 0 (mVar 6)) (mSet 4 (mC (.str "branch")))))))
noncomputable def b_law_tree_by_4 : GS := (mPut oPutA (mVar 3) (mC (.int 0)) (mTup (mCons (mVar 4) (mCons (mCB oTuple (mCons (mVar 0) mNil)) mNil))))
noncomputable def b_law_tree_by_5 : GS := (mRet (mVar 3))
noncomputable def b_law_tree_by : GS := (mSeq b_law_tree_by_0 (mSeq b_law_tree_by_1 (mSeq b_law_tree_by_2 (mSeq b_law_tree_by_3 (mSeq b_law_tree_by_4 b_law_tree_by_5)))))
noncomputable def g_law_tree_by : Fn := mDef 3 8 b_law_tree_by
theorem cal_law_tree_by (T : Tx fa fn tf K mg) : Cal P w K mg base C 2 "_law_tree_by" ["_law_pairs", "_law_width", "_law_cell"] g_law_tree_by :=
  ok_calT (st := s_law_tree_by) (N := ["_law_pairs", "_law_width", "_law_cell", "_law_blocks", "_law_kind", "_law_number", "_law_above", "_law_row"]) (k := 1) (body := b_law_tree_by) (T.def_ 2 7) sc_law_tree_by (fun _ _ _ _ _ _ us hl => match us, hl with | [_, _, _], _ => rfl)
    (fun X W f cdv A outer s H E hX hW hr hp tk => by
      have hN := sc_law_tree_by.nd
      have hu := room100 hr
      have hu1 := L2.hu_of hr
      have lx := lets_of tk
      refine sss_cons (show SS _ _ _ _ b_law_tree_by_0 from (ss_set hN rfl (by first | exact Or.inl rfl | exact Or.inr rfl) se_dnew)) ?_
      refine sss_cons (show SS _ _ _ _ b_law_tree_by_1 from (ss_set hN rfl (by first | exact Or.inl rfl | exact Or.inr rfl) se_str)) ?_
      refine sss_cons (show SS _ _ _ _ b_law_tree_by_2 from (ss_set hN rfl (by first | exact Or.inl rfl | exact Or.inr rfl) (se_bin or_add se_int (se_bin or_mod (se_var (pv 2)) se_int)))) ?_
      refine sss_cons (show SS _ _ _ _ b_law_tree_by_3 from (ss_while hp (st_cmp or_gt (se_cb cl_len rfl (T.free 1) bv_len (sa_cons (se_var (pv 0)) sa_nil)) (se_var (pv 1)) (by first | rfl | exact nomark _ | decide)) (sss_cons (ss_set hN rfl (by first | exact Or.inl rfl | exact Or.inr rfl) (se_lst sa_nil)) (sss_cons (ss_for hp rfl (si_seq (se_cal (cal_law_level T) (hr.mono (by decide)) lx (sa_cons (se_var (pv 0)) (sa_cons (se_var (pv 1)) (sa_cons (se_bin or_div (se_var (pv 2)) se_int) sa_nil))))) (stg_name hN rfl (by first | exact Or.inl rfl | exact Or.inr rfl)) (sss_cons (ss_put (ps_putA hu1) (se_var (pv 3)) (se_var (pv 5)) (se_tup (sa_cons (se_var (pv 4)) (sa_cons (se_var (pv 7)) sa_nil)))) (sss_cons (ss_expr (se_mtL PySem.F.slot_list_append PySem.F.type_list_append rm_append (se_var (pv 6)) (sa_cons (se_tup (sa_cons (se_ix hu1 (se_ix hu1 (se_var (pv 7)) se_int (fun _ _ => rfl)) se_int (fun _ _ => rfl)) (sa_cons (se_var (pv 5)) sa_nil))) sa_nil))) (sss_one (ss_set hN rfl (by first | exact Or.inl rfl | exact Or.inr rfl) (se_bin or_add (se_bin or_add (se_var (pv 5)) se_int) (se_bin or_mod (se_bin or_div (se_var (pv 2)) se_int) se_int))))))) (sss_cons (ss_set hN rfl (by first | exact Or.inl rfl | exact Or.inr rfl) (se_var (pv 6))) (sss_one (ss_set hN rfl (by first | exact Or.inl rfl | exact Or.inr rfl) se_str))))))) ?_
      refine sss_cons (show SS _ _ _ _ b_law_tree_by_4 from (ss_put (ps_putA hu1) (se_var (pv 3)) se_int (se_tup (sa_cons (se_var (pv 4)) (sa_cons (se_cty cl_tuple rfl (T.free 5) bv_tuple (sa_cons (se_var (pv 0)) sa_nil)) sa_nil))))) ?_
      exact sss_one (show SS _ _ _ _ b_law_tree_by_5 from (ss_ret (se_var (pv 3)))))
/-! _law_value_by -/
abbrev s_law_value_by : Stmt := topS 19
theorem sc_law_value_by : FnScope ["_law_cell", "_law_some", "_law_size", "_law_step", "_law_k"] ["_law_cell"] (defScope s_law_value_by) := ⟨rfl, rfl, rfl, by decide +kernel, rfl, by decide +kernel, by decide +kernel⟩
noncomputable def b_law_value_by_0 : GS := (mSet 1 (mC (.str " !\"#$&'()*+,-./0123456789:;<=>?@ABCDEFGHIJKLMNOPQRSTUVWXYZ[\\]^_`")))
noncomputable def b_law_value_by_1 : GS := (mSet 1 (mBin oAdd (mVar 1) (mC (.str "abcdefghijklmnopqrstuvwxyz{|}~"))))
noncomputable def b_law_value_by_2 : GS := (mSet 0 (mBin oMod (mBin oMul (mVar 0) (mC (.int 69621))) (mC (.int 2097143))))
noncomputable def b_law_value_by_3 : GS := (mSet 2 (mBin oMod (mVar 0) (mC (.int 5))))
noncomputable def b_law_value_by_4 : GS := (mIte (mT (mBin oEq (mBin oMod (mBin oDiv (mVar 0) (mC (.int 5))) (mC (.int 3))) (mC (.int 1)))) (mSet 2 (mBin oMod (mBin oDiv (mVar 0) (mC (.int 15))) (mC (.int 61)))) mSkip)
noncomputable def b_law_value_by_5 : GS := (mSet 3 (mBin oIx (mLst (mCons (mC (.int 0)) (mCons (mC (.int 1)) (mCons (mC (.int 7)) mNil)))) (mBin oMod (mBin oDiv (mVar 0) (mC (.int 915))) (mC (.int 3)))))
noncomputable def b_law_value_by_6 : GS := (mRet (mMtS oJoin (mC (.str "")) (mCons (mLc (mRange1 (mVar 2)) (mName 4) mYes (mBin oIx (mVar 1) (mBin oMod (mBin oAdd (mBin oDiv (mVar 0) (mC (.int 2745))) (mBin oMul (mVar 3) (mVar 4))) (mC (.int 94)))) [4]) mNil)))
noncomputable def b_law_value_by : GS := (mSeq b_law_value_by_0 (mSeq b_law_value_by_1 (mSeq b_law_value_by_2 (mSeq b_law_value_by_3 (mSeq b_law_value_by_4 (mSeq b_law_value_by_5 b_law_value_by_6))))))
noncomputable def g_law_value_by : Fn := mDef 1 5 b_law_value_by
theorem cal_law_value_by (T : Tx fa fn tf K mg) : Cal P w K mg base C 1 "_law_value_by" ["_law_cell"] g_law_value_by :=
  ok_calT (st := s_law_value_by) (N := ["_law_cell", "_law_some", "_law_size", "_law_step", "_law_k"]) (k := 0) (body := b_law_value_by) (T.def_ 3 8) sc_law_value_by (fun _ _ _ _ _ _ us hl => match us, hl with | [_], _ => rfl)
    (fun X W f cdv A outer s H E hX hW hr hp tk => by
      have hN := sc_law_value_by.nd
      have hu := room100 hr
      have hu1 := L2.hu_of hr
      have lx := lets_of tk
      refine sss_cons (show SS _ _ _ _ b_law_value_by_0 from (ss_set hN rfl (by first | exact Or.inl rfl | exact Or.inr rfl) se_str)) ?_
      refine sss_cons (show SS _ _ _ _ b_law_value_by_1 from (ss_set hN rfl (by first | exact Or.inl rfl | exact Or.inr rfl) (se_bin or_add (se_var (pv 1)) se_str))) ?_
      refine sss_cons (show SS _ _ _ _ b_law_value_by_2 from (ss_set hN rfl (by first | exact Or.inl rfl | exact Or.inr rfl) (se_bin or_mod (se_bin or_mul (se_var (pv 0)) se_int) se_int))) ?_
      refine sss_cons (show SS _ _ _ _ b_law_value_by_3 from (ss_set hN rfl (by first | exact Or.inl rfl | exact Or.inr rfl) (se_bin or_mod (se_var (pv 0)) se_int))) ?_
      refine sss_cons (show SS _ _ _ _ b_law_value_by_4 from (ss_if (st_cmp (or_eq hu) (se_bin or_mod (se_bin or_div (se_var (pv 0)) se_int) se_int) se_int (by first | rfl | exact nomark _ | decide)) (sss_one (ss_set hN rfl (by first | exact Or.inl rfl | exact Or.inr rfl) (se_bin or_mod (se_bin or_div (se_var (pv 0)) se_int) se_int))) sss_nil)) ?_
      refine sss_cons (show SS _ _ _ _ b_law_value_by_5 from (ss_set hN rfl (by first | exact Or.inl rfl | exact Or.inr rfl) (se_ix hu1 (se_lst (sa_cons se_int (sa_cons se_int (sa_cons se_int sa_nil)))) (se_bin or_mod (se_bin or_div (se_var (pv 0)) se_int) se_int) (fun _ _ => rfl)))) ?_
      exact sss_one (show SS _ _ _ _ b_law_value_by_6 from (ss_ret (se_join se_str (se_lc (own := [("_law_k", 4)]) rfl hN (si_range1 rfl (T.free 3) (se_var (pv 2))) (blkOk_by (own := [("_law_k", 4)]) (by kernel_rfl)) (fun _ _ _ _ _ => pg_name hN rfl (Or.inl rfl)) (sc_name 4) (fun _ _ _ _ _ => st_yes pts_nil) (fun _ _ _ _ _ => (se_ix hu1 (se_var (pv 1)) (se_bin or_mod (se_bin or_add (se_bin or_div (se_var (pv 0)) se_int) (se_bin or_mul (se_var (pv 3)) (se_var (pv 4)))) se_int) (fun _ _ => rfl))))))))
/-! _law_cell_at -/
abbrev s_law_cell_at : Stmt := topS 16
theorem sc_law_cell_at : FnScope ["_law_script", "_law_k"] ["_law_script", "_law_k"] (defScope s_law_cell_at) := ⟨rfl, rfl, rfl, by decide +kernel, rfl, by decide +kernel, by decide +kernel⟩
noncomputable def b_law_cell_at_0 : GS := (mIte (mT (mBin oLt (mVar 1) (mCB oLen (mCons (mVar 0) mNil)))) (mRet (mBin oIx (mVar 0) (mVar 1))) mSkip)
noncomputable def b_law_cell_at_1 : GS := (mRet (mC (.int 0)))
noncomputable def b_law_cell_at : GS := (mSeq b_law_cell_at_0 b_law_cell_at_1)
noncomputable def g_law_cell_at : Fn := mDef 2 2 b_law_cell_at
theorem cal_law_cell_at (T : Tx fa fn tf K mg) : Cal P w K mg base C 1 "_law_cell_at" ["_law_script", "_law_k"] g_law_cell_at :=
  ok_calT (st := s_law_cell_at) (N := ["_law_script", "_law_k"]) (k := 0) (body := b_law_cell_at) (T.def_ 4 9) sc_law_cell_at (fun _ _ _ _ _ _ us hl => match us, hl with | [_, _], _ => rfl)
    (fun X W f cdv A outer s H E hX hW hr hp tk => by
      have hN := sc_law_cell_at.nd
      have hu := room100 hr
      have hu1 := L2.hu_of hr
      have lx := lets_of tk
      refine sss_cons (show SS _ _ _ _ b_law_cell_at_0 from (ss_if (st_cmp or_lt (se_var (pv 1)) (se_cb cl_len rfl (T.free 1) bv_len (sa_cons (se_var (pv 0)) sa_nil)) (by first | rfl | exact nomark _ | decide)) (sss_one (ss_ret (se_ix hu1 (se_var (pv 0)) (se_var (pv 1)) (fun _ _ => rfl)))) sss_nil)) ?_
      exact sss_one (show SS _ _ _ _ b_law_cell_at_1 from (ss_ret se_int)))
/-! listed -/
abbrev s_listed : Stmt := topS 7
theorem sc_listed : FnScope ["blocks", "found", "waiting", "block", "pair"] ["blocks"] (defScope s_listed) := ⟨rfl, rfl, rfl, by decide +kernel, rfl, by decide +kernel, by decide +kernel⟩
noncomputable def b_listed_0 : GS := (mSet 1 (mLst mNil))
noncomputable def b_listed_1 : GS := (mSet 2 (mLst (mCons (mC (.int 0)) mNil)))
noncomputable def b_listed_2 : GS := (mWhile (mT (mBin oGt (mCB oLen (mCons (mVar 2) mNil)) (mC (.int 0)))) (mSeq (mSet 3 (mBin oIx (mVar 0) (mMtL oPop0 (mVar 2) mNil))) (mIte (mT (mBin oEq (mBin oIx (mVar 3) (mC (.int 0))) (mC (.str "leaf")))) (mExpr (mMtL oExtend (mVar 1) (mCons (mBin oIx (mVar 3) (mC (.int 1))) mNil))) (mExpr (mMtL oExtend (mVar 2) (mCons (mLc (mRev (mBin oIx (mVar 3) (mC (.int 1)))) (mName 4) mYes (mBin oIx (mVar 4) (mC (.int 1))) [4]) mNil))))))
noncomputable def b_listed_3 : GS := (mRet (mVar 1))
noncomputable def b_listed : GS := (mSeq b_listed_0 (mSeq b_listed_1 (mSeq b_listed_2 b_listed_3)))
noncomputable def g_listed : Fn := mDef 1 5 b_listed
theorem cal_listed (T : Tx fa fn tf K mg) : Cal P w K mg base C 1 "listed" ["blocks"] g_listed :=
  ok_calT (st := s_listed) (N := ["blocks", "found", "waiting", "block", "pair"]) (k := 0) (body := b_listed) (T.def_ 5 11) sc_listed (fun _ _ _ _ _ _ us hl => match us, hl with | [_], _ => rfl)
    (fun X W f cdv A outer s H E hX hW hr hp tk => by
      have hN := sc_listed.nd
      have hu := room100 hr
      have hu1 := L2.hu_of hr
      have lx := lets_of tk
      refine sss_cons (show SS _ _ _ _ b_listed_0 from (ss_set hN rfl (by first | exact Or.inl rfl | exact Or.inr rfl) (se_lst sa_nil))) ?_
      refine sss_cons (show SS _ _ _ _ b_listed_1 from (ss_set hN rfl (by first | exact Or.inl rfl | exact Or.inr rfl) (se_lst (sa_cons se_int sa_nil)))) ?_
      refine sss_cons (show SS _ _ _ _ b_listed_2 from (ss_while hp (st_cmp or_gt (se_cb cl_len rfl (T.free 1) bv_len (sa_cons (se_var (pv 2)) sa_nil)) se_int (by first | rfl | exact nomark _ | decide)) (sss_cons (ss_set hN rfl (by first | exact Or.inl rfl | exact Or.inr rfl) (se_ix hu1 (se_var (pv 0)) (se_mtL0 PySem.F.slot_list_pop PySem.F.type_list_pop rm_pop0 (se_var (pv 2))) (fun _ _ => rfl))) (sss_one (ss_if (st_cmp (or_eq hu) (se_ix hu1 (se_var (pv 3)) se_int (fun _ _ => rfl)) se_str (by first | rfl | exact nomark _ | decide)) (sss_one (ss_expr (se_mtL PySem.F.slot_list_extend PySem.F.type_list_extend rm_extend (se_var (pv 1)) (sa_cons (se_ix hu1 (se_var (pv 3)) se_int (fun _ _ => rfl)) sa_nil)))) (sss_one (ss_expr (se_mtL PySem.F.slot_list_extend PySem.F.type_list_extend rm_extend (se_var (pv 2)) (sa_cons (se_lc (own := [("pair", 4)]) rfl hN (si_rev rfl (T.free 10) (se_ix hu1 (se_var (pv 3)) se_int (fun _ _ => rfl))) (blkOk_by (own := [("pair", 4)]) (by kernel_rfl)) (fun _ _ _ _ _ => pg_name hN rfl (Or.inl rfl)) (sc_name 4) (fun _ _ _ _ _ => st_yes pts_nil) (fun _ _ _ _ _ => (se_ix hu1 (se_var (pv 4)) se_int (fun _ _ => rfl)))) sa_nil))))))))) ?_
      exact sss_one (show SS _ _ _ _ b_listed_3 from (ss_ret (se_var (pv 1)))))
/-! place -/
abbrev s_place : Stmt := topS 2
theorem sc_place : FnScope ["pairs", "key", "found", "at", "pair"] ["pairs", "key"] (defScope s_place) := ⟨rfl, rfl, rfl, by decide +kernel, rfl, by decide +kernel, by decide +kernel⟩
noncomputable def b_place_0 : GS := (mSet 2 (mC (.int 0)))
noncomputable def b_place_1 : GS := (mFor (mEnum (mVar 0)) (mName2 3 4) (mIte (mT (mBin oLe (mBin oIx (mVar 4) (mC (.int 0))) (mVar 1))) (mSet 2 (mVar 3)) mSkip))
noncomputable def b_place_2 : GS := (mRet (mVar 2))
noncomputable def b_place : GS := (mSeq b_place_0 (mSeq b_place_1 b_place_2))
noncomputable def g_place : Fn := mDef 2 5 b_place
theorem cal_place (T : Tx fa fn tf K mg) : Cal P w K mg base C 1 "place" ["pairs", "key"] g_place :=
  ok_calT (st := s_place) (N := ["pairs", "key", "found", "at", "pair"]) (k := 0) (body := b_place) (T.def_ 6 13) sc_place (fun _ _ _ _ _ _ us hl => match us, hl with | [_, _], _ => rfl)
    (fun X W f cdv A outer s H E hX hW hr hp tk => by
      have hN := sc_place.nd
      have hu := room100 hr
      have hu1 := L2.hu_of hr
      have lx := lets_of tk
      refine sss_cons (show SS _ _ _ _ b_place_0 from (ss_set hN rfl (by first | exact Or.inl rfl | exact Or.inr rfl) se_int)) ?_
      refine sss_cons (show SS _ _ _ _ b_place_1 from (ss_for hp rfl (si_enum rfl (T.free 12) (se_var (pv 0))) (stg_name2 rfl hN rfl (by first | exact Or.inl rfl | exact Or.inr rfl) rfl (by first | exact Or.inl rfl | exact Or.inr rfl)) (sss_one (ss_if (st_cmp or_le (se_ix hu1 (se_var (pv 4)) se_int (fun _ _ => rfl)) (se_var (pv 1)) (by first | rfl | exact nomark _ | decide)) (sss_one (ss_set hN rfl (by first | exact Or.inl rfl | exact Or.inr rfl) (se_var (pv 3)))) sss_nil)))) ?_
      exact sss_one (show SS _ _ _ _ b_place_2 from (ss_ret (se_var (pv 2)))))
/-! way_to -/
abbrev s_way_to : Stmt := topS 5
theorem sc_way_to : FnScope ["blocks", "key", "way", "pairs"] ["blocks", "key"] (defScope s_way_to) := ⟨rfl, rfl, rfl, by decide +kernel, rfl, by decide +kernel, by decide +kernel⟩
noncomputable def b_way_to_0 : GS := (mSet 2 (mLst (mCons (mC (.int 0)) mNil)))
noncomputable def b_way_to_1 : GS := (mWhile (mT (mBin oEq (mBin oIx (mBin oIx (mVar 0) (mBin oIx (mVar 2) (mUn oNeg (mC (.int 1))))) (mC (.int 0))) (mC (.str "branch")))) (mSeq (mSet 3 (mBin oIx (mBin oIx (mVar 0) (mBin oIx (mVar 2) (mUn oNeg (mC (.int 1))))) (mC (.int 1)))) (mExpr (mMtL oAppend (mVar 2) (mCons (mBin oIx (mBin oIx (mVar 3) (mCall g_place (mCons (mVar 3) (mCons (mVar 1) mNil)))) (mC (.int 1))) mNil)))))
noncomputable def b_way_to_2 : GS := (mRet (mVar 2))
noncomputable def b_way_to : GS := (mSeq b_way_to_0 (mSeq b_way_to_1 b_way_to_2))
noncomputable def g_way_to : Fn := mDef 2 4 b_way_to
theorem cal_way_to (T : Tx fa fn tf K mg) : Cal P w K mg base C 2 "way_to" ["blocks", "key"] g_way_to :=
  ok_calT (st := s_way_to) (N := ["blocks", "key", "way", "pairs"]) (k := 1) (body := b_way_to) (T.def_ 7 14) sc_way_to (fun _ _ _ _ _ _ us hl => match us, hl with | [_, _], _ => rfl)
    (fun X W f cdv A outer s H E hX hW hr hp tk => by
      have hN := sc_way_to.nd
      have hu := room100 hr
      have hu1 := L2.hu_of hr
      have lx := lets_of tk
      refine sss_cons (show SS _ _ _ _ b_way_to_0 from (ss_set hN rfl (by first | exact Or.inl rfl | exact Or.inr rfl) (se_lst (sa_cons se_int sa_nil)))) ?_
      refine sss_cons (show SS _ _ _ _ b_way_to_1 from (ss_while hp (st_cmp (or_eq hu) (se_ix hu1 (se_ix hu1 (se_var (pv 0)) (se_ix hu1 (se_var (pv 2)) (se_un ur_neg se_int) (fun _ _ => rfl)) (fun _ _ => rfl)) se_int (fun _ _ => rfl)) se_str (by first | rfl | exact nomark _ | decide)) (sss_cons (ss_set hN rfl (by first | exact Or.inl rfl | exact Or.inr rfl) (se_ix hu1 (se_ix hu1 (se_var (pv 0)) (se_ix hu1 (se_var (pv 2)) (se_un ur_neg se_int) (fun _ _ => rfl)) (fun _ _ => rfl)) se_int (fun _ _ => rfl))) (sss_one (ss_expr (se_mtL PySem.F.slot_list_append PySem.F.type_list_append rm_append (se_var (pv 2)) (sa_cons (se_ix hu1 (se_ix hu1 (se_var (pv 3)) (se_cal (cal_place T) (hr.mono (by decide)) lx (sa_cons (se_var (pv 3)) (sa_cons (se_var (pv 1)) sa_nil))) (fun _ _ => rfl)) se_int (fun _ _ => rfl)) sa_nil))))))) ?_
      exact sss_one (show SS _ _ _ _ b_way_to_2 from (ss_ret (se_var (pv 2)))))
/-! value_in -/
abbrev s_value_in : Stmt := topS 6
theorem sc_value_in : FnScope ["blocks", "key", "pair"] ["blocks", "key"] (defScope s_value_in) := ⟨rfl, rfl, rfl, by decide +kernel, rfl, by decide +kernel, by decide +kernel⟩
noncomputable def b_value_in_0 : GS := (mFor (mIter (mBin oIx (mBin oIx (mVar 0) (mBin oIx (mCall g_way_to (mCons (mVar 0) (mCons (mVar 1) mNil))) (mUn oNeg (mC (.int 1))))) (mC (.int 1)))) (mName 2) (mIte (mT (mBin oEq (mBin oIx (mVar 2) (mC (.int 0))) (mVar 1))) (mRet (mBin oIx (mVar 2) (mC (.int 1)))) mSkip))
noncomputable def b_value_in_1 : GS := (mRet (mC .non))
noncomputable def b_value_in : GS := (mSeq b_value_in_0 b_value_in_1)
noncomputable def g_value_in : Fn := mDef 2 3 b_value_in
theorem cal_value_in (T : Tx fa fn tf K mg) : Cal P w K mg base C 3 "value_in" ["blocks", "key"] g_value_in :=
  ok_calT (st := s_value_in) (N := ["blocks", "key", "pair"]) (k := 2) (body := b_value_in) (T.def_ 8 15) sc_value_in (fun _ _ _ _ _ _ us hl => match us, hl with | [_, _], _ => rfl)
    (fun X W f cdv A outer s H E hX hW hr hp tk => by
      have hN := sc_value_in.nd
      have hu := room100 hr
      have hu1 := L2.hu_of hr
      have lx := lets_of tk
      refine sss_cons (show SS _ _ _ _ b_value_in_0 from (ss_for hp rfl (si_seq (se_ix hu1 (se_ix hu1 (se_var (pv 0)) (se_ix hu1 (se_cal (cal_way_to T) (hr.mono (by decide)) lx (sa_cons (se_var (pv 0)) (sa_cons (se_var (pv 1)) sa_nil))) (se_un ur_neg se_int) (fun _ _ => rfl)) (fun _ _ => rfl)) se_int (fun _ _ => rfl))) (stg_name hN rfl (by first | exact Or.inl rfl | exact Or.inr rfl)) (sss_one (ss_if (st_cmp (or_eq hu) (se_ix hu1 (se_var (pv 2)) se_int (fun _ _ => rfl)) (se_var (pv 1)) (by first | rfl | exact nomark _ | decide)) (sss_one (ss_ret (se_ix hu1 (se_var (pv 2)) se_int (fun _ _ => rfl)))) sss_nil)))) ?_
      exact sss_one (show SS _ _ _ _ b_value_in_1 from (ss_ret se_non)))
/-! _law_listed -/
abbrev s_law_listed : Stmt := topS 27
theorem sc_law_listed : FnScope ["_law_blocks", "_law_row", "_law_key", "_law_value", "_law_pair", "_law_found", "_law_answer"] ["_law_blocks", "_law_row", "_law_key"] (defScope s_law_listed) := ⟨rfl, rfl, rfl, by decide +kernel, rfl, by decide +kernel, by decide +kernel⟩
noncomputable def b_law_listed_0 : GS := (mSet 3 (mC .non))
noncomputable def b_law_listed_1 : GS := (mFor (mIter (mVar 1)) (mName 4) (mIte (mT (mBin oEq (mBin oIx (mVar 4) (mC (.int 0))) (mVar 2))) (mSet 3 (mBin oIx (mVar 4) (mC (.int 1)))) mSkip))
noncomputable def b_law_listed_2 : GS := (mSet 5 (mCall g_listed (mCons (mVar 0) mNil)))
noncomputable def b_law_listed_3 : GS := (mSet 6 (mCall g_value_in (mCons (mVar 0) (mCons (mVar 2) mNil))))
noncomputable def b_law_listed_4 : GS := (mIte (mOr (mAnd (mT (mBin oIs (mVar 3) (mC .non))) (mT (mBin oIsNot (mVar 6) (mC .non)))) (mAnd (mT (mBin oIsNot (mVar 3) (mC .non))) (mNot (mT (mUn (oIsi "str") (mVar 6)))))) (mRet (mC (.bl false))) mSkip)
noncomputable def b_law_listed_5 : GS := (mRet (mAndV (mBin oEq (mVar 6) (mVar 3)) (mAndV (mUn (oIsi "list") (mVar 5)) (mBin oEq (mVar 5) (mVar 1)))))
noncomputable def b_law_listed : GS := (mSeq b_law_listed_0 (mSeq b_law_listed_1 (mSeq b_law_listed_2 (mSeq b_law_listed_3 (mSeq b_law_listed_4 b_law_listed_5)))))
noncomputable def g_law_listed : Fn := mDef 3 7 b_law_listed
theorem cal_law_listed (T : Tx fa fn tf K mg) : Cal P w K mg base C 4 "_law_listed" ["_law_blocks", "_law_row", "_law_key"] g_law_listed :=
  ok_calT (st := s_law_listed) (N := ["_law_blocks", "_law_row", "_law_key", "_law_value", "_law_pair", "_law_found", "_law_answer"]) (k := 3) (body := b_law_listed) (T.def_ 9 19) sc_law_listed (fun _ _ _ _ _ _ us hl => match us, hl with | [_, _, _], _ => rfl)
    (fun X W f cdv A outer s H E hX hW hr hp tk => by
      have hN := sc_law_listed.nd
      have hu := room100 hr
      have hu1 := L2.hu_of hr
      have lx := lets_of tk
      refine sss_cons (show SS _ _ _ _ b_law_listed_0 from (ss_set hN rfl (by first | exact Or.inl rfl | exact Or.inr rfl) se_non)) ?_
      refine sss_cons (show SS _ _ _ _ b_law_listed_1 from (ss_for hp rfl (si_seq (se_var (pv 1))) (stg_name hN rfl (by first | exact Or.inl rfl | exact Or.inr rfl)) (sss_one (ss_if (st_cmp (or_eq hu) (se_ix hu1 (se_var (pv 4)) se_int (fun _ _ => rfl)) (se_var (pv 2)) (by first | rfl | exact nomark _ | decide)) (sss_one (ss_set hN rfl (by first | exact Or.inl rfl | exact Or.inr rfl) (se_ix hu1 (se_var (pv 4)) se_int (fun _ _ => rfl)))) sss_nil)))) ?_
      refine sss_cons (show SS _ _ _ _ b_law_listed_2 from (ss_set hN rfl (by first | exact Or.inl rfl | exact Or.inr rfl) (se_cal (cal_listed T) (hr.mono (by decide)) lx (sa_cons (se_var (pv 0)) sa_nil)))) ?_
      refine sss_cons (show SS _ _ _ _ b_law_listed_3 from (ss_set hN rfl (by first | exact Or.inl rfl | exact Or.inr rfl) (se_cal (cal_value_in T) (hr.mono (by decide)) lx (sa_cons (se_var (pv 0)) (sa_cons (se_var (pv 2)) sa_nil))))) ?_
      refine sss_cons (show SS _ _ _ _ b_law_listed_4 from (ss_if (SW.st (sw_or (SW.st (sw_and (st_cmp or_is (se_var (pv 3)) se_non (by first | rfl | exact nomark _ | decide)) (sw_and1 (st_cmp or_isNot (se_var (pv 6)) se_non (by first | rfl | exact nomark _ | decide))))) (sw_or1 (SW.st (sw_and (st_cmp or_isNot (se_var (pv 3)) se_non (by first | rfl | exact nomark _ | decide)) (sw_and1 (st_not (st_val (se_isi rfl (T.free 16) (se_var (pv 6)) (pe_bltn (v := .ty "str") rfl (T.free 17) bv_str rfl)))))))))) (sss_one (ss_ret se_bl)) sss_nil)) ?_
      exact sss_one (show SS _ _ _ _ b_law_listed_5 from (ss_ret (se_and (se_cmp (or_eq hu) (se_var (pv 6)) (se_var (pv 3)) (by first | rfl | exact nomark _ | decide)) (se_and (se_isi rfl (T.free 16) (se_var (pv 5)) (pe_bltn (v := .ty "list") rfl (T.free 18) bv_list rfl)) (se_one (se_cmp (or_eq hu) (se_var (pv 5)) (se_var (pv 1)) (by first | rfl | exact nomark _ | decide))))))))
/-! changed -/
abbrev s_changed : Stmt := topS 11
theorem sc_changed : FnScope ["blocks", "others", "numbers", "found", "number"] ["blocks", "others", "numbers"] (defScope s_changed) := ⟨rfl, rfl, rfl, by decide +kernel, rfl, by decide +kernel, by decide +kernel⟩
noncomputable def b_changed_0 : GS := (mSet 3 mDnew)
noncomputable def b_changed_1 : GS := (mFor (mIter (mUn oSortSet (mVar 2))) (mName 4) (mIte (mT (mBin oNe (mMtD oGet1 (mVar 0) (mVar 4)) (mMtD oGet1 (mVar 1) (mVar 4)))) (mPut oPutA (mVar 3) (mVar 4) (mMtD oGet1 (mVar 1) (mVar 4))) mSkip))
noncomputable def b_changed_2 : GS := (mRet (mVar 3))
noncomputable def b_changed : GS := (mSeq b_changed_0 (mSeq b_changed_1 b_changed_2))
noncomputable def g_changed : Fn := mDef 3 5 b_changed
theorem cal_changed (T : Tx fa fn tf K mg) : Cal P w K mg base C 1 "changed" ["blocks", "others", "numbers"] g_changed :=
  ok_calT (st := s_changed) (N := ["blocks", "others", "numbers", "found", "number"]) (k := 0) (body := b_changed) (T.def_ 10 22) sc_changed (fun _ _ _ _ _ _ us hl => match us, hl with | [_, _, _], _ => rfl)
    (fun X W f cdv A outer s H E hX hW hr hp tk => by
      have hN := sc_changed.nd
      have hu := room100 hr
      have hu1 := L2.hu_of hr
      have lx := lets_of tk
      refine sss_cons (show SS _ _ _ _ b_changed_0 from (ss_set hN rfl (by first | exact Or.inl rfl | exact Or.inr rfl) se_dnew)) ?_
      refine sss_cons (show SS _ _ _ _ b_changed_1 from (ss_for hp rfl (si_seq (se_sortSet rfl (T.free 20) rfl (T.free 21) (se_var (pv 2)))) (stg_name hN rfl (by first | exact Or.inl rfl | exact Or.inr rfl)) (sss_one (ss_if (st_cmp (or_ne hu) (se_get1 hu1 (se_var (pv 0)) (se_var (pv 4))) (se_get1 hu1 (se_var (pv 1)) (se_var (pv 4))) (by first | rfl | exact nomark _ | decide)) (sss_one (ss_put (ps_putA hu1) (se_var (pv 3)) (se_var (pv 4)) (se_get1 hu1 (se_var (pv 1)) (se_var (pv 4))))) sss_nil)))) ?_
      exact sss_one (show SS _ _ _ _ b_changed_2 from (ss_ret (se_var (pv 3)))))
/-! free_number -/
abbrev s_free_number : Stmt := topS 8
theorem sc_free_number : FnScope ["blocks", "number"] ["blocks"] (defScope s_free_number) := ⟨rfl, rfl, rfl, by decide +kernel, rfl, by decide +kernel, by decide +kernel⟩
noncomputable def b_free_number_0 : GS := (mSet 1 (mC (.int 1)))
noncomputable def b_free_number_1 : GS := (mWhile (mT (mBin oIn (mVar 1) (mVar 0))) (mSet 1 (mBin oAdd (mVar 1) (mC (.int 1)))))
noncomputable def b_free_number_2 : GS := (mRet (mVar 1))
noncomputable def b_free_number : GS := (mSeq b_free_number_0 (mSeq b_free_number_1 b_free_number_2))
noncomputable def g_free_number : Fn := mDef 1 2 b_free_number
theorem cal_free_number (T : Tx fa fn tf K mg) : Cal P w K mg base C 1 "free_number" ["blocks"] g_free_number :=
  ok_calT (st := s_free_number) (N := ["blocks", "number"]) (k := 0) (body := b_free_number) (T.def_ 11 23) sc_free_number (fun _ _ _ _ _ _ us hl => match us, hl with | [_], _ => rfl)
    (fun X W f cdv A outer s H E hX hW hr hp tk => by
      have hN := sc_free_number.nd
      have hu := room100 hr
      have hu1 := L2.hu_of hr
      have lx := lets_of tk
      refine sss_cons (show SS _ _ _ _ b_free_number_0 from (ss_set hN rfl (by first | exact Or.inl rfl | exact Or.inr rfl) se_int)) ?_
      refine sss_cons (show SS _ _ _ _ b_free_number_1 from (ss_while hp (st_cmp (or_in hu1) (se_var (pv 1)) (se_var (pv 0)) (by first | rfl | exact nomark _ | decide)) (sss_one (ss_set hN rfl (by first | exact Or.inl rfl | exact Or.inr rfl) (se_bin or_add (se_var (pv 1)) se_int))))) ?_
      exact sss_one (show SS _ _ _ _ b_free_number_2 from (ss_ret (se_var (pv 1)))))
/-! stored -/
abbrev s_stored : Stmt := topS 9
theorem sc_stored : FnScope ["blocks", "kind", "numbers", "rows", "found", "at", "row", "number"] ["blocks", "kind", "numbers", "rows"] (defScope s_stored) := ⟨rfl, rfl, rfl, by decide +kernel, rfl, by decide +kernel, by decide +kernel⟩
noncomputable def b_stored_0 : GS := (mSet 4 (mLst mNil))
noncomputable def b_stored_1 : GS := (mFor (mEnum (mVar 3)) (mName2 5 6) (mSeq (mSet 7 (mIf (mT (mBin oLt (mVar 5) (mCB oLen (mCons (mVar 2) mNil)))) (mBin oIx (mVar 2) (mVar 5)) (mCall g_free_number (mCons (mVar 0) mNil)))) (mSeq (mPut oPutA (mVar 0) (mVar 7) (mTup (mCons (mVar 1) (mCons (mVar 6) mNil)))) (mExpr (mMtL oAppend (mVar 4) (mCons (mTup (mCons (mBin oIx (mBin oIx (mVar 6) (mC (.int 0))) (mC (.int 0))) (mCons (mVar 7) mNil))) mNil))))))
noncomputable def b_stored_2 : GS := (mFor (mIter (mSl (mVar 2) (mSome (mCB oLen (mCons (mVar 3) mNil))) mNo)) (mName 7) (mExpr (mMtD oPopD1 (mVar 0) (mVar 7))))
noncomputable def b_stored_3 : GS := (mRet (mVar 4))
noncomputable def b_stored : GS := (mSeq b_stored_0 (mSeq b_stored_1 (mSeq b_stored_2 b_stored_3)))
noncomputable def g_stored : Fn := mDef 4 8 b_stored
theorem cal_stored (T : Tx fa fn tf K mg) : Cal P w K mg base C 2 "stored" ["blocks", "kind", "numbers", "rows"] g_stored :=
  ok_calT (st := s_stored) (N := ["blocks", "kind", "numbers", "rows", "found", "at", "row", "number"]) (k := 1) (body := b_stored) (T.def_ 12 24) sc_stored (fun _ _ _ _ _ _ us hl => match us, hl with | [_, _, _, _], _ => rfl)
    (fun X W f cdv A outer s H E hX hW hr hp tk => by
      have hN := sc_stored.nd
      have hu := room100 hr
      have hu1 := L2.hu_of hr
      have lx := lets_of tk
      refine sss_cons (show SS _ _ _ _ b_stored_0 from (ss_set hN rfl (by first | exact Or.inl rfl | exact Or.inr rfl) (se_lst sa_nil))) ?_
      refine sss_cons (show SS _ _ _ _ b_stored_1 from (ss_for hp rfl (si_enum rfl (T.free 12) (se_var (pv 3))) (stg_name2 rfl hN rfl (by first | exact Or.inl rfl | exact Or.inr rfl) rfl (by first | exact Or.inl rfl | exact Or.inr rfl)) (sss_cons (ss_set hN rfl (by first | exact Or.inl rfl | exact Or.inr rfl) (se_if (st_cmp or_lt (se_var (pv 5)) (se_cb cl_len rfl (T.free 1) bv_len (sa_cons (se_var (pv 2)) sa_nil)) (by first | rfl | exact nomark _ | decide)) (se_ix hu1 (se_var (pv 2)) (se_var (pv 5)) (fun _ _ => rfl)) (se_cal (cal_free_number T) (hr.mono (by decide)) lx (sa_cons (se_var (pv 0)) sa_nil)))) (sss_cons (ss_put (ps_putA hu1) (se_var (pv 0)) (se_var (pv 7)) (se_tup (sa_cons (se_var (pv 1)) (sa_cons (se_var (pv 6)) sa_nil)))) (sss_one (ss_expr (se_mtL PySem.F.slot_list_append PySem.F.type_list_append rm_append (se_var (pv 4)) (sa_cons (se_tup (sa_cons (se_ix hu1 (se_ix hu1 (se_var (pv 6)) se_int (fun _ _ => rfl)) se_int (fun _ _ => rfl)) (sa_cons (se_var (pv 7)) sa_nil))) sa_nil)))))))) ?_
      refine sss_cons (show SS _ _ _ _ b_stored_2 from (ss_for hp rfl (si_seq (se_sl (se_var (pv 2)) (so_some (se_cb cl_len rfl (T.free 1) bv_len (sa_cons (se_var (pv 3)) sa_nil))) so_no)) (stg_name hN rfl (by first | exact Or.inl rfl | exact Or.inr rfl)) (sss_one (ss_expr (se_popD1 (se_var (pv 0)) (se_var (pv 7))))))) ?_
      exact sss_one (show SS _ _ _ _ b_stored_3 from (ss_ret (se_var (pv 4)))))
/-! half -/
abbrev s_half : Stmt := topS 1
theorem sc_half : FnScope ["width"] ["width"] (defScope s_half) := ⟨rfl, rfl, rfl, by decide +kernel, rfl, by decide +kernel, by decide +kernel⟩
noncomputable def b_half_0 : GS := (mRet (mBin oDiv (mBin oAdd (mVar 0) (mC (.int 1))) (mC (.int 2))))
noncomputable def b_half : GS := b_half_0
noncomputable def g_half : Fn := mDef 1 1 b_half
theorem cal_half (T : Tx fa fn tf K mg) : Cal P w K mg base C 1 "half" ["width"] g_half :=
  ok_calT (st := s_half) (N := ["width"]) (k := 0) (body := b_half) (T.def_ 13 25) sc_half (fun _ _ _ _ _ _ us hl => match us, hl with | [_], _ => rfl)
    (fun X W f cdv A outer s H E hX hW hr hp tk => by
      have hN := sc_half.nd
      have hu := room100 hr
      have hu1 := L2.hu_of hr
      have lx := lets_of tk
      exact sss_one (show SS _ _ _ _ b_half_0 from (ss_ret (se_bin or_div (se_bin or_add (se_var (pv 0)) se_int) se_int))))
/-! beside -/
abbrev s_beside : Stmt := topS 13
theorem sc_beside : FnScope ["above", "number", "numbers", "at", "pair"] ["above", "number"] (defScope s_beside) := ⟨rfl, rfl, rfl, by decide +kernel, rfl, by decide +kernel, by decide +kernel⟩
noncomputable def b_beside_0 : GS := (mSet 2 (mLc (mIter (mVar 0)) (mName 4) mYes (mBin oIx (mVar 4) (mC (.int 1))) [4]))
noncomputable def b_beside_1 : GS := (mSet 3 (mCB oMax2 (mCons (mC (.int 1)) (mCons (mMtL oIndex (mVar 2) (mCons (mVar 1) mNil)) mNil))))
noncomputable def b_beside_2 : GS := (mRet (mSl (mVar 2) (mSome (mBin oSub (mVar 3) (mC (.int 1)))) (mSome (mBin oAdd (mVar 3) (mC (.int 1))))))
noncomputable def b_beside : GS := (mSeq b_beside_0 (mSeq b_beside_1 b_beside_2))
noncomputable def g_beside : Fn := mDef 2 5 b_beside
theorem cal_beside (T : Tx fa fn tf K mg) : Cal P w K mg base C 1 "beside" ["above", "number"] g_beside :=
  ok_calT (st := s_beside) (N := ["above", "number", "numbers", "at", "pair"]) (k := 0) (body := b_beside) (T.def_ 14 26) sc_beside (fun _ _ _ _ _ _ us hl => match us, hl with | [_, _], _ => rfl)
    (fun X W f cdv A outer s H E hX hW hr hp tk => by
      have hN := sc_beside.nd
      have hu := room100 hr
      have hu1 := L2.hu_of hr
      have lx := lets_of tk
      refine sss_cons (show SS _ _ _ _ b_beside_0 from (ss_setLc (own := [("pair", 4)]) rfl hN rfl rfl (sw_true rfl rfl rfl rfl) (si_seq (se_var (pv 0))) (blkOk_by (own := [("pair", 4)]) (by kernel_rfl)) (fun _ _ _ _ _ => pg_name hN rfl (Or.inl rfl)) (sc_name 4) (fun _ _ _ _ _ => st_yes pts_nil) (fun _ _ _ _ _ => (se_ix hu1 (se_var (pv 4)) se_int (fun _ _ => rfl))))) ?_
      refine sss_cons (show SS _ _ _ _ b_beside_1 from (ss_set hN rfl (by first | exact Or.inl rfl | exact Or.inr rfl) (se_cb (cl_max2 rfl) rfl (T.free 2) bv_max (sa_cons se_int (sa_cons (se_mtL PySem.F.slot_list_index PySem.F.type_list_index rm_index (se_var (pv 2)) (sa_cons (se_var (pv 1)) sa_nil)) sa_nil))))) ?_
      exact sss_one (show SS _ _ _ _ b_beside_2 from (ss_ret (se_sl (se_var (pv 2)) (so_some (se_bin or_sub (se_var (pv 3)) se_int)) (so_some (se_bin or_add (se_var (pv 3)) se_int))))))
/-! parts -/
abbrev s_parts : Stmt := topS 3
theorem sc_parts : FnScope ["pairs", "width", "middle"] ["pairs", "width"] (defScope s_parts) := ⟨rfl, rfl, rfl, by decide +kernel, rfl, by decide +kernel, by decide +kernel⟩
noncomputable def b_parts_0 : GS := (mIte (mT (mBin oLe (mCB oLen (mCons (mVar 0) mNil)) (mVar 1))) (mRet (mLst (mCons (mCB oTuple (mCons (mVar 0) mNil)) mNil))) mSkip)
noncomputable def b_parts_1 : GS := (mSet 2 (mBin oDiv (mCB oLen (mCons (mVar 0) mNil)) (mC (.int 2))))
noncomputable def b_parts_2 : GS := (mRet (mLst (mCons (mCB oTuple (mCons (mSl (mVar 0) mNo (mSome (mVar 2))) mNil)) (mCons (mCB oTuple (mCons (mSl (mVar 0) (mSome (mVar 2)) mNo) mNil)) mNil))))
noncomputable def b_parts : GS := (mSeq b_parts_0 (mSeq b_parts_1 b_parts_2))
noncomputable def g_parts : Fn := mDef 2 3 b_parts
theorem cal_parts (T : Tx fa fn tf K mg) : Cal P w K mg base C 1 "parts" ["pairs", "width"] g_parts :=
  ok_calT (st := s_parts) (N := ["pairs", "width", "middle"]) (k := 0) (body := b_parts) (T.def_ 15 27) sc_parts (fun _ _ _ _ _ _ us hl => match us, hl with | [_, _], _ => rfl)
    (fun X W f cdv A outer s H E hX hW hr hp tk => by
      have hN := sc_parts.nd
      have hu := room100 hr
      have hu1 := L2.hu_of hr
      have lx := lets_of tk
      refine sss_cons (show SS _ _ _ _ b_parts_0 from (ss_if (st_cmp or_le (se_cb cl_len rfl (T.free 1) bv_len (sa_cons (se_var (pv 0)) sa_nil)) (se_var (pv 1)) (by first | rfl | exact nomark _ | decide)) (sss_one (ss_ret (se_lst (sa_cons (se_cty cl_tuple rfl (T.free 5) bv_tuple (sa_cons (se_var (pv 0)) sa_nil)) sa_nil)))) sss_nil)) ?_
      refine sss_cons (show SS _ _ _ _ b_parts_1 from (ss_set hN rfl (by first | exact Or.inl rfl | exact Or.inr rfl) (se_bin or_div (se_cb cl_len rfl (T.free 1) bv_len (sa_cons (se_var (pv 0)) sa_nil)) se_int))) ?_
      exact sss_one (show SS _ _ _ _ b_parts_2 from (ss_ret (se_lst (sa_cons (se_cty cl_tuple rfl (T.free 5) bv_tuple (sa_cons (se_sl (se_var (pv 0)) so_no (so_some (se_var (pv 2)))) sa_nil)) (sa_cons (se_cty cl_tuple rfl (T.free 5) bv_tuple (sa_cons (se_sl (se_var (pv 0)) (so_some (se_var (pv 2))) so_no) sa_nil)) sa_nil))))))
/-! replaced -/
abbrev s_replaced : Stmt := topS 10
theorem sc_replaced : FnScope ["pairs", "numbers", "news", "at"] ["pairs", "numbers", "news"] (defScope s_replaced) := ⟨rfl, rfl, rfl, by decide +kernel, rfl, by decide +kernel, by decide +kernel⟩
noncomputable def b_replaced_0 : GS := (mSet 3 (mC (.int 0)))
noncomputable def b_replaced_1 : GS := (mWhile (mT (mBin oNe (mBin oIx (mBin oIx (mVar 0) (mVar 3)) (mC (.int 1))) (mBin oIx (mVar 1) (mC (.int 0))))) (mSet 3 (mBin oAdd (mVar 3) (mC (.int 1)))))
noncomputable def b_replaced_2 : GS := (mRet (mBin oAdd (mBin oAdd (mCB oList (mCons (mSl (mVar 0) mNo (mSome (mVar 3))) mNil)) (mVar 2)) (mCB oList (mCons (mSl (mVar 0) (mSome (mBin oAdd (mVar 3) (mCB oLen (mCons (mVar 1) mNil)))) mNo) mNil))))
noncomputable def b_replaced : GS := (mSeq b_replaced_0 (mSeq b_replaced_1 b_replaced_2))
noncomputable def g_replaced : Fn := mDef 3 4 b_replaced
theorem cal_replaced (T : Tx fa fn tf K mg) : Cal P w K mg base C 1 "replaced" ["pairs", "numbers", "news"] g_replaced :=
  ok_calT (st := s_replaced) (N := ["pairs", "numbers", "news", "at"]) (k := 0) (body := b_replaced) (T.def_ 16 28) sc_replaced (fun _ _ _ _ _ _ us hl => match us, hl with | [_, _, _], _ => rfl)
    (fun X W f cdv A outer s H E hX hW hr hp tk => by
      have hN := sc_replaced.nd
      have hu := room100 hr
      have hu1 := L2.hu_of hr
      have lx := lets_of tk
      refine sss_cons (show SS _ _ _ _ b_replaced_0 from (ss_set hN rfl (by first | exact Or.inl rfl | exact Or.inr rfl) se_int)) ?_
      refine sss_cons (show SS _ _ _ _ b_replaced_1 from (ss_while hp (st_cmp (or_ne hu) (se_ix hu1 (se_ix hu1 (se_var (pv 0)) (se_var (pv 3)) (fun _ _ => rfl)) se_int (fun _ _ => rfl)) (se_ix hu1 (se_var (pv 1)) se_int (fun _ _ => rfl)) (by first | rfl | exact nomark _ | decide)) (sss_one (ss_set hN rfl (by first | exact Or.inl rfl | exact Or.inr rfl) (se_bin or_add (se_var (pv 3)) se_int))))) ?_
      exact sss_one (show SS _ _ _ _ b_replaced_2 from (ss_ret (se_bin or_add (se_bin or_add (se_cty (cl_list rfl) rfl (T.free 18) bv_list (sa_cons (se_sl (se_var (pv 0)) so_no (so_some (se_var (pv 3)))) sa_nil)) (se_var (pv 2))) (se_cty (cl_list rfl) rfl (T.free 18) bv_list (sa_cons (se_sl (se_var (pv 0)) (so_some (se_bin or_add (se_var (pv 3)) (se_cb cl_len rfl (T.free 1) bv_len (sa_cons (se_var (pv 1)) sa_nil)))) so_no) sa_nil))))))
/-! drop_from -/
abbrev s_drop_from : Stmt := topS 14
theorem sc_drop_from : FnScope ["blocks", "width", "key", "found", "way", "touched", "numbers", "kind", "above", "rows", "number", "news", "pair"] ["blocks", "width", "key"] (defScope s_drop_from) := ⟨rfl, rfl, rfl, by decide +kernel, rfl, by decide +kernel, by decide +kernel⟩
noncomputable def b_drop_from_0 : GS := (mSet 3 (mCB oDict (mCons (mVar 0) mNil)))
noncomputable def b_drop_from_1 : GS := (mSet 4 (mCall g_way_to (mCons (mVar 3) (mCons (mVar 2) mNil))))
noncomputable def b_drop_from_2 : GS := (mSet 5 (mCB oList (mCons (mVar 4) mNil)))
noncomputable def b_drop_from_3 : GS := (mPut oPutA (mVar 3) (mBin oIx (mVar 4) (mUn oNeg (mC (.int 1)))) (mTup (mCons (mC (.str "leaf")) (mCons (mCB oTuple (mCons (mLc (mIter (mBin oIx (mBin oIx (mVar 3) (mBin oIx (mVar 4) (mUn oNeg (mC (.int 1))))) (mC (.int 1)))) (mName 12) (mT (mBin oNe (mBin oIx (mVar 12) (mC (.int 0))) (mVar 2))) (mVar 12) [12]) mNil)) mNil))))
noncomputable def b_drop_from_4 : GS := (mWhile (mT (mBin oGt (mCB oLen (mCons (mVar 4) mNil)) (mC (.int 1)))) (mSeq (mSet 6 (mLst (mCons (mMtL oPop0 (mVar 4) mNil) mNil))) (mSeq (mSet 7 (mBin oIx (mBin oIx (mVar 3) (mBin oIx (mVar 6) (mC (.int 0)))) (mC (.int 0)))) (mSeq (mSet 8 (mBin oIx (mBin oIx (mVar 3) (mBin oIx (mVar 4) (mUn oNeg (mC (.int 1))))) (mC (.int 1)))) (mSeq (mIte (mT (mBin oLt (mCB oLen (mCons (mBin oIx (mBin oIx (mVar 3) (mBin oIx (mVar 6) (mC (.int 0)))) (mC (.int 1))) mNil)) (mCall g_half (mCons (mVar 1) mNil)))) (mSeq (mSet 6 (mCall g_beside (mCons (mVar 8) (mCons (mBin oIx (mVar 6) (mC (.int 0))) mNil)))) (mExpr (mMtL oExtend (mVar 5) (mCons (mVar 6) mNil)))) mSkip) (mSeq (mSet 9 (mLst mNil)) (mSeq (mFor (mIter (mVar 6)) (mName 10) (mExpr (mMtL oExtend (mVar 9) (mCons (mBin oIx (mBin oIx (mVar 3) (mVar 10)) (mC (.int 1))) mNil)))) (mSeq (mSet 11 (mCall g_stored (mCons (mVar 3) (mCons (mVar 7) (mCons (mVar 6) (mCons (mCall g_parts (mCons (mVar 9) (mCons (mVar 1) mNil))) mNil)))))) (mPut oPutA (mVar 3) (mBin oIx (mVar 4) (mUn oNeg (mC (.int 1)))) (mTup (mCons (mC (.str "branch")) (mCons (mCB oTuple (mCons (mCall g_replaced (mCons (mVar 8) (mCons (mVar 6) (mCons (mVar 11) mNil)))) mNil)) mNil))))))))))))
noncomputable def b_drop_from_5 : GS := (mIte (mAnd (mT (mBin oEq (mBin oIx (mBin oIx (mVar 3) (mC (.int 0))) (mC (.int 0))) (mC (.str "branch")))) (mT (mBin oEq (mCB oLen (mCons (mBin oIx (mBin oIx (mVar 3) (mC (.int 0))) (mC (.int 1))) mNil)) (mC (.int 1))))) (mSeq (mExpr (mMtL oAppend (mVar 5) (mCons (mBin oIx (mBin oIx (mBin oIx (mBin oIx (mVar 3) (mC (.int 0))) (mC (.int 1))) (mC (.int 0))) (mC (.int 1))) mNil))) (mPut oPutA (mVar 3) (mC (.int 0)) (mMtD oPopD1 (mVar 3) (mBin oIx (mBin oIx (mBin oIx (mBin oIx (mVar 3) (mC (.int 0))) (mC (.int 1))) (mC (.int 0))) (mC (.int 1)))))) mSkip)
noncomputable def b_drop_from_6 : GS := (mRet (mCall g_changed (mCons (mVar 0) (mCons (mVar 3) (mCons (mVar 5) mNil)))))
noncomputable def b_drop_from : GS := (mSeq b_drop_from_0 (mSeq b_drop_from_1 (mSeq b_drop_from_2 (mSeq b_drop_from_3 (mSeq b_drop_from_4 (mSeq b_drop_from_5 b_drop_from_6))))))
noncomputable def g_drop_from : Fn := mDef 3 13 b_drop_from
theorem cal_drop_from (T : Tx fa fn tf K mg) : Cal P w K mg base C 3 "drop_from" ["blocks", "width", "key"] g_drop_from :=
  ok_calT (st := s_drop_from) (N := ["blocks", "width", "key", "found", "way", "touched", "numbers", "kind", "above", "rows", "number", "news", "pair"]) (k := 2) (body := b_drop_from) (T.def_ 17 30) sc_drop_from (fun _ _ _ _ _ _ us hl => match us, hl with | [_, _, _], _ => rfl)
    (fun X W f cdv A outer s H E hX hW hr hp tk => by
      have hN := sc_drop_from.nd
      have hu := room100 hr
      have hu1 := L2.hu_of hr
      have lx := lets_of tk
      refine sss_cons (show SS _ _ _ _ b_drop_from_0 from (ss_set hN rfl (by first | exact Or.inl rfl | exact Or.inr rfl) (se_cty cl_dict rfl (T.free 29) bv_dict (sa_cons (se_var (pv 0)) sa_nil)))) ?_
      refine sss_cons (show SS _ _ _ _ b_drop_from_1 from (ss_set hN rfl (by first | exact Or.inl rfl | exact Or.inr rfl) (se_cal (cal_way_to T) (hr.mono (by decide)) lx (sa_cons (se_var (pv 3)) (sa_cons (se_var (pv 2)) sa_nil))))) ?_
      refine sss_cons (show SS _ _ _ _ b_drop_from_2 from (ss_set hN rfl (by first | exact Or.inl rfl | exact Or.inr rfl) (se_cty (cl_list rfl) rfl (T.free 18) bv_list (sa_cons (se_var (pv 4)) sa_nil)))) ?_
      refine sss_cons (show SS _ _ _ _ b_drop_from_3 from (ss_put (ps_putA hu1) (se_var (pv 3)) (se_ix hu1 (se_var (pv 4)) (se_un ur_neg se_int) (fun _ _ => rfl)) (se_tup (sa_cons se_str (sa_cons (se_cty cl_tuple rfl (T.free 5) bv_tuple (sa_cons (se_lc (own := [("pair", 12)]) rfl hN (si_seq (se_ix hu1 (se_ix hu1 (se_var (pv 3)) (se_ix hu1 (se_var (pv 4)) (se_un ur_neg se_int) (fun _ _ => rfl)) (fun _ _ => rfl)) se_int (fun _ _ => rfl))) (blkOk_by (own := [("pair", 12)]) (by kernel_rfl)) (fun _ _ _ _ _ => pg_name hN rfl (Or.inl rfl)) (sc_name 12) (fun _ _ _ _ _ => pts_one (ST.pt (st_cmp (or_ne hu) (se_ix hu1 (se_var (pv 12)) se_int (fun _ _ => rfl)) (se_var (pv 2)) (by first | rfl | exact nomark _ | decide)))) (fun _ _ _ _ _ => (se_var (pv 12)))) sa_nil)) sa_nil))))) ?_
      refine sss_cons (show SS _ _ _ _ b_drop_from_4 from (ss_while hp (st_cmp or_gt (se_cb cl_len rfl (T.free 1) bv_len (sa_cons (se_var (pv 4)) sa_nil)) se_int (by first | rfl | exact nomark _ | decide)) (sss_cons (ss_set hN rfl (by first | exact Or.inl rfl | exact Or.inr rfl) (se_lst (sa_cons (se_mtL0 PySem.F.slot_list_pop PySem.F.type_list_pop rm_pop0 (se_var (pv 4))) sa_nil))) (sss_cons (ss_set hN rfl (by first | exact Or.inl rfl | exact Or.inr rfl) (se_ix hu1 (se_ix hu1 (se_var (pv 3)) (se_ix hu1 (se_var (pv 6)) se_int (fun _ _ => rfl)) (fun _ _ => rfl)) se_int (fun _ _ => rfl))) (sss_cons (ss_set hN rfl (by first | exact Or.inl rfl | exact Or.inr rfl) (se_ix hu1 (se_ix hu1 (se_var (pv 3)) (se_ix hu1 (se_var (pv 4)) (se_un ur_neg se_int) (fun _ _ => rfl)) (fun _ _ => rfl)) se_int (fun _ _ => rfl))) (sss_cons (ss_if (st_cmp or_lt (se_cb cl_len rfl (T.free 1) bv_len (sa_cons (se_ix hu1 (se_ix hu1 (se_var (pv 3)) (se_ix hu1 (se_var (pv 6)) se_int (fun _ _ => rfl)) (fun _ _ => rfl)) se_int (fun _ _ => rfl)) sa_nil)) (se_cal (cal_half T) (hr.mono (by decide)) lx (sa_cons (se_var (pv 1)) sa_nil)) (by first | rfl | exact nomark _ | decide)) (sss_cons (ss_set hN rfl (by first | exact Or.inl rfl | exact Or.inr rfl) (se_cal (cal_beside T) (hr.mono (by decide)) lx (sa_cons (se_var (pv 8)) (sa_cons (se_ix hu1 (se_var (pv 6)) se_int (fun _ _ => rfl)) sa_nil)))) (sss_one (ss_expr (se_mtL PySem.F.slot_list_extend PySem.F.type_list_extend rm_extend (se_var (pv 5)) (sa_cons (se_var (pv 6)) sa_nil))))) sss_nil) (sss_cons (ss_set hN rfl (by first | exact Or.inl rfl | exact Or.inr rfl) (se_lst sa_nil)) (sss_cons (ss_for hp rfl (si_seq (se_var (pv 6))) (stg_name hN rfl (by first | exact Or.inl rfl | exact Or.inr rfl)) (sss_one (ss_expr (se_mtL PySem.F.slot_list_extend PySem.F.type_list_extend rm_extend (se_var (pv 9)) (sa_cons (se_ix hu1 (se_ix hu1 (se_var (pv 3)) (se_var (pv 10)) (fun _ _ => rfl)) se_int (fun _ _ => rfl)) sa_nil))))) (sss_cons (ss_set hN rfl (by first | exact Or.inl rfl | exact Or.inr rfl) (se_cal (cal_stored T) (hr.mono (by decide)) lx (sa_cons (se_var (pv 3)) (sa_cons (se_var (pv 7)) (sa_cons (se_var (pv 6)) (sa_cons (se_cal (cal_parts T) (hr.mono (by decide)) lx (sa_cons (se_var (pv 9)) (sa_cons (se_var (pv 1)) sa_nil))) sa_nil)))))) (sss_one (ss_put (ps_putA hu1) (se_var (pv 3)) (se_ix hu1 (se_var (pv 4)) (se_un ur_neg se_int) (fun _ _ => rfl)) (se_tup (sa_cons se_str (sa_cons (se_cty cl_tuple rfl (T.free 5) bv_tuple (sa_cons (se_cal (cal_replaced T) (hr.mono (by decide)) lx (sa_cons (se_var (pv 8)) (sa_cons (se_var (pv 6)) (sa_cons (se_var (pv 11)) sa_nil)))) sa_nil)) sa_nil)))))))))))))) ?_
      refine sss_cons (show SS _ _ _ _ b_drop_from_5 from (ss_if (SW.st (sw_and (st_cmp (or_eq hu) (se_ix hu1 (se_ix hu1 (se_var (pv 3)) se_int (fun _ _ => rfl)) se_int (fun _ _ => rfl)) se_str (by first | rfl | exact nomark _ | decide)) (sw_and1 (st_cmp (or_eq hu) (se_cb cl_len rfl (T.free 1) bv_len (sa_cons (se_ix hu1 (se_ix hu1 (se_var (pv 3)) se_int (fun _ _ => rfl)) se_int (fun _ _ => rfl)) sa_nil)) se_int (by first | rfl | exact nomark _ | decide))))) (sss_cons (ss_expr (se_mtL PySem.F.slot_list_append PySem.F.type_list_append rm_append (se_var (pv 5)) (sa_cons (se_ix hu1 (se_ix hu1 (se_ix hu1 (se_ix hu1 (se_var (pv 3)) se_int (fun _ _ => rfl)) se_int (fun _ _ => rfl)) se_int (fun _ _ => rfl)) se_int (fun _ _ => rfl)) sa_nil))) (sss_one (ss_put (ps_putA hu1) (se_var (pv 3)) se_int (se_popD1 (se_var (pv 3)) (se_ix hu1 (se_ix hu1 (se_ix hu1 (se_ix hu1 (se_var (pv 3)) se_int (fun _ _ => rfl)) se_int (fun _ _ => rfl)) se_int (fun _ _ => rfl)) se_int (fun _ _ => rfl)))))) sss_nil)) ?_
      exact sss_one (show SS _ _ _ _ b_drop_from_6 from (ss_ret (se_cal (cal_changed T) (hr.mono (by decide)) lx (sa_cons (se_var (pv 0)) (sa_cons (se_var (pv 3)) (sa_cons (se_var (pv 5)) sa_nil)))))))
/-! put_in -/
abbrev s_put_in : Stmt := topS 12
theorem sc_put_in : FnScope ["blocks", "width", "key", "value", "found", "way", "numbers", "pairs", "rows", "kind", "number", "news", "pair"] ["blocks", "width", "key", "value"] (defScope s_put_in) := ⟨rfl, rfl, rfl, by decide +kernel, rfl, by decide +kernel, by decide +kernel⟩
noncomputable def b_put_in_0 : GS := (mSet 4 (mCB oDict (mCons (mVar 0) mNil)))
noncomputable def b_put_in_1 : GS := (mSet 5 (mCall g_way_to (mCons (mVar 4) (mCons (mVar 2) mNil))))
noncomputable def b_put_in_2 : GS := (mSet 6 (mCB oList (mCons (mVar 5) mNil)))
noncomputable def b_put_in_3 : GS := (mSet 7 (mBin oIx (mBin oIx (mVar 4) (mBin oIx (mVar 5) (mUn oNeg (mC (.int 1))))) (mC (.int 1))))
noncomputable def b_put_in_4 : GS := (mSet 8 (mBin oAdd (mBin oAdd (mLc (mIter (mVar 7)) (mName 12) (mT (mBin oLt (mBin oIx (mVar 12) (mC (.int 0))) (mVar 2))) (mVar 12) [12]) (mLst (mCons (mTup (mCons (mVar 2) (mCons (mVar 3) mNil))) mNil))) (mLc (mIter (mVar 7)) (mName 12) (mT (mBin oGt (mBin oIx (mVar 12) (mC (.int 0))) (mVar 2))) (mVar 12) [12])))
noncomputable def b_put_in_5 : GS := (mSet 9 (mC (.str "leaf")))
noncomputable def b_put_in_6 : GS := (mWhile (mT (mBin oGt (mCB oLen (mCons (mVar 5) mNil)) (mC (.int 1)))) (mSeq (mSet 10 (mMtL oPop0 (mVar 5) mNil)) (mSeq (mSet 11 (mCall g_stored (mCons (mVar 4) (mCons (mVar 9) (mCons (mLst (mCons (mVar 10) mNil)) (mCons (mCall g_parts (mCons (mVar 8) (mCons (mVar 1) mNil))) mNil)))))) (mSeq (mExpr (mMtL oExtend (mVar 6) (mCons (mLc (mIter (mVar 11)) (mName 12) mYes (mBin oIx (mVar 12) (mC (.int 1))) [12]) mNil))) (mSeq (mSet 8 (mCall g_replaced (mCons (mBin oIx (mBin oIx (mVar 4) (mBin oIx (mVar 5) (mUn oNeg (mC (.int 1))))) (mC (.int 1))) (mCons (mLst (mCons (mVar 10) mNil)) (mCons (mVar 11) mNil))))) (mSet 9 (mC (.str "branch"))))))))
noncomputable def b_put_in_7 : GS := (mIte (mT (mBin oGt (mCB oLen (mCons (mVar 8) mNil)) (mVar 1))) (mSeq (mSet 8 (mCall g_stored (mCons (mVar 4) (mCons (mVar 9) (mCons (mLst mNil) (mCons (mCall g_parts (mCons (mVar 8) (mCons (mVar 1) mNil))) mNil)))))) (mSeq (mExpr (mMtL oExtend (mVar 6) (mCons (mLc (mIter (mVar 8)) (mName 12) mYes (mBin oIx (mVar 12) (mC (.int 1))) [12]) mNil))) (mSet 9 (mC (.str "branch"))))) mSkip)
noncomputable def b_put_in_8 : GS := (mPut oPutA (mVar 4) (mC (.int 0)) (mTup (mCons (mVar 9) (mCons (mCB oTuple (mCons (mVar 8) mNil)) mNil))))
noncomputable def b_put_in_9 : GS := (mRet (mCall g_changed (mCons (mVar 0) (mCons (mVar 4) (mCons (mVar 6) mNil)))))
noncomputable def b_put_in : GS := (mSeq b_put_in_0 (mSeq b_put_in_1 (mSeq b_put_in_2 (mSeq b_put_in_3 (mSeq b_put_in_4 (mSeq b_put_in_5 (mSeq b_put_in_6 (mSeq b_put_in_7 (mSeq b_put_in_8 b_put_in_9)))))))))
noncomputable def g_put_in : Fn := mDef 4 13 b_put_in
theorem cal_put_in (T : Tx fa fn tf K mg) : Cal P w K mg base C 3 "put_in" ["blocks", "width", "key", "value"] g_put_in :=
  ok_calT (st := s_put_in) (N := ["blocks", "width", "key", "value", "found", "way", "numbers", "pairs", "rows", "kind", "number", "news", "pair"]) (k := 2) (body := b_put_in) (T.def_ 18 31) sc_put_in (fun _ _ _ _ _ _ us hl => match us, hl with | [_, _, _, _], _ => rfl)
    (fun X W f cdv A outer s H E hX hW hr hp tk => by
      have hN := sc_put_in.nd
      have hu := room100 hr
      have hu1 := L2.hu_of hr
      have lx := lets_of tk
      refine sss_cons (show SS _ _ _ _ b_put_in_0 from (ss_set hN rfl (by first | exact Or.inl rfl | exact Or.inr rfl) (se_cty cl_dict rfl (T.free 29) bv_dict (sa_cons (se_var (pv 0)) sa_nil)))) ?_
      refine sss_cons (show SS _ _ _ _ b_put_in_1 from (ss_set hN rfl (by first | exact Or.inl rfl | exact Or.inr rfl) (se_cal (cal_way_to T) (hr.mono (by decide)) lx (sa_cons (se_var (pv 4)) (sa_cons (se_var (pv 2)) sa_nil))))) ?_
      refine sss_cons (show SS _ _ _ _ b_put_in_2 from (ss_set hN rfl (by first | exact Or.inl rfl | exact Or.inr rfl) (se_cty (cl_list rfl) rfl (T.free 18) bv_list (sa_cons (se_var (pv 5)) sa_nil)))) ?_
      refine sss_cons (show SS _ _ _ _ b_put_in_3 from (ss_set hN rfl (by first | exact Or.inl rfl | exact Or.inr rfl) (se_ix hu1 (se_ix hu1 (se_var (pv 4)) (se_ix hu1 (se_var (pv 5)) (se_un ur_neg se_int) (fun _ _ => rfl)) (fun _ _ => rfl)) se_int (fun _ _ => rfl)))) ?_
      refine sss_cons (show SS _ _ _ _ b_put_in_4 from (ss_set hN rfl (by first | exact Or.inl rfl | exact Or.inr rfl) (se_bin or_add (se_bin or_add (se_lc (own := [("pair", 12)]) rfl hN (si_seq (se_var (pv 7))) (blkOk_by (own := [("pair", 12)]) (by kernel_rfl)) (fun _ _ _ _ _ => pg_name hN rfl (Or.inl rfl)) (sc_name 12) (fun _ _ _ _ _ => pts_one (ST.pt (st_cmp or_lt (se_ix hu1 (se_var (pv 12)) se_int (fun _ _ => rfl)) (se_var (pv 2)) (by first | rfl | exact nomark _ | decide)))) (fun _ _ _ _ _ => (se_var (pv 12)))) (se_lst (sa_cons (se_tup (sa_cons (se_var (pv 2)) (sa_cons (se_var (pv 3)) sa_nil))) sa_nil))) (se_lc (own := [("pair", 12)]) rfl hN (si_seq (se_var (pv 7))) (blkOk_by (own := [("pair", 12)]) (by kernel_rfl)) (fun _ _ _ _ _ => pg_name hN rfl (Or.inl rfl)) (sc_name 12) (fun _ _ _ _ _ => pts_one (ST.pt (st_cmp or_gt (se_ix hu1 (se_var (pv 12)) se_int (fun _ _ => rfl)) (se_var (pv 2)) (by first | rfl | exact nomark _ | decide)))) (fun _ _ _ _ _ => (se_var (pv 12))))))) ?_
      refine sss_cons (show SS _ _ _ _ b_put_in_5 from (ss_set hN rfl (by first | exact Or.inl rfl | exact Or.inr rfl) se_str)) ?_
      refine sss_cons (show SS _ _ _ _ b_put_in_6 from (ss_while hp (st_cmp or_gt (se_cb cl_len rfl (T.free 1) bv_len (sa_cons (se_var (pv 5)) sa_nil)) se_int (by first | rfl | exact nomark _ | decide)) (sss_cons (ss_set hN rfl (by first | exact Or.inl rfl | exact Or.inr rfl) (se_mtL0 PySem.F.slot_list_pop PySem.F.type_list_pop rm_pop0 (se_var (pv 5)))) (sss_cons (ss_set hN rfl (by first | exact Or.inl rfl | exact Or.inr rfl) (se_cal (cal_stored T) (hr.mono (by decide)) lx (sa_cons (se_var (pv 4)) (sa_cons (se_var (pv 9)) (sa_cons (se_lst (sa_cons (se_var (pv 10)) sa_nil)) (sa_cons (se_cal (cal_parts T) (hr.mono (by decide)) lx (sa_cons (se_var (pv 8)) (sa_cons (se_var (pv 1)) sa_nil))) sa_nil)))))) (sss_cons (ss_expr (se_mtL PySem.F.slot_list_extend PySem.F.type_list_extend rm_extend (se_var (pv 6)) (sa_cons (se_lc (own := [("pair", 12)]) rfl hN (si_seq (se_var (pv 11))) (blkOk_by (own := [("pair", 12)]) (by kernel_rfl)) (fun _ _ _ _ _ => pg_name hN rfl (Or.inl rfl)) (sc_name 12) (fun _ _ _ _ _ => st_yes pts_nil) (fun _ _ _ _ _ => (se_ix hu1 (se_var (pv 12)) se_int (fun _ _ => rfl)))) sa_nil))) (sss_cons (ss_set hN rfl (by first | exact Or.inl rfl | exact Or.inr rfl) (se_cal (cal_replaced T) (hr.mono (by decide)) lx (sa_cons (se_ix hu1 (se_ix hu1 (se_var (pv 4)) (se_ix hu1 (se_var (pv 5)) (se_un ur_neg se_int) (fun _ _ => rfl)) (fun _ _ => rfl)) se_int (fun _ _ => rfl)) (sa_cons (se_lst (sa_cons (se_var (pv 10)) sa_nil)) (sa_cons (se_var (pv 11)) sa_nil))))) (sss_one (ss_set hN rfl (by first | exact Or.inl rfl | exact Or.inr rfl) se_str)))))))) ?_
      refine sss_cons (show SS _ _ _ _ b_put_in_7 from (ss_if (st_cmp or_gt (se_cb cl_len rfl (T.free 1) bv_len (sa_cons (se_var (pv 8)) sa_nil)) (se_var (pv 1)) (by first | rfl | exact nomark _ | decide)) (sss_cons (ss_set hN rfl (by first | exact Or.inl rfl | exact Or.inr rfl) (se_cal (cal_stored T) (hr.mono (by decide)) lx (sa_cons (se_var (pv 4)) (sa_cons (se_var (pv 9)) (sa_cons (se_lst sa_nil) (sa_cons (se_cal (cal_parts T) (hr.mono (by decide)) lx (sa_cons (se_var (pv 8)) (sa_cons (se_var (pv 1)) sa_nil))) sa_nil)))))) (sss_cons (ss_expr (se_mtL PySem.F.slot_list_extend PySem.F.type_list_extend rm_extend (se_var (pv 6)) (sa_cons (se_lc (own := [("pair", 12)]) rfl hN (si_seq (se_var (pv 8))) (blkOk_by (own := [("pair", 12)]) (by kernel_rfl)) (fun _ _ _ _ _ => pg_name hN rfl (Or.inl rfl)) (sc_name 12) (fun _ _ _ _ _ => st_yes pts_nil) (fun _ _ _ _ _ => (se_ix hu1 (se_var (pv 12)) se_int (fun _ _ => rfl)))) sa_nil))) (sss_one (ss_set hN rfl (by first | exact Or.inl rfl | exact Or.inr rfl) se_str)))) sss_nil)) ?_
      refine sss_cons (show SS _ _ _ _ b_put_in_8 from (ss_put (ps_putA hu1) (se_var (pv 4)) se_int (se_tup (sa_cons (se_var (pv 9)) (sa_cons (se_cty cl_tuple rfl (T.free 5) bv_tuple (sa_cons (se_var (pv 8)) sa_nil)) sa_nil))))) ?_
      exact sss_one (show SS _ _ _ _ b_put_in_9 from (ss_ret (se_cal (cal_changed T) (hr.mono (by decide)) lx (sa_cons (se_var (pv 0)) (sa_cons (se_var (pv 4)) (sa_cons (se_var (pv 6)) sa_nil)))))))
/-! _law_whole -/
abbrev s_law_whole : Stmt := topS 17
theorem sc_law_whole : FnScope ["_law_found"] ["_law_found"] (defScope s_law_whole) := ⟨rfl, rfl, rfl, by decide +kernel, rfl, by decide +kernel, by decide +kernel⟩
noncomputable def b_law_whole_0 : GS := (mRet (mAndV (mUn (oIsi "int") (mVar 0)) (mNotV (mUn (oIsi "bool") (mVar 0)))))
noncomputable def b_law_whole : GS := b_law_whole_0
noncomputable def g_law_whole : Fn := mDef 1 1 b_law_whole
theorem cal_law_whole (T : Tx fa fn tf K mg) : Cal P w K mg base C 1 "_law_whole" ["_law_found"] g_law_whole :=
  ok_calT (st := s_law_whole) (N := ["_law_found"]) (k := 0) (body := b_law_whole) (T.def_ 19 33) sc_law_whole (fun _ _ _ _ _ _ us hl => match us, hl with | [_], _ => rfl)
    (fun X W f cdv A outer s H E hX hW hr hp tk => by
      have hN := sc_law_whole.nd
      have hu := room100 hr
      have hu1 := L2.hu_of hr
      have lx := lets_of tk
      exact sss_one (show SS _ _ _ _ b_law_whole_0 from (ss_ret (se_and (se_isi rfl (T.free 16) (se_var (pv 0)) (pe_bltn (v := .ty "int") rfl (T.free 4) bv_int rfl)) (se_one (se_not (se_isi rfl (T.free 16) (se_var (pv 0)) (pe_bltn (v := .ty "bool") rfl (T.free 32) bv_bool rfl))))))))
/-! _law_good -/
abbrev s_law_good : Stmt := topS 21
theorem sc_law_good : FnScope ["_law_block", "_law_least", "_law_most", "_law_at", "_law_pair"] ["_law_block", "_law_least", "_law_most"] (defScope s_law_good) := ⟨rfl, rfl, rfl, by decide +kernel, rfl, by decide +kernel, by decide +kernel⟩
noncomputable def b_law_good_0 : GS := (mIte (mOr (mNot (mT (mUn (oIsi "tuple") (mVar 0)))) (mOr (mT (mBin oNe (mCB oLen (mCons (mVar 0) mNil)) (mC (.int 2)))) (mNot (mT (mUn (oIsi "tuple") (mBin oIx (mVar 0) (mC (.int 1)))))))) (mRet (mC (.bl false))) mSkip)
noncomputable def b_law_good_1 : GS := (mIte (mOr (mNot (mT (mUn (oIsi "str") (mBin oIx (mVar 0) (mC (.int 0)))))) (mOr (mT (mBin oNotIn (mBin oIx (mVar 0) (mC (.int 0))) (mTup (mCons (mC (.str "leaf")) (mCons (mC (.str "branch")) mNil))))) (mNot (mT (mChain oLe oLe (mVar 1) (mCB oLen (mCons (mBin oIx (mVar 0) (mC (.int 1))) mNil)) (mVar 2)))))) (mRet (mC (.bl false))) mSkip)
noncomputable def b_law_good_2 : GS := (mFor (mEnum (mBin oIx (mVar 0) (mC (.int 1)))) (mName2 3 4) (mSeq (mIte (mOr (mNot (mT (mUn (oIsi "tuple") (mVar 4)))) (mOr (mT (mBin oNe (mCB oLen (mCons (mVar 4) mNil)) (mC (.int 2)))) (mNot (mT (mCall g_law_whole (mCons (mBin oIx (mVar 4) (mC (.int 0))) mNil)))))) (mRet (mC (.bl false))) mSkip) (mSeq (mIte (mAnd (mT (mBin oGt (mVar 3) (mC (.int 0)))) (mT (mBin oLe (mBin oIx (mVar 4) (mC (.int 0))) (mBin oIx (mBin oIx (mBin oIx (mVar 0) (mC (.int 1))) (mBin oSub (mVar 3) (mC (.int 1)))) (mC (.int 0)))))) (mRet (mC (.bl false))) mSkip) (mSeq (mIte (mAnd (mT (mBin oEq (mBin oIx (mVar 0) (mC (.int 0))) (mC (.str "leaf")))) (mNot (mT (mUn (oIsi "str") (mBin oIx (mVar 4) (mC (.int 1))))))) (mRet (mC (.bl false))) mSkip) (mIte (mAnd (mT (mBin oEq (mBin oIx (mVar 0) (mC (.int 0))) (mC (.str "branch")))) (mNot (mT (mCall g_law_whole (mCons (mBin oIx (mVar 4) (mC (.int 1))) mNil))))) (mRet (mC (.bl false))) mSkip)))))
noncomputable def b_law_good_3 : GS := (mRet (mC (.bl true)))
noncomputable def b_law_good : GS := (mSeq b_law_good_0 (mSeq b_law_good_1 (mSeq b_law_good_2 b_law_good_3)))
noncomputable def g_law_good : Fn := mDef 3 5 b_law_good
theorem cal_law_good (T : Tx fa fn tf K mg) : Cal P w K mg base C 2 "_law_good" ["_law_block", "_law_least", "_law_most"] g_law_good :=
  ok_calT (st := s_law_good) (N := ["_law_block", "_law_least", "_law_most", "_law_at", "_law_pair"]) (k := 1) (body := b_law_good) (T.def_ 20 34) sc_law_good (fun _ _ _ _ _ _ us hl => match us, hl with | [_, _, _], _ => rfl)
    (fun X W f cdv A outer s H E hX hW hr hp tk => by
      have hN := sc_law_good.nd
      have hu := room100 hr
      have hu1 := L2.hu_of hr
      have lx := lets_of tk
      refine sss_cons (show SS _ _ _ _ b_law_good_0 from (ss_if (SW.st (sw_or (st_not (st_val (se_isi rfl (T.free 16) (se_var (pv 0)) (pe_bltn (v := .ty "tuple") rfl (T.free 5) bv_tuple rfl)))) (sw_or (st_cmp (or_ne hu) (se_cb cl_len rfl (T.free 1) bv_len (sa_cons (se_var (pv 0)) sa_nil)) se_int (by first | rfl | exact nomark _ | decide)) (sw_or1 (st_not (st_val (se_isi rfl (T.free 16) (se_ix hu1 (se_var (pv 0)) se_int (fun _ _ => rfl)) (pe_bltn (v := .ty "tuple") rfl (T.free 5) bv_tuple rfl)))))))) (sss_one (ss_ret se_bl)) sss_nil)) ?_
      refine sss_cons (show SS _ _ _ _ b_law_good_1 from (ss_if (SW.st (sw_or (st_not (st_val (se_isi rfl (T.free 16) (se_ix hu1 (se_var (pv 0)) se_int (fun _ _ => rfl)) (pe_bltn (v := .ty "str") rfl (T.free 17) bv_str rfl)))) (sw_or (st_cmp (or_notIn hu1) (se_ix hu1 (se_var (pv 0)) se_int (fun _ _ => rfl)) (se_tup (sa_cons se_str (sa_cons se_str sa_nil))) (by first | rfl | exact nomark _ | decide)) (sw_or1 (st_not (st_chain or_le or_le (se_var (pv 1)) (se_cb cl_len rfl (T.free 1) bv_len (sa_cons (se_ix hu1 (se_var (pv 0)) se_int (fun _ _ => rfl)) sa_nil)) (se_var (pv 2)))))))) (sss_one (ss_ret se_bl)) sss_nil)) ?_
      refine sss_cons (show SS _ _ _ _ b_law_good_2 from (ss_for hp rfl (si_enum rfl (T.free 12) (se_ix hu1 (se_var (pv 0)) se_int (fun _ _ => rfl))) (stg_name2 rfl hN rfl (by first | exact Or.inl rfl | exact Or.inr rfl) rfl (by first | exact Or.inl rfl | exact Or.inr rfl)) (sss_cons (ss_if (SW.st (sw_or (st_not (st_val (se_isi rfl (T.free 16) (se_var (pv 4)) (pe_bltn (v := .ty "tuple") rfl (T.free 5) bv_tuple rfl)))) (sw_or (st_cmp (or_ne hu) (se_cb cl_len rfl (T.free 1) bv_len (sa_cons (se_var (pv 4)) sa_nil)) se_int (by first | rfl | exact nomark _ | decide)) (sw_or1 (st_not (st_val (se_cal (cal_law_whole T) (hr.mono (by decide)) lx (sa_cons (se_ix hu1 (se_var (pv 4)) se_int (fun _ _ => rfl)) sa_nil)))))))) (sss_one (ss_ret se_bl)) sss_nil) (sss_cons (ss_if (SW.st (sw_and (st_cmp or_gt (se_var (pv 3)) se_int (by first | rfl | exact nomark _ | decide)) (sw_and1 (st_cmp or_le (se_ix hu1 (se_var (pv 4)) se_int (fun _ _ => rfl)) (se_ix hu1 (se_ix hu1 (se_ix hu1 (se_var (pv 0)) se_int (fun _ _ => rfl)) (se_bin or_sub (se_var (pv 3)) se_int) (fun _ _ => rfl)) se_int (fun _ _ => rfl)) (by first | rfl | exact nomark _ | decide))))) (sss_one (ss_ret se_bl)) sss_nil) (sss_cons (ss_if (SW.st (sw_and (st_cmp (or_eq hu) (se_ix hu1 (se_var (pv 0)) se_int (fun _ _ => rfl)) se_str (by first | rfl | exact nomark _ | decide)) (sw_and1 (st_not (st_val (se_isi rfl (T.free 16) (se_ix hu1 (se_var (pv 4)) se_int (fun _ _ => rfl)) (pe_bltn (v := .ty "str") rfl (T.free 17) bv_str rfl))))))) (sss_one (ss_ret se_bl)) sss_nil) (sss_one (ss_if (SW.st (sw_and (st_cmp (or_eq hu) (se_ix hu1 (se_var (pv 0)) se_int (fun _ _ => rfl)) se_str (by first | rfl | exact nomark _ | decide)) (sw_and1 (st_not (st_val (se_cal (cal_law_whole T) (hr.mono (by decide)) lx (sa_cons (se_ix hu1 (se_var (pv 4)) se_int (fun _ _ => rfl)) sa_nil))))))) (sss_one (ss_ret se_bl)) sss_nil))))))) ?_
      exact sss_one (show SS _ _ _ _ b_law_good_3 from (ss_ret se_bl)))
/-! _law_row_of -/
abbrev s_law_row_of : Stmt := topS 22
theorem sc_law_row_of : FnScope ["_law_blocks", "_law_width", "_law_row", "_law_seen", "_law_deep", "_law_todo", "_law_told", "_law_least", "_law_block", "_law_pair", "_law_at"] ["_law_blocks", "_law_width"] (defScope s_law_row_of) := ⟨rfl, rfl, rfl, by decide +kernel, rfl, by decide +kernel, by decide +kernel⟩
noncomputable def b_law_row_of_0 : GS := (mSet 2 (mLst mNil))
noncomputable def b_law_row_of_1 : GS := (mSet 3 mDnew)
noncomputable def b_law_row_of_2 : GS := (mSet 4 (mC .non))
noncomputable def b_law_row_of_3 : GS := (mSet 5 (mLst (mCons (mTup (mCons (mC (.int 0)) (mCons (mC (.int 0)) (mCons (mC .non) mNil)))) mNil)))
noncomputable def b_law_row_of_4 : GS := (mWhile (mT (mBin oGt (mCB oLen (mCons (mVar 5) mNil)) (mC (.int 0)))) (mSeq (mSet 6 (mMtL oPop0 (mVar 5) mNil)) (mSeq (mSet 7 (mBin oDiv (mBin oAdd (mVar 1) (mC (.int 1))) (mC (.int 2)))) (mSeq (mIte (mT (mBin oEq (mBin oIx (mVar 6) (mC (.int 0))) (mC (.int 0)))) (mSet 7 (mC (.int 0))) mSkip) (mSeq (mSet 8 (mMtD oGet1 (mVar 0) (mBin oIx (mVar 6) (mC (.int 0))))) (mSeq (mIte (mOr (mT (mBin oIn (mBin oIx (mVar 6) (mC (.int 0))) (mVar 3))) (mNot (mT (mCall g_law_good (mCons (mVar 8) (mCons (mVar 7) (mCons (mVar 1) mNil))))))) (mRet (mC .non)) mSkip) (mSeq (mPut oPutA (mVar 3) (mBin oIx (mVar 6) (mC (.int 0))) (mC (.bl true))) (mSeq (mIte (mAnd (mT (mBin oIsNot (mBin oIx (mVar 6) (mC (.int 2))) (mC .non))) (mT (mBin oNe (mBin oIx (mBin oIx (mBin oIx (mVar 8) (mC (.int 1))) (mC (.int 0))) (mC (.int 0))) (mBin oIx (mVar 6) (mC (.int 2)))))) (mRet (mC .non)) mSkip) (mIte (mT (mBin oEq (mBin oIx (mVar 8) (mC (.int 0))) (mC (.str "leaf")))) (mSeq (mIte (mAnd (mT (mBin oIsNot (mVar 4) (mC .non))) (mT (mBin oNe (mVar 4) (mBin oIx (mVar 6) (mC (.int 1)))))) (mRet (mC .non)) mSkip) (mSeq (mSet 4 (mBin oIx (mVar 6) (mC (.int 1)))) (mSet 2 (mBin oAdd (mVar 2) (mCB oList (mCons (mBin oIx (mVar 8) (mC (.int 1))) mNil)))))) (mIte (mT (mBin oLt (mCB oLen (mCons (mBin oIx (mVar 8) (mC (.int 1))) mNil)) (mC (.int 2)))) (mRet (mC .non)) (mFor (mRev (mBin oIx (mVar 8) (mC (.int 1)))) (mName 9) (mExpr (mMtL oAppend (mVar 5) (mCons (mTup (mCons (mBin oIx (mVar 9) (mC (.int 1))) (mCons (mBin oAdd (mBin oIx (mVar 6) (mC (.int 1))) (mC (.int 1))) (mCons (mBin oIx (mVar 9) (mC (.int 0))) mNil)))) mNil))))))))))))))
noncomputable def b_law_row_of_5 : GS := (mFor (mRange2 (mC (.int 1)) (mCB oLen (mCons (mVar 2) mNil))) (mName 10) (mIte (mT (mBin oLe (mBin oIx (mBin oIx (mVar 2) (mVar 10)) (mC (.int 0))) (mBin oIx (mBin oIx (mVar 2) (mBin oSub (mVar 10) (mC (.int 1)))) (mC (.int 0))))) (mRet (mC .non)) mSkip))
noncomputable def b_law_row_of_6 : GS := (mIte (mT (mBin oNe (mCB oLen (mCons (mVar 3) mNil)) (mCB oLen (mCons (mVar 0) mNil)))) (mRet (mC .non)) mSkip)
noncomputable def b_law_row_of_7 : GS := (mRet (mVar 2))
noncomputable def b_law_row_of : GS := (mSeq b_law_row_of_0 (mSeq b_law_row_of_1 (mSeq b_law_row_of_2 (mSeq b_law_row_of_3 (mSeq b_law_row_of_4 (mSeq b_law_row_of_5 (mSeq b_law_row_of_6 b_law_row_of_7)))))))
noncomputable def g_law_row_of : Fn := mDef 2 11 b_law_row_of
theorem cal_law_row_of (T : Tx fa fn tf K mg) : Cal P w K mg base C 3 "_law_row_of" ["_law_blocks", "_law_width"] g_law_row_of :=
  ok_calT (st := s_law_row_of) (N := ["_law_blocks", "_law_width", "_law_row", "_law_seen", "_law_deep", "_law_todo", "_law_told", "_law_least", "_law_block", "_law_pair", "_law_at"]) (k := 2) (body := b_law_row_of) (T.def_ 21 35) sc_law_row_of (fun _ _ _ _ _ _ us hl => match us, hl with | [_, _], _ => rfl)
    (fun X W f cdv A outer s H E hX hW hr hp tk => by
      have hN := sc_law_row_of.nd
      have hu := room100 hr
      have hu1 := L2.hu_of hr
      have lx := lets_of tk
      refine sss_cons (show SS _ _ _ _ b_law_row_of_0 from (ss_set hN rfl (by first | exact Or.inl rfl | exact Or.inr rfl) (se_lst sa_nil))) ?_
      refine sss_cons (show SS _ _ _ _ b_law_row_of_1 from (ss_set hN rfl (by first | exact Or.inl rfl | exact Or.inr rfl) se_dnew)) ?_
      refine sss_cons (show SS _ _ _ _ b_law_row_of_2 from (ss_set hN rfl (by first | exact Or.inl rfl | exact Or.inr rfl) se_non)) ?_
      refine sss_cons (show SS _ _ _ _ b_law_row_of_3 from (ss_set hN rfl (by first | exact Or.inl rfl | exact Or.inr rfl) (se_lst (sa_cons (se_tup (sa_cons se_int (sa_cons se_int (sa_cons se_non sa_nil)))) sa_nil)))) ?_
      refine sss_cons (show SS _ _ _ _ b_law_row_of_4 from (ss_while hp (st_cmp or_gt (se_cb cl_len rfl (T.free 1) bv_len (sa_cons (se_var (pv 5)) sa_nil)) se_int (by first | rfl | exact nomark _ | decide)) (sss_cons (ss_set hN rfl (by first | exact Or.inl rfl | exact Or.inr rfl) (se_mtL0 PySem.F.slot_list_pop PySem.F.type_list_pop rm_pop0 (se_var (pv 5)))) (sss_cons (ss_set hN rfl (by first | exact Or.inl rfl | exact Or.inr rfl) (se_bin or_div (se_bin or_add (se_var (pv 1)) se_int) se_int)) (sss_cons (ss_if (st_cmp (or_eq hu) (se_ix hu1 (se_var (pv 6)) se_int (fun _ _ => rfl)) se_int (by first | rfl | exact nomark _ | decide)) (sss_one (ss_set hN rfl (by first | exact Or.inl rfl | exact Or.inr rfl) se_int)) sss_nil) (sss_cons (ss_set hN rfl (by first | exact Or.inl rfl | exact Or.inr rfl) (se_get1 hu1 (se_var (pv 0)) (se_ix hu1 (se_var (pv 6)) se_int (fun _ _ => rfl)))) (sss_cons (ss_if (SW.st (sw_or (st_cmp (or_in hu1) (se_ix hu1 (se_var (pv 6)) se_int (fun _ _ => rfl)) (se_var (pv 3)) (by first | rfl | exact nomark _ | decide)) (sw_or1 (st_not (st_val (se_cal (cal_law_good T) (hr.mono (by decide)) lx (sa_cons (se_var (pv 8)) (sa_cons (se_var (pv 7)) (sa_cons (se_var (pv 1)) sa_nil))))))))) (sss_one (ss_ret se_non)) sss_nil) (sss_cons (ss_put (ps_putA hu1) (se_var (pv 3)) (se_ix hu1 (se_var (pv 6)) se_int (fun _ _ => rfl)) se_bl) (sss_cons (ss_if (SW.st (sw_and (st_cmp or_isNot (se_ix hu1 (se_var (pv 6)) se_int (fun _ _ => rfl)) se_non (by first | rfl | exact nomark _ | decide)) (sw_and1 (st_cmp (or_ne hu) (se_ix hu1 (se_ix hu1 (se_ix hu1 (se_var (pv 8)) se_int (fun _ _ => rfl)) se_int (fun _ _ => rfl)) se_int (fun _ _ => rfl)) (se_ix hu1 (se_var (pv 6)) se_int (fun _ _ => rfl)) (by first | rfl | exact nomark _ | decide))))) (sss_one (ss_ret se_non)) sss_nil) (sss_one (ss_if (st_cmp (or_eq hu) (se_ix hu1 (se_var (pv 8)) se_int (fun _ _ => rfl)) se_str (by first | rfl | exact nomark _ | decide)) (sss_cons (ss_if (SW.st (sw_and (st_cmp or_isNot (se_var (pv 4)) se_non (by first | rfl | exact nomark _ | decide)) (sw_and1 (st_cmp (or_ne hu) (se_var (pv 4)) (se_ix hu1 (se_var (pv 6)) se_int (fun _ _ => rfl)) (by first | rfl | exact nomark _ | decide))))) (sss_one (ss_ret se_non)) sss_nil) (sss_cons (ss_set hN rfl (by first | exact Or.inl rfl | exact Or.inr rfl) (se_ix hu1 (se_var (pv 6)) se_int (fun _ _ => rfl))) (sss_one (ss_set hN rfl (by first | exact Or.inl rfl | exact Or.inr rfl) (se_bin or_add (se_var (pv 2)) (se_cty (cl_list rfl) rfl (T.free 18) bv_list (sa_cons (se_ix hu1 (se_var (pv 8)) se_int (fun _ _ => rfl)) sa_nil))))))) (sss_one (ss_if (st_cmp or_lt (se_cb cl_len rfl (T.free 1) bv_len (sa_cons (se_ix hu1 (se_var (pv 8)) se_int (fun _ _ => rfl)) sa_nil)) se_int (by first | rfl | exact nomark _ | decide)) (sss_one (ss_ret se_non)) (sss_one (ss_for hp rfl (si_rev rfl (T.free 10) (se_ix hu1 (se_var (pv 8)) se_int (fun _ _ => rfl))) (stg_name hN rfl (by first | exact Or.inl rfl | exact Or.inr rfl)) (sss_one (ss_expr (se_mtL PySem.F.slot_list_append PySem.F.type_list_append rm_append (se_var (pv 5)) (sa_cons (se_tup (sa_cons (se_ix hu1 (se_var (pv 9)) se_int (fun _ _ => rfl)) (sa_cons (se_bin or_add (se_ix hu1 (se_var (pv 6)) se_int (fun _ _ => rfl)) se_int) (sa_cons (se_ix hu1 (se_var (pv 9)) se_int (fun _ _ => rfl)) sa_nil)))) sa_nil))))))))))))))))))) ?_
      refine sss_cons (show SS _ _ _ _ b_law_row_of_5 from (ss_for hp rfl (si_range2 rfl (T.free 3) se_int (se_cb cl_len rfl (T.free 1) bv_len (sa_cons (se_var (pv 2)) sa_nil))) (stg_name hN rfl (by first | exact Or.inl rfl | exact Or.inr rfl)) (sss_one (ss_if (st_cmp or_le (se_ix hu1 (se_ix hu1 (se_var (pv 2)) (se_var (pv 10)) (fun _ _ => rfl)) se_int (fun _ _ => rfl)) (se_ix hu1 (se_ix hu1 (se_var (pv 2)) (se_bin or_sub (se_var (pv 10)) se_int) (fun _ _ => rfl)) se_int (fun _ _ => rfl)) (by first | rfl | exact nomark _ | decide)) (sss_one (ss_ret se_non)) sss_nil)))) ?_
      refine sss_cons (show SS _ _ _ _ b_law_row_of_6 from (ss_if (st_cmp (or_ne hu) (se_cb cl_len rfl (T.free 1) bv_len (sa_cons (se_var (pv 3)) sa_nil)) (se_cb cl_len rfl (T.free 1) bv_len (sa_cons (se_var (pv 0)) sa_nil)) (by first | rfl | exact nomark _ | decide)) (sss_one (ss_ret se_non)) sss_nil)) ?_
      exact sss_one (show SS _ _ _ _ b_law_row_of_7 from (ss_ret (se_var (pv 2)))))
/-! _law_held -/
abbrev s_law_held : Stmt := topS 20
theorem sc_law_held : FnScope ["_law_row", "_law_key", "_law_value", "_law_found", "_law_pair"] ["_law_row", "_law_key", "_law_value"] (defScope s_law_held) := ⟨rfl, rfl, rfl, by decide +kernel, rfl, by decide +kernel, by decide +kernel⟩
noncomputable def b_law_held_0 : GS := (mSet 3 (mLc (mIter (mVar 0)) (mName 4) (mT (mBin oLt (mBin oIx (mVar 4) (mC (.int 0))) (mVar 1))) (mVar 4) [4]))
noncomputable def b_law_held_1 : GS := (mIte (mT (mBin oIsNot (mVar 2) (mC .non))) (mExpr (mMtL oAppend (mVar 3) (mCons (mTup (mCons (mVar 1) (mCons (mVar 2) mNil))) mNil))) mSkip)
noncomputable def b_law_held_2 : GS := (mRet (mBin oAdd (mVar 3) (mLc (mIter (mVar 0)) (mName 4) (mT (mBin oGt (mBin oIx (mVar 4) (mC (.int 0))) (mVar 1))) (mVar 4) [4])))
noncomputable def b_law_held : GS := (mSeq b_law_held_0 (mSeq b_law_held_1 b_law_held_2))
noncomputable def g_law_held : Fn := mDef 3 5 b_law_held
theorem cal_law_held (T : Tx fa fn tf K mg) : Cal P w K mg base C 1 "_law_held" ["_law_row", "_law_key", "_law_value"] g_law_held :=
  ok_calT (st := s_law_held) (N := ["_law_row", "_law_key", "_law_value", "_law_found", "_law_pair"]) (k := 0) (body := b_law_held) (T.def_ 22 36) sc_law_held (fun _ _ _ _ _ _ us hl => match us, hl with | [_, _, _], _ => rfl)
    (fun X W f cdv A outer s H E hX hW hr hp tk => by
      have hN := sc_law_held.nd
      have hu := room100 hr
      have hu1 := L2.hu_of hr
      have lx := lets_of tk
      refine sss_cons (show SS _ _ _ _ b_law_held_0 from (ss_setLc (own := [("_law_pair", 4)]) rfl hN rfl rfl (sw_true rfl rfl rfl rfl) (si_seq (se_var (pv 0))) (blkOk_by (own := [("_law_pair", 4)]) (by kernel_rfl)) (fun _ _ _ _ _ => pg_name hN rfl (Or.inl rfl)) (sc_name 4) (fun _ _ _ _ _ => pts_one (ST.pt (st_cmp or_lt (se_ix hu1 (se_var (pv 4)) se_int (fun _ _ => rfl)) (se_var (pv 1)) (by first | rfl | exact nomark _ | decide)))) (fun _ _ _ _ _ => (se_var (pv 4))))) ?_
      refine sss_cons (show SS _ _ _ _ b_law_held_1 from (ss_if (st_cmp or_isNot (se_var (pv 2)) se_non (by first | rfl | exact nomark _ | decide)) (sss_one (ss_expr (se_mtL PySem.F.slot_list_append PySem.F.type_list_append rm_append (se_var (pv 3)) (sa_cons (se_tup (sa_cons (se_var (pv 1)) (sa_cons (se_var (pv 2)) sa_nil))) sa_nil)))) sss_nil)) ?_
      exact sss_one (show SS _ _ _ _ b_law_held_2 from (ss_ret (se_bin or_add (se_var (pv 3)) (se_lc (own := [("_law_pair", 4)]) rfl hN (si_seq (se_var (pv 0))) (blkOk_by (own := [("_law_pair", 4)]) (by kernel_rfl)) (fun _ _ _ _ _ => pg_name hN rfl (Or.inl rfl)) (sc_name 4) (fun _ _ _ _ _ => pts_one (ST.pt (st_cmp or_gt (se_ix hu1 (se_var (pv 4)) se_int (fun _ _ => rfl)) (se_var (pv 1)) (by first | rfl | exact nomark _ | decide)))) (fun _ _ _ _ _ => (se_var (pv 4))))))))
/-! _law_numbered -/
abbrev s_law_numbered : Stmt := topS 25
theorem sc_law_numbered : FnScope ["_law_blocks", "_law_found", "_law_gone", "_law_news", "_law_number", "_law_free"] ["_law_blocks", "_law_found"] (defScope s_law_numbered) := ⟨rfl, rfl, rfl, by decide +kernel, rfl, by decide +kernel, by decide +kernel⟩
noncomputable def b_law_numbered_0 : GS := (mIte (mNot (mT (mUn (oIsi "dict") (mVar 1)))) (mRet (mC (.bl false))) mSkip)
noncomputable def b_law_numbered_1 : GS := (mSet 2 (mLc (mIter (mCB oList (mCons (mVar 1) mNil))) (mName 4) (mT (mBin oIs (mBin oIx (mVar 1) (mVar 4)) (mC .non))) (mVar 4) [4]))
noncomputable def b_law_numbered_2 : GS := (mSet 3 (mCB oSorted (mCons (mLc (mIter (mCB oList (mCons (mVar 1) mNil))) (mName 4) (mT (mBin oNotIn (mVar 4) (mVar 0))) (mVar 4) [4]) mNil)))
noncomputable def b_law_numbered_3 : GS := (mFor (mIter (mCB oList (mCons (mVar 1) mNil))) (mName 4) (mIte (mOr (mNot (mT (mCall g_law_whole (mCons (mVar 4) mNil)))) (mT (mBin oEq (mBin oIx (mVar 1) (mVar 4)) (mMtD oGet1 (mVar 0) (mVar 4))))) (mRet (mC (.bl false))) mSkip))
noncomputable def b_law_numbered_4 : GS := (mIte (mAnd (mT (mBin oGt (mCB oLen (mCons (mVar 2) mNil)) (mC (.int 0)))) (mT (mBin oGt (mCB oLen (mCons (mVar 3) mNil)) (mC (.int 0))))) (mRet (mC (.bl false))) mSkip)
noncomputable def b_law_numbered_5 : GS := (mSet 5 (mLc (mRange2 (mC (.int 1)) (mBin oAdd (mBin oAdd (mCB oLen (mCons (mVar 0) mNil)) (mCB oLen (mCons (mVar 3) mNil))) (mC (.int 1)))) (mName 4) (mT (mBin oNotIn (mVar 4) (mVar 0))) (mVar 4) [4]))
noncomputable def b_law_numbered_6 : GS := (mRet (mBin oEq (mVar 3) (mSl (mVar 5) mNo (mSome (mCB oLen (mCons (mVar 3) mNil))))))
noncomputable def b_law_numbered : GS := (mSeq b_law_numbered_0 (mSeq b_law_numbered_1 (mSeq b_law_numbered_2 (mSeq b_law_numbered_3 (mSeq b_law_numbered_4 (mSeq b_law_numbered_5 b_law_numbered_6))))))
noncomputable def g_law_numbered : Fn := mDef 2 6 b_law_numbered
theorem cal_law_numbered (T : Tx fa fn tf K mg) : Cal P w K mg base C 2 "_law_numbered" ["_law_blocks", "_law_found"] g_law_numbered :=
  ok_calT (st := s_law_numbered) (N := ["_law_blocks", "_law_found", "_law_gone", "_law_news", "_law_number", "_law_free"]) (k := 1) (body := b_law_numbered) (T.def_ 23 37) sc_law_numbered (fun _ _ _ _ _ _ us hl => match us, hl with | [_, _], _ => rfl)
    (fun X W f cdv A outer s H E hX hW hr hp tk => by
      have hN := sc_law_numbered.nd
      have hu := room100 hr
      have hu1 := L2.hu_of hr
      have lx := lets_of tk
      refine sss_cons (show SS _ _ _ _ b_law_numbered_0 from (ss_if (st_not (st_val (se_isi rfl (T.free 16) (se_var (pv 1)) (pe_bltn (v := .ty "dict") rfl (T.free 29) bv_dict rfl)))) (sss_one (ss_ret se_bl)) sss_nil)) ?_
      refine sss_cons (show SS _ _ _ _ b_law_numbered_1 from (ss_setLc (own := [("_law_number", 4)]) rfl hN rfl rfl (sw_true rfl rfl rfl rfl) (si_seq (se_cty (cl_list rfl) rfl (T.free 18) bv_list (sa_cons (se_var (pv 1)) sa_nil))) (blkOk_by (own := [("_law_number", 4)]) (by kernel_rfl)) (fun _ _ _ _ _ => pg_name hN rfl (Or.inl rfl)) (sc_name 4) (fun _ _ _ _ _ => pts_one (ST.pt (st_cmp or_is (se_ix hu1 (se_var (pv 1)) (se_var (pv 4)) (fun _ _ => rfl)) se_non (by first | rfl | exact nomark _ | decide)))) (fun _ _ _ _ _ => (se_var (pv 4))))) ?_
      refine sss_cons (show SS _ _ _ _ b_law_numbered_2 from (ss_set hN rfl (by first | exact Or.inl rfl | exact Or.inr rfl) (se_cb cl_sorted rfl (T.free 20) bv_sorted (sa_cons (se_lc (own := [("_law_number", 4)]) rfl hN (si_seq (se_cty (cl_list rfl) rfl (T.free 18) bv_list (sa_cons (se_var (pv 1)) sa_nil))) (blkOk_by (own := [("_law_number", 4)]) (by kernel_rfl)) (fun _ _ _ _ _ => pg_name hN rfl (Or.inl rfl)) (sc_name 4) (fun _ _ _ _ _ => pts_one (ST.pt (st_cmp (or_notIn hu1) (se_var (pv 4)) (se_var (pv 0)) (by first | rfl | exact nomark _ | decide)))) (fun _ _ _ _ _ => (se_var (pv 4)))) sa_nil)))) ?_
      refine sss_cons (show SS _ _ _ _ b_law_numbered_3 from (ss_for hp rfl (si_seq (se_cty (cl_list rfl) rfl (T.free 18) bv_list (sa_cons (se_var (pv 1)) sa_nil))) (stg_name hN rfl (by first | exact Or.inl rfl | exact Or.inr rfl)) (sss_one (ss_if (SW.st (sw_or (st_not (st_val (se_cal (cal_law_whole T) (hr.mono (by decide)) lx (sa_cons (se_var (pv 4)) sa_nil)))) (sw_or1 (st_cmp (or_eq hu) (se_ix hu1 (se_var (pv 1)) (se_var (pv 4)) (fun _ _ => rfl)) (se_get1 hu1 (se_var (pv 0)) (se_var (pv 4))) (by first | rfl | exact nomark _ | decide))))) (sss_one (ss_ret se_bl)) sss_nil)))) ?_
      refine sss_cons (show SS _ _ _ _ b_law_numbered_4 from (ss_if (SW.st (sw_and (st_cmp or_gt (se_cb cl_len rfl (T.free 1) bv_len (sa_cons (se_var (pv 2)) sa_nil)) se_int (by first | rfl | exact nomark _ | decide)) (sw_and1 (st_cmp or_gt (se_cb cl_len rfl (T.free 1) bv_len (sa_cons (se_var (pv 3)) sa_nil)) se_int (by first | rfl | exact nomark _ | decide))))) (sss_one (ss_ret se_bl)) sss_nil)) ?_
      refine sss_cons (show SS _ _ _ _ b_law_numbered_5 from (ss_setLc (own := [("_law_number", 4)]) rfl hN rfl rfl (sw_true rfl rfl rfl rfl) (si_range2 rfl (T.free 3) se_int (se_bin or_add (se_bin or_add (se_cb cl_len rfl (T.free 1) bv_len (sa_cons (se_var (pv 0)) sa_nil)) (se_cb cl_len rfl (T.free 1) bv_len (sa_cons (se_var (pv 3)) sa_nil))) se_int)) (blkOk_by (own := [("_law_number", 4)]) (by kernel_rfl)) (fun _ _ _ _ _ => pg_name hN rfl (Or.inl rfl)) (sc_name 4) (fun _ _ _ _ _ => pts_one (ST.pt (st_cmp (or_notIn hu1) (se_var (pv 4)) (se_var (pv 0)) (by first | rfl | exact nomark _ | decide)))) (fun _ _ _ _ _ => (se_var (pv 4))))) ?_
      exact sss_one (show SS _ _ _ _ b_law_numbered_6 from (ss_ret (se_cmp (or_eq hu) (se_var (pv 3)) (se_sl (se_var (pv 5)) so_no (so_some (se_cb cl_len rfl (T.free 1) bv_len (sa_cons (se_var (pv 3)) sa_nil)))) (by first | rfl | exact nomark _ | decide)))))
/-! _law_behind -/
abbrev s_law_behind : Stmt := topS 26
theorem sc_law_behind : FnScope ["_law_blocks", "_law_found", "_law_others", "_law_number"] ["_law_blocks", "_law_found"] (defScope s_law_behind) := ⟨rfl, rfl, rfl, by decide +kernel, rfl, by decide +kernel, by decide +kernel⟩
noncomputable def b_law_behind_0 : GS := (mSet 2 (mCB oDict (mCons (mVar 0) mNil)))
noncomputable def b_law_behind_1 : GS := (mFor (mIter (mCB oList (mCons (mVar 1) mNil))) (mName 3) (mSeq (mExpr (mMtD oPopD2 (mVar 2) (mVar 3))) (mIte (mT (mBin oIsNot (mBin oIx (mVar 1) (mVar 3)) (mC .non))) (mPut oPutA (mVar 2) (mVar 3) (mBin oIx (mVar 1) (mVar 3))) mSkip)))
noncomputable def b_law_behind_2 : GS := (mRet (mVar 2))
noncomputable def b_law_behind : GS := (mSeq b_law_behind_0 (mSeq b_law_behind_1 b_law_behind_2))
noncomputable def g_law_behind : Fn := mDef 2 4 b_law_behind
theorem cal_law_behind (T : Tx fa fn tf K mg) : Cal P w K mg base C 1 "_law_behind" ["_law_blocks", "_law_found"] g_law_behind :=
  ok_calT (st := s_law_behind) (N := ["_law_blocks", "_law_found", "_law_others", "_law_number"]) (k := 0) (body := b_law_behind) (T.def_ 24 38) sc_law_behind (fun _ _ _ _ _ _ us hl => match us, hl with | [_, _], _ => rfl)
    (fun X W f cdv A outer s H E hX hW hr hp tk => by
      have hN := sc_law_behind.nd
      have hu := room100 hr
      have hu1 := L2.hu_of hr
      have lx := lets_of tk
      refine sss_cons (show SS _ _ _ _ b_law_behind_0 from (ss_set hN rfl (by first | exact Or.inl rfl | exact Or.inr rfl) (se_cty cl_dict rfl (T.free 29) bv_dict (sa_cons (se_var (pv 0)) sa_nil)))) ?_
      refine sss_cons (show SS _ _ _ _ b_law_behind_1 from (ss_for hp rfl (si_seq (se_cty (cl_list rfl) rfl (T.free 18) bv_list (sa_cons (se_var (pv 1)) sa_nil))) (stg_name hN rfl (by first | exact Or.inl rfl | exact Or.inr rfl)) (sss_cons (ss_expr (se_popD2 (se_var (pv 2)) (se_var (pv 3)) se_non)) (sss_one (ss_if (st_cmp or_isNot (se_ix hu1 (se_var (pv 1)) (se_var (pv 3)) (fun _ _ => rfl)) se_non (by first | rfl | exact nomark _ | decide)) (sss_one (ss_put (ps_putA hu1) (se_var (pv 2)) (se_var (pv 3)) (se_ix hu1 (se_var (pv 1)) (se_var (pv 3)) (fun _ _ => rfl)))) sss_nil))))) ?_
      exact sss_one (show SS _ _ _ _ b_law_behind_2 from (ss_ret (se_var (pv 2)))))
/-! law -/
abbrev s_law : Stmt := topS 28
theorem sc_law : FnScope ["_law_script", "_law_width", "_law_size", "_law_first", "_law_row", "_law_blocks", "_law_handed", "_law_key", "_law_there", "_law_value", "_law_found", "_law_k", "_law_pair"] ["_law_script"] (defScope s_law) := ⟨rfl, rfl, rfl, by decide +kernel, rfl, by decide +kernel, by decide +kernel⟩
noncomputable def b_law_0 : GS := (mSet 1 (mCall g_law_width_by (mCons (mCall g_law_cell_at (mCons (mVar 0) (mCons (mC (.int 0)) mNil))) mNil)))
noncomputable def b_law_1 : GS := (mSet 2 (mBin oMod (mCall g_law_cell_at (mCons (mVar 0) (mCons (mC (.int 1)) mNil))) (mC (.int 41))))
noncomputable def b_law_2 : GS := (mIte (mOr (mT (mBin oEq (mBin oMod (mBin oDiv (mCall g_law_cell_at (mCons (mVar 0) (mCons (mC (.int 1)) mNil))) (mC (.int 41))) (mC (.int 4))) (mC (.int 1)))) (mT (mBin oGt (mVar 1) (mC (.int 6))))) (mSet 2 (mBin oMod (mBin oMod (mBin oMul (mCall g_law_cell_at (mCons (mVar 0) (mCons (mC (.int 1)) mNil))) (mC (.int 48271))) (mC (.int 1009))) (mC (.int 201)))) mSkip)
noncomputable def b_law_3 : GS := (mIte (mT (mBin oEq (mBin oMod (mBin oDiv (mCall g_law_cell_at (mCons (mVar 0) (mCons (mC (.int 1)) mNil))) (mC (.int 164))) (mC (.int 16))) (mC (.int 3)))) (mSeq (mSet 1 (mC (.int 3))) (mSet 2 (mBin oAdd (mC (.int 400)) (mBin oMod (mBin oMod (mBin oMul (mCall g_law_cell_at (mCons (mVar 0) (mCons (mC (.int 1)) mNil))) (mC (.int 48271))) (mC (.int 1009))) (mC (.int 801)))))) mSkip)
noncomputable def b_law_4 : GS := (mSet 3 (mBin oSub (mBin oMod (mCall g_law_cell_at (mCons (mVar 0) (mCons (mC (.int 2)) mNil))) (mC (.int 2000))) (mC (.int 1000))))
noncomputable def b_law_5 : GS := (mSet 4 (mLc (mRange1 (mVar 2)) (mName 11) mYes (mTup (mCons (mBin oAdd (mVar 3) (mBin oMul (mC (.int 3)) (mVar 11))) (mCons (mBin oMul (mC (.str "v")) (mBin oMod (mVar 11) (mC (.int 3)))) mNil))) [11]))
noncomputable def b_law_6 : GS := (mSet 5 (mCall g_law_tree_by (mCons (mVar 4) (mCons (mVar 1) (mCons (mBin oMod (mCall g_law_cell_at (mCons (mVar 0) (mCons (mC (.int 3)) mNil))) (mC (.int 9000))) mNil)))))
noncomputable def b_law_7 : GS := (mSet 6 (mCB oDict (mCons (mVar 5) mNil)))
noncomputable def b_law_8 : GS := (mSet 7 (mBin oAdd (mBin oAdd (mVar 3) (mBin oMul (mC (.int 3)) (mBin oMod (mCall g_law_cell_at (mCons (mVar 0) (mCons (mC (.int 4)) mNil))) (mCB oMax2 (mCons (mC (.int 1)) (mCons (mVar 2) mNil)))))) (mBin oIx (mLst (mCons (mC (.int 0)) (mCons (mC (.int 0)) (mCons (mC (.int 1)) (mCons (mUn oNeg (mC (.int 1))) mNil))))) (mBin oMod (mCall g_law_cell_at (mCons (mVar 0) (mCons (mC (.int 5)) mNil))) (mC (.int 4))))))
noncomputable def b_law_9 : GS := (mIte (mT (mBin oEq (mBin oMod (mBin oDiv (mCall g_law_cell_at (mCons (mVar 0) (mCons (mC (.int 5)) mNil))) (mC (.int 4))) (mC (.int 7))) (mC (.int 1)))) (mSet 7 (mBin oAdd (mBin oSub (mBin oMod (mCall g_law_cell_at (mCons (mVar 0) (mCons (mC (.int 4)) mNil))) (mBin oSub (mBin oMul (mC (.int 2)) (mBin oPow (mC (.int 10)) (mC (.int 60)))) (mC (.int 1)))) (mBin oPow (mC (.int 10)) (mC (.int 60)))) (mC (.int 1)))) mSkip)
noncomputable def b_law_10 : GS := (mIte (mNot (mT (mCall g_law_listed (mCons (mVar 6) (mCons (mVar 4) (mCons (mVar 7) mNil)))))) (mRet (mC (.bl false))) mSkip)
noncomputable def b_law_11 : GS := (mSet 8 (mBin oGt (mCB oLen (mCons (mLc (mIter (mVar 4)) (mName 12) (mT (mBin oEq (mBin oIx (mVar 12) (mC (.int 0))) (mVar 7))) (mVar 12) [12]) mNil)) (mC (.int 0))))
noncomputable def b_law_12 : GS := (mSet 9 (mCall g_law_value_by (mCons (mCall g_law_cell_at (mCons (mVar 0) (mCons (mC (.int 6)) mNil))) mNil)))
noncomputable def b_law_13 : GS := (mIte (mAnd (mT (mVar 8)) (mT (mBin oEq (mBin oMod (mCall g_law_cell_at (mCons (mVar 0) (mCons (mC (.int 7)) mNil))) (mC (.int 2))) (mC (.int 0))))) (mSeq (mSet 9 (mC .non)) (mSet 10 (mCall g_drop_from (mCons (mVar 6) (mCons (mVar 1) (mCons (mVar 7) mNil)))))) (mSet 10 (mCall g_put_in (mCons (mVar 6) (mCons (mVar 1) (mCons (mVar 7) (mCons (mVar 9) mNil)))))))
noncomputable def b_law_14 : GS := (mIte (mOr (mT (mBin oNe (mVar 6) (mVar 5))) (mNot (mT (mCall g_law_numbered (mCons (mVar 5) (mCons (mVar 10) mNil)))))) (mRet (mC (.bl false))) mSkip)
noncomputable def b_law_15 : GS := (mRet (mBin oEq (mCall g_law_row_of (mCons (mCall g_law_behind (mCons (mVar 5) (mCons (mVar 10) mNil))) (mCons (mVar 1) mNil))) (mCall g_law_held (mCons (mVar 4) (mCons (mVar 7) (mCons (mVar 9) mNil))))))
noncomputable def b_law : GS := (mSeq b_law_0 (mSeq b_law_1 (mSeq b_law_2 (mSeq b_law_3 (mSeq b_law_4 (mSeq b_law_5 (mSeq b_law_6 (mSeq b_law_7 (mSeq b_law_8 (mSeq b_law_9 (mSeq b_law_10 (mSeq b_law_11 (mSeq b_law_12 (mSeq b_law_13 (mSeq b_law_14 b_law_15)))))))))))))))
noncomputable def g_law : Fn := mDef 1 13 b_law
theorem ok_law (T : Tx fa fn tf K mg) {f : Addr} {fd : FuncData} (F : Fun K "law" "law" s_law f fd) : FnOk P w K mg base (L2.CX P w) 5 f fd ["_law_script"] (spG K mg C g_law) :=
  ok_fnT (N := ["_law_script", "_law_width", "_law_size", "_law_first", "_law_row", "_law_blocks", "_law_handed", "_law_key", "_law_there", "_law_value", "_law_found", "_law_k", "_law_pair"]) (ps := ["_law_script"]) (k := 4) (body := b_law) F sc_law
    (fun X W f cdv A outer s H E hX hW hr hp tk => by
      have hN := sc_law.nd
      have hu := room100 hr
      have hu1 := L2.hu_of hr
      have lx := lets_of tk
      refine sss_cons (show SS _ _ _ _ b_law_0 from (ss_set hN rfl (by first | exact Or.inl rfl | exact Or.inr rfl) (se_cal (cal_law_width_by T) (hr.mono (by decide)) lx (sa_cons (se_cal (cal_law_cell_at T) (hr.mono (by decide)) lx (sa_cons (se_var (pv 0)) (sa_cons se_int sa_nil))) sa_nil)))) ?_
      refine sss_cons (show SS _ _ _ _ b_law_1 from (ss_set hN rfl (by first | exact Or.inl rfl | exact Or.inr rfl) (se_bin or_mod (se_cal (cal_law_cell_at T) (hr.mono (by decide)) lx (sa_cons (se_var (pv 0)) (sa_cons se_int sa_nil))) se_int))) ?_
      refine sss_cons (show SS _ _ _ _ b_law_2 from (ss_if (SW.st (sw_or (st_cmp (or_eq hu) (se_bin or_mod (se_bin or_div (se_cal (cal_law_cell_at T) (hr.mono (by decide)) lx (sa_cons (se_var (pv 0)) (sa_cons se_int sa_nil))) se_int) se_int) se_int (by first | rfl | exact nomark _ | decide)) (sw_or1 (st_cmp or_gt (se_var (pv 1)) se_int (by first | rfl | exact nomark _ | decide))))) (sss_one (ss_set hN rfl (by first | exact Or.inl rfl | exact Or.inr rfl) (se_bin or_mod (se_bin or_mod (se_bin or_mul (se_cal (cal_law_cell_at T) (hr.mono (by decide)) lx (sa_cons (se_var (pv 0)) (sa_cons se_int sa_nil))) se_int) se_int) se_int))) sss_nil)) ?_
      refine sss_cons (show SS _ _ _ _ b_law_3 from (ss_if (st_cmp (or_eq hu) (se_bin or_mod (se_bin or_div (se_cal (cal_law_cell_at T) (hr.mono (by decide)) lx (sa_cons (se_var (pv 0)) (sa_cons se_int sa_nil))) se_int) se_int) se_int (by first | rfl | exact nomark _ | decide)) (sss_cons (ss_set hN rfl (by first | exact Or.inl rfl | exact Or.inr rfl) se_int) (sss_one (ss_set hN rfl (by first | exact Or.inl rfl | exact Or.inr rfl) (se_bin or_add se_int (se_bin or_mod (se_bin or_mod (se_bin or_mul (se_cal (cal_law_cell_at T) (hr.mono (by decide)) lx (sa_cons (se_var (pv 0)) (sa_cons se_int sa_nil))) se_int) se_int) se_int))))) sss_nil)) ?_
      refine sss_cons (show SS _ _ _ _ b_law_4 from (ss_set hN rfl (by first | exact Or.inl rfl | exact Or.inr rfl) (se_bin or_sub (se_bin or_mod (se_cal (cal_law_cell_at T) (hr.mono (by decide)) lx (sa_cons (se_var (pv 0)) (sa_cons se_int sa_nil))) se_int) se_int))) ?_
      refine sss_cons (show SS _ _ _ _ b_law_5 from (ss_setLc (own := [("_law_k", 11)]) rfl hN rfl rfl (sw_true rfl rfl rfl rfl) (si_range1 rfl (T.free 3) (se_var (pv 2))) (blkOk_by (own := [("_law_k", 11)]) (by kernel_rfl)) (fun _ _ _ _ _ => pg_name hN rfl (Or.inl rfl)) (sc_name 11) (fun _ _ _ _ _ => st_yes pts_nil) (fun _ _ _ _ _ => (se_tup (sa_cons (se_bin or_add (se_var (pv 3)) (se_bin or_mul se_int (se_var (pv 11)))) (sa_cons (se_bin or_mul se_str (se_bin or_mod (se_var (pv 11)) se_int)) sa_nil)))))) ?_
      refine sss_cons (show SS _ _ _ _ b_law_6 from (ss_set hN rfl (by first | exact Or.inl rfl | exact Or.inr rfl) (se_cal (cal_law_tree_by T) (hr.mono (by decide)) lx (sa_cons (se_var (pv 4)) (sa_cons (se_var (pv 1)) (sa_cons (se_bin or_mod (se_cal (cal_law_cell_at T) (hr.mono (by decide)) lx (sa_cons (se_var (pv 0)) (sa_cons se_int sa_nil))) se_int) sa_nil)))))) ?_
      refine sss_cons (show SS _ _ _ _ b_law_7 from (ss_set hN rfl (by first | exact Or.inl rfl | exact Or.inr rfl) (se_cty cl_dict rfl (T.free 29) bv_dict (sa_cons (se_var (pv 5)) sa_nil)))) ?_
      refine sss_cons (show SS _ _ _ _ b_law_8 from (ss_set hN rfl (by first | exact Or.inl rfl | exact Or.inr rfl) (se_bin or_add (se_bin or_add (se_var (pv 3)) (se_bin or_mul se_int (se_bin or_mod (se_cal (cal_law_cell_at T) (hr.mono (by decide)) lx (sa_cons (se_var (pv 0)) (sa_cons se_int sa_nil))) (se_cb (cl_max2 rfl) rfl (T.free 2) bv_max (sa_cons se_int (sa_cons (se_var (pv 2)) sa_nil)))))) (se_ix hu1 (se_lst (sa_cons se_int (sa_cons se_int (sa_cons se_int (sa_cons (se_un ur_neg se_int) sa_nil))))) (se_bin or_mod (se_cal (cal_law_cell_at T) (hr.mono (by decide)) lx (sa_cons (se_var (pv 0)) (sa_cons se_int sa_nil))) se_int) (fun _ _ => rfl))))) ?_
      refine sss_cons (show SS _ _ _ _ b_law_9 from (ss_if (st_cmp (or_eq hu) (se_bin or_mod (se_bin or_div (se_cal (cal_law_cell_at T) (hr.mono (by decide)) lx (sa_cons (se_var (pv 0)) (sa_cons se_int sa_nil))) se_int) se_int) se_int (by first | rfl | exact nomark _ | decide)) (sss_one (ss_set hN rfl (by first | exact Or.inl rfl | exact Or.inr rfl) (se_bin or_add (se_bin or_sub (se_bin or_mod (se_cal (cal_law_cell_at T) (hr.mono (by decide)) lx (sa_cons (se_var (pv 0)) (sa_cons se_int sa_nil))) (se_bin or_sub (se_bin or_mul se_int (se_bin or_pow se_int se_int)) se_int)) (se_bin or_pow se_int se_int)) se_int))) sss_nil)) ?_
      refine sss_cons (show SS _ _ _ _ b_law_10 from (ss_if (st_not (st_val (se_cal (cal_law_listed T) (hr.mono (by decide)) lx (sa_cons (se_var (pv 6)) (sa_cons (se_var (pv 4)) (sa_cons (se_var (pv 7)) sa_nil)))))) (sss_one (ss_ret se_bl)) sss_nil)) ?_
      refine sss_cons (show SS _ _ _ _ b_law_11 from (ss_set hN rfl (by first | exact Or.inl rfl | exact Or.inr rfl) (se_cmp or_gt (se_cb cl_len rfl (T.free 1) bv_len (sa_cons (se_lc (own := [("_law_pair", 12)]) rfl hN (si_seq (se_var (pv 4))) (blkOk_by (own := [("_law_pair", 12)]) (by kernel_rfl)) (fun _ _ _ _ _ => pg_name hN rfl (Or.inl rfl)) (sc_name 12) (fun _ _ _ _ _ => pts_one (ST.pt (st_cmp (or_eq hu) (se_ix hu1 (se_var (pv 12)) se_int (fun _ _ => rfl)) (se_var (pv 7)) (by first | rfl | exact nomark _ | decide)))) (fun _ _ _ _ _ => (se_var (pv 12)))) sa_nil)) se_int (by first | rfl | exact nomark _ | decide)))) ?_
      refine sss_cons (show SS _ _ _ _ b_law_12 from (ss_set hN rfl (by first | exact Or.inl rfl | exact Or.inr rfl) (se_cal (cal_law_value_by T) (hr.mono (by decide)) lx (sa_cons (se_cal (cal_law_cell_at T) (hr.mono (by decide)) lx (sa_cons (se_var (pv 0)) (sa_cons se_int sa_nil))) sa_nil)))) ?_
      refine sss_cons (show SS _ _ _ _ b_law_13 from (ss_if (SW.st (sw_and (st_val (se_var (pv 8))) (sw_and1 (st_cmp (or_eq hu) (se_bin or_mod (se_cal (cal_law_cell_at T) (hr.mono (by decide)) lx (sa_cons (se_var (pv 0)) (sa_cons se_int sa_nil))) se_int) se_int (by first | rfl | exact nomark _ | decide))))) (sss_cons (ss_set hN rfl (by first | exact Or.inl rfl | exact Or.inr rfl) se_non) (sss_one (ss_set hN rfl (by first | exact Or.inl rfl | exact Or.inr rfl) (se_cal (cal_drop_from T) (hr.mono (by decide)) lx (sa_cons (se_var (pv 6)) (sa_cons (se_var (pv 1)) (sa_cons (se_var (pv 7)) sa_nil))))))) (sss_one (ss_set hN rfl (by first | exact Or.inl rfl | exact Or.inr rfl) (se_cal (cal_put_in T) (hr.mono (by decide)) lx (sa_cons (se_var (pv 6)) (sa_cons (se_var (pv 1)) (sa_cons (se_var (pv 7)) (sa_cons (se_var (pv 9)) sa_nil))))))))) ?_
      refine sss_cons (show SS _ _ _ _ b_law_14 from (ss_if (SW.st (sw_or (st_cmp (or_ne hu) (se_var (pv 6)) (se_var (pv 5)) (by first | rfl | exact nomark _ | decide)) (sw_or1 (st_not (st_val (se_cal (cal_law_numbered T) (hr.mono (by decide)) lx (sa_cons (se_var (pv 5)) (sa_cons (se_var (pv 10)) sa_nil)))))))) (sss_one (ss_ret se_bl)) sss_nil)) ?_
      exact sss_one (show SS _ _ _ _ b_law_15 from (ss_ret (se_cmp (or_eq hu) (se_cal (cal_law_row_of T) (hr.mono (by decide)) lx (sa_cons (se_cal (cal_law_behind T) (hr.mono (by decide)) lx (sa_cons (se_var (pv 5)) (sa_cons (se_var (pv 10)) sa_nil))) (sa_cons (se_var (pv 1)) sa_nil))) (se_cal (cal_law_held T) (hr.mono (by decide)) lx (sa_cons (se_var (pv 4)) (sa_cons (se_var (pv 7)) (sa_cons (se_var (pv 9)) sa_nil)))) (by first | rfl | exact nomark _ | decide)))))
end
abbrev R : PySem.W.OpenRow := PySem.W.OpenLaw.row PySem.Challenge.rw_btreelog_k08_a_key_comes_or_goes
abbrev hk : PySem.W.Hook := hookB 4 fa fn tf
def ob (s : PySem.W.SharedT) : AlB := obsBG 4 fa fn tf (HandSHeadRun.getT s)
theorem ob_eq (s : PySem.W.SharedT) : ob s = hk.obs s.abs := obsBG_eq (HandSHeadRun.getT_eq s)
theorem run (w : World) : HandSHeadRun.RunEq R (PySem.W.view R.prog [28]) hk ob 4000 ["half", "place", "parts", "way_to", "value_in", "listed", "free_number", "stored", "replaced", "changed", "put_in", "beside", "drop_from", "_law_cell_at", "_law_whole", "_law_width_by", "_law_value_by", "_law_held", "_law_good", "_law_row_of", "_law_level", "_law_tree_by", "_law_numbered", "_law_behind", "_law_listed"] w := by
  intro os
  kernel_rfl
open PySem.W PySem.Calls PyProof.Rows in
theorem holds_of (law : ∀ ns : List Int, ns.length ≤ 63 → (∀ z ∈ ns, Builtin.Int.intBits z ≤ 1048576) → ∃ M, g_law [.scr ns] [] = some (.ok (.bl true) M)) : PySem.Challenge.rw_btreelog_k08_a_key_comes_or_goes.Holds := by
  w_on; o_law
  refine HandSHeadRun.head_any (r := OpenLaw.row PySem.Challenge.rw_btreelog_k08_a_key_comes_or_goes) (q := view (OpenLaw.row PySem.Challenge.rw_btreelog_k08_a_key_comes_or_goes).prog [28]) (H := hk) (ob := ob) (M := 4000) (loose := ["half", "place", "parts", "way_to", "value_in", "listed", "free_number", "stored", "replaced", "changed", "put_in", "beside", "drop_from", "_law_cell_at", "_law_whole", "_law_width_by", "_law_value_by", "_law_held", "_law_good", "_law_row_of", "_law_level", "_law_tree_by", "_law_numbered", "_law_behind", "_law_listed"]) (d := HandSHeadRun.topDef (OpenLaw.row PySem.Challenge.rw_btreelog_k08_a_key_comes_or_goes).prog 28) (kwd := []) ob_eq
    (by kernel_rfl) (fun s => by kernel_rfl) run (by kernel_rfl) (by kernel_rfl) (by kernel_rfl) (by rfl) (by first | assumption | decide +kernel) (by decide +kernel) ⟨rfl, rfl, rfl, rfl, rfl, by decide +kernel⟩ ?hw ?hc
  case hw => w_witness2
  case hc =>
    exact bl_walk (l := PySem.Challenge.rw_btreelog_k08_a_key_comes_or_goes) (n := 63) (k := 5) (j := 39) (x := "_law_script") (y := "law") (st := s_law) (g := g_law) (fun _ => 0) 25 rfl (by decide) (by kernel_rfl) ⟨rfl, by decide, by decide⟩ (by kernel_rfl) rfl rfl
      (fun _ _ _ _ _ _ us hl => match us, hl with | [_], _ => rfl) (fun w K mg base f fd T F => ok_law T F) law
end BK08
/-! K08A: _law_numbered, _law_listed. -/
namespace BK08
open BL
open BP (rowB pairB keyOf valOf lookK Tree Edit getN newsL freeL NoN getN_non getN_pl ix0 ix1 pair_shape rowB_pw lookK_app lookK_pre lookK_none)
open PySem (Str)
variable {M : Mem}
theorem p_lwhole {i : Int} : g_law_whole [.int i] M = some (.ok (.bl true) M) := BP.p_lwhole
theorem pl_ints2 {ns : List Int} : ∀ x ∈ ns.map D.int, Pl 50 x := fun x hx => by
  obtain ⟨i, _, rfl⟩ := List.mem_map.mp hx
  exact pl_int
theorem p_numbered {b c : Nat} {B F C : List (Int × D)} (E : Edit B F C) (hb : M[b]? = some (.dct B)) (hc : M[c]? = some (.dct C)) (lB : B.length ≤ 5000) :
    ∃ M', g_law_numbered [.ref b, .ref c] M = some (.ok (.bl true) M') ∧ Kp M M' := by
  have lkC : (akeys C).length = C.length := by simp [akeys]
  have lC := E.len
  let L1 : BL.Loc := [some (.ref b), some (.ref c), none, none, none, none]
  have e0 : b_law_numbered_0 L1 M = some (.nx L1, M) := by
    have := isi_dct_dict hc
    simp [b_law_numbered_0, L1, this]
  -- gone
  have keysAt : ∀ (M1 : Mem), M1[c]? = some (.dct C) → oList [.ref c] M1 = some (.ref M1.length, M1 ++ [.lst ((akeys C).map .int)]) := fun M1 h => list_dct h
  let gone : List D := ((akeys C).map D.int).filter fun d => match d with | .int j => isNon (getN F j) | _ => false
  have hgl : gone.length ≤ 64 := by
    have := List.length_filter_le (fun d : D => match d with | .int j => isNon (getN F j) | _ => false) ((akeys C).map D.int)
    rw [List.length_map, lkC] at this
    exact Nat.le_trans this lC
  have hM2c : (M ++ [Ob.lst ((akeys C).map D.int)])[c]? = some (.dct C) := get_app hc
  have hM2b : (M ++ [Ob.lst ((akeys C).map D.int)])[b]? = some (.dct B) := get_app hb
  have kM2 : Kp M (M ++ [Ob.lst ((akeys C).map D.int)]) := Kp.app _ _
  have gM2 : (M ++ [Ob.lst ((akeys C).map D.int)])[M.length]? = some (.lst ((akeys C).map .int)) := get_new
  have hi1 : mIter (mCB oList (mCons (mVar 1) mNil)) L1 M = some (.ok (Src.map (fun ds => ds) ⟨(akeys C).map .int, some (M.length, (akeys C).map .int)⟩) (M ++ [Ob.lst ((akeys C).map D.int)])) := seq_at _ (by have := keysAt M hc; simp [L1, this]) (src_lst gM2)
  generalize M ++ [Ob.lst ((akeys C).map D.int)] = M2 at *
  have hc1 := lcG_map (ok := Src.ok (Src.map (fun ds => ds) ⟨(akeys C).map .int, some (M.length, (akeys C).map .int)⟩)) (g := mName 4) (tt := mT (mBin oIs (mBin oIx (mVar 1) (mVar 4)) (mC .non))) (e := mVar 4) (L := wipeL L1 [4]) (M := M2) (fun d => match d with | .int j => isNon (getN F j) | _ => false) (fun d => d) gM2 ((akeys C).map .int) (fun d hd => by
    obtain ⟨j, hj, rfl⟩ := List.mem_map.mp hd
    have hx : oIx (.ref c) (.int j) M2 = some (getN F j, M2) := ix_dct hM2c (E.val hj)
    refine ⟨_, rfl, ?_, fun _ => ?_⟩
    · simp [wipeL, L1, hx]
    · simp [wipeL, L1])
  have hm1 : (((akeys C).map D.int).filter fun d => match d with | .int j => isNon (getN F j) | _ => false).map (fun d => d) = gone := List.map_id' _
  rw [hm1] at hc1
  have hlc1 := lc_at hi1 hc1 (by omega)
  have e1 : b_law_numbered_1 L1 M = some (.nx [some (.ref b), some (.ref c), some (.ref M2.length), none, none, none], M2 ++ [.lst gone]) := by
    clear hm1 hi1 hc1
    generalize gone = gn at *
    simp only [b_law_numbered_1]
    simp [hlc1]
    simp [L1]
  have k3 : Kp M (M2 ++ [.lst gone]) := kM2.more _
  have b3 : (M2 ++ [Ob.lst gone])[b]? = some (.dct B) := get_app hM2b
  have c3 : (M2 ++ [Ob.lst gone])[c]? = some (.dct C) := get_app hM2c
  have g3 : (M2 ++ [Ob.lst gone])[M2.length]? = some (.lst gone) := get_new
  generalize M2 ++ [Ob.lst gone] = M3 at *
  -- news
  let L2 : BL.Loc := [some (.ref b), some (.ref c), some (.ref M2.length), none, none, none]
  have k4 : Kp M3 (M3 ++ [Ob.lst ((akeys C).map D.int)]) := Kp.app _ _
  have g4 : (M3 ++ [Ob.lst ((akeys C).map D.int)])[M3.length]? = some (.lst ((akeys C).map .int)) := get_new
  have hi2 : mIter (mCB oList (mCons (mVar 1) mNil)) L2 M3 = some (.ok (Src.map (fun ds => ds) ⟨(akeys C).map .int, some (M3.length, (akeys C).map .int)⟩) (M3 ++ [Ob.lst ((akeys C).map D.int)])) := seq_at _ (by have := keysAt M3 c3; simp [L2, this]) (src_lst g4)
  generalize M3 ++ [Ob.lst ((akeys C).map D.int)] = M4 at *
  have b4 := k4.get b3
  have hc2 := lcG_map (ok := Src.ok (Src.map (fun ds => ds) ⟨(akeys C).map .int, some (M3.length, (akeys C).map .int)⟩)) (g := mName 4) (tt := mT (mBin oNotIn (mVar 4) (mVar 0))) (e := mVar 4) (L := wipeL L2 [4]) (M := M4) (fun d => match d with | .int j => !(aget B j).isSome | _ => false) (fun d => d) g4 ((akeys C).map .int) (fun d hd => by
    obtain ⟨j, hj, rfl⟩ := List.mem_map.mp hd
    have hx := notIn_dct (k := j) b4
    refine ⟨_, rfl, ?_, fun _ => ?_⟩
    · simp [wipeL, L2, hx]
    · simp [wipeL, L2])
  have hm2 : (((akeys C).map D.int).filter fun d => match d with | .int j => !(aget B j).isSome | _ => false).map (fun d => d) = ((akeys C).filter fun j => !(aget B j).isSome).map .int := by
    rw [List.map_id', List.filter_map]
    rfl
  rw [hm2] at hc2
  have hfl := List.length_filter_le (fun j => !(aget B j).isSome) (akeys C)
  have hlc2 := lc_at hi2 hc2 (by rw [List.length_map]; omega)
  have hso : oSorted [.ref M4.length] (M4 ++ [.lst (((akeys C).filter fun j => !(aget B j).isSome).map .int)]) = some (.ref (M4 ++ [Ob.lst (((akeys C).filter fun j => !(aget B j).isSome).map .int)]).length, M4 ++ [.lst (((akeys C).filter fun j => !(aget B j).isSome).map .int)] ++ [.lst ((newsL B C).map .int)]) := by
    unfold oSorted
    dsimp only
    rw [get_new]
    dsimp only
    rw [BP.intsOf_map]
    rfl
  obtain ⟨q, hq⟩ : ∃ q, (M4 ++ [Ob.lst (((akeys C).filter fun j => !(aget B j).isSome).map .int)]).length = q := ⟨_, rfl⟩
  rw [hq] at hso
  have g5 : (M4 ++ [Ob.lst (((akeys C).filter fun j => !(aget B j).isSome).map .int)] ++ [Ob.lst ((newsL B C).map .int)])[q]? = some (.lst ((newsL B C).map .int)) := by rw [← hq]; exact get_new
  have k5 : Kp M3 (M4 ++ [Ob.lst (((akeys C).filter fun j => !(aget B j).isSome).map .int)] ++ [Ob.lst ((newsL B C).map .int)]) := (k4.more _).more _
  have e2 : b_law_numbered_2 L2 M3 = some (.nx [some (.ref b), some (.ref c), some (.ref M2.length), some (.ref q), none, none], M4 ++ [Ob.lst (((akeys C).filter fun j => !(aget B j).isSome).map .int)] ++ [Ob.lst ((newsL B C).map .int)]) := by
    clear hm2 hi2 hc2
    generalize ((akeys C).filter fun j => !(aget B j).isSome).map D.int = o1 at *
    simp only [b_law_numbered_2]
    simp [hlc2, hso, -List.append_assoc]
    simp [L2]
  generalize M4 ++ [Ob.lst (((akeys C).filter fun j => !(aget B j).isSome).map .int)] ++ [Ob.lst ((newsL B C).map .int)] = M5 at *
  have b5 := k5.get b3
  have c5 := k5.get c3
  have gg5 := k5.get g3
  -- all are others
  let L3 : BL.Loc := [some (.ref b), some (.ref c), some (.ref M2.length), some (.ref q), none, none]
  have g6 : (M5 ++ [Ob.lst ((akeys C).map D.int)])[M5.length]? = some (.lst ((akeys C).map .int)) := get_new
  have k6 : Kp M5 (M5 ++ [Ob.lst ((akeys C).map D.int)]) := Kp.app _ _
  have hi3 : mIter (mCB oList (mCons (mVar 1) mNil)) L3 M5 = some (.ok (Src.map (fun ds => ds) ⟨(akeys C).map .int, some (M5.length, (akeys C).map .int)⟩) (M5 ++ [Ob.lst ((akeys C).map D.int)])) := seq_at _ (by have := keysAt M5 c5; simp [L3, this]) (src_lst g6)
  generalize M5 ++ [Ob.lst ((akeys C).map D.int)] = M6 at *
  have b6 := k6.get b5
  have c6 := k6.get c5
  obtain ⟨L', M6', e3, x4, rfl, rfl⟩ := forG_run (ok := Src.ok (Src.map (fun ds => ds) ⟨(akeys C).map .int, some (M5.length, (akeys C).map .int)⟩)) (g := mName 4) (body := mIte (mOr (mNot (mT (mCall g_law_whole (mCons (mVar 4) mNil)))) (mT (mBin oEq (mBin oIx (mVar 1) (mVar 4)) (mMtD oGet1 (mVar 0) (mVar 4))))) (mRet (mC (.bl false))) mSkip)
    (fun k L M' => ∃ x4, L = [some (.ref b), some (.ref c), some (.ref M2.length), some (.ref q), x4, none] ∧ M' = M6) ((akeys C).map .int)
    (fun k L M' d hd ⟨x4, hL, hM⟩ => by
      subst hL hM
      refine ⟨g6, _, rfl, ?_⟩
      obtain ⟨j, hj, rfl⟩ := List.mem_map.mp (List.mem_of_getElem? hd)
      have hx : oIx (.ref c) (.int j) M' = some (getN F j, M') := ix_dct c6 (E.val hj)
      have hgt : oGet1 (.ref b) (.int j) M' = some (getN B j, M') := get1_dct b6
      have hne : oEq (getN F j) (getN B j) M' = some (.bl false, M') := oEq_diff (getN_pl E.pF j) (getN_pl E.pB j) (fun z => E.key.mp hj z.symm)
      refine ⟨[some (.ref b), some (.ref c), some (.ref M2.length), some (.ref q), some (.int j), none], M', ?_, _, rfl, rfl⟩
      generalize getN F j = d1 at *
      generalize getN B j = d2 at *
      simp [p_lwhole, hx, hgt, hne, b6])
    (fun L M' ⟨_, _, hM⟩ => by subst hM; exact g6) (L := L3) (M := M6) ⟨none, rfl, rfl⟩
  have e3' : b_law_numbered_3 L3 M5 = some (.nx [some (.ref b), some (.ref c), some (.ref M2.length), some (.ref q), x4, none], M6') := by
    unfold b_law_numbered_3
    rw [for_at hi3]
    exact e3
  have lg := len_lst (k6.get gg5)
  have ln := len_lst (k6.get g5)
  rw [List.length_map] at ln
  have e4 : b_law_numbered_4 [some (.ref b), some (.ref c), some (.ref M2.length), some (.ref q), x4, none] M6' = some (.nx [some (.ref b), some (.ref c), some (.ref M2.length), some (.ref q), x4, none], M6') := by
    have hor : gone.length = 0 ∨ (newsL B C).length = 0 := by
      rcases E.gone_news with h | h
      · refine .inl ?_
        have : gone = [] := by
          rw [List.eq_nil_iff_forall_not_mem]
          intro d hd
          obtain ⟨h1, h2⟩ := List.mem_filter.mp hd
          obtain ⟨j, hj, rfl⟩ := List.mem_map.mp h1
          have h2 : isNon (getN F j) = true := h2
          rw [h j hj] at h2
          cases h2
        rw [this]
        rfl
      · refine .inr ?_
        have : newsL B C = [] := by
          rw [List.eq_nil_iff_forall_not_mem]
          intro j hj
          obtain ⟨h1, h2⟩ := BP.newsL_mem.mp hj
          exact h2 (h j h1)
        rw [this]
        rfl
    clear hc1 hlc1 hm1 hgl
    generalize gone.length = gl at *
    generalize (newsL B C).length = nl at *
    rcases hor with rfl | rfl
    · simp [b_law_numbered_4, lg]
    · simp [b_law_numbered_4, lg, ln]
  -- the free ones
  have lb6 := len_dct b6
  have hnl : (newsL B C).length ≤ 64 := by
    have h1 : (newsL B C).length = ((akeys C).filter fun j => !(aget B j).isSome).length := (List.mergeSort_perm _ _).length_eq
    omega
  let L4 : BL.Loc := [some (.ref b), some (.ref c), some (.ref M2.length), some (.ref q), x4, none]
  have hi5 : mRange2 (mC (.int 1)) (mBin oAdd (mBin oAdd (mCB oLen (mCons (mVar 0) mNil)) (mCB oLen (mCons (mVar 3) mNil))) (mC (.int 1))) L4 M6' = some (.ok ⟨rng 1 (B.length + (newsL B C).length), none⟩ M6') := by
    have := range2_int (a := mC (.int 1)) (b := mBin oAdd (mBin oAdd (mCB oLen (mCons (mVar 0) mNil)) (mCB oLen (mCons (mVar 3) mNil))) (mC (.int 1))) (L := L4) (M := M6') (M1 := M6') (M2 := M6') (i := 1) (j := (B.length : Int) + (newsL B C).length + 1) (by simp) (by simp [L4, lb6, ln]) (by constructor <;> constructor <;> omega)
    rw [this]
    congr 4
    omega
  have hc5 := lcG_map (ok := Src.ok ⟨rng 1 (B.length + (newsL B C).length), none⟩) (g := mName 4) (tt := mT (mBin oNotIn (mVar 4) (mVar 0))) (e := mVar 4) (L := wipeL L4 [4]) (M := M6') (fun d => match d with | .int j => !(aget B j).isSome | _ => false) (fun d => d) trivial (rng 1 (B.length + (newsL B C).length)) (fun d hd => by
    obtain ⟨k, hk⟩ := List.mem_iff_getElem?.mp hd
    obtain ⟨rfl, _⟩ := rng_get hk
    have hx := notIn_dct (k := 1 + (k : Int)) b6
    refine ⟨_, rfl, ?_, fun _ => ?_⟩
    · simp [wipeL, L4, hx]
    · simp [wipeL, L4])
  have hm5 : ((rng 1 (B.length + (newsL B C).length)).filter fun d => match d with | .int j => !(aget B j).isSome | _ => false).map (fun d => d) = (freeL B (B.length + (newsL B C).length)).map .int := by
    rw [List.map_id']
    unfold freeL rng
    rw [List.filter_map, List.filter_map, List.map_map]
    rfl
  rw [hm5] at hc5
  have hfrl : (freeL B (B.length + (newsL B C).length)).length ≤ B.length + (newsL B C).length := by
    have := List.length_filter_le (fun j => !(aget B j).isSome) ((List.range (B.length + (newsL B C).length)).map fun k : Nat => 1 + (k : Int))
    simpa [freeL] using this
  have hlc5 := lc_at hi5 hc5 (by rw [List.length_map]; omega)
  have e5 : b_law_numbered_5 L4 M6' = some (.nx [some (.ref b), some (.ref c), some (.ref M2.length), some (.ref q), x4, some (.ref M6'.length)], M6' ++ [.lst ((freeL B (B.length + (newsL B C).length)).map .int)]) := by
    clear hm5 hi5 hc5
    generalize (freeL B (B.length + (newsL B C).length)).map D.int = fl at *
    simp only [b_law_numbered_5]
    simp [hlc5]
    simp [L4]
  have g7 : (M6' ++ [Ob.lst ((freeL B (B.length + (newsL B C).length)).map .int)])[M6'.length]? = some (.lst ((freeL B (B.length + (newsL B C).length)).map .int)) := get_new
  have n7 : (M6' ++ [Ob.lst ((freeL B (B.length + (newsL B C).length)).map .int)])[q]? = some (.lst ((newsL B C).map .int)) := get_app (k6.get g5)
  have k7 : Kp M (M6' ++ [Ob.lst ((freeL B (B.length + (newsL B C).length)).map .int)]) := ((k3.trans k5).trans k6).more _
  have hnf := BP.news_free E
  generalize M6' ++ [Ob.lst ((freeL B (B.length + (newsL B C).length)).map .int)] = M7 at *
  have ln7 := len_lst n7
  rw [List.length_map] at ln7
  have hsl : oSl (.ref M6'.length) none (some ((newsL B C).length : Int)) M7 = some (.ref M7.length, M7 ++ [.lst ((newsL B C).map .int)]) := by
    rw [sl_lst g7, cut_take, ← List.map_take, ← hnf]
  have hs : ∀ (L : BL.Loc), L[3]? = some (some (.ref q)) → mSome (mCB oLen (mCons (mVar 3) mNil)) L M7 = some (.ok (some ((newsL B C).length : Int)) M7) := fun L h => ev_some (by simp [h, ln7])
  have heq : oEq (.ref q) (.ref M7.length) (M7 ++ [.lst ((newsL B C).map .int)]) = some (.bl true, M7 ++ [.lst ((newsL B C).map .int)]) := oEq_lsts (get_app n7) get_new pl_ints2
  have e6 : b_law_numbered_6 [some (.ref b), some (.ref c), some (.ref M2.length), some (.ref q), x4, some (.ref M6'.length)] M7 = some (.rt (.bl true), M7 ++ [.lst ((newsL B C).map .int)]) := by
    have hs' := hs [some (.ref b), some (.ref c), some (.ref M2.length), some (.ref q), x4, some (.ref M6'.length)] rfl
    clear hnf hs
    generalize (newsL B C).map D.int = nn at *
    simp [b_law_numbered_6, hs', hsl, heq]
  refine ⟨_, ?_, k7.more [.lst ((newsL B C).map .int)]⟩
  simp only [g_law_numbered, b_law_numbered, ev_def2]
  show endS (mSeq b_law_numbered_0 _ L1 M) = _
  rw [seq_step e0, seq_step e1]
  show endS (mSeq b_law_numbered_2 _ L2 M3) = _
  rw [seq_step e2]
  show endS (mSeq b_law_numbered_3 _ L3 M5) = _
  rw [seq_step e3', seq_step e4]
  show endS (mSeq b_law_numbered_5 _ L4 M6') = _
  rw [seq_step e5, e6]
  rfl
end BK08
/-! K08B: _law_listed, the law. -/
namespace BK08
open BL
open BP (rowB pairB keyOf valOf lookK Tree Edit getN newsL freeL NoN keyB T goodS heldK outK Made SoundP rowsW Tl Done)
open BP (ix0 ix1 pair_shape rowB_pw lookK_app lookK_pre lookK_none getN_non getN_pl)
open PySem (Str)
variable {M : Mem}
theorem p_cell0 (ns : List Int) (k : Int) (M : Mem) (h : 0 ≤ k) : g_law_cell_at [.scr ns, .int k] M = some (.ok (.int (cell ns k.toNat)) M) := p_gcell0 ns k M h
theorem p_width (c : Int) : ∃ w : Nat, (3 ≤ w ∧ w ≤ 64) ∧ g_law_width_by [.int c] M = some (.ok (.int w) M) := by
  simp only [g_law_width_by, b_law_width_by, ev_def1]
  by_cases h : c % 8 = 7
  · obtain ⟨w, hw⟩ : ∃ w : Nat, 3 + c / 8 % 62 = w := ⟨(3 + c / 8 % 62).toNat, by omega⟩
    exact ⟨w, by omega, by simp [b_law_width_by_0, b_law_width_by_1, h, hw]⟩
  · obtain ⟨w, hw⟩ : ∃ w : Nat, 3 + c / 8 % 4 = w := ⟨(3 + c / 8 % 4).toNat, by omega⟩
    exact ⟨w, by omega, by simp [b_law_width_by_0, b_law_width_by_1, h, hw]⟩
theorem look_kind {T : List D} {key : Int} (good : rowB true T = true) : lookK T key = .non ∨ ∃ s, lookK T key = .str s ∧ Pl 50 (.str s) := by
  have hp := ((rowB_pw _).mp good).1
  induction T with
  | nil => exact .inl rfl
  | cons p T ih =>
    show (if keyOf p = key then valOf p else lookK T key) = .non ∨ ∃ s, (if keyOf p = key then valOf p else lookK T key) = .str s ∧ _
    by_cases h : keyOf p = key
    · rw [if_pos h]
      obtain ⟨k, v, rfl, _, hv⟩ := pair_shape (hp p List.mem_cons_self)
      rw [if_pos rfl] at hv
      cases v with
      | str s =>
        have hpl := (BP.val_seen (leaf := true) (v := .str s) (M := []) (by rw [if_pos rfl]; exact hv)).2.2
        refine .inr ⟨s, rfl, pl_str ?_⟩
        exact hpl
      | _ => cases hv
    · rw [if_neg h]
      exact ih (BP.rowB_app (a := [p]) (b := T) good).2 fun x hx => hp x (List.mem_cons_of_mem _ hx)
theorem row_pl {T : List D} (good : rowB true T = true) : ∀ x ∈ T, Pl 50 x := fun x hx => BP.pl_up ((BP.row_seen (M := []) good).2 x hx) 9
theorem p_listed {b p : Nat} {B : List (Int × D)} {w key : Int} {h : Nat} {T : List D} {nums : List Int} (hb : M[b]? = some (.dct B)) (hp : M[p]? = some (.lst T)) (t : Tree B w h T nums) (hw : 3 ≤ w ∧ w ≤ 64) (hB : B.length ≤ 4000) :
    ∃ M', g_law_listed [.ref b, .ref p, .int key] M = some (.ok (.bl true) M') ∧ Kp M M' := by
  have good := t.good
  have hpw := (rowB_pw _).mp good
  let L0 : BL.Loc := [some (.ref b), some (.ref p), some (.int key), none, none, none, none]
  have e0 : b_law_listed_0 L0 M = some (.nx [some (.ref b), some (.ref p), some (.int key), some .non, none, none, none], M) := by
    simp [b_law_listed_0, L0]
  have hi : mIter (mVar 1) [some (.ref b), some (.ref p), some (.int key), some .non, none, none, none] M = some (.ok (Src.map (fun ds => ds) ⟨T, some (p, T)⟩) M) := seq_at _ (by simp) (src_lst hp)
  obtain ⟨L', M', e1, x4, rfl, rfl⟩ := forG_run (ok := Src.ok (Src.map (fun ds => ds) ⟨T, some (p, T)⟩)) (g := mName 4) (body := mIte (mT (mBin oEq (mBin oIx (mVar 4) (mC (.int 0))) (mVar 2))) (mSet 3 (mBin oIx (mVar 4) (mC (.int 1)))) mSkip)
    (fun k L M' => ∃ x4, L = [some (.ref b), some (.ref p), some (.int key), some (lookK (T.take k) key), x4, none, none] ∧ M' = M) T
    (fun k L M' d hd ⟨x4, hL, hM⟩ => by
      subst hL hM
      refine ⟨hp, _, rfl, ?_⟩
      have hkl := (List.getElem?_eq_some_iff.mp hd).1
      have hke := (List.getElem?_eq_some_iff.mp hd).2
      obtain ⟨kk, v, rfl, _, _⟩ := pair_shape (hpw.1 d (List.mem_of_getElem? hd))
      have j0 : ∀ M, oIx (.tup [.int kk, v]) (.int 0) M = some (.int kk, M) := fun M => ix0
      have j1 : ∀ M, oIx (.tup [.int kk, v]) (.int 1) M = some (v, M) := fun M => ix1
      have htk : T.take (k + 1) = T.take k ++ [.tup [.int kk, v]] := by rw [List.take_succ_eq_append_getElem hkl, hke]
      by_cases hk : kk = key
      · subst hk
        have hlook : lookK (T.take (k + 1)) kk = v := by
          rw [htk, lookK_pre (fun q hq => ?_)]
          · show (if kk = kk then v else _) = v
            rw [if_pos rfl]
          · have hsp : T = T.take k ++ T.drop k := (List.take_append_drop k T).symm
            have h2 := hpw.2
            rw [hsp] at h2
            have hin : (D.tup [.int kk, v]) ∈ T.drop k := by
              rw [List.drop_eq_getElem_cons hkl, hke]
              exact List.mem_cons_self
            have := (List.pairwise_append.mp h2).2.2 q hq _ hin
            have : keyOf q < kk := this
            omega
        refine ⟨[some (.ref b), some (.ref p), some (.int kk), some v, some (.tup [.int kk, v]), none, none], M', ?_, some (.tup [.int kk, v]), by rw [hlook], rfl⟩
        generalize lookK (T.take k) kk = lk at *
        simp [j0, j1]
      · have hlook : lookK (T.take (k + 1)) key = lookK (T.take k) key := by
          rw [htk, lookK_app (fun q hq => by rw [List.mem_singleton.mp hq]; exact hk)]
        refine ⟨[some (.ref b), some (.ref p), some (.int key), some (lookK (T.take k) key), some (.tup [.int kk, v]), none, none], M', ?_, some (.tup [.int kk, v]), by rw [hlook], rfl⟩
        generalize lookK (T.take k) key = lk at *
        simp [j0, hk])
    (fun L M' ⟨_, _, hM⟩ => by subst hM; exact hp) (L := [some (.ref b), some (.ref p), some (.int key), some .non, none, none, none]) (M := M) ⟨none, rfl, rfl⟩
  rw [List.take_length] at e1
  have e1' : b_law_listed_1 [some (.ref b), some (.ref p), some (.int key), some .non, none, none, none] M' = some (.nx [some (.ref b), some (.ref p), some (.int key), some (lookK T key), x4, none, none], M') := by
    unfold b_law_listed_1
    rw [for_at hi]
    exact e1
  obtain ⟨vs, s, hrows, hn⟩ := t.sound hw.1
  obtain ⟨r, M2, e2, k2, hr, g2⟩ := BP.p_listed hb hw.2 s.ws (by have := s.all; omega)
  rw [hrows] at g2
  have e2' : g_listed [.ref b] M' = some (.ok (.ref r) M2) := e2
  obtain ⟨M3, e3, k3⟩ := BP.p_value_in (key := key) (k2.get hb) t.sub good (by have := t.low hB; omega)
  have e3' : g_value_in [.ref b, .int key] M2 = some (.ok (lookK T key) M3) := e3
  have g3 := k3.get g2
  have p3 := (k2.trans k3).get hp
  have isl := isi_lst_list g3
  have eql := oEq_lsts g3 p3 (row_pl good)
  refine ⟨M3, ?_, k2.trans k3⟩
  simp only [g_law_listed, b_law_listed, ev_def3]
  show endS (mSeq b_law_listed_0 _ L0 M') = _
  rw [seq_step e0, seq_step e1']
  have hkind := look_kind (key := key) good
  generalize lookK T key = a at *
  have e23 : b_law_listed_2 [some (.ref b), some (.ref p), some (.int key), some a, x4, none, none] M' = some (.nx [some (.ref b), some (.ref p), some (.int key), some a, x4, some (.ref r), none], M2) := by
    simp [b_law_listed_2, e2']
  have e33 : b_law_listed_3 [some (.ref b), some (.ref p), some (.int key), some a, x4, some (.ref r), none] M2 = some (.nx [some (.ref b), some (.ref p), some (.int key), some a, x4, some (.ref r), some a], M3) := by
    simp [b_law_listed_3, e3']
  rw [seq_step e23, seq_step e33]
  rcases hkind with rfl | ⟨sv, rfl, hpl⟩
  · have q : oEq .non .non M3 = some (.bl true, M3) := oEq_same pl_non
    simp [b_law_listed_4, b_law_listed_5, isNon, q, isl, eql]
  · have q := oEq_same (M := M3) hpl
    have qs : oIsi "str" (.str sv) M3 = some (.bl true, M3) := isi_str_str
    simp [b_law_listed_4, b_law_listed_5, isNon, q, qs, isl, eql]
/-- the row -/
def rf (first : Int) : D → D
  | .int k => .tup [.int (first + 3 * k), .str (PySem.Txt.mul "v" (k % 3))]
  | _ => .non
def rowN (first : Int) (size : Nat) : List D := (rng 0 size).map (rf first)
theorem rowN_get {first : Int} {size k : Nat} {d : D} (h : (rowN first size)[k]? = some d) : d = .tup [.int (first + 3 * k), .str (PySem.Txt.mul "v" ((k : Int) % 3))] ∧ k < size := by
  unfold rowN at h
  rw [List.getElem?_map] at h
  obtain ⟨j, hj, rfl⟩ := Option.map_eq_some_iff.mp h
  obtain ⟨rfl, hk⟩ := rng_get hj
  exact ⟨by rw [Int.zero_add]; rfl, hk⟩
theorem rowN_len {first : Int} {size : Nat} : (rowN first size).length = size := by simp [rowN]
theorem rowN_good {first : Int} {size : Nat} (hf : -1000 ≤ first ∧ first < 1000) (hs : size ≤ 4000) : rowB true (rowN first size) = true := by
  refine (BP.rowB_iff _ _).mpr ⟨fun d hd => ?_, fun k d e hd he => ?_⟩
  · obtain ⟨k, hk⟩ := List.mem_iff_getElem?.mp hd
    obtain ⟨rfl, hk⟩ := rowN_get hk
    show (keyB (.int (first + 3 * (k : Int))) && BP.valB (.str (PySem.Txt.mul "v" ((k : Int) % 3)))) = true
    rw [Bool.and_eq_true]
    constructor
    · unfold keyB
      rw [Bool.and_eq_true, decide_eq_true_eq, decide_eq_true_eq]
      have : (100000 : Int) < 10 ^ 60 := by decide
      omega
    · have h3 : (k : Int) % 3 = 0 ∨ (k : Int) % 3 = 1 ∨ (k : Int) % 3 = 2 := by omega
      rcases h3 with h | h | h <;> (rw [h]; decide +kernel)
  · obtain ⟨rfl, _⟩ := rowN_get hd
    obtain ⟨rfl, _⟩ := rowN_get he
    show first + 3 * (k : Int) < first + 3 * ((k + 1 : Nat) : Int)
    omega
theorem l_03 (ns : List Int) (hb : ∀ z ∈ ns, PySem.Builtin.Int.intBits z ≤ 1048576) : ∃ w size : Nat, (3 ≤ w ∧ w ≤ 64) ∧ size ≤ 1200 ∧ mSeq b_law_0 (mSeq b_law_1 (mSeq b_law_2 b_law_3)) ([some (.scr ns)] ++ List.replicate (13 - 1) none) [] = some (.nx [some (.scr ns), some (.int w), some (.int size), none, none, none, none, none, none, none, none, none, none], []) := by
  obtain ⟨w, hw, ew⟩ := p_width (M := []) (cell ns 0)
  have hm : ∀ M, oMul (.int (cell ns 1)) (.int 48271) M = some (.int (cell ns 1 * 48271), M) := fun M => mul_int (fits_cell (cell_bits hb 1) (by constructor <;> omega))
  have e0 : b_law_0 ([some (.scr ns)] ++ List.replicate (13 - 1) none) [] = some (.nx [some (.scr ns), some (.int w), none, none, none, none, none, none, none, none, none, none, none], []) := by
    simp [b_law_0, p_cell0, ew]
  obtain ⟨s1, hs1, e1⟩ : ∃ s : Nat, s ≤ 200 ∧ mSeq b_law_1 b_law_2 [some (.scr ns), some (.int w), none, none, none, none, none, none, none, none, none, none, none] [] = some (.nx [some (.scr ns), some (.int w), some (.int s), none, none, none, none, none, none, none, none, none, none], []) := by
    have e1 : b_law_1 [some (.scr ns), some (.int w), none, none, none, none, none, none, none, none, none, none, none] [] = some (.nx [some (.scr ns), some (.int w), some (.int (cell ns 1 % 41)), none, none, none, none, none, none, none, none, none, none], []) := by
      simp [b_law_1, p_cell0]
    by_cases c : cell ns 1 / 41 % 4 = 1 ∨ (6 : Int) < w
    · obtain ⟨s, hs⟩ : ∃ s : Nat, cell ns 1 * 48271 % 1009 % 201 = s := ⟨(cell ns 1 * 48271 % 1009 % 201).toNat, by omega⟩
      refine ⟨s, by omega, ?_⟩
      rw [seq_step e1]
      by_cases c1 : cell ns 1 / 41 % 4 = 1
      · simp [b_law_2, p_cell0, c1, hm, hs]
      · have c2 : (6 : Int) < w := c.resolve_left c1
        simp [b_law_2, p_cell0, c1, c2, hm, hs]
    · obtain ⟨s, hs⟩ : ∃ s : Nat, cell ns 1 % 41 = s := ⟨(cell ns 1 % 41).toNat, by omega⟩
      refine ⟨s, by omega, ?_⟩
      rw [seq_step e1, hs]
      have c1 : ¬ cell ns 1 / 41 % 4 = 1 := fun z => c (.inl z)
      have c2 : ¬ (6 : Int) < w := fun z => c (.inr z)
      simp [b_law_2, p_cell0, c1, c2]
  by_cases c : cell ns 1 / 164 % 16 = 3
  · obtain ⟨s, hs⟩ : ∃ s : Nat, 400 + cell ns 1 * 48271 % 1009 % 801 = s := ⟨(400 + cell ns 1 * 48271 % 1009 % 801).toNat, by omega⟩
    refine ⟨3, s, by omega, by omega, ?_⟩
    rw [seq_step e0, seq2 e1]
    simp [b_law_3, p_cell0, c, hm, hs]
  · refine ⟨w, s1, hw, by omega, ?_⟩
    rw [seq_step e0, seq2 e1]
    simp [b_law_3, p_cell0, c]
theorem l_5 (ns : List Int) (w : Int) (size : Nat) (first : Int) (hs : size ≤ 1200) : b_law_5 [some (.scr ns), some (.int w), some (.int size), some (.int first), none, none, none, none, none, none, none, none, none] [] = some (.nx [some (.scr ns), some (.int w), some (.int size), some (.int first), some (.ref 0), none, none, none, none, none, none, none, none], [.lst (rowN first size)]) := by
  let L : Loc := [some (.scr ns), some (.int w), some (.int size), some (.int first), none, none, none, none, none, none, none, none, none]
  have hi : mRange1 (mVar 2) L [] = some (.ok ⟨rng 0 size, none⟩ []) := by
    have := range1_int (e := mVar 2) (L := L) (M := []) (M1 := []) (j := size) (by simp [L]) (by constructor <;> omega)
    rw [this]
    rfl
  have hv : ∀ (z : Int) M, 0 ≤ z ∧ z < 3 → oMul (.str "v") (.int z) M = some (.str (PySem.Txt.mul "v" z), M) := fun z M h => by
    show (if (PySem.Str.ofString "v").length ≤ 1000 ∧ -(2 ^ 63) ≤ z ∧ z ≤ 1000 then some (D.str (PySem.Txt.mul (PySem.Str.ofString "v") z), M) else none) = _
    exact if_pos ⟨by decide +kernel, by omega, by omega⟩
  have hc := lcG_map (ok := Src.ok ⟨rng 0 size, none⟩) (g := mName 11) (tt := mYes) (e := mTup (mCons (mBin oAdd (mVar 3) (mBin oMul (mC (.int 3)) (mVar 11))) (mCons (mBin oMul (mC (.str "v")) (mBin oMod (mVar 11) (mC (.int 3)))) mNil))) (L := wipeL L [11]) (M := []) (fun _ => true) (rf first) trivial (rng 0 size) (fun d hd => by
    obtain ⟨j, hj⟩ := List.mem_iff_getElem?.mp hd
    obtain ⟨rfl, hk⟩ := rng_get hj
    refine ⟨_, rfl, rfl, fun _ => ?_⟩
    rw [Int.zero_add]
    have m3 : ∀ M, oMul (.int 3) (.int (j : Int)) M = some (.int (3 * (j : Int)), M) := fun M => mul_int (fits_small (by constructor <;> omega) (by constructor <;> omega))
    have mv := hv ((j : Int) % 3) [] (by omega)
    have e : rf first (.int (j : Int)) = .tup [.int (first + 3 * (j : Int)), .str (PySem.Txt.mul "v" ((j : Int) % 3))] := rfl
    rw [e]
    generalize PySem.Txt.mul "v" ((j : Int) % 3) = tx at *
    simp [wipeL, L, m3, mv])
  rw [List.filter_eq_self.mpr (fun _ _ => rfl)] at hc
  have hlc := lc_at hi hc (by simp; omega)
  show b_law_5 L [] = _
  have e : (rng 0 size).map (rf first) = rowN first size := rfl
  rw [e] at hlc
  generalize rowN first size = row at *
  simp [b_law_5, hlc]
  simp [L]
end BK08
/-! K08C: the law. -/
namespace BK08
open BL
open BP (rowB pairB keyOf valOf lookK Tree Edit getN newsL freeL NoN keyB T goodS heldK outK Made SoundP rowsW Tl Done)
open BP (ix0 ix1 pair_shape rowB_pw)
open PySem (Str)
variable {M : Mem}
theorem four_int {c : Int} : ∃ δ : Int, (-1 ≤ δ ∧ δ ≤ 1) ∧ ∀ M : Mem, oIx (.ref M.length) (.int (c % 4)) (M ++ [.lst [.int 0, .int 0, .int 1, .int (-1)]]) = some (.int δ, M ++ [.lst [.int 0, .int 0, .int 1, .int (-1)]]) := by
  obtain ⟨n, hn, hn4⟩ : ∃ n : Nat, c % 4 = n ∧ n < 4 := ⟨(c % 4).toNat, by omega, by omega⟩
  rw [hn]
  have hi : ∀ x, [D.int 0, .int 0, .int 1, .int (-1)][n]? = some x → ∀ M : Mem, oIx (.ref M.length) (.int n) (M ++ [.lst [.int 0, .int 0, .int 1, .int (-1)]]) = some (x, M ++ [.lst [.int 0, .int 0, .int 1, .int (-1)]]) := fun x hx M => ix_lst get_new (by rw [atI_nat]; exact hx)
  have : n = 0 ∨ n = 1 ∨ n = 2 ∨ n = 3 := by omega
  rcases this with rfl | rfl | rfl | rfl
  · exact ⟨0, by omega, hi _ rfl⟩
  · exact ⟨0, by omega, hi _ rfl⟩
  · exact ⟨1, by omega, hi _ rfl⟩
  · exact ⟨-1, by omega, hi _ rfl⟩
/-- what is asked of the edit, whichever it is -/
theorem l_end (ns : List Int) {w key : Int} {size first : Int} {rp b hh c : Nat} {there value : D} {B F C : List (Int × D)} {h : Nat} {T T' : List D} {nums : List Int} {tou : List Int} {M0 : Mem} (hw : 3 ≤ w ∧ w ≤ 64) (hb : M[b]? = some (.dct B)) (hhd : M[hh]? = some (.dct B)) (hr : M[rp]? = some (.lst T)) (t : Tree B w h T nums) (d : Done M0 M B w T' c C F tou) (hB : B.length ≤ 4000) (hT : T.length ≤ 4000) (hT' : (if isNon value = true then outK T key else heldK T key value) = T') :
    ∃ M', mSeq b_law_14 b_law_15 [some (.scr ns), some (.int w), some (.int size), some (.int first), some (.ref rp), some (.ref b), some (.ref hh), some (.int key), some there, some value, some (.ref c), none, none] M = some (.rt (.bl true), M') := by
  have E := d.edit t hw.1
  have hc := d.at_
  have hne := oNe_ofX (eqX_ext hhd hb E.nB E.nB E.pB E.pB fun _ => rfl)
  obtain ⟨M1, e1, k1⟩ := p_numbered E hb hc (by omega)
  have e14 : b_law_14 [some (.scr ns), some (.int w), some (.int size), some (.int first), some (.ref rp), some (.ref b), some (.ref hh), some (.int key), some there, some value, some (.ref c), none, none] M = some (.nx [some (.scr ns), some (.int w), some (.int size), some (.int first), some (.ref rp), some (.ref b), some (.ref hh), some (.int key), some there, some value, some (.ref c), none, none], M1) := by
    simp [b_law_14, hne, e1]
  have lC := E.len
  obtain ⟨o, M2, O, e2, k2, go, nO, lO, hO⟩ := BP.p_behind (k1.get hb) (k1.get hc) E.nB E.nC (by omega) (by omega)
  have e2' : g_law_behind [.ref b, .ref c] M1 = some (.ok (.ref o) M2) := e2
  obtain ⟨h2, nums2, t2⟩ := d.chg.tree
  have tO : Tree O w h2 T' nums2 := t2.same nO fun j => E.behind hO j
  obtain ⟨vs, s, hrows, _⟩ := tO.sound hw.1
  obtain ⟨r3, M3, e3, k3, g3⟩ := BP.p_row_of go s hw (by omega)
  rw [hrows] at g3
  have e3' : g_law_row_of [.ref o, .int w] M2 = some (.ok (.ref r3) M3) := e3
  obtain ⟨r4, M4, e4, k4, g4⟩ := BP.p_held (key := key) (v := value) ((k1.trans (k2.trans k3)).get hr) t.good (by omega)
  have e4' : g_law_held [.ref rp, .int key, value] M3 = some (.ok (.ref r4) M4) := e4
  rw [hT'] at g4
  have heq := oEq_lsts (k4.get g3) g4 (row_pl t2.good)
  refine ⟨M4, ?_⟩
  rw [seq_step e14]
  simp [b_law_15, e2', e3', e4', heq]
theorem law (ns : List Int) (hl : ns.length ≤ 63) (hb : ∀ z ∈ ns, PySem.Builtin.Int.intBits z ≤ 1048576) : ∃ M, g_law [.scr ns] [] = some (.ok (.bl true) M) := by
  obtain ⟨w, size, hw, hsz, e03⟩ := l_03 ns hb
  simp only [g_law, b_law, ev_def1]
  rw [seq4 e03]
  obtain ⟨first, hfirst⟩ : ∃ f, cell ns 2 % 2000 - 1000 = f := ⟨_, rfl⟩
  have hf : -1000 ≤ first ∧ first < 1000 := by omega
  have e4 : b_law_4 [some (.scr ns), some (.int w), some (.int size), none, none, none, none, none, none, none, none, none, none] [] = some (.nx [some (.scr ns), some (.int w), some (.int size), some (.int first), none, none, none, none, none, none, none, none, none], []) := by
    simp [b_law_4, p_cell0, hfirst]
  rw [seq_step e4, seq_step (l_5 ns w size first hsz)]
  have hrow := rowN_good (size := size) hf (by omega)
  have hlen := rowN_len (first := first) (size := size)
  generalize rowN first size = row at *
  obtain ⟨b, B, M1, et, k1, hb0, hb1, mk⟩ := BP.p_tree_by (M := [.lst row]) (p := 0) (c := cell ns 3 % 9000) rfl hw (by omega) hrow (by omega)
  obtain ⟨⟨vs, hs, hrows⟩, hnd, hBl, hpos⟩ := mk
  have hw3 : 3 ≤ (w : Int) ∧ (w : Int) ≤ 64 := by omega
  obtain ⟨th, nums, tree⟩ := hs.tree hw3.1 hnd
  rw [hrows] at tree
  have et' : g_law_tree_by [.ref 0, .int w, .int (cell ns 3 % 9000)] [.lst row] = some (.ok (.ref b) M1) := et
  have hr1 : M1[0]? = some (.lst row) := k1.get (n := 0) rfl
  have e6 : b_law_6 [some (.scr ns), some (.int w), some (.int size), some (.int first), some (.ref 0), none, none, none, none, none, none, none, none] [.lst row] = some (.nx [some (.scr ns), some (.int w), some (.int size), some (.int first), some (.ref 0), some (.ref b), none, none, none, none, none, none, none], M1) := by
    simp [b_law_6, p_cell0, et']
  rw [seq_step e6]
  have hd : oDict [.ref b] M1 = some (.ref M1.length, M1 ++ [.dct B]) := dict_dct hb1
  have e7 : b_law_7 [some (.scr ns), some (.int w), some (.int size), some (.int first), some (.ref 0), some (.ref b), none, none, none, none, none, none, none] M1 = some (.nx [some (.scr ns), some (.int w), some (.int size), some (.int first), some (.ref 0), some (.ref b), some (.ref M1.length), none, none, none, none, none, none], M1 ++ [.dct B]) := by
    simp [b_law_7, hd]
  rw [seq_step e7]
  have hb2 : (M1 ++ [Ob.dct B])[b]? = some (.dct B) := get_app hb1
  have hh2 : (M1 ++ [Ob.dct B])[M1.length]? = some (.dct B) := get_new
  have hr2 : (M1 ++ [Ob.dct B])[0]? = some (.lst row) := get_app hr1
  generalize M1 ++ [Ob.dct B] = M2 at *
  generalize M1.length = hh at *
  -- the key
  obtain ⟨δ, hδ, hix⟩ := four_int (c := cell ns 5)
  obtain ⟨mx, hmx, hmx1⟩ : ∃ mx : Int, (if (1 : Int) < (size : Int) then (size : Int) else 1) = mx ∧ 0 < mx ∧ mx ≤ 1200 := by
    refine ⟨_, rfl, ?_⟩
    split <;> omega
  have hq := Int.emod_nonneg (cell ns 4) (show mx ≠ 0 by omega)
  have hq2 := Int.emod_lt_of_pos (cell ns 4) hmx1.1
  have m8 : ∀ M, oMul (.int 3) (.int (cell ns 4 % mx)) M = some (.int (3 * (cell ns 4 % mx)), M) := fun M => mul_int (fits_small (by constructor <;> omega) (by constructor <;> omega))
  have m3 : ∀ M, oMul (.int 3) (.int (cell ns 4 % mx)) M = some (.int (3 * (cell ns 4 % mx)), M) := m8
  obtain ⟨key1, hkey1, hkr1⟩ : ∃ key1, first + 3 * (cell ns 4 % mx) + δ = key1 ∧ -100000 < key1 ∧ key1 < 100000 := ⟨_, rfl, by omega, by omega⟩
  have k3 : Kp M2 (M2 ++ [.lst [.int 0, .int 0, .int 1, .int (-1)]]) := Kp.app _ _
  have e8 : b_law_8 [some (.scr ns), some (.int w), some (.int size), some (.int first), some (.ref 0), some (.ref b), some (.ref hh), none, none, none, none, none, none] M2 = some (.nx [some (.scr ns), some (.int w), some (.int size), some (.int first), some (.ref 0), some (.ref b), some (.ref hh), some (.int key1), none, none, none, none, none], M2 ++ [.lst [.int 0, .int 0, .int 1, .int (-1)]]) := by
    have hx2 := hix M2
    have hmx0 := hmx1.1
    rw [← hkey1]
    simp only [b_law_8]
    simp [p_cell0]
    rw [hmx]
    simp [hmx0, m8, hx2]
  rw [seq_step e8]
  have hb3 := k3.get hb2
  have hh3 := k3.get hh2
  have hr3 := k3.get hr2
  generalize M2 ++ [Ob.lst [.int 0, .int 0, .int 1, .int (-1)]] = M3 at *
  obtain ⟨key, hkr, e9⟩ : ∃ key : Int, (-(10 ^ 60) < key ∧ key < 10 ^ 60) ∧ b_law_9 [some (.scr ns), some (.int w), some (.int size), some (.int first), some (.ref 0), some (.ref b), some (.ref hh), some (.int key1), none, none, none, none, none] M3 = some (.nx [some (.scr ns), some (.int w), some (.int size), some (.int first), some (.ref 0), some (.ref b), some (.ref hh), some (.int key), none, none, none, none, none], M3) := by
    have hp : ∀ M, oPow (.int 10) (.int 60) M = some (.int (10 ^ 60), M) := fun M => by rw [pow_int, if_pos (by decide)]; rfl
    have hP : (100000 : Int) < 10 ^ 60 := by decide
    have hm2 : ∀ M, oMul (.int 2) (.int (10 ^ 60)) M = some (.int (2 * 10 ^ 60), M) := fun M => mul_int (fits_small (by constructor <;> omega) (by constructor <;> decide))
    generalize (10 : Int) ^ 60 = P at *
    by_cases c : cell ns 5 / 4 % 7 = 1
    · have h1 := Int.emod_nonneg (cell ns 4) (show 2 * P - 1 ≠ 0 by omega)
      have h2 := Int.emod_lt_of_pos (cell ns 4) (show 0 < 2 * P - 1 by omega)
      have hpos : 1 < 2 * P := by omega
      refine ⟨cell ns 4 % (2 * P - 1) - P + 1, by omega, ?_⟩
      simp [b_law_9, p_cell0, c, hp, hm2, hpos, -pow_int]
    · refine ⟨key1, by omega, ?_⟩
      simp [b_law_9, p_cell0, c]
  rw [seq_step e9]
  -- what is listed
  obtain ⟨M4, e10', k4⟩ := p_listed (key := key) hh3 hr3 tree hw3 (by omega)
  have e10 : b_law_10 [some (.scr ns), some (.int w), some (.int size), some (.int first), some (.ref 0), some (.ref b), some (.ref hh), some (.int key), none, none, none, none, none] M3 = some (.nx [some (.scr ns), some (.int w), some (.int size), some (.int first), some (.ref 0), some (.ref b), some (.ref hh), some (.int key), none, none, none, none, none], M4) := by
    simp [b_law_10, e10']
  rw [seq_step e10]
  have hb4 := k4.get hb3
  have hh4 := k4.get hh3
  have hr4 := k4.get hr3
  -- whether it is there
  obtain ⟨there, M5, e11, k5⟩ : ∃ (there : Bool) (M5 : Mem), b_law_11 [some (.scr ns), some (.int w), some (.int size), some (.int first), some (.ref 0), some (.ref b), some (.ref hh), some (.int key), none, none, none, none, none] M4 = some (.nx [some (.scr ns), some (.int w), some (.int size), some (.int first), some (.ref 0), some (.ref b), some (.ref hh), some (.int key), some (.bl there), none, none, none, none], M5) ∧ Kp M4 M5 := by
    let L : BL.Loc := [some (.scr ns), some (.int w), some (.int size), some (.int first), some (.ref 0), some (.ref b), some (.ref hh), some (.int key), none, none, none, none, none]
    have hi : mIter (mVar 4) L M4 = some (.ok (Src.map (fun ds => ds) ⟨row, some (0, row)⟩) M4) := seq_at _ (by simp [L]) (src_lst hr4)
    have hc := lcG_map (ok := Src.ok (Src.map (fun ds => ds) ⟨row, some (0, row)⟩)) (g := mName 12) (tt := mT (mBin oEq (mBin oIx (mVar 12) (mC (.int 0))) (mVar 7))) (e := mVar 12) (L := wipeL L [12]) (M := M4) (fun p => decide (keyOf p = key)) (fun d => d) hr4 row (fun p hpp => by
      obtain ⟨k, v, rfl, _, _⟩ := pair_shape (((rowB_pw _).mp hrow).1 p hpp)
      have j0 : ∀ M, oIx (.tup [.int k, v]) (.int 0) M = some (.int k, M) := fun M => ix0
      have hko : keyOf (.tup [.int k, v]) = k := rfl
      refine ⟨_, rfl, ?_, fun _ => ?_⟩
      · rw [hko]
        simp [wipeL, L, j0]
      · simp [wipeL, L])
    have hfl := List.length_filter_le (fun p => decide (keyOf p = key)) row
    have hlc := lc_at hi hc (by rw [List.length_map]; omega)
    generalize (row.filter fun p => decide (keyOf p = key)).map (fun d => d) = out at *
    have hln : oLen [.ref M4.length] (M4 ++ [.lst out]) = some (.int out.length, M4 ++ [.lst out]) := len_lst get_new
    refine ⟨decide ((0 : Int) < out.length), M4 ++ [.lst out], ?_, Kp.app _ _⟩
    show b_law_11 L M4 = _
    simp only [b_law_11]
    simp [hlc, hln]
    simp [L]
  rw [seq_step e11]
  -- the value
  obtain ⟨l, J, hgl, ev⟩ := BP.p_value_by (M := M5) (cell ns 6) (fits_cell (cell_bits hb 6) (by constructor <;> omega))
  have ev' : g_law_value_by [.int (cell ns 6)] M5 = some (.ok (T l) (M5 ++ J)) := ev
  have e12 : b_law_12 [some (.scr ns), some (.int w), some (.int size), some (.int first), some (.ref 0), some (.ref b), some (.ref hh), some (.int key), some (.bl there), none, none, none, none] M5 = some (.nx [some (.scr ns), some (.int w), some (.int size), some (.int first), some (.ref 0), some (.ref b), some (.ref hh), some (.int key), some (.bl there), some (T l), none, none, none], M5 ++ J) := by
    generalize T l = tl at *
    simp [b_law_12, p_cell0, ev']
  rw [seq_step e12]
  have k6 : Kp M4 (M5 ++ J) := k5.more _
  have hb6 := k6.get hb4
  have hh6 := k6.get hh4
  have hr6 := k6.get hr4
  generalize M5 ++ J = M6 at *
  have hv : pairB true (.tup [.int key, T l]) = true := by
    show (keyB (.int key) && BP.valB (T l)) = true
    rw [Bool.and_eq_true]
    constructor
    · unfold keyB
      rw [Bool.and_eq_true, decide_eq_true_eq, decide_eq_true_eq]
      exact hkr
    · refine decide_eq_true ?_
      simpa using hgl
  have hvn : isNon (T l) = false := rfl
  by_cases cd : there = true ∧ cell ns 7 % 2 = 0
  · obtain ⟨rfl, c7⟩ := cd
    obtain ⟨r, M7, C, F, tou, ed, dn, _⟩ := BP.p_drop_from (M := M6) (key := key) hh6 tree hw3 (by omega)
    have ed' : g_drop_from [.ref hh, .int w, .int key] M6 = some (.ok (.ref r) M7) := ed
    have e13 : b_law_13 [some (.scr ns), some (.int w), some (.int size), some (.int first), some (.ref 0), some (.ref b), some (.ref hh), some (.int key), some (.bl true), some (T l), none, none, none] M6 = some (.nx [some (.scr ns), some (.int w), some (.int size), some (.int first), some (.ref 0), some (.ref b), some (.ref hh), some (.int key), some (.bl true), some .non, some (.ref r), none, none], M7) := by
      generalize T l = tl at *
      simp [b_law_13, p_cell0, c7, ed']
    rw [seq_step e13]
    obtain ⟨M8, e⟩ := l_end ns (M := M7) (w := w) (key := key) (size := size) (first := first) (rp := 0) (b := b) (hh := hh) (there := .bl true) (value := .non) hw3 (dn.kp.get hb6) (dn.kp.get hh6) (dn.kp.get hr6) tree dn (by omega) (by omega) rfl
    exact ⟨M8, by rw [e]; rfl⟩
  · obtain ⟨r, M7, C, F, tou, ed, dn⟩ := BP.p_put_in (M := M6) (key := key) (v := T l) hh6 tree hw3 (by omega) hv
    have ed' : g_put_in [.ref hh, .int w, .int key, T l] M6 = some (.ok (.ref r) M7) := ed
    have e13 : b_law_13 [some (.scr ns), some (.int w), some (.int size), some (.int first), some (.ref 0), some (.ref b), some (.ref hh), some (.int key), some (.bl there), some (T l), none, none, none] M6 = some (.nx [some (.scr ns), some (.int w), some (.int size), some (.int first), some (.ref 0), some (.ref b), some (.ref hh), some (.int key), some (.bl there), some (T l), some (.ref r), none, none], M7) := by
      generalize T l = tl at *
      cases there with
      | false => simp [b_law_13, ed']
      | true =>
        have c7 : ¬ cell ns 7 % 2 = 0 := fun z => cd ⟨rfl, z⟩
        simp [b_law_13, p_cell0, c7, ed']
    rw [seq_step e13]
    obtain ⟨M8, e⟩ := l_end ns (M := M7) (w := w) (key := key) (size := size) (first := first) (rp := 0) (b := b) (hh := hh) (there := .bl there) (value := T l) hw3 (dn.kp.get hb6) (dn.kp.get hh6) (dn.kp.get hr6) tree dn (by omega) (by omega) (by rw [hvn]; rfl)
    exact ⟨M8, by rw [e]; rfl⟩
theorem holds : PySem.Challenge.rw_btreelog_k08_a_key_comes_or_goes.Holds := holds_of law
end BK08
theorem PySem.Challenge.cw_btreelog_k08_a_key_comes_or_goes_holds : PySem.Challenge.rw_btreelog_k08_a_key_comes_or_goes.Holds := by
  exact BK08.holds
