import PyProof.Rows.All
import Wide.All
import OpenK.AllK
import Wide.FinOn
import HandS.ForMost
import HandS.ForExc
import HandS.CallSlots
import HandS.Rev
import KE.GoesMore
import HandS.IsInst
import HandS.Style
import HandS.TupAny
import HandS.SortInts
import HandS.More
import HandS.WideBits
import PyProof.StrBlock2
import KE.KEqDict
import HandS.Dict
import HandS.Defaults
import KE.KStateDown
import Lean
import HandS.Head0
import HandS.Head1
import HandS.Head2
import HandS.HeadEnd
import HandS.HeadHook1
import HandS.HeadHook2
import HandS.EndBits
import HandS.Text
import HandS.DictEq
import HandS.Finally
import HandS.Zip
import HandS.Strs
import PyProof.ListCopy
import KE.KRevSl
import HandS.Codes
import PySem.Challenge.RW_btreelog_k07_sound
set_option Elab.async false
set_option autoImplicit false
set_option linter.all false
set_option maxRecDepth 100000
set_option maxHeartbeats 0
/-! BLSem: a small machine of values: data by value, lists, dicts and instances by number. -/
namespace BL
open PySem

inductive D where
  | non | bl (b : Bool) | int (i : Int) | str (s : Str) | tup (xs : List D) | scr (ns : List Int) | ref (n : Nat)

inductive Ob where
  | lst (xs : List D) | dct (kvs : List (Int × D)) | ins (fs : List (Str × D))

abbrev Mem := List Ob
abbrev Loc := List (Option D)

/-- how an expression ends -/
inductive Rz (α : Type) where
  | ok (a : α) (M : Mem) | ex (c : Str) (M : Mem)

def bnd {α β : Type} (r : Option (Rz α)) (f : α → Mem → Option (Rz β)) : Option (Rz β) := match r with
  | some (.ok a M) => f a M
  | some (.ex c M) => some (.ex c M)
  | none => none
@[simp] theorem bnd_ok {α β : Type} (a : α) (M : Mem) (f : α → Mem → Option (Rz β)) : bnd (some (.ok a M)) f = f a M := (rfl)
@[simp] theorem bnd_ex {α β : Type} (c : Str) (M : Mem) (f : α → Mem → Option (Rz β)) : bnd (some (.ex c M)) f = some (.ex c M) := (rfl)
@[simp] theorem bnd_none {α β : Type} (f : α → Mem → Option (Rz β)) : bnd none f = none := (rfl)
theorem bnd_some {α β : Type} {r : Option (Rz α)} {f : α → Mem → Option (Rz β)} {z : Rz β} (h : bnd r f = some z) :
    (∃ a M, r = some (.ok a M) ∧ f a M = some z) ∨ ∃ c M, r = some (.ex c M) ∧ z = .ex c M := by
  cases r with
  | none => cases h
  | some r =>
    cases r with
    | ok a M => exact .inl ⟨a, M, rfl, h⟩
    | ex c M => exact .inr ⟨c, M, rfl, (Option.some.inj h).symm⟩

/-- a step that raises nothing -/
def ret {α : Type} (r : Option (α × Mem)) : Option (Rz α) := match r with
  | some (a, M) => some (.ok a M)
  | none => none
@[simp] theorem ret_some {α : Type} (a : α) (M : Mem) : ret (some (a, M)) = some (.ok a M) := (rfl)
@[simp] theorem ret_none {α : Type} : ret (none : Option (α × Mem)) = none := (rfl)
theorem ret_eq {α : Type} {r : Option (α × Mem)} {z : Rz α} (h : ret r = some z) : ∃ a M, r = some (a, M) ∧ z = .ok a M := by
  cases r with
  | none => cases h
  | some p => exact ⟨p.1, p.2, rfl, (Option.some.inj h).symm⟩

abbrev GE := Loc → Mem → Option (Rz D)
abbrev GT := Loc → Mem → Option (Rz Bool)
abbrev GA := Loc → Mem → Option (Rz (List D))
inductive Fl where
  | nx (L : Loc) | bk (L : Loc) | ct (L : Loc) | rt (d : D) | ex (c : Str) (L : Loc)
abbrev GS := Loc → Mem → Option (Fl × Mem)
abbrev Fn := List D → Mem → Option (Rz D)

/-! ### expressions -/
def mVar (i : Nat) : GE := fun L M => match L[i]? with
  | some (some d) => some (.ok d M)
  | _ => none
def mC (d : D) : GE := fun _ M => some (.ok d M)
abbrev Op2 := D → D → Mem → Option (D × Mem)
abbrev Op1 := D → Mem → Option (D × Mem)
abbrev OpN := List D → Mem → Option (D × Mem)
abbrev OpM := D → List D → Mem → Option (D × Mem)
def mBin (op : Op2) (a b : GE) : GE := fun L M => bnd (a L M) fun x M1 => bnd (b L M1) fun y M2 => ret (op x y M2)
def mUn (op : Op1) (a : GE) : GE := fun L M => bnd (a L M) fun x M1 => ret (op x M1)
def mChain (op op2 : Op2) (a b c : GE) : GE := fun L M => bnd (a L M) fun x M1 => bnd (b L M1) fun y M2 => bnd (ret (op x y M2)) fun z M3 => match z with
  | .bl true => bnd (c L M3) fun w M4 => ret (op2 y w M4)
  | .bl false => some (.ok (.bl false) M3)
  | _ => none
def mNil : GA := fun _ M => some (.ok [] M)
def mCons (a : GE) (r : GA) : GA := fun L M => bnd (a L M) fun x M1 => bnd (r L M1) fun xs M2 => some (.ok (x :: xs) M2)
/-- a built-in called -/
def mCB (op : OpN) (as : GA) : GE := fun L M => bnd (as L M) fun xs M1 => ret (op xs M1)
/-- a def called -/
def mCall (f : Fn) (as : GA) : GE := fun L M => bnd (as L M) fun xs M1 => f xs M1
/-- a method of a built-in type -/
def mMt (op : OpM) (o : GE) (as : GA) : GE := fun L M => bnd (o L M) fun x M1 => bnd (as L M1) fun xs M2 => ret (op x xs M2)
/-- an own method -/
def mMeth (f : Fn) (o : GE) (as : GA) : GE := fun L M => bnd (o L M) fun x M1 => bnd (as L M1) fun xs M2 => f (x :: xs) M2
/-- a display's length -/
def oTup : OpN := fun xs M => if xs.length ≤ 1000 then some (.tup xs, M) else none
def oLst : OpN := fun xs M => if xs.length ≤ 1000 then some (.ref M.length, M ++ [.lst xs]) else none
def mTup (as : GA) : GE := mCB oTup as
def mLst (as : GA) : GE := mCB oLst as
def mDnew : GE := fun _ M => some (.ok (.ref M.length) (M ++ [.dct []]))

/-! ### tests -/
def mT (a : GE) : GT := fun L M => bnd (a L M) fun x M1 => match x with
  | .bl b => some (.ok b M1)
  | _ => none
def mAnd (a b : GT) : GT := fun L M => bnd (a L M) fun x M1 => if x = true then b L M1 else some (.ok false M1)
def mOr (a b : GT) : GT := fun L M => bnd (a L M) fun x M1 => if x = true then some (.ok true M1) else b L M1
def mNot (a : GT) : GT := fun L M => bnd (a L M) fun x M1 => some (.ok (!x) M1)
def mAndV (a b : GE) : GE := fun L M => bnd (a L M) fun x M1 => match x with
  | .bl true => b L M1
  | .bl false => some (.ok (.bl false) M1)
  | _ => none
def mOrV (a b : GE) : GE := fun L M => bnd (a L M) fun x M1 => match x with
  | .bl false => b L M1
  | .bl true => some (.ok (.bl true) M1)
  | _ => none
def mNotV (a : GE) : GE := fun L M => bnd (a L M) fun x M1 => match x with
  | .bl b => some (.ok (.bl (!b)) M1)
  | _ => none
def mIf (t : GT) (a b : GE) : GE := fun L M => bnd (t L M) fun c M1 => if c = true then a L M1 else b L M1

/-! ### statements -/
def bndS {α : Type} (L : Loc) (r : Option (Rz α)) (f : α → Mem → Option (Fl × Mem)) : Option (Fl × Mem) := match r with
  | some (.ok a M) => f a M
  | some (.ex c M) => some (.ex c L, M)
  | none => none
@[simp] theorem bndS_ok {α : Type} (L : Loc) (a : α) (M : Mem) (f : α → Mem → Option (Fl × Mem)) : bndS L (some (.ok a M)) f = f a M := (rfl)
@[simp] theorem bndS_ex {α : Type} (L : Loc) (c : Str) (M : Mem) (f : α → Mem → Option (Fl × Mem)) : bndS L (some (.ex c M)) f = some (.ex c L, M) := (rfl)
@[simp] theorem bndS_none {α : Type} (L : Loc) (f : α → Mem → Option (Fl × Mem)) : bndS L none f = none := (rfl)
theorem bndS_some {α : Type} {L : Loc} {r : Option (Rz α)} {f : α → Mem → Option (Fl × Mem)} {z : Fl × Mem} (h : bndS L r f = some z) :
    (∃ a M, r = some (.ok a M) ∧ f a M = some z) ∨ ∃ c M, r = some (.ex c M) ∧ z = (.ex c L, M) := by
  cases r with
  | none => cases h
  | some r =>
    cases r with
    | ok a M => exact .inl ⟨a, M, rfl, h⟩
    | ex c M => exact .inr ⟨c, M, rfl, (Option.some.inj h).symm⟩
def thenS (r : Option (Fl × Mem)) (f : Loc → Mem → Option (Fl × Mem)) : Option (Fl × Mem) := match r with
  | some (.nx L, M) => f L M
  | r => r
@[simp] theorem thenS_nx (L : Loc) (M : Mem) (f : Loc → Mem → Option (Fl × Mem)) : thenS (some (.nx L, M)) f = f L M := (rfl)
@[simp] theorem thenS_rt (d : D) (M : Mem) (f : Loc → Mem → Option (Fl × Mem)) : thenS (some (.rt d, M)) f = some (.rt d, M) := (rfl)
@[simp] theorem thenS_ex (c : Str) (L : Loc) (M : Mem) (f : Loc → Mem → Option (Fl × Mem)) : thenS (some (.ex c L, M)) f = some (.ex c L, M) := (rfl)
@[simp] theorem thenS_bk (L : Loc) (M : Mem) (f : Loc → Mem → Option (Fl × Mem)) : thenS (some (.bk L, M)) f = some (.bk L, M) := (rfl)
@[simp] theorem thenS_ct (L : Loc) (M : Mem) (f : Loc → Mem → Option (Fl × Mem)) : thenS (some (.ct L, M)) f = some (.ct L, M) := (rfl)
@[simp] theorem thenS_none (f : Loc → Mem → Option (Fl × Mem)) : thenS none f = none := (rfl)
def mSkip : GS := fun L M => some (.nx L, M)
def mSeq (a b : GS) : GS := fun L M => thenS (a L M) b
/-- a target's store -/
abbrev GG := D → Loc → Option Loc
def mName (i : Nat) : GG := fun d L => some (L.set i (some d))
def mName2 (i j : Nat) : GG := fun d L => match d with
  | .tup [x, y] => some ((L.set i (some x)).set j (some y))
  | _ => none
def mSet (i : Nat) (e : GE) : GS := fun L M => bndS L (e L M) fun d M1 => some (.nx (L.set i (some d)), M1)
def mRet (e : GE) : GS := fun L M => bndS L (e L M) fun d M1 => some (.rt d, M1)
def mRetN : GS := fun _ M => some (.rt .non, M)
def mExpr (e : GE) : GS := fun L M => bndS L (e L M) fun _ M1 => some (.nx L, M1)
def mIte (t : GT) (a b : GS) : GS := fun L M => bndS L (t L M) fun c M1 => if c = true then a L M1 else b L M1
/-- o[i] = e: e first, then o, then i -/
def mPut (op : D → D → D → Mem → Option Mem) (o i e : GE) : GS := fun L M => bndS L (e L M) fun v M1 => bndS L (o L M1) fun x M2 => bndS L (i L M2) fun k M3 =>
  match op x k v M3 with
  | some M4 => some (.nx L, M4)
  | none => none
/-- o.f = e -/
def mFldPut (op : D → D → Mem → Option Mem) (o e : GE) : GS := fun L M => bndS L (e L M) fun v M1 => bndS L (o L M1) fun x M2 =>
  match op x v M2 with
  | some M3 => some (.nx L, M3)
  | none => none
def mRaise (c : Str) : GS := fun L M => some (.ex c L, M)

/-! ### loops -/
/-- what is walked: its items; of a list in the memory: where it stands (it may not change meanwhile) -/
structure Src where
  items : List D
  guard : Option (Nat × List D) := none
def Src.ok (s : Src) (M : Mem) : Prop := match s.guard with
  | none => True
  | some (n, xs) => M[n]? = some (.lst xs)
abbrev GI := Loc → Mem → Option (Rz Src)
open Classical in
noncomputable def forG (ok : Mem → Prop) (g : GG) (body : GS) : List D → GS
  | [], L, M => if ok M then some (.nx L, M) else none
  | d :: ds, L, M => if ok M then (match g d L with
    | none => none
    | some L1 => match body L1 M with
      | some (.nx L2, M2) => forG ok g body ds L2 M2
      | some (.ct L2, M2) => forG ok g body ds L2 M2
      | some (.bk L2, M2) => some (.nx L2, M2)
      | r => r) else none
noncomputable def mFor (it : GI) (g : GG) (body : GS) : GS := fun L M => bndS L (it L M) fun s M1 => forG s.ok g body s.items L M1
def whileF (t : GT) (body : GS) : Nat → GS
  | 0, _, _ => none
  | n + 1, L, M => bndS L (t L M) fun c M1 => if c = true then (match body L M1 with
      | some (.nx L2, M2) => whileF t body n L2 M2
      | some (.ct L2, M2) => whileF t body n L2 M2
      | some (.bk L2, M2) => some (.nx L2, M2)
      | r => r) else some (.nx L, M1)
open Classical in
noncomputable def mWhile (t : GT) (body : GS) : GS := fun L M => if h : ∃ n, (whileF t body n L M).isSome = true then whileF t body (Classical.choose h) L M else none
/- the items that a comprehension makes: nothing may be raised in it -/
def okO {α : Type} (r : Option (Rz α)) : Option (α × Mem) := match r with
  | some (.ok a M) => some (a, M)
  | _ => none
@[simp] theorem okO_ok {α : Type} (a : α) (M : Mem) : okO (some (.ok a M)) = some (a, M) := (rfl)
@[simp] theorem okO_ex {α : Type} (c : Str) (M : Mem) : okO (some (.ex c M) : Option (Rz α)) = none := (rfl)
@[simp] theorem okO_none {α : Type} : okO (none : Option (Rz α)) = none := (rfl)
theorem okO_some {α : Type} {r : Option (Rz α)} {p : α × Mem} (h : okO r = some p) : r = some (.ok p.1 p.2) := by
  cases r with
  | none => cases h
  | some r =>
    cases r with
    | ok a M =>
      have e := Option.some.inj h
      subst e
      rfl
    | ex c M => cases h
def wipeL (L : Loc) : List Nat → Loc
  | [] => L
  | v :: vs => (wipeL L vs).set v none
open Classical in
noncomputable def lcG (ok : Mem → Prop) (g : GG) (tt : GT) (e : GE) (L : Loc) : List D → Mem → Option (List D × Mem)
  | [], M => if ok M then some ([], M) else none
  | d :: ds, M => if ok M then (g d L).bind fun L1 => (okO (tt L1 M)).bind fun p => if p.1 = true then
      (okO (e L1 p.2)).bind fun q => (lcG ok g tt e L ds q.2).bind fun z => some (q.1 :: z.1, z.2)
    else lcG ok g tt e L ds p.2
    else none
def oLstBig : OpN := fun xs M => if xs.length < 16000000 then some (.ref M.length, M ++ [.lst xs]) else none
noncomputable def mLc (it : GI) (g : GG) (tt : GT) (e : GE) (vs : List Nat) : GE := fun L M => bnd (it L M) fun s M1 => ret ((lcG s.ok g tt e (wipeL L vs) s.items M1).bind fun p => oLstBig p.1 p.2)
def mYes : GT := fun _ M => some (.ok true M)

/-! ### defs -/
def Fl.end : Fl → Mem → Option (Rz D)
  | .nx _, M => some (.ok .non M)
  | .rt d, M => some (.ok d M)
  | .ex c _, M => some (.ex c M)
  | _, _ => none
@[simp] theorem Fl.end_nx (L : Loc) (M : Mem) : Fl.end (.nx L) M = some (.ok .non M) := (rfl)
@[simp] theorem Fl.end_rt (d : D) (M : Mem) : Fl.end (.rt d) M = some (.ok d M) := (rfl)
@[simp] theorem Fl.end_ex (c : Str) (L : Loc) (M : Mem) : Fl.end (.ex c L) M = some (.ex c M) := (rfl)
def endS (r : Option (Fl × Mem)) : Option (Rz D) := match r with
  | some (f, M) => f.end M
  | none => none
@[simp] theorem endS_some (f : Fl) (M : Mem) : endS (some (f, M)) = f.end M := (rfl)
/-- a def of k parameters and n names -/
def mDef (k n : Nat) (body : GS) : Fn := fun ds M => if ds.length = k then endS (body (ds.map some ++ List.replicate (n - k) none) M) else none
end BL
/-! BLRel: what of the heap a memory tells; the rules of the machine over the layer's. -/
namespace BL
open PySem L2

/-- a tuple that stands for ever -/
def TupAt (K : PySem.W.Frag) (H : Hp) (a : Addr) (xs : List V) : Prop :=
  H a = some (.tup xs) ∨
    ∃ (o : Obj) (its : Array Value) (n : Nat), K.lookup a = some o ∧ o.cls = .type "tuple" ∧ o.data = .seq its n ∧ its.size ≤ sizeLine ∧ Vals xs its.toList
/-- the script -/
def ScrAt (K : PySem.W.Frag) (H : Hp) (a : Addr) (ns : List Int) : Prop :=
  (∃ o, H a = some (.frz o (.lst (ns.map V.int)))) ∨
    ∃ (o : Obj) (its : Array Value) (n : Nat), K.lookup a = some o ∧ o.cls = .type "list" ∧ o.dict = none ∧ o.data = .seq its n ∧ its.size ≤ sizeLine ∧ Vals (ns.map V.int) its.toList
theorem TupAt.seq {K : PySem.W.Frag} {H : Hp} {a : Addr} {xs : List V} (h : TupAt K H a xs) : SqT K H a xs := by
  rcases h with h | h
  · exact .inl (.inl h)
  · exact .inr h
theorem ScrAt.seq {K : PySem.W.Frag} {H : Hp} {a : Addr} {ns : List Int} (h : ScrAt K H a ns) : SqL K H a (ns.map V.int) := by
  rcases h with ⟨o, h⟩ | h
  · exact .inl (.inr ⟨o, h⟩)
  · exact .inr h

mutual
/-- the value v is the datum d -/
def DV (K : PySem.W.Frag) (i : List Addr) (H : Hp) : D → V → Prop
  | .non, v => v = .non
  | .bl b, v => v = .bl b
  | .int k, v => v = .int k
  | .str s, v => v = .str s
  | .tup ds, v => ∃ a vs, v = .ref a ∧ TupAt K H a vs ∧ DLs K i H ds vs
  | .scr ns, v => ∃ a, v = .ref a ∧ ScrAt K H a ns
  | .ref n, v => ∃ a, i[n]? = some a ∧ v = .ref a
def DLs (K : PySem.W.Frag) (i : List Addr) (H : Hp) : List D → List V → Prop
  | [], vs => vs = []
  | d :: ds, vs => ∃ v r, vs = v :: r ∧ DV K i H d v ∧ DLs K i H ds r
end
/-- a dict's entries -/
def DKs (K : PySem.W.Frag) (i : List Addr) (H : Hp) : List (Int × D) → List (Key × V) → Prop
  | [], vs => vs = []
  | (k, d) :: ds, vs => ∃ v r, vs = (.inl k, v) :: r ∧ DV K i H d v ∧ DKs K i H ds r
/-- an instance's fields -/
def DFs (K : PySem.W.Frag) (i : List Addr) (H : Hp) : List (Str × D) → List (Str × V) → Prop
  | [], vs => vs = []
  | (k, d) :: ds, vs => ∃ v r, vs = (k, v) :: r ∧ DV K i H d v ∧ DFs K i H ds r
def ObR (K : PySem.W.Frag) (C : Addr) (i : List Addr) (H : Hp) (a : Addr) : Ob → Prop
  | .lst ds => ∃ vs, H a = some (.lst vs) ∧ DLs K i H ds vs
  | .dct kvs => ∃ vs, H a = some (.dK vs) ∧ DKs K i H kvs vs
  | .ins fs => ∃ dx vs, H a = some (.ins C dx vs) ∧ DFs K i H fs vs
structure MemR (K : PySem.W.Frag) (C : Addr) (i : List Addr) (M : Mem) (H : Hp) : Prop where
  len : i.length = M.length
  nd : i.Nodup
  ob : ∀ (n : Nat) o a, M[n]? = some o → i[n]? = some a → ObR K C i H a o
/-- the locals -/
structure LocR (K : PySem.W.Frag) (i : List Addr) (H : Hp) (L : Loc) (σ : L2.St) : Prop where
  len : L.length = σ.length
  at_ : ∀ (n : Nat) d, L[n]? = some (some d) → ∃ v, σ[n]? = some (some v) ∧ DV K i H d v
/-- how the heap may go on -/
structure Gro (i : List Addr) (H : Hp) (i' : List Addr) (H' : Hp) : Prop where
  pre : ∃ l, i' = i ++ l
  new : ∀ a ∈ i', a ∈ i ∨ H a = none
  fr : ∀ a o, H a = some o → a ∉ i → H' a = some o
  tups : ∀ a xs, H a = some (.tup xs) → H' a = some (.tup xs)
  frzs : ∀ a o u, H a = some (.frz o u) → H' a = some (.frz o u)

/-- what the data lean on -/
structure Mon (i : List Addr) (H : Hp) (i' : List Addr) (H' : Hp) : Prop where
  pre : ∃ l, i' = i ++ l
  tups : ∀ a xs, H a = some (.tup xs) → H' a = some (.tup xs)
  frzs : ∀ a o u, H a = some (.frz o u) → H' a = some (.frz o u)
theorem Gro.mon {i i' : List Addr} {H H' : Hp} (e : Gro i H i' H') : Mon i H i' H' := ⟨e.pre, e.tups, e.frzs⟩
section
variable {K : PySem.W.Frag} {C : Addr} {i i' i'' : List Addr} {H H' H'' : Hp} {M M' : Mem}
theorem Gro.refl : Gro i H i H := ⟨⟨[], by simp⟩, fun a h => .inl h, fun _ _ h _ => h, fun _ _ h => h, fun _ _ _ h => h⟩
theorem Gro.trans (a : Gro i H i' H') (b : Gro i' H' i'' H'') : Gro i H i'' H'' := by
  obtain ⟨l, e⟩ := a.pre
  obtain ⟨l2, e2⟩ := b.pre
  refine ⟨⟨l ++ l2, by rw [e2, e, List.append_assoc]⟩, fun x hx => ?_, fun x o h hn => ?_, fun x xs h => b.tups x xs (a.tups x xs h), fun x o u h => b.frzs x o u (a.frzs x o u h)⟩
  · rcases b.new x hx with h | h
    · exact a.new x h
    · by_cases hi : x ∈ i
      · exact .inl hi
      · refine .inr ?_
        cases q : H x with
        | none => rfl
        | some o =>
          rw [a.fr x o q hi] at h
          cases h
  · refine b.fr x o (a.fr x o h hn) fun hx => ?_
    rcases a.new x hx with z | z
    · exact hn z
    · rw [z] at h
      cases h
theorem TupAt.mono {a : Addr} {xs : List V} (e : Mon i H i' H') (h : TupAt K H a xs) : TupAt K H' a xs := by
  rcases h with h | h
  · exact .inl (e.tups _ _ h)
  · exact .inr h
theorem ScrAt.mono {a : Addr} {xs : List Int} (e : Mon i H i' H') (h : ScrAt K H a xs) : ScrAt K H' a xs := by
  rcases h with ⟨o, h⟩ | h
  · exact .inl ⟨o, e.frzs _ _ _ h⟩
  · exact .inr h
theorem Mon.ix (e : Mon i H i' H') {n : Nat} {a : Addr} (h : i[n]? = some a) : i'[n]? = some a := by
  obtain ⟨l, el⟩ := e.pre
  rw [el, List.getElem?_append_left (List.getElem?_eq_some_iff.mp h).1]
  exact h
mutual
theorem dv_mono (e : Mon i H i' H') : ∀ (d : D) (v : V), DV K i H d v → DV K i' H' d v
  | .non, v, h => by simpa only [DV] using h
  | .bl _, v, h => by simpa only [DV] using h
  | .int _, v, h => by simpa only [DV] using h
  | .str _, v, h => by simpa only [DV] using h
  | .tup ds, v, h => by
    simp only [DV] at h ⊢
    obtain ⟨a, vs, h1, h2, h3⟩ := h
    exact ⟨a, vs, h1, h2.mono e, dl_mono e ds vs h3⟩
  | .scr _, v, h => by
    simp only [DV] at h ⊢
    obtain ⟨a, h1, h2⟩ := h
    exact ⟨a, h1, h2.mono e⟩
  | .ref _, v, h => by
    simp only [DV] at h ⊢
    obtain ⟨a, h1, h2⟩ := h
    exact ⟨a, e.ix h1, h2⟩
theorem dl_mono (e : Mon i H i' H') : ∀ (ds : List D) (vs : List V), DLs K i H ds vs → DLs K i' H' ds vs
  | [], vs, h => by simpa only [DLs] using h
  | d :: ds, vs, h => by
    simp only [DLs] at h ⊢
    obtain ⟨v, r, h1, h2, h3⟩ := h
    exact ⟨v, r, h1, dv_mono e d v h2, dl_mono e ds r h3⟩
end
theorem DV.mono {d : D} {v : V} (h : DV K i H d v) (e : Gro i H i' H') : DV K i' H' d v := dv_mono e.mon d v h
theorem DLs.mono {d : List D} {v : List V} (h : DLs K i H d v) (e : Gro i H i' H') : DLs K i' H' d v := dl_mono e.mon d v h
theorem dk_mono (e : Mon i H i' H') : ∀ {ds : List (Int × D)} {vs : List (Key × V)}, DKs K i H ds vs → DKs K i' H' ds vs
  | [], vs, h => by simpa only [DKs] using h
  | (k, d) :: ds, vs, h => by
    simp only [DKs] at h ⊢
    obtain ⟨v, r, h1, h2, h3⟩ := h
    exact ⟨v, r, h1, dv_mono e d v h2, dk_mono e h3⟩
theorem df_mono (e : Mon i H i' H') : ∀ {ds : List (Str × D)} {vs : List (Str × V)}, DFs K i H ds vs → DFs K i' H' ds vs
  | [], vs, h => by simpa only [DFs] using h
  | (k, d) :: ds, vs, h => by
    simp only [DFs] at h ⊢
    obtain ⟨v, r, h1, h2, h3⟩ := h
    exact ⟨v, r, h1, dv_mono e d v h2, df_mono e h3⟩
theorem DKs.mono {d : List (Int × D)} {v : List (Key × V)} (h : DKs K i H d v) (e : Gro i H i' H') : DKs K i' H' d v := dk_mono e.mon h
theorem DFs.mono {d : List (Str × D)} {v : List (Str × V)} (h : DFs K i H d v) (e : Gro i H i' H') : DFs K i' H' d v := df_mono e.mon h
theorem loc_mono {L : Loc} {σ : L2.St} (e : Mon i H i' H') (h : LocR K i H L σ) : LocR K i' H' L σ := ⟨h.len, fun n d hn => by
  obtain ⟨v, h1, h2⟩ := h.at_ n d hn
  exact ⟨v, h1, dv_mono e d v h2⟩⟩
theorem LocR.mono {L : Loc} {σ : L2.St} (e : Gro i H i' H') (h : LocR K i H L σ) : LocR K i' H' L σ := loc_mono e.mon h
theorem LocR.set {L : Loc} {σ : L2.St} (h : LocR K i H L σ) (n : Nat) {d : D} {v : V} (r : DV K i H d v) : LocR K i H (L.set n (some d)) (σ.set n (some v)) := by
  refine ⟨by simp [h.len], fun m d' hm => ?_⟩
  by_cases e : n = m
  · subst e
    have hl : n < L.length := by
      have := (List.getElem?_eq_some_iff.mp hm).1
      simpa using this
    rw [List.getElem?_set_self hl] at hm
    have e1 : d = d' := Option.some.inj (Option.some.inj hm)
    subst e1
    exact ⟨v, by rw [List.getElem?_set_self (by rw [← h.len]; exact hl)], r⟩
  · rw [List.getElem?_set_ne e] at hm
    obtain ⟨v', h1, h2⟩ := h.at_ m d' hm
    exact ⟨v', by rw [List.getElem?_set_ne e]; exact h1, h2⟩
theorem LocR.forget {L : Loc} {σ : L2.St} (h : LocR K i H L σ) (n : Nat) : LocR K i H (L.set n none) (σ.set n none) := by
  refine ⟨by simp [h.len], fun m d' hm => ?_⟩
  by_cases e : n = m
  · subst e
    have hl : n < L.length := by
      have := (List.getElem?_eq_some_iff.mp hm).1
      simpa using this
    rw [List.getElem?_set_self hl] at hm
    cases hm
  · rw [List.getElem?_set_ne e] at hm
    obtain ⟨v', h1, h2⟩ := h.at_ m d' hm
    exact ⟨v', by rw [List.getElem?_set_ne e]; exact h1, h2⟩
/-- the objects stay where nothing of them changes -/
theorem ob_mono (e : Mon i H i' H') {a : Addr} {o : Ob} (k : ∀ u, H a = some u → H' a = some u) (h : ObR K C i H a o) : ObR K C i' H' a o := by
  cases o with
  | lst ds =>
    obtain ⟨vs, h1, h2⟩ := h
    exact ⟨vs, k _ h1, dl_mono e ds vs h2⟩
  | dct kvs =>
    obtain ⟨vs, h1, h2⟩ := h
    exact ⟨vs, k _ h1, dk_mono e h2⟩
  | ins fs =>
    obtain ⟨dx, vs, h1, h2⟩ := h
    exact ⟨dx, vs, k _ h1, df_mono e h2⟩
theorem ObR.mono (e : Gro i H i' H') {a : Addr} {o : Ob} (k : ∀ u, H a = some u → H' a = some u) (h : ObR K C i H a o) : ObR K C i' H' a o := ob_mono e.mon k h
theorem MemR.there (h : MemR K C i M H) {a : Addr} (ha : a ∈ i) : ∃ (n : Nat) (o : Ob), M[n]? = some o ∧ i[n]? = some a ∧ ObR K C i H a o := by
  obtain ⟨n, hn, e⟩ := List.getElem_of_mem ha
  have h1 : i[n]? = some a := by rw [List.getElem?_eq_getElem hn, e]
  have h2 : n < M.length := by rw [← h.len]; exact hn
  exact ⟨n, M[n], List.getElem?_eq_getElem h2, h1, h.ob n _ a (List.getElem?_eq_getElem h2) h1⟩
def MutO : HO → Prop
  | .lst _ => True
  | .dK _ => True
  | .ins _ _ _ => True
  | _ => False
theorem ObR.mut {a : Addr} {o : Ob} (h : ObR K C i H a o) : ∃ u, H a = some u ∧ MutO u := by
  cases o with
  | lst ds =>
    obtain ⟨vs, h1, h2⟩ := h
    exact ⟨_, h1, trivial⟩
  | dct kvs =>
    obtain ⟨vs, h1, h2⟩ := h
    exact ⟨_, h1, trivial⟩
  | ins fs =>
    obtain ⟨dx, vs, h1, h2⟩ := h
    exact ⟨_, h1, trivial⟩
theorem MemR.not_tup (h : MemR K C i M H) {a : Addr} {xs : List V} (e : H a = some (.tup xs)) : a ∉ i := fun ha => by
  obtain ⟨n, o, _, _, q⟩ := h.there ha
  obtain ⟨u, h1, h2⟩ := q.mut
  rw [e] at h1
  cases h1
  exact h2
theorem MemR.not_frz (h : MemR K C i M H) {a : Addr} {ob : Obj} {u : HO} (e : H a = some (.frz ob u)) : a ∉ i := fun ha => by
  obtain ⟨n, o, _, _, q⟩ := h.there ha
  obtain ⟨u, h1, h2⟩ := q.mut
  rw [e] at h1
  cases h1
  exact h2
/-- something new that is not told in the memory -/
theorem ext_new {p : Addr} {o : HO} (h : H p = none) : Gro i H i (upd H p o) :=
  ⟨⟨[], by simp⟩, fun _ h => .inl h, fun a u e _ => by rw [upd_ne (ne_of_none e h)]; exact e, fun a u e => by rw [upd_ne (ne_of_none e h)]; exact e, fun a o u e => by rw [upd_ne (ne_of_none e h)]; exact e⟩
theorem MemR.ne (h : MemR K C i M H) {p : Addr} (hp : H p = none) : p ∉ i := fun ha => by
  obtain ⟨n, o, _, _, q⟩ := h.there ha
  obtain ⟨u, h1, h2⟩ := q.mut
  rw [hp] at h1
  cases h1
theorem MemR.keep (h : MemR K C i M H) (e : Gro i H i H') (k : ∀ a u, a ∈ i → H a = some u → H' a = some u) : MemR K C i M H' :=
  ⟨h.len, h.nd, fun n o a h1 h2 => (h.ob n o a h1 h2).mono e fun u => k a u (List.mem_of_getElem? h2)⟩
theorem MemR.new (h : MemR K C i M H) {p : Addr} {o : HO} (hp : H p = none) : MemR K C i M (upd H p o) :=
  h.keep (ext_new hp) fun a u _ e => by rw [upd_ne (ne_of_none e hp)]; exact e
/-- a new object, told -/
theorem ext_laid {p : Addr} {o : HO} (h : H p = none) : Gro i H (i ++ [p]) (upd H p o) :=
  ⟨⟨[p], rfl⟩, fun a ha => by
    rcases List.mem_append.mp ha with z | z
    · exact .inl z
    · have : a = p := by simpa using z
      subst this
      exact .inr h, fun a u e _ => by rw [upd_ne (ne_of_none e h)]; exact e, fun a u e => by rw [upd_ne (ne_of_none e h)]; exact e, fun a o u e => by rw [upd_ne (ne_of_none e h)]; exact e⟩
theorem MemR.laid (h : MemR K C i M H) {p : Addr} {o : HO} {ob : Ob} (hp : H p = none) (r : ObR K C (i ++ [p]) (upd H p o) p ob) : MemR K C (i ++ [p]) (M ++ [ob]) (upd H p o) := by
  refine ⟨by simp [h.len], ?_, fun n o' a h1 h2 => ?_⟩
  · rw [List.nodup_append]
    refine ⟨h.nd, by simp, fun a ha b hb => ?_⟩
    have : b = p := by simpa using hb
    subst this
    intro e
    subst e
    exact h.ne hp ha
  · by_cases hn : n < M.length
    · rw [List.getElem?_append_left hn] at h1
      rw [List.getElem?_append_left (by rw [h.len]; exact hn)] at h2
      exact (h.ob n o' a h1 h2).mono (ext_laid hp) fun u e => by rw [upd_ne (ne_of_none e hp)]; exact e
    · have e1 : n = M.length := by
        have := (List.getElem?_eq_some_iff.mp h1).1
        simp at this
        omega
      subst e1
      rw [List.getElem?_append_right (Nat.le_refl _), Nat.sub_self] at h1
      rw [List.getElem?_append_right (by rw [h.len]; exact Nat.le_refl _), h.len, Nat.sub_self] at h2
      have e2 : ob = o' := Option.some.inj h1
      have e3 : p = a := Option.some.inj h2
      subst e2 e3
      exact r
/-- an object written -/
theorem ext_write (h : MemR K C i M H) {n : Nat} {a : Addr} {o : HO} (ha : i[n]? = some a) : Gro i H i (upd H a o) := by
  have hm : a ∈ i := List.mem_of_getElem? ha
  refine ⟨⟨[], by simp⟩, fun _ h => .inl h, fun b u e hb => ?_, fun b xs e => ?_, fun b ob u e => ?_⟩
  · rw [upd_ne fun z => hb (by rw [z]; exact hm)]
    exact e
  · rw [upd_ne fun z => h.not_tup e (by rw [z]; exact hm)]
    exact e
  · rw [upd_ne fun z => h.not_frz e (by rw [z]; exact hm)]
    exact e
theorem MemR.write (h : MemR K C i M H) {n : Nat} {a : Addr} {o : HO} {ob : Ob} (ha : i[n]? = some a) (r : ObR K C i (upd H a o) a ob) : MemR K C i (M.set n ob) (upd H a o) := by
  refine ⟨by simp [h.len], h.nd, fun m o' b h1 h2 => ?_⟩
  by_cases e : n = m
  · subst e
    have hl : n < M.length := by rw [← h.len]; exact (List.getElem?_eq_some_iff.mp ha).1
    rw [List.getElem?_set_self hl] at h1
    have e1 : ob = o' := Option.some.inj h1
    have e2 : a = b := Option.some.inj (ha.symm.trans h2)
    subst e1 e2
    exact r
  · rw [List.getElem?_set_ne e] at h1
    have hb : b ≠ a := fun z => by
      subst z
      exact e (nd_ix h.nd ha h2)
    exact (h.ob m o' b h1 h2).mono (ext_write h ha) fun u q => by rw [upd_ne hb]; exact q
end
end BL
/-! BLRule: the machine's steps are the layer's. -/
namespace BL
open PySem L2

section
variable (K : PySem.W.Frag) (mg : Str → Option Value) (C : Addr) (W : WX)
/-- how an end is met: the value b is told by a -/
def EndG {α β : Type} (R : List Addr → Hp → α → β → Prop) (i : List Addr) (H : Hp) (σ : L2.St) (Q : β → Hp → Prop) : Rz α → Prop
  | .ok a M' => ∀ i' H' b, Gro i H i' H' → MemR K C i' M' H' → R i' H' a b → Q b H'
  | .ex c M' => ∀ i' H' cc, mg c = some (.ref cc) → Gro i H i' H' → MemR K C i' M' H' → W (.ref cc) none σ H'
def SndG {α β : Type} (R : List Addr → Hp → α → β → Prop) (t : L2.St → Hp → (β → Hp → Prop) → Prop) (g : Loc → Mem → Option (Rz α)) : Prop :=
  ∀ i L M σ H r Q, MemR K C i M H → LocR K i H L σ → g L M = some r → EndG K mg C W R i H σ Q r → t σ H Q
/-- what the value is, what the truth is -/
abbrev RB : List Addr → Hp → Bool → Bool → Prop := fun _ _ b c => c = b
def EndS (i : List Addr) (H : Hp) (D : Ends) : Fl × Mem → Prop
  | (.nx L', M') => ∀ i' H' σ', Gro i H i' H' → MemR K C i' M' H' → LocR K i' H' L' σ' → D.nx σ' H'
  | (.bk L', M') => ∀ i' H' σ', Gro i H i' H' → MemR K C i' M' H' → LocR K i' H' L' σ' → D.bk σ' H'
  | (.ct L', M') => ∀ i' H' σ', Gro i H i' H' → MemR K C i' M' H' → LocR K i' H' L' σ' → D.ct σ' H'
  | (.rt d, M') => ∀ i' H' v, Gro i H i' H' → MemR K C i' M' H' → DV K i' H' d v → D.rt v H'
  | (.ex c L', M') => ∀ i' H' σ' cc, mg c = some (.ref cc) → Gro i H i' H' → MemR K C i' M' H' → LocR K i' H' L' σ' → W (.ref cc) none σ' H'
def SndS (t : TS) (g : GS) : Prop := ∀ i L M σ H D r, MemR K C i M H → LocR K i H L σ → g L M = some r → EndS K mg C W i H D r → t D σ H
/-- what is walked -/
def JR (i0 : List Addr) (H0 : Hp) (s : Src) (J : It) : Prop := ∀ i H M (n : Nat), Gro i0 H0 i H → MemR K C i M H → s.ok M →
  (∀ d, s.items[n]? = some d → J.go n H ∧ ∀ x H', J.yld n H x H' → Gro i H i H' ∧ MemR K C i M H' ∧ DV K i H' d x) ∧ (s.items.length ≤ n → J.stop n H)
def SndT (tg : TG) (g : GG) : Prop := ∀ i L M σ H d v L1 Q, MemR K C i M H → LocR K i H L σ → DV K i H d v → g d L = some L1 →
  (∀ i' H' σ1, Gro i H i' H' → MemR K C i' M H' → LocR K i' H' L1 σ1 → Q σ1 H') → tg v σ H Q
/-- a target within a comprehension, whose own slots are vs -/
def SndC (vs : List Nat) (tg : TG) (g : GG) : Prop := ∀ i L M σ H d v L1 Q, MemR K C i M H → LocR K i H (wipeL L vs) (wipe σ vs) → DV K i H d v → g d (wipeL L vs) = some L1 →
  (∀ i' H' σ1, Gro i H i' H' → MemR K C i' M H' → LocR K i' H' L1 σ1 → wipe σ1 vs = wipe σ vs → Q σ1 H') → tg v (wipe σ vs) H Q
end
section
variable (X : Cx) (C : Addr) (W : WX)
structure SE (e : Expr) (g : GE) : Prop where
  ex : ∃ t, PE X e t ∧ SndG X.K X.mg C W (DV X.K) t g
structure ST (e : Expr) (g : GT) : Prop where
  ex : ∃ t, PT X e t ∧ SndG X.K X.mg C W RB t g
structure SW (e : Expr) (g : GT) : Prop where
  ex : ∃ t, PW X e t ∧ SndG X.K X.mg C W RB t g
structure SA (es : List Expr) (g : GA) : Prop where
  ex : ∃ t, PA X es t ∧ SndG X.K X.mg C W (DLs X.K) t g
structure SI (tg iter : Expr) (g : GI) : Prop where
  ex : ∃ t, PI X tg iter t ∧ SndG X.K X.mg C W (JR X.K C) t g
structure SS (st : Stmt) (g : GS) : Prop where
  ex : ∃ t, PS X st t ∧ SndS X.K X.mg C W t g
structure SSs (st : List Stmt) (g : GS) : Prop where
  ex : ∃ t, PSs X st t ∧ SndS X.K X.mg C W t g
structure STg (tg : Expr) (g : GG) : Prop where
  ex : ∃ t, PG X tg t ∧ SndT X.K C t g
end

section
variable {K : PySem.W.Frag} {mg : Str → Option Value} {C : Addr} {W : WX}
theorem EndG.go {α β : Type} {R : List Addr → Hp → α → β → Prop} {i i' : List Addr} {H H' : Hp} {σ : L2.St} {Q : β → Hp → Prop} {r : Rz α} (e : Gro i H i' H') (h : EndG K mg C W R i H σ Q r) : EndG K mg C W R i' H' σ Q r := by
  cases r with
  | ok a M => exact fun j G b g m r => h j G b (e.trans g) m r
  | ex c M => exact fun j G cc q g m => h j G cc q (e.trans g) m
theorem EndS.go {i i' : List Addr} {H H' : Hp} {D : Ends} {r : Fl × Mem} (e : Gro i H i' H') (h : EndS K mg C W i H D r) : EndS K mg C W i' H' D r := by
  obtain ⟨f, M⟩ := r
  cases f with
  | nx L => exact fun j G b g m r => h j G b (e.trans g) m r
  | bk L => exact fun j G b g m r => h j G b (e.trans g) m r
  | ct L => exact fun j G b g m r => h j G b (e.trans g) m r
  | rt L => exact fun j G b g m r => h j G b (e.trans g) m r
  | ex c L => exact fun j G b cc q g m r => h j G b cc q (e.trans g) m r
/-- one after another -/
theorem SndG.step {α β γ δ : Type} {R : List Addr → Hp → α → β → Prop} {R2 : List Addr → Hp → γ → δ → Prop} {t : L2.St → Hp → (β → Hp → Prop) → Prop} {g : Loc → Mem → Option (Rz α)} (h : SndG K mg C W R t g)
    {i : List Addr} {L : Loc} {M : Mem} {σ : L2.St} {H : Hp} {r : Rz γ} {Q : δ → Hp → Prop} {f : α → Mem → Option (Rz γ)} {P : β → Hp → Prop} (m : MemR K C i M H) (l : LocR K i H L σ) (e : bnd (g L M) f = some r) (q : EndG K mg C W R2 i H σ Q r)
    (k : ∀ a M1 i' H' b, Gro i H i' H' → MemR K C i' M1 H' → LocR K i' H' L σ → R i' H' a b → f a M1 = some r → EndG K mg C W R2 i' H' σ Q r → P b H') : t σ H P := by
  rcases bnd_some e with ⟨a, M1, e1, e2⟩ | ⟨c, M1, e1, rfl⟩
  · exact h i L M σ H _ _ m l e1 fun i' H' b g m' rb => k a M1 i' H' b g m' (l.mono g) rb e2 (q.go g)
  · exact h i L M σ H _ _ m l e1 q
/-- a statement behind an expression -/
theorem SndG.stepS {α β : Type} {R : List Addr → Hp → α → β → Prop} {t : L2.St → Hp → (β → Hp → Prop) → Prop} {g : Loc → Mem → Option (Rz α)} (h : SndG K mg C W R t g)
    {i : List Addr} {L : Loc} {M : Mem} {σ : L2.St} {H : Hp} {r : Fl × Mem} {D : Ends} {f : α → Mem → Option (Fl × Mem)} {P : β → Hp → Prop} (m : MemR K C i M H) (l : LocR K i H L σ) (e : bndS L (g L M) f = some r) (q : EndS K mg C W i H D r)
    (k : ∀ a M1 i' H' b, Gro i H i' H' → MemR K C i' M1 H' → LocR K i' H' L σ → R i' H' a b → f a M1 = some r → EndS K mg C W i' H' D r → P b H') : t σ H P := by
  rcases bndS_some e with ⟨a, M1, e1, e2⟩ | ⟨c, M1, e1, rfl⟩
  · exact h i L M σ H _ _ m l e1 fun i' H' b g m' rb => k a M1 i' H' b g m' (l.mono g) rb e2 (q.go g)
  · exact h i L M σ H _ _ m l e1 fun i' H' cc hc g m' => q i' H' σ cc hc g m' (l.mono g)
end

/-! ### operations by values -/
section
variable (K : PySem.W.Frag) (C : Addr)
def rO (op : Op2) : R2 := fun x y H Q => ∃ i M dx dy d M', MemR K C i M H ∧ DV K i H dx x ∧ DV K i H dy y ∧ op dx dy M = some (d, M') ∧ ∀ i' H' z, Gro i H i' H' → MemR K C i' M' H' → DV K i' H' d z → Q z H'
def rO1 (op : Op1) : V → Hp → VK → Prop := fun x H Q => ∃ i M dx d M', MemR K C i M H ∧ DV K i H dx x ∧ op dx M = some (d, M') ∧ ∀ i' H' z, Gro i H i' H' → MemR K C i' M' H' → DV K i' H' d z → Q z H'
def rON (op : OpN) : List V → Hp → VK → Prop := fun xs H Q => ∃ i M ds d M', MemR K C i M H ∧ DLs K i H ds xs ∧ op ds M = some (d, M') ∧ ∀ i' H' z, Gro i H i' H' → MemR K C i' M' H' → DV K i' H' d z → Q z H'
def rOM (op : OpM) : V → List V → Hp → VK → Prop := fun x xs H Q => ∃ i M dx ds d M', MemR K C i M H ∧ DV K i H dx x ∧ DLs K i H ds xs ∧ op dx ds M = some (d, M') ∧ ∀ i' H' z, Gro i H i' H' → MemR K C i' M' H' → DV K i' H' d z → Q z H'
end
section
variable {K : PySem.W.Frag} {mg : Str → Option Value} {C : Addr} {W : WX}
theorem snd_ret {i : List Addr} {H : Hp} {σ : L2.St} {Q : VK} {o : Option (D × Mem)} {r : Rz D} (e : ret o = some r) (q : EndG K mg C W (DV K) i H σ Q r) : ∃ d M', o = some (d, M') ∧ ∀ i' H' z, Gro i H i' H' → MemR K C i' M' H' → DV K i' H' d z → Q z H' := by
  obtain ⟨d, M', e1, rfl⟩ := ret_eq e
  exact ⟨d, M', e1, q⟩
end

section
variable {X : Cx} {C : Addr} {W : WX} {a b c : Expr} {ga gb gc : GE} {pos : Pos}
theorem se_var {n : Nat} {e : Expr} (h : PE X e (tVar n)) : SE X C W e (mVar n) := ⟨_, h, fun i L M σ H r Q m l e q => by
  unfold mVar at e
  split at e
  · rename_i d hd
    cases e
    obtain ⟨v, h1, h2⟩ := l.at_ n d hd
    exact ⟨v, h1, q i H v Gro.refl m h2⟩
  · cases e⟩
theorem se_const {e : Expr} {d : D} {v : V} (h : PE X e (tC v)) (r : ∀ i H, DV X.K i H d v) : SE X C W e (mC d) := ⟨_, h, fun i L M σ H r' Q m l e q => by
  cases e
  exact q i H v Gro.refl m (r i H)⟩
theorem se_int {k : Int} {j pos} : SE X C W (.Constant (.int k) j pos) (mC (.int k)) := se_const pe_int fun _ _ => by simp only [DV]
theorem se_bl {k : Bool} {j pos} : SE X C W (.Constant (.bool k) j pos) (mC (.bl k)) := se_const pe_bl fun _ _ => by simp only [DV]
theorem se_str {k : Str} {j pos} : SE X C W (.Constant (.str k) j pos) (mC (.str k)) := se_const pe_str fun _ _ => by simp only [DV]
theorem se_non {j pos} : SE X C W (.Constant .none j pos) (mC .non) := se_const pe_non fun _ _ => by simp only [DV]
theorem se_bin {op : Operator} {f : Op2} (ho : OpR X (binaryOp op) (rO X.K C f)) (ha : SE X C W a ga) (hb : SE X C W b gb) : SE X C W (.BinOp a op b pos) (mBin f ga gb) := by
  obtain ⟨ta, pa, sa⟩ := ha.ex
  obtain ⟨tb, pb, sb⟩ := hb.ex
  refine ⟨_, pe_op ho pa pb, fun i L M σ H r Q m l e q => ?_⟩
  refine sa.step m l e q fun dx M1 i1 H1 x g1 m1 l1 rx e1 q1 => ?_
  refine sb.step m1 l1 e1 q1 fun dy M2 i2 H2 y g2 m2 l2 ry e2 q2 => ?_
  obtain ⟨d, M', h1, h2⟩ := snd_ret e2 q2
  exact ⟨i2, M2, dx, dy, d, M', m2, rx.mono g2, ry, h1, h2⟩
theorem se_un {op : UnaryOp} {f : Op1} (ho : UnR X (unaryOp op) (rO1 X.K C f)) (ha : SE X C W a ga) : SE X C W (.UnaryOp op a pos) (mUn f ga) := by
  obtain ⟨ta, pa, sa⟩ := ha.ex
  refine ⟨_, pe_un ho pa, fun i L M σ H r Q m l e q => ?_⟩
  refine sa.step m l e q fun dx M1 i1 H1 x g1 m1 l1 rx e1 q1 => ?_
  obtain ⟨d, M', h1, h2⟩ := snd_ret e1 q1
  exact ⟨i1, M1, dx, d, M', m1, rx, h1, h2⟩
/-- behind two operands: the operation, then what follows -/
theorem snd_bin2 {ta tb : TE} {f : Op2} (sa : SndG X.K X.mg C W (DV X.K) ta ga) (sb : SndG X.K X.mg C W (DV X.K) tb gb) : SndG X.K X.mg C W (DV X.K) (tOp (rO X.K C f) ta tb) (mBin f ga gb) := fun i L M σ H r Q m l e q => by
  refine sa.step m l e q fun dx M1 i1 H1 x g1 m1 l1 rx e1 q1 => ?_
  refine sb.step m1 l1 e1 q1 fun dy M2 i2 H2 y g2 m2 l2 ry e2 q2 => ?_
  obtain ⟨d, M', h1, h2⟩ := snd_ret e2 q2
  exact ⟨i2, M2, dx, dy, d, M', m2, rx.mono g2, ry, h1, h2⟩
theorem se_cmp {op : CmpOp} {f : Op2} (ho : OpR X (compareOp op) (rO X.K C f)) (ha : SE X C W a ga) (hb : SE X C W b gb) (hm : behindInMarks op b = false) : SE X C W (.Compare a [op] [b] pos) (mBin f ga gb) := by
  obtain ⟨ta, pa, sa⟩ := ha.ex
  obtain ⟨tb, pb, sb⟩ := hb.ex
  exact ⟨_, pe_cmpR ho pa pb hm, snd_bin2 sa sb⟩
/-- a value that is a truth, as a test -/
theorem snd_test {t : TE} (h : SndG X.K X.mg C W (DV X.K) t ga) : SndG X.K X.mg C W RB (fun σ H Q => t σ H fun x H1 => ∃ k, x = .bl k ∧ Q k H1) (mT ga) := fun i L M σ H r Q m l e q => by
  refine h.step m l e q fun dx M1 i1 H1 x g1 m1 l1 rx e1 q1 => ?_
  cases dx <;> first
    | cases e1
      done
    | skip
  rename_i b
  cases e1
  simp only [DV] at rx
  exact ⟨b, rx, q1 i1 H1 b Gro.refl m1 rfl⟩
theorem st_cmp {op : CmpOp} {f : Op2} (ho : OpR X (compareOp op) (rO X.K C f)) (ha : SE X C W a ga) (hb : SE X C W b gb) (hm : behindInMarks op b = false) : ST X C W (.Compare a [op] [b] pos) (mT (mBin f ga gb)) := by
  obtain ⟨ta, pa, sa⟩ := ha.ex
  obtain ⟨tb, pb, sb⟩ := hb.ex
  exact ⟨_, pt_cmpR ho pa pb hm, snd_test (snd_bin2 sa sb)⟩
theorem snd_chain {ta tb tc : TE} {f f2 : Op2} (sa : SndG X.K X.mg C W (DV X.K) ta ga) (sb : SndG X.K X.mg C W (DV X.K) tb gb) (sc : SndG X.K X.mg C W (DV X.K) tc gc) :
    SndG X.K X.mg C W (DV X.K) (tChain (rO X.K C f) (rO X.K C f2) ta tb tc) (mChain f f2 ga gb gc) := fun i L M σ H r Q m l e q => by
  refine sa.step m l e q fun dx M1 i1 H1 x g1 m1 l1 rx e1 q1 => ?_
  refine sb.step m1 l1 e1 q1 fun dy M2 i2 H2 y g2 m2 l2 ry e2 q2 => ?_
  rcases bnd_some e2 with ⟨d, M3, e3, e4⟩ | ⟨c, M3, e3, rfl⟩
  · obtain ⟨d', M', h1, h2⟩ := ret_eq e3
    cases h2
    refine ⟨i2, M2, dx, dy, _, _, m2, rx.mono g2, ry, h1, fun i3 H3 z g3 m3 rz => ?_⟩
    have l3 := l2.mono g3
    have q3 := q2.go g3
    cases d <;> first
      | cases e4
        done
      | skip
    rename_i b
    cases b with
    | true =>
      simp only [DV] at rz
      refine ⟨true, rz, ?_⟩
      refine sc.step m3 l3 e4 q3 fun dw M4 i4 H4 w g4 m4 l4 rw' e5 q5 => ?_
      obtain ⟨d, M', k1, k2⟩ := snd_ret e5 q5
      exact ⟨i4, M4, dy, dw, d, M', m4, (ry.mono g3).mono g4, rw', k1, k2⟩
    | false =>
      simp only [DV] at rz
      refine ⟨false, rz, ?_⟩
      cases e4
      exact q3 i3 H3 _ Gro.refl m3 (by simp only [DV])
  · obtain ⟨_, _, _, h2⟩ := ret_eq e3
    cases h2
theorem se_chain {op op' : CmpOp} {f f2 : Op2} (ho : OpR X (compareOp op) (rO X.K C f)) (ho' : OpR X (compareOp op') (rO X.K C f2)) (ha : SE X C W a ga) (hb : SE X C W b gb) (hc : SE X C W c gc)
    (hm : lastMarks [op, op'] [b, c] = false := by with_unfolding_all rfl) : SE X C W (.Compare a [op, op'] [b, c] pos) (mChain f f2 ga gb gc) := by
  obtain ⟨ta, pa, sa⟩ := ha.ex
  obtain ⟨tb, pb, sb⟩ := hb.ex
  obtain ⟨tc, pc, sc⟩ := hc.ex
  exact ⟨_, pe_chain ho ho' pa pb pc hm, snd_chain sa sb sc⟩
theorem st_chain {op op' : CmpOp} {f f2 : Op2} (ho : OpR X (compareOp op) (rO X.K C f)) (ho' : OpR X (compareOp op') (rO X.K C f2)) (ha : SE X C W a ga) (hb : SE X C W b gb) (hc : SE X C W c gc)
    (hm : lastMarks [op, op'] [b, c] = false := by with_unfolding_all rfl) : ST X C W (.Compare a [op, op'] [b, c] pos) (mT (mChain f f2 ga gb gc)) := by
  obtain ⟨ta, pa, sa⟩ := ha.ex
  obtain ⟨tb, pb, sb⟩ := hb.ex
  obtain ⟨tc, pc, sc⟩ := hc.ex
  exact ⟨_, pt_chain ho ho' pa pb pc hm, snd_test (snd_chain sa sb sc)⟩
theorem st_val (ha : SE X C W a ga) (he : ∀ whole, isTrue a X.env whole = (do let v ← whole; standAt a.pos; holding [v] (truthy v)) := by intro _; rfl) : ST X C W a (mT ga) := by
  obtain ⟨ta, pa, sa⟩ := ha.ex
  exact ⟨_, pt_val pa he, snd_test sa⟩
variable {ta tb : GT} {rest : List Expr}
theorem snd_and {t u : TT} (sa : SndG X.K X.mg C W RB t ta) (sb : SndG X.K X.mg C W RB u tb) : SndG X.K X.mg C W RB (tAnd t u) (mAnd ta tb) := fun i L M σ H r Q m l e q => by
  refine sa.step m l e q fun b M1 i1 H1 x g1 m1 l1 rx e1 q1 => ?_
  cases rx
  cases b with
  | true => exact sb i1 L M1 σ H1 r _ m1 l1 e1 q1
  | false =>
    cases e1
    exact q1 i1 H1 false Gro.refl m1 rfl
theorem snd_or {t u : TT} (sa : SndG X.K X.mg C W RB t ta) (sb : SndG X.K X.mg C W RB u tb) : SndG X.K X.mg C W RB (tOr t u) (mOr ta tb) := fun i L M σ H r Q m l e q => by
  refine sa.step m l e q fun b M1 i1 H1 x g1 m1 l1 rx e1 q1 => ?_
  cases rx
  cases b with
  | false => exact sb i1 L M1 σ H1 r _ m1 l1 e1 q1
  | true =>
    cases e1
    exact q1 i1 H1 true Gro.refl m1 rfl
theorem sw_and1 (ha : ST X C W a ta) : SW X C W (.BoolOp .And [a] pos) ta := by
  obtain ⟨t, p, s⟩ := ha.ex
  exact ⟨_, pw_and1 p, s⟩
theorem sw_or1 (ha : ST X C W a ta) : SW X C W (.BoolOp .Or [a] pos) ta := by
  obtain ⟨t, p, s⟩ := ha.ex
  exact ⟨_, pw_or1 p, s⟩
theorem sw_and (ha : ST X C W a ta) (hb : SW X C W (.BoolOp .And (b :: rest) pos) tb) : SW X C W (.BoolOp .And (a :: b :: rest) pos) (mAnd ta tb) := by
  obtain ⟨t, p, s⟩ := ha.ex
  obtain ⟨u, p2, s2⟩ := hb.ex
  exact ⟨_, pw_and p p2, snd_and s s2⟩
theorem sw_or (ha : ST X C W a ta) (hb : SW X C W (.BoolOp .Or (b :: rest) pos) tb) : SW X C W (.BoolOp .Or (a :: b :: rest) pos) (mOr ta tb) := by
  obtain ⟨t, p, s⟩ := ha.ex
  obtain ⟨u, p2, s2⟩ := hb.ex
  exact ⟨_, pw_or p p2, snd_or s s2⟩
theorem SW.st (h : SW X C W a ta) : ST X C W a ta := by
  obtain ⟨t, p, s⟩ := h.ex
  exact ⟨_, p.pt, s⟩
theorem st_not (ha : ST X C W a ta) : ST X C W (.UnaryOp .Not a pos) (mNot ta) := by
  obtain ⟨t, p, s⟩ := ha.ex
  refine ⟨_, pt_not p, fun i L M σ H r Q m l e q => ?_⟩
  refine s.step m l e q fun b M1 i1 H1 x g1 m1 l1 rx e1 q1 => ?_
  cases rx
  cases e1
  exact q1 i1 H1 _ Gro.refl m1 rfl
theorem se_one {op} (ha : SE X C W a ga) : SE X C W (.BoolOp op [a] pos) ga := by
  obtain ⟨t, p, s⟩ := ha.ex
  exact ⟨_, pe_one p, s⟩
theorem se_and (ha : SE X C W a ga) (hb : SE X C W (.BoolOp .And (b :: rest) pos) gb) : SE X C W (.BoolOp .And (a :: b :: rest) pos) (mAndV ga gb) := by
  obtain ⟨t, p, s⟩ := ha.ex
  obtain ⟨u, p2, s2⟩ := hb.ex
  refine ⟨_, pe_and p p2, fun i L M σ H r Q m l e q => ?_⟩
  refine s.step m l e q fun dx M1 i1 H1 x g1 m1 l1 rx e1 q1 => ?_
  cases dx <;> first
    | cases e1
      done
    | skip
  rename_i b
  simp only [DV] at rx
  refine ⟨b, rx, ?_⟩
  cases b with
  | true => exact s2 i1 L M1 σ H1 r _ m1 l1 e1 q1
  | false =>
    cases e1
    exact q1 i1 H1 _ Gro.refl m1 (by simp only [DV])
theorem se_or (ha : SE X C W a ga) (hb : SE X C W (.BoolOp .Or (b :: rest) pos) gb) : SE X C W (.BoolOp .Or (a :: b :: rest) pos) (mOrV ga gb) := by
  obtain ⟨t, p, s⟩ := ha.ex
  obtain ⟨u, p2, s2⟩ := hb.ex
  refine ⟨_, pe_or p p2, fun i L M σ H r Q m l e q => ?_⟩
  refine s.step m l e q fun dx M1 i1 H1 x g1 m1 l1 rx e1 q1 => ?_
  cases dx <;> first
    | cases e1
      done
    | skip
  rename_i b
  simp only [DV] at rx
  refine ⟨b, rx, ?_⟩
  cases b with
  | false => exact s2 i1 L M1 σ H1 r _ m1 l1 e1 q1
  | true =>
    cases e1
    exact q1 i1 H1 _ Gro.refl m1 (by simp only [DV])
theorem se_not (ha : SE X C W a ga) : SE X C W (.UnaryOp .Not a pos) (mNotV ga) := by
  obtain ⟨t, p, s⟩ := ha.ex
  refine ⟨_, pe_not p, fun i L M σ H r Q m l e q => ?_⟩
  refine s.step m l e q fun dx M1 i1 H1 x g1 m1 l1 rx e1 q1 => ?_
  cases dx <;> first
    | cases e1
      done
    | skip
  rename_i b
  simp only [DV] at rx
  refine ⟨b, rx, ?_⟩
  cases e1
  exact q1 i1 H1 _ Gro.refl m1 (by simp only [DV])
theorem se_if (hc : ST X C W c ta) (ha : SE X C W a ga) (hb : SE X C W b gb) : SE X C W (.IfExp c a b pos) (mIf ta ga gb) := by
  obtain ⟨t, p, s⟩ := hc.ex
  obtain ⟨u, p2, s2⟩ := ha.ex
  obtain ⟨v, p3, s3⟩ := hb.ex
  refine ⟨_, pe_ifExp p p2 p3, fun i L M σ H r Q m l e q => ?_⟩
  refine s.step m l e q fun b M1 i1 H1 x g1 m1 l1 rx e1 q1 => ?_
  cases rx
  cases b with
  | true => exact s2 i1 L M1 σ H1 r _ m1 l1 e1 q1
  | false => exact s3 i1 L M1 σ H1 r _ m1 l1 e1 q1
/-! ### arguments, calls -/
variable {es : List Expr} {gs : GA} {e : Expr}
theorem sa_nil : SA X C W [] mNil := ⟨_, pa_nil, fun i L M σ H r Q m l e q => by
  cases e
  exact q i H [] Gro.refl m (by simp only [DLs])⟩
theorem sa_cons (ha : SE X C W e ga) (hr : SA X C W es gs) (hs : starEach (e :: es) X.env = (false, eval e X.env) :: starEach es X.env := by rfl) : SA X C W (e :: es) (mCons ga gs) := by
  obtain ⟨t, p, s⟩ := ha.ex
  obtain ⟨u, p2, s2⟩ := hr.ex
  refine ⟨_, pa_cons p p2 hs, fun i L M σ H r Q m l e q => ?_⟩
  refine s.step m l e q fun dx M1 i1 H1 x g1 m1 l1 rx e1 q1 => ?_
  refine s2.step m1 l1 e1 q1 fun ds M2 i2 H2 xs g2 m2 l2 rs e2 q2 => ?_
  cases e2
  refine q2 i2 H2 _ Gro.refl m2 ?_
  simp only [DLs]
  exact ⟨x, xs, rfl, rx.mono g2, rs⟩
/-- a built-in -/
theorem snd_cb {t : TA} {f : OpN} (s : SndG X.K X.mg C W (DLs X.K) t gs) : SndG X.K X.mg C W (DV X.K) (tCB (rON X.K C f) t) (mCB f gs) := fun i L M σ H r Q m l e q => by
  refine s.step m l e q fun ds M1 i1 H1 xs g1 m1 l1 rs e1 q1 => ?_
  obtain ⟨d, M', h1, h2⟩ := snd_ret e1 q1
  exact ⟨i1, M1, ds, d, M', m1, rs, h1, h2⟩
variable {x : Str} {p apos : Pos} {id : String}
theorem se_cb {f : OpN} (hc : CallR X (.builtin id) (rON X.K C f)) (hg : Gl X x) (hm : X.mg x = none) (hv : bootBuiltins x = some (.builtin id)) (ha : SA X C W (e :: es) gs) (hn : x ≠ "__name__" := by decide) (hdb : (x == ("__debug__" : Str)) = false := by decide)
    (hs : starEach (e :: es) X.env = (false, eval e X.env) :: starEach es X.env := by rfl) (hpl : (backTo pos (starEach es X.env)).any (·.1) = false := by rfl) : SE X C W (.Call (.Name x p) (e :: es) [] pos) (mCB f gs) := by
  obtain ⟨t, p, s⟩ := ha.ex
  exact ⟨_, pe_callB hc hg hm hv p hn hdb hs hpl, snd_cb s⟩
theorem se_cty {f : OpN} {T : String} (hc : CallR X (.type T) (rON X.K C f)) (hg : Gl X x) (hm : X.mg x = none) (hv : bootBuiltins x = some (.type T)) (ha : SA X C W (e :: es) gs) (hn : x ≠ "__name__" := by decide) (hdb : (x == ("__debug__" : Str)) = false := by decide)
    (hs : starEach (e :: es) X.env = (false, eval e X.env) :: starEach es X.env := by rfl) (hpl : (backTo pos (starEach es X.env)).any (·.1) = false := by rfl) : SE X C W (.Call (.Name x p) (e :: es) [] pos) (mCB f gs) := by
  obtain ⟨t, p, s⟩ := ha.ex
  exact ⟨_, pe_callTy hc hg hm hv p hn hdb hs hpl, snd_cb s⟩
/-! ### displays -/
theorem DLs.length {K : PySem.W.Frag} {i : List Addr} {H : Hp} : ∀ {ds : List D} {vs : List V}, DLs K i H ds vs → ds.length = vs.length
  | [], vs, h => by
    simp only [DLs] at h
    subst h
    rfl
  | d :: ds, vs, h => by
    simp only [DLs] at h
    obtain ⟨v, r, h1, h2, h3⟩ := h
    subst h1
    rw [List.length_cons, List.length_cons, h3.length]
theorem se_tup {k} (ha : SA X C W es gs) : SE X C W (.Tuple es k pos) (mTup gs) := by
  obtain ⟨t, p, s⟩ := ha.ex
  refine ⟨_, pe_tup p, fun i L M σ H r Q m l e q => ?_⟩
  refine s.step m l e q fun ds M1 i1 H1 xs g1 m1 l1 rs e1 q1 => ?_
  unfold oTup at e1
  split at e1
  · rename_i hl
    cases e1
    refine ⟨by rw [← rs.length]; exact Nat.le_of_lt (small1000 hl), fun p hp => ?_⟩
    refine q1 i1 _ _ (ext_new hp) (m1.new hp) ?_
    simp only [DV]
    exact ⟨p, xs, rfl, .inl upd_same, rs.mono (ext_new hp)⟩
  · cases e1
theorem se_lst (ha : SA X C W es gs) : SE X C W (.List es pos) (mLst gs) := by
  obtain ⟨t, p, s⟩ := ha.ex
  refine ⟨_, pe_lst p, fun i L M σ H r Q m l e q => ?_⟩
  refine s.step m l e q fun ds M1 i1 H1 xs g1 m1 l1 rs e1 q1 => ?_
  unfold oLst at e1
  split at e1
  · rename_i hl
    cases e1
    refine ⟨by rw [← rs.length]; exact Nat.le_of_lt (small1000 hl), fun p hp => ?_⟩
    refine q1 _ _ _ (ext_laid hp) (m1.laid hp ⟨xs, upd_same, rs.mono (ext_laid hp)⟩) ?_
    simp only [DV]
    exact ⟨p, by rw [← m1.len, List.getElem?_append_right (Nat.le_refl _), Nat.sub_self]; rfl, rfl⟩
  · cases e1
theorem se_dnew : SE X C W (.Dict [] [] pos) mDnew := ⟨_, pe_dnewK, fun i L M σ H r Q m l e q => by
  cases e
  intro p hp
  refine q _ _ _ (ext_laid hp) (m.laid hp ⟨[], upd_same, by simp only [DKs]⟩) ?_
  simp only [DV]
  exact ⟨p, by rw [← m.len, List.getElem?_append_right (Nat.le_refl _), Nat.sub_self]; rfl, rfl⟩⟩
end
end BL
/-! BLStmt: calls, statements, loops, comprehensions, defs. -/
namespace BL
open PySem L2

/-! ### a def's promise by its machine -/
def spG (K : PySem.W.Frag) (mg : Str → Option Value) (C : Addr) (g : Fn) : Sp := fun vs H Q E =>
  ∃ i M ds r, MemR K C i M H ∧ DLs K i H ds vs ∧ g ds M = some r ∧ EndG K mg C (fun c d _ H' => E c d H') (DV K) i H [] Q r
theorem mDef_len {k n : Nat} {body : GS} {ds : List D} {M : Mem} {r : Rz D} (h : mDef k n body ds M = some r) : ds.length = k := by
  unfold mDef at h
  split at h
  · assumption
  · cases h
section
variable {X : Cx} {C : Addr} {W : WX} {e o : Expr} {es : List Expr} {go : GE} {gs : GA} {x m : Str} {p pos apos : Pos} {k : Nat} {f : Addr} {fd : FuncData} {ps : List Str} {g : Fn}
/-- what a callee may let out, here -/
abbrev Lets (X : Cx) (W : WX) : Prop := ∀ σ, PassesAt (L2.CX X.prog X.w) X σ (WE W σ)
theorem EndG.call {i i' : List Addr} {H : Hp} {σ : L2.St} {Q : VK} {r : Rz D} (q : EndG X.K X.mg C W (DV X.K) i H σ Q r) : EndG X.K X.mg C (fun c d _ H' => WE W σ c d H') (DV X.K) i H [] Q r := by
  cases r with
  | ok d M => exact q
  | ex c M => exact q
theorem se_call (F : FnOk X.prog X.w X.K X.mg X.base (L2.CX X.prog X.w) k f fd ps (spG X.K X.mg C g)) (hr : Room k X.A) (hx : Lets X W) (hg : Gl X x) (hm : X.mg x = some (.ref f)) (hk : PySem.W.keepIn X.K (.ref f) = true) (hb : Binds X.K fd ps [])
    (ha : SA X C W (e :: es) gs) (hdb : (x == ("__debug__" : Str)) = false := by decide) (he : starEach (e :: es) X.env = (false, eval e X.env) :: starEach es X.env := by rfl) (hpl : (backTo pos (starEach es X.env)).any (·.1) = false := by rfl) :
    SE X C W (.Call (.Name x p) (e :: es) [] pos) (mCall g gs) := by
  obtain ⟨t, pt, s⟩ := ha.ex
  refine ⟨_, pe_callS F hr hg hm hk hb hx pt hdb he hpl, fun i L M σ H r Q m l e q => ?_⟩
  refine s.step m l e q fun ds M1 i1 H1 vs g1 m1 l1 rs e1 q1 => ?_
  exact ⟨i1, M1, ds, r, m1, rs, e1, q1.call (i' := i1)⟩
/-- o.m(e, ..), what is raised wished for at the caller's slots -/
def tMethS (C : Addr) (m : Str) (sp : Sp) (E : L2.St → XK) (ta : TE) (t : TA) : TE := fun σ H Q => ta σ H fun x H1 => ∃ a dx fs, x = .ref a ∧ H1 a = some (.ins C dx fs) ∧ fs.lookup m = none ∧ t σ H1 fun vs H2 => sp (x :: vs) H2 Q (E σ)
theorem pe_methS {pl : Sem Bool} {ta : TE} {t : TA} {sp : Sp} {E : L2.St → XK} {CX : CXT} (he : PE X o ta) (c : Cls X.K C) (hm : Meth X.K C m f) (F : FnOk X.prog X.w X.K X.mg X.base CX k f fd ps sp) (hr : Room k X.A) (hb : Binds X.K fd ps [])
    (hx : ∀ σ, PassesAt CX X σ (E σ)) (ha : PA X (e :: es) t)
    (hst : starEach (e :: es) X.env = (false, eval e X.env) :: starEach es X.env := by rfl) (hpl : (backTo pos (starEach es X.env)).any (·.1) = false := by rfl)
    (ht : eval (.Call (.Attribute o m apos) (e :: es) [] pos) X.env = (do
      let ov ← eval o X.env
      standAt apos.atName
      let (f, first) ← holding [ov] (getMethod ov m pl)
      callWith pos f first (backTo pos (starEach (e :: es) X.env)) (backToKw pos (keywordEach [] X.env))) := by rfl) :
    PE X (.Call (.Attribute o m apos) (e :: es) [] pos) (tMethS C m sp E ta t) := by
  refine ⟨fun pins s σ H Q I h => ?_⟩
  refine PySem.W.methodCall_KW (pl := pl) (thn (he.run pins s σ H _ I h) fun u s1 ⟨x, H1, I1, rx, a, dx, fs, ex, ea, l, q⟩ => ?_) ht
  subst ex
  obtain rfl : u = Value.ref a := rx
  refine getmeth_ok I1 ea c hm l ?_
  refine PySem.W.callWith_K (first := [.ref a]) (h₀ := X.base) I.ok.mod.kin hm.kp (thn (ha.run pos pins s1 σ H1 _ I1 q) fun us s2 ⟨vs, H2, I2, r, q2⟩ => ⟨I2.kIn, ?_⟩) hst hpl
  exact run_fnS (us := .ref a :: us) (vs := .ref a :: vs) F hr hb (hx σ) I2 (.cons rfl r) q2
theorem pe_methS0 {pl : Sem Bool} {ta : TE} {sp : Sp} {E : L2.St → XK} {CX : CXT} (he : PE X o ta) (c : Cls X.K C) (hm : Meth X.K C m f) (F : FnOk X.prog X.w X.K X.mg X.base CX k f fd ps sp) (hr : Room k X.A) (hb : Binds X.K fd ps [])
    (hx : ∀ σ, PassesAt CX X σ (E σ))
    (ht : eval (.Call (.Attribute o m apos) [] [] pos) X.env = (do
      let ov ← eval o X.env
      standAt apos.atName
      let (f, first) ← holding [ov] (getMethod ov m pl)
      callWith pos f first (backTo pos (starEach [] X.env)) (backToKw pos (keywordEach [] X.env))) := by rfl) :
    PE X (.Call (.Attribute o m apos) [] [] pos) (tMethS C m sp E ta tNil) := by
  refine ⟨fun pins s σ H Q I h => ?_⟩
  refine PySem.W.methodCall_KW (pl := pl) (thn (he.run pins s σ H _ I h) fun u s1 ⟨x, H1, I1, rx, a, dx, fs, ex, ea, l, q⟩ => ?_) ht
  subst ex
  obtain rfl : u = Value.ref a := rx
  refine getmeth_ok I1 ea c hm l ?_
  exact PySem.W.callWith_K0 (first := [.ref a]) I1.kIn hm.kp (run_fnS (us := [.ref a]) (vs := [.ref a]) F hr hb (hx σ) I1 (.cons rfl .nil) q)
theorem PEw {X : Cx} {e : Expr} {t t' : TE} (h : PE X e t) (i : ∀ σ H Q, t' σ H Q → t σ H Q) : PE X e t' := ⟨fun pins s σ H Q I hw => h.run pins s σ H Q I (i σ H Q hw)⟩
/-- an instance's fields hold no method's name -/
theorem DFs.look {K : PySem.W.Frag} {i : List Addr} {H : Hp} (f : Str) : ∀ {fs : List (Str × D)} {vs : List (Str × V)}, DFs K i H fs vs → (fs.lookup f = none → vs.lookup f = none) ∧ ∀ d, fs.lookup f = some d → ∃ v, vs.lookup f = some v ∧ DV K i H d v
  | [], vs, h => by
    simp only [DFs] at h
    subst h
    exact ⟨fun _ => rfl, fun d e => by cases e⟩
  | (k, d) :: fs, vs, h => by
    simp only [DFs] at h
    obtain ⟨v, r, h1, h2, h3⟩ := h
    subst h1
    obtain ⟨n1, n2⟩ := DFs.look f h3
    by_cases e : (f == k) = true
    · have e1 : List.lookup f ((k, d) :: fs) = some d := by rw [List.lookup, e]
      have e2 : List.lookup f ((k, v) :: r) = some v := by rw [List.lookup, e]
      rw [e1, e2]
      exact ⟨fun z => (by cases z), fun d' z => ⟨v, rfl, by cases z; exact h2⟩⟩
    · have e' : (f == k) = false := by simpa using e
      have e1 : List.lookup f ((k, d) :: fs) = List.lookup f fs := by rw [List.lookup, e']
      have e2 : List.lookup f ((k, v) :: r) = List.lookup f r := by rw [List.lookup, e']
      rw [e1, e2]
      exact ⟨n1, n2⟩
theorem DFs.length {K : PySem.W.Frag} {i : List Addr} {H : Hp} : ∀ {fs : List (Str × D)} {vs : List (Str × V)}, DFs K i H fs vs → fs.length = vs.length
  | [], vs, h => by
    simp only [DFs] at h
    subst h
    rfl
  | (k, d) :: fs, vs, h => by
    simp only [DFs] at h
    obtain ⟨v, r, h1, h2, h3⟩ := h
    subst h1
    rw [List.length_cons, List.length_cons, h3.length]
/-- an own method: its receiver an instance that has no such field -/
def mMethI (nm : Str) (f : Fn) (o : GE) (as : GA) : GE := fun L M => bnd (o L M) fun x M1 => match x with
  | .ref n => (match M1[n]? with
    | some (.ins fs) => if fs.lookup nm = none then bnd (as L M1) fun xs M2 => f (x :: xs) M2 else none
    | _ => none)
  | _ => none
theorem snd_meth {ta : TE} {t : TA} (s : SndG X.K X.mg C W (DV X.K) ta go) (s2 : SndG X.K X.mg C W (DLs X.K) t gs) : SndG X.K X.mg C W (DV X.K) (tMethS C m (spG X.K X.mg C g) (WE W) ta t) (mMethI m g go gs) := fun i L M σ H r Q mm l e q => by
  refine s.step mm l e q fun dx M1 i1 H1 x g1 m1 l1 rx e1 q1 => ?_
  cases dx <;> first
    | cases e1
      done
    | skip
  rename_i n
  dsimp only at e1
  split at e1
  · rename_i fs hn
    split at e1
    · rename_i hl
      have rx0 := rx
      simp only [DV] at rx
      obtain ⟨a, ha, rfl⟩ := rx
      obtain ⟨dx, vs, h1, h2⟩ := m1.ob n _ a hn ha
      refine ⟨a, dx, vs, rfl, h1, (DFs.look m h2).1 hl, ?_⟩
      refine s2.step m1 l1 e1 q1 fun ds M2 i2 H2 xs g2 m2 l2 rs e2 q2 => ?_
      refine ⟨i2, M2, .ref n :: ds, r, m2, ?_, e2, q2.call (i' := i1)⟩
      simp only [DLs]
      exact ⟨_, _, rfl, rx0.mono g2, rs⟩
    · cases e1
  · cases e1
theorem se_meth {pl : Sem Bool} (he : SE X C W o go) (c : Cls X.K C) (hm : Meth X.K C m f) (F : FnOk X.prog X.w X.K X.mg X.base (L2.CX X.prog X.w) k f fd ps (spG X.K X.mg C g)) (hr : Room k X.A) (hx : Lets X W) (hb : Binds X.K fd ps []) (ha : SA X C W (e :: es) gs)
    (hst : starEach (e :: es) X.env = (false, eval e X.env) :: starEach es X.env := by rfl) (hpl : (backTo pos (starEach es X.env)).any (·.1) = false := by rfl)
    (ht : eval (.Call (.Attribute o m apos) (e :: es) [] pos) X.env = (do
      let ov ← eval o X.env
      standAt apos.atName
      let (f, first) ← holding [ov] (getMethod ov m pl)
      callWith pos f first (backTo pos (starEach (e :: es) X.env)) (backToKw pos (keywordEach [] X.env))) := by rfl) :
    SE X C W (.Call (.Attribute o m apos) (e :: es) [] pos) (mMethI m g go gs) := by
  obtain ⟨ta, p, s⟩ := he.ex
  obtain ⟨t, p2, s2⟩ := ha.ex
  exact ⟨_, pe_methS p c hm F hr hb hx p2 hst hpl ht, snd_meth s s2⟩
theorem se_meth0 {pl : Sem Bool} (he : SE X C W o go) (c : Cls X.K C) (hm : Meth X.K C m f) (F : FnOk X.prog X.w X.K X.mg X.base (L2.CX X.prog X.w) k f fd ps (spG X.K X.mg C g)) (hr : Room k X.A) (hx : Lets X W) (hb : Binds X.K fd ps [])
    (ht : eval (.Call (.Attribute o m apos) [] [] pos) X.env = (do
      let ov ← eval o X.env
      standAt apos.atName
      let (f, first) ← holding [ov] (getMethod ov m pl)
      callWith pos f first (backTo pos (starEach [] X.env)) (backToKw pos (keywordEach [] X.env))) := by rfl) :
    SE X C W (.Call (.Attribute o m apos) [] [] pos) (mMethI m g go mNil) := by
  obtain ⟨ta, p, s⟩ := he.ex
  obtain ⟨t, p2, s2⟩ := (sa_nil (X := X) (C := C) (W := W)).ex
  exact ⟨_, pe_methS0 p c hm F hr hb hx ht, snd_meth s fun i L M σ H r Q m l e q => by
    cases e
    exact q i H [] Gro.refl m (by simp only [DLs])⟩
/-- C(e, ..) -/
def mMake (f : Fn) (as : GA) : GE := fun L M => bnd (as L M) fun xs M1 => bnd (f (.ref M1.length :: xs) (M1 ++ [.ins []])) fun v M2 => match v with
  | .non => some (.ok (.ref M1.length) M2)
  | _ => none
theorem se_make {WE' : XK} (hW : ∀ c d σ H, WE' c d H → W c d σ H) (hW2 : ∀ c d σ H, W c d σ H → WE' c d H) (Mk : Mk X.K C f) (F : FnOk X.prog X.w X.K X.mg X.base (L2.CX X.prog X.w) k f fd ps (spG X.K X.mg C g)) (hr : Room (k + 1) X.A) (hx : Passes (L2.CX X.prog X.w) X WE') (hg : Gl X x) (hm : X.mg x = some (.ref C)) (hb : Binds X.K fd ps [])
    (ha : SA X C W (e :: es) gs) (hdb : (x == ("__debug__" : Str)) = false := by decide) (he : starEach (e :: es) X.env = (false, eval e X.env) :: starEach es X.env := by rfl) (hpl : (backTo pos (starEach es X.env)).any (·.1) = false := by rfl) :
    SE X C W (.Call (.Name x p) (e :: es) [] pos) (mMake g gs) := by
  obtain ⟨t, pt, s⟩ := ha.ex
  refine ⟨_, pe_make Mk F hr hg hm hb .nil hx pt hdb he hpl, fun i L M σ H r Q m l e q => ?_⟩
  refine s.step m l e q fun ds M1 i1 H1 vs g1 m1 l1 rs e1 q1 => ?_
  intro x dx nx ndx ne
  have nx' : upd H1 dx (.own x) x = none := by rw [upd_ne (Ne.symm ne)]; exact nx
  have ga : Gro i1 H1 (i1 ++ [x]) (upd (upd H1 dx (.own x)) x (.ins C dx [])) := (ext_new ndx).trans (ext_laid nx')
  have ma : MemR X.K C (i1 ++ [x]) (M1 ++ [.ins []]) (upd (upd H1 dx (.own x)) x (.ins C dx [])) := (m1.new ndx).laid nx' ⟨dx, [], upd_same, by simp only [DFs]⟩
  have rself : DV X.K (i1 ++ [x]) (upd (upd H1 dx (.own x)) x (.ins C dx [])) (.ref M1.length) (.ref x) := by
    simp only [DV]
    exact ⟨x, by rw [← m1.len, List.getElem?_append_right (Nat.le_refl _), Nat.sub_self]; rfl, rfl⟩
  rcases bnd_some e1 with ⟨v, M2, e2, e3⟩ | ⟨c, M2, e2, rfl⟩
  · refine ⟨i1 ++ [x], M1 ++ [.ins []], .ref M1.length :: ds, _, ma, ?_, e2, ?_⟩
    · simp only [DLs]
      exact ⟨_, _, rfl, rself, by rw [List.append_nil]; exact rs.mono ga⟩
    · cases v <;> first
        | cases e3
          done
        | skip
      cases e3
      intro i' H' b g2 m2 rb
      simp only [DV] at rb
      exact ⟨rb, q1 i' H' _ (ga.trans g2) m2 (rself.mono g2)⟩
  · refine ⟨i1 ++ [x], M1 ++ [.ins []], .ref M1.length :: ds, _, ma, ?_, e2, ?_⟩
    · simp only [DLs]
      exact ⟨_, _, rfl, rself, by rw [List.append_nil]; exact rs.mono ga⟩
    · intro i' H' cc hc g2 m2
      exact hW2 _ _ _ _ (q1 i' H' cc hc (ga.trans g2) m2)
/-! ### fields -/
def oFld (nm : Str) : Op1 := fun x M => match x with
  | .ref n => (match M[n]? with
    | some (.ins fs) => (match fs.lookup nm with
      | some d => some (d, M)
      | none => none)
    | _ => none)
  | _ => none
theorem se_fld {nm : Str} (he : SE X C W e go) (c : Cls X.K C) (n : NoAttr X.K C nm) (hb : attributeBase e nm X.env (eval e X.env) = eval e X.env := by rfl) : SE X C W (.Attribute e nm pos) (mUn (oFld nm) go) := by
  obtain ⟨ta, p, s⟩ := he.ex
  refine ⟨_, pe_fld p hb, fun i L M σ H r Q mm l e q => ?_⟩
  refine s.step mm l e q fun dx M1 i1 H1 x g1 m1 l1 rx e1 q1 => ?_
  obtain ⟨d, M', h1, h2⟩ := snd_ret e1 q1
  unfold oFld at h1
  split at h1
  · rename_i n'
    split at h1
    · rename_i fs hn
      split at h1
      · rename_i d' hd
        cases h1
        simp only [DV] at rx
        obtain ⟨a, ha, rfl⟩ := rx
        obtain ⟨dx, vs, k1, k2⟩ := m1.ob _ _ a hn ha
        obtain ⟨v, k3, k4⟩ := (DFs.look nm k2).2 _ hd
        exact ⟨a, C, dx, vs, v, rfl, k1, c, n, k3, h2 i1 H1 v Gro.refl m1 k4⟩
      · cases h1
    · cases h1
  · cases h1
def fput (f : Str) (v : D) : List (Str × D) → List (Str × D)
  | [] => [(f, v)]
  | (g, x) :: r => if g = f then (g, v) :: r else (g, x) :: fput f v r
theorem DFs.put {K : PySem.W.Frag} {i : List Addr} {H : Hp} {f : Str} {d : D} {v : V} (r : DV K i H d v) : ∀ {fs : List (Str × D)} {vs : List (Str × V)}, DFs K i H fs vs → DFs K i H (fput f d fs) (putF f v vs)
  | [], vs, h => by
    simp only [DFs] at h
    subst h
    simp only [fput, putF, DFs]
    exact ⟨v, [], rfl, r, rfl⟩
  | (k, d') :: fs, vs, h => by
    simp only [DFs] at h
    obtain ⟨v', r', h1, h2, h3⟩ := h
    subst h1
    simp only [fput, putF]
    by_cases e : k = f
    · rw [if_pos e, if_pos e]
      simp only [DFs]
      exact ⟨_, _, rfl, r, h3⟩
    · rw [if_neg e, if_neg e]
      simp only [DFs]
      exact ⟨_, _, rfl, h2, DFs.put r h3⟩
def oFldPut (nm : Str) : D → D → Mem → Option Mem := fun x v M => match x with
  | .ref n => (match M[n]? with
    | some (.ins fs) => if fs.length < 1000 then some (M.set n (.ins (fput nm v fs))) else none
    | _ => none)
  | _ => none
theorem ss_fld {nm : Str} {value : Expr} {gv : GE} {pos' : Pos} (hv : SE X C W value gv) (he : SE X C W e go) (c : Cls X.K C) (n : NoAttr X.K C nm) (hs : swapsWith value (some (.Attribute e nm pos')) pos.line X.env = pure false := by rfl) :
    SS X C W (.Assign [.Attribute e nm pos'] value pos) (mFldPut (oFldPut nm) go gv) := by
  obtain ⟨ta, p, s⟩ := he.ex
  obtain ⟨tv, p2, s2⟩ := hv.ex
  refine ⟨_, ps_fld p p2 hs, fun i L M σ H D r mm l e q => ?_⟩
  refine s2.stepS mm l e q fun dv M1 i1 H1 v g1 m1 l1 rv e1 q1 => ?_
  refine s.stepS m1 l1 e1 q1 fun dx M2 i2 H2 x g2 m2 l2 rx e2 q2 => ?_
  unfold oFldPut at e2
  cases dx <;> first
    | cases e2
      done
    | skip
  rename_i n'
  dsimp only at e2
  cases hn : M2[n']? with
  | none => rw [hn] at e2; cases e2
  | some ob =>
    rw [hn] at e2
    cases ob <;> first
      | cases e2
        done
      | skip
    rename_i fs
    dsimp only at e2
    by_cases hl : fs.length < 1000
    · rw [if_pos hl] at e2
      cases e2
      simp only [DV] at rx
      obtain ⟨a, ha, rfl⟩ := rx
      obtain ⟨dx, vs, k1, k2⟩ := m2.ob _ _ a hn ha
      have gw := ext_write (o := .ins C dx (putF nm v vs)) m2 ha
      refine ⟨a, C, dx, vs, rfl, k1, c, n, by rw [← DFs.length k2]; exact hl, ?_⟩
      exact q2 i2 _ σ gw (m2.write ha ⟨dx, _, upd_same, ((rv.mono g2).mono gw |> fun z => DFs.put z (k2.mono gw))⟩) (l2.mono gw)
    · rw [if_neg hl] at e2
      cases e2
end
end BL
/-! BLLoop: statements, loops, comprehensions, defs. -/
namespace BL
open PySem L2

section
variable {X : Cx} {C : Addr} {W : WX} {e o i c : Expr} {es : List Expr} {ge go gi : GE} {gt : GT} {gs : GA} {x : Str} {pos pos' : Pos} {st : Stmt} {rest body : List Stmt} {ga gb : GS}
/-! ### blocks -/
theorem sss_nil : SSs X C W [] mSkip := ⟨_, pss_nil, fun i L M σ H D r m l e q => by
  cases e
  exact q i H σ Gro.refl m l⟩
theorem sss_cons (h1 : SS X C W st ga) (h2 : SSs X C W rest gb) : SSs X C W (st :: rest) (mSeq ga gb) := by
  obtain ⟨t, p, s⟩ := h1.ex
  obtain ⟨u, p2, s2⟩ := h2.ex
  refine ⟨_, pss_cons p p2, fun i L M σ H D r m l e q => ?_⟩
  show t { D with nx := u D } σ H
  unfold mSeq at e
  cases e1 : ga L M with
  | none => rw [e1] at e; cases e
  | some z =>
    obtain ⟨f, M1⟩ := z
    rw [e1] at e
    cases f with
    | nx L1 => exact s i L M σ H _ _ m l e1 fun i' H' σ' g m' l' => s2 i' L1 M1 σ' H' D r m' l' e (q.go g)
    | rt d =>
      cases e
      exact s i L M σ H _ _ m l e1 q
    | bk L1 =>
      cases e
      exact s i L M σ H _ _ m l e1 q
    | ct L1 =>
      cases e
      exact s i L M σ H _ _ m l e1 q
    | ex c L1 =>
      cases e
      exact s i L M σ H _ _ m l e1 q
theorem sss_one (h1 : SS X C W st ga) : SSs X C W [st] ga := by
  obtain ⟨t, p, s⟩ := h1.ex
  exact ⟨_, pss_one p, s⟩
theorem ss_expr (he : SE X C W e ge) (hs : swapsWith e none pos.line X.env = pure false := by rfl) : SS X C W (.Expr e pos) (mExpr ge) := by
  obtain ⟨t, p, s⟩ := he.ex
  refine ⟨_, ps_expr p hs, fun i L M σ H D r m l e q => ?_⟩
  refine s.stepS m l e q fun dx M1 i1 H1 x g1 m1 l1 rx e1 q1 => ?_
  cases e1
  exact q1 i1 H1 σ Gro.refl m1 l1
theorem ss_ret (he : SE X C W e ge) : SS X C W (.Return (some e) pos) (mRet ge) := by
  obtain ⟨t, p, s⟩ := he.ex
  refine ⟨_, ps_ret p, fun i L M σ H D r m l e q => ?_⟩
  refine s.stepS m l e q fun dx M1 i1 H1 x g1 m1 l1 rx e1 q1 => ?_
  cases e1
  exact q1 i1 H1 x Gro.refl m1 rx
theorem ss_retN : SS X C W (.Return none pos) mRetN := ⟨_, ps_retN, fun i L M σ H D r m l e q => by
  cases e
  exact q i H .non Gro.refl m (by simp only [DV])⟩
theorem ss_if (hc : ST X C W c gt) (ha : SSs X C W body ga) (hb : SSs X C W rest gb) : SS X C W (.If c body rest pos) (mIte gt ga gb) := by
  obtain ⟨t, p, s⟩ := hc.ex
  obtain ⟨u, p2, s2⟩ := ha.ex
  obtain ⟨v, p3, s3⟩ := hb.ex
  refine ⟨_, ps_if p p2 p3, fun i L M σ H D r m l e q => ?_⟩
  refine s.stepS m l e q fun b M1 i1 H1 x g1 m1 l1 rx e1 q1 => ?_
  cases rx
  cases b with
  | true => exact s2 i1 L M1 σ H1 D r m1 l1 e1 q1
  | false => exact s3 i1 L M1 σ H1 D r m1 l1 e1 q1
theorem ss_set {n : Nat} (hN : X.N.Nodup) (hi : X.N[n]? = some x) (hx : L2.Loc X.env.scope x) (he : SE X C W e ge) (hs : swapsWith e (some (.Name x pos')) pos.line X.env = pure false := by rfl) (hf : X.fn x = true ∨ X.env.scope.names.lookup x = some .local := by first | exact .inl rfl | exact .inr rfl | assumption) :
    SS X C W (.Assign [.Name x pos'] e pos) (mSet n ge) := by
  obtain ⟨t, p, s⟩ := he.ex
  refine ⟨_, ps_set hN hi hx p hs hf, fun i L M σ H D r m l e q => ?_⟩
  refine s.stepS m l e q fun dx M1 i1 H1 x g1 m1 l1 rx e1 q1 => ?_
  cases e1
  exact q1 i1 H1 _ Gro.refl m1 (l1.set n rx)
/-! ### o[i] = e -/
def rOS (K : PySem.W.Frag) (C : Addr) (op : D → D → D → Mem → Option Mem) : TSet := fun x k v H Q => ∃ i M dx dk dv M', MemR K C i M H ∧ DV K i H dx x ∧ DV K i H dk k ∧ DV K i H dv v ∧ op dx dk dv M = some M' ∧ ∀ i' H', Gro i H i' H' → MemR K C i' M' H' → Q H'
theorem ss_put {op : D → D → D → Mem → Option Mem} (hop : PSet X (rOS X.K C op)) (ho : SE X C W o go) (hi : SE X C W i gi) (he : SE X C W e ge)
    (ha : ∀ v, assign (.Subscript o i pos') X.env v = (do
      let ov ← holding [v] (eval o X.env)
      let iv ← holding [v, ov] (eval i X.env)
      standAt pos'
      holding [v, ov, iv] (setItem ov iv v)
      release [v, ov, iv] []) := by intro _; rfl)
    (hs : swapsWithSole [.Subscript o i pos'] e pos.line X.env = pure false := by rfl) (hw : swappedStores [.Subscript o i pos'] e X.env = pure none := by rfl)
    (h1 : (assignEach [.Subscript o i pos'] X.env).map (·.2) = [assign (.Subscript o i pos') X.env] := by rfl) : SS X C W (.Assign [.Subscript o i pos'] e pos) (mPut op go gi ge) := by
  obtain ⟨t, p, s⟩ := he.ex
  obtain ⟨t2, p2, s2⟩ := ho.ex
  obtain ⟨t3, p3, s3⟩ := hi.ex
  refine ⟨_, ps_asg p (pg_sub p2 p3 hop ha) hs hw h1, fun i L M σ H D r m l e q => ?_⟩
  refine s.stepS m l e q fun dv M1 i1 H1 v g1 m1 l1 rv e1 q1 => ?_
  refine s2.stepS m1 l1 e1 q1 fun dx M2 i2 H2 x g2 m2 l2 rx e2 q2 => ?_
  refine s3.stepS m2 l2 e2 q2 fun dk M3 i3 H3 k g3 m3 l3 rk e3 q3 => ?_
  cases h : op dx dk dv M3 with
  | none =>
    rw [h] at e3
    cases e3
  | some M4 =>
    rw [h] at e3
    cases e3
    exact ⟨i3, M3, dx, dk, dv, M4, m3, rx.mono g3, rk, (rv.mono g2).mono g3, h, fun i' H' g m' => q3 i' H' σ g m' (l3.mono g)⟩
/-! ### raise -/
theorem ss_raise {cn : Str} {cc : Addr} (hc : X.calm = true) (tk : Takes X W) (hm : X.mg cn = some (.ref cc)) (he : PMk X e (fun _ H Q => Q (.ref cc) none H)) : SS X C W (.Raise (some e) none pos) (mRaise cn) :=
  ⟨_, ps_raise hc tk he, fun i L M σ H D r m l e q => by
    cases e
    exact q i H σ cc hm Gro.refl m l⟩
/-! ### targets -/
theorem stg_name {n : Nat} (hN : X.N.Nodup) (hi : X.N[n]? = some x) (hx : L2.Loc X.env.scope x) (hf : X.fn x = true ∨ X.env.scope.names.lookup x = some .local := by first | exact .inl rfl | exact .inr rfl | assumption) : STg X C (.Name x pos) (mName n) :=
  ⟨_, pg_name hN hi hx hf, fun i L M σ H d v L1 Q m l r e q => by
    cases e
    exact q i H _ Gro.refl m (l.set n r)⟩
theorem DV.tup2 {K : PySem.W.Frag} {i : List Addr} {H : Hp} {x y : D} {v : V} (r : DV K i H (.tup [x, y]) v) : ∃ a u w, v = .ref a ∧ TupAt K H a [u, w] ∧ DV K i H x u ∧ DV K i H y w := by
  simp only [DV, DLs] at r
  obtain ⟨a, vs, h1, h2, u, r1, h3, h4, w, r2, h5, h6, h7⟩ := r
  subst h7 h5 h3
  exact ⟨a, u, w, h1, h2, h4, h6⟩
theorem stg_name2 {x y : Str} {n k j : Nat} {p1 p2 : Pos} (hc : X.calm = true) (hN : X.N.Nodup) (hi : X.N[n]? = some x) (hx : L2.Loc X.env.scope x) (hj : X.N[k]? = some y) (hy : L2.Loc X.env.scope y)
    (hf : X.fn x = true ∨ X.env.scope.names.lookup x = some .local := by first | exact .inl rfl | exact .inr rfl | assumption) (hf2 : X.fn y = true ∨ X.env.scope.names.lookup y = some .local := by first | exact .inl rfl | exact .inr rfl | assumption)
    (hn : (assignEach [.Name x p1, .Name y p2] X.env).length = 2 := by rfl) (hst : (assignEach [.Name x p1, .Name y p2] X.env).findIdx? (·.1) = none := by rfl) : STg X C (.Tuple [.Name x p1, .Name y p2] j pos) (mName2 n k) :=
  ⟨_, pg_tup hc (pgs_cons (pg_name hN hi hx hf) (pgs_cons (pg_name hN hj hy hf2) pgs_nil)) hn hst, fun i L M σ H d v L1 Q m l r e q => by
    unfold mName2 at e
    split at e
    · cases e
      obtain ⟨a, u, w, rfl, h2, h3, h4⟩ := r.tup2
      exact ⟨a, [u, w], rfl, h2.seq, rfl, u, [w], rfl, w, [], rfl, rfl, q i H _ Gro.refl m ((l.set n h3).set k h4)⟩
    · cases e⟩
/-! ### for -/
theorem forG_sound {K : PySem.W.Frag} {mg : Str → Option Value} {src : Src} {g : GG} {tg : TG} {tb : TS} {i0 : List Addr} {H0 : Hp} {D : Ends} {J : It} {r0 : Fl × Mem} (st : SndT K C tg g) (sb : SndS K mg C W tb gb) (j : JR K C i0 H0 src J) (q : EndS K mg C W i0 H0 D r0)
    {L : Loc} {M : Mem} {σ : L2.St} (m : MemR K C i0 M H0) (l : LocR K i0 H0 L σ) (e : forG src.ok g gb src.items L M = some r0) :
    ∃ W' : Nat → Nat → L2.St → Hp → Prop, (∃ m, W' 0 m σ H0) ∧ ∀ i m σ H, W' i m σ H →
      (J.stop i H ∧ D.nx σ H) ∨ (J.go i H ∧ ∃ N : L2.St → Hp → Prop, (∀ σ' H', N σ' H' → ∃ m', m' < m ∧ W' (i + 1) m' σ' H') ∧ ∀ x H', J.yld i H x H' → tg x σ H' fun σ2 H2 => tb { D with nx := N, ct := N, bk := D.nx } σ2 H2) := by
  refine ⟨fun n k σ H => k = src.items.length - n ∧ n ≤ src.items.length ∧ ∃ i L M, Gro i0 H0 i H ∧ MemR K C i M H ∧ LocR K i H L σ ∧ forG src.ok g gb (src.items.drop n) L M = some r0, ⟨_, rfl, Nat.zero_le _, i0, L, M, Gro.refl, m, l, by simpa using e⟩, ?_⟩
  rintro n k σ H ⟨rfl, hn, i, L, M, gr, m, l, e⟩
  by_cases hlt : n < src.items.length
  · rw [List.drop_eq_getElem_cons hlt] at e
    unfold forG at e
    split at e
    · rename_i hok
      obtain ⟨j1, j2⟩ := j i H M n gr m hok
      obtain ⟨jg, jy⟩ := j1 src.items[n] (List.getElem?_eq_getElem hlt)
      cases hg : g src.items[n] L with
      | none =>
        rw [hg] at e
        cases e
      | some L1 =>
        rw [hg] at e
        dsimp only at e
        refine .inr ⟨jg, fun σ' H' => ∃ i L M, Gro i0 H0 i H' ∧ MemR K C i M H' ∧ LocR K i H' L σ' ∧ forG src.ok g gb (src.items.drop (n + 1)) L M = some r0, fun σ' H' ⟨i', L', M', z⟩ => ⟨src.items.length - (n + 1), by omega, rfl, hlt, i', L', M', z⟩, fun x H1 y => ?_⟩
        obtain ⟨g1, m1, rx⟩ := jy x H1 y
        refine st i L M σ H1 _ x L1 _ m1 (l.mono g1) rx hg fun i2 H2 σ2 g2 m2 l2 => ?_
        cases hb : gb L1 M with
        | none =>
          rw [hb] at e
          cases e
        | some z =>
          obtain ⟨f, M2⟩ := z
          rw [hb] at e
          have gg := (gr.trans g1).trans g2
          refine sb i2 L1 M σ2 H2 _ _ m2 l2 hb ?_
          cases f with
          | nx L2 => exact fun i3 H3 σ3 g3 m3 l3 => ⟨i3, L2, M2, gg.trans g3, m3, l3, e⟩
          | ct L2 => exact fun i3 H3 σ3 g3 m3 l3 => ⟨i3, L2, M2, gg.trans g3, m3, l3, e⟩
          | bk L2 =>
            cases e
            exact fun i3 H3 σ3 g3 m3 l3 => q i3 H3 σ3 (gg.trans g3) m3 l3
          | rt d =>
            cases e
            exact fun i3 H3 v g3 m3 r3 => q i3 H3 v (gg.trans g3) m3 r3
          | ex c L2 =>
            cases e
            exact fun i3 H3 σ3 cc hc g3 m3 l3 => q i3 H3 σ3 cc hc (gg.trans g3) m3 l3
    · cases e
  · have en : n = src.items.length := by omega
    subst en
    rw [List.drop_length] at e
    unfold forG at e
    split at e
    · rename_i hok
      cases e
      obtain ⟨j1, j2⟩ := j i H M src.items.length gr m hok
      exact .inl ⟨j2 (Nat.le_refl _), q i H σ gr m l⟩
    · cases e
theorem ss_for {tg iter : Expr} {gi : GI} {g : GG} (hp : PassesOwn (model X.prog X.w) X.A X.env X.xe) (hc : X.calm = true) (hi : SI X C W tg iter gi) (hg : STg X C tg g) (hb : SSs X C W body gb) (hs : ∀ x, foldedSetIterable iter X.env x = pure x := by intro _; rfl) :
    SS X C W (.For tg iter body [] pos) (mFor gi g gb) := by
  obtain ⟨t, p, s⟩ := hi.ex
  obtain ⟨t2, p2, s2⟩ := hg.ex
  obtain ⟨t3, p3, s3⟩ := hb.ex
  refine ⟨_, ps_for hp hc p p2 p3 hs, fun i L M σ H D r m l e q => ?_⟩
  refine s.stepS m l e q fun src M1 i1 H1 J g1 m1 l1 j e1 q1 => ?_
  exact forG_sound s2 s3 j q1 m1 l1 e1
/-! ### while -/
theorem whileF_mono (t : GT) (b : GS) : ∀ (n k : Nat) (L : Loc) (M : Mem) (r : Fl × Mem), whileF t b n L M = some r → whileF t b (n + k) L M = some r
  | 0, _, _, _, _, h => by
    unfold whileF at h
    cases h
  | n + 1, k, L, M, r, h => by
    rw [show n + 1 + k = (n + k) + 1 by omega]
    unfold whileF at h ⊢
    rcases bndS_some h with ⟨c, M1, h1, h2⟩ | ⟨c, M1, h1, h2⟩
    · rw [h1]
      simp only [bndS_ok]
      cases c with
      | false => exact h2
      | true =>
        simp only [if_pos] at h2 ⊢
        cases hb : b L M1 with
        | none =>
          rw [hb] at h2
          cases h2
        | some z =>
          obtain ⟨f, M2⟩ := z
          rw [hb] at h2
          cases f with
          | nx L2 => exact whileF_mono t b n k _ _ _ h2
          | ct L2 => exact whileF_mono t b n k _ _ _ h2
          | bk L2 => exact h2
          | rt d => exact h2
          | ex c L2 => exact h2
    · rw [h1, h2]
      rfl
theorem whileF_det {t : GT} {b : GS} {n k : Nat} {L : Loc} {M : Mem} {r r' : Fl × Mem} (h : whileF t b n L M = some r) (h' : whileF t b k L M = some r') : r = r' := by
  have a := whileF_mono t b n k L M r h
  have b := whileF_mono t b k n L M r' h'
  rw [Nat.add_comm k n] at b
  exact Option.some.inj (a.symm.trans b)
theorem mWhile_of {t : GT} {b : GS} {n : Nat} {L : Loc} {M : Mem} {r : Fl × Mem} (h : whileF t b n L M = some r) : mWhile t b L M = some r := by
  have ex : ∃ n, (whileF t b n L M).isSome = true := ⟨n, by rw [h]; rfl⟩
  unfold mWhile
  rw [dif_pos ex]
  have h2 := Classical.choose_spec ex
  cases h3 : whileF t b (Classical.choose ex) L M with
  | none =>
    rw [h3] at h2
    cases h2
  | some z => rw [whileF_det h3 h]
theorem of_mWhile {t : GT} {b : GS} {L : Loc} {M : Mem} {r : Fl × Mem} (h : mWhile t b L M = some r) : ∃ n, whileF t b n L M = some r := by
  unfold mWhile at h
  split at h
  · exact ⟨_, h⟩
  · cases h
theorem ss_while {gt : GT} (hp : PassesOwn (model X.prog X.w) X.A X.env X.xe) (hc : ST X C W c gt) (hb : SSs X C W body gb) : SS X C W (.While c body [] pos) (mWhile gt gb) := by
  obtain ⟨t, p, s⟩ := hc.ex
  obtain ⟨u, p2, s2⟩ := hb.ex
  refine ⟨_, ps_while hp p p2, fun i0 L M σ H0 D r0 m l e q => ?_⟩
  obtain ⟨n0, e0⟩ := of_mWhile e
  refine ⟨fun n σ H => ∃ i L M, Gro i0 H0 i H ∧ MemR X.K C i M H ∧ LocR X.K i H L σ ∧ whileF gt gb n L M = some r0, ⟨n0, i0, L, M, Gro.refl, m, l, e0⟩, ?_⟩
  rintro n σ H ⟨i, L, M, gr, m, l, e⟩
  cases n with
  | zero =>
    unfold whileF at e
    cases e
  | succ n =>
    unfold whileF at e
    refine s.stepS m l e (q.go gr) fun b M1 i1 H1 x g1 m1 l1 rx e1 q1 => ?_
    cases rx
    cases b with
    | false =>
      cases e1
      exact q1 i1 H1 σ Gro.refl m1 l1
    | true =>
      simp only [if_pos] at e1
      refine ⟨fun σ' H' => ∃ i L M, Gro i0 H0 i H' ∧ MemR X.K C i M H' ∧ LocR X.K i H' L σ' ∧ whileF gt gb n L M = some r0, fun σ' H' z => ⟨n, Nat.lt_succ_self _, z⟩, ?_⟩
      cases hb : gb L M1 with
      | none =>
        rw [hb] at e1
        cases e1
      | some z =>
        obtain ⟨f, M2⟩ := z
        rw [hb] at e1
        have gg := gr.trans g1
        refine s2 i1 L M1 σ H1 _ _ m1 l1 hb ?_
        cases f with
        | nx L2 => exact fun i3 H3 σ3 g3 m3 l3 => ⟨i3, L2, M2, gg.trans g3, m3, l3, e1⟩
        | ct L2 => exact fun i3 H3 σ3 g3 m3 l3 => ⟨i3, L2, M2, gg.trans g3, m3, l3, e1⟩
        | bk L2 =>
          cases e1
          exact fun i3 H3 σ3 g3 m3 l3 => q i3 H3 σ3 (gg.trans g3) m3 l3
        | rt d =>
          cases e1
          exact fun i3 H3 v g3 m3 r3 => q i3 H3 v (gg.trans g3) m3 r3
        | ex c L2 =>
          cases e1
          exact fun i3 H3 σ3 cc hc g3 m3 l3 => q i3 H3 σ3 cc hc (gg.trans g3) m3 l3
end
end BL
/-! BLComp: comprehensions; a def's promise. -/
namespace BL
open PySem L2

abbrev W0 : WX := fun _ _ _ _ => False
/-- a reading made of the machine's step -/
def tG {α β : Type} (K : PySem.W.Frag) (mg : Str → Option Value) (C : Addr) (W : WX) (R : List Addr → Hp → α → β → Prop) (g : Loc → Mem → Option (Rz α)) : L2.St → Hp → (β → Hp → Prop) → Prop :=
  fun σ H Q => ∃ i L M r, MemR K C i M H ∧ LocR K i H L σ ∧ g L M = some r ∧ EndG K mg C W R i H σ Q r
section
variable {X : Cx} {C : Addr} {W : WX}
theorem SE.pe {e : Expr} {g : GE} (h : SE X C W e g) : PE X e (tG X.K X.mg C W (DV X.K) g) := by
  obtain ⟨t, p, s⟩ := h.ex
  exact ⟨fun pins sh σ H Q I ⟨i, L, M, r, m, l, e, q⟩ => p.run pins sh σ H Q I (s i L M σ H r Q m l e q)⟩
theorem ST.pt {e : Expr} {g : GT} (h : ST X C W e g) : PT X e (tG X.K X.mg C W RB g) := by
  obtain ⟨t, p, s⟩ := h.ex
  exact ⟨fun pins sh σ H Q I ⟨i, L, M, r, m, l, e, q⟩ => p.run pins sh σ H Q I (s i L M σ H r Q m l e q)⟩
theorem pts_imp {ifs : List Expr} {t t' : TT} (h : PTs X ifs t) (i : ∀ σ H Q, t' σ H Q → t σ H Q) : PTs X ifs t' := ⟨fun pins s σ H Q I hw => h.run pins s σ H Q I (i σ H Q hw)⟩
theorem MemR.app {K : PySem.W.Frag} {i : List Addr} {M : Mem} {H : Hp} (m : MemR K C i M H) {p : Addr} {ob : Ob} (hp : p ∉ i) (r : ObR K C (i ++ [p]) H p ob) : MemR K C (i ++ [p]) (M ++ [ob]) H := by
  have mo : Mon i H (i ++ [p]) H := ⟨⟨[p], rfl⟩, fun _ _ h => h, fun _ _ _ h => h⟩
  refine ⟨by simp [m.len], ?_, fun n o' a h1 h2 => ?_⟩
  · rw [List.nodup_append]
    refine ⟨m.nd, by simp, fun a ha b hb => ?_⟩
    have : b = p := by simpa using hb
    subst this
    intro e
    subst e
    exact hp ha
  · by_cases hn : n < M.length
    · rw [List.getElem?_append_left hn] at h1
      rw [List.getElem?_append_left (by rw [m.len]; exact hn)] at h2
      exact ob_mono mo (fun u e => e) (m.ob n o' a h1 h2)
    · have e1 : n = M.length := by
        have := (List.getElem?_eq_some_iff.mp h1).1
        simp at this
        omega
      subst e1
      rw [List.getElem?_append_right (Nat.le_refl _), Nat.sub_self] at h1
      rw [List.getElem?_append_right (by rw [m.len]; exact Nat.le_refl _), m.len, Nat.sub_self] at h2
      have e2 : ob = o' := Option.some.inj h1
      have e3 : p = a := Option.some.inj h2
      subst e2 e3
      exact r
theorem dl_append {K : PySem.W.Frag} {i : List Addr} {H : Hp} {d : D} {v : V} (r : DV K i H d v) : ∀ {ds : List D} {vs : List V}, DLs K i H ds vs → DLs K i H (ds ++ [d]) (vs ++ [v])
  | [], vs, h => by
    simp only [DLs] at h
    subst h
    simp only [List.nil_append, DLs]
    exact ⟨v, [], rfl, r, rfl⟩
  | x :: ds, vs, h => by
    simp only [DLs] at h
    obtain ⟨v', r', h1, h2, h3⟩ := h
    subst h1
    simp only [List.cons_append, DLs]
    exact ⟨v', _, rfl, h2, dl_append r h3⟩
theorem wipe_loc {K : PySem.W.Frag} {i : List Addr} {H : Hp} {L : Loc} {σ : L2.St} (l : LocR K i H L σ) : ∀ vs : List Nat, LocR K i H (wipeL L vs) (wipe σ vs)
  | [] => l
  | v :: vs => (wipe_loc l vs).forget v
theorem lcG_sound {K : PySem.W.Frag} {mg : Str → Option Value} {src : Src} {g : GG} {tg : TG} {tt : TT} {te : TE} {gt : GT} {ge : GE} {vs : List Nat} {i0 : List Addr} {H0 : Hp} {J : It} {ys : List D} {Mf : Mem} {Q : VK} {σ : L2.St} {L : Loc} {M : Mem}
    (st : SndC K C vs tg g) (sc : SndG K mg C W0 RB tt gt) (se : SndG K mg C W0 (DV K) te ge) (j : JR K C i0 H0 src J) (m : MemR K C i0 M H0) (l : LocR K i0 H0 L σ) (e : lcG src.ok g gt ge (wipeL L vs) src.items M = some (ys, Mf))
    (hy : ys.length < 16000000) (q : ∀ i' H' z, Gro i0 H0 i' H' → MemR K C i' (Mf ++ [.lst ys]) H' → DV K i' H' (.ref Mf.length) z → Q z H') (D : Addr) (hD : H0 D = none) :
    ∃ W' : Nat → Nat → Hp → Prop, (∃ m, W' 0 m (upd H0 D (.lst []))) ∧ ∀ i m H, W' i m H →
      (J.stop i H ∧ Q (.ref D) H) ∨ (J.go i H ∧ ∃ Nx : Hp → Prop, (∀ H', Nx H' → ∃ m', m' < m ∧ W' (i + 1) m' H') ∧ ∀ x H', J.yld i H x H' → tg x (wipe σ vs) H' fun σ2 H2 => wipe σ2 vs = wipe σ vs ∧ tt σ2 H2 fun b H3 =>
        if b = true then te σ2 H3 fun y H4 => ∃ acc, H4 D = some (.lst acc) ∧ acc.length < sizeLine ∧ Nx (upd H4 D (.lst (acc ++ [y]))) else Nx H3) := by
  refine ⟨fun n k H => k = src.items.length - n ∧ n ≤ src.items.length ∧ ∃ i M acc da ys2, Gro i0 H0 i H ∧ MemR K C i M H ∧ H D = some (.lst acc) ∧ D ∉ i ∧ DLs K i H da acc ∧ lcG src.ok g gt ge (wipeL L vs) (src.items.drop n) M = some (ys2, Mf) ∧ da ++ ys2 = ys,
    ⟨_, rfl, Nat.zero_le _, i0, M, [], [], ys, ext_new hD, m.new hD, upd_same, m.ne hD, by simp only [DLs], by simpa using e, rfl⟩, ?_⟩
  rintro n k H ⟨rfl, hn, i, M, acc, da, ys2, gr, m, eD, nD, ra, e, ey⟩
  by_cases hlt : n < src.items.length
  · rw [List.drop_eq_getElem_cons hlt] at e
    unfold lcG at e
    split at e
    · rename_i hok
      obtain ⟨j1, j2⟩ := j i H M n gr m hok
      obtain ⟨jg, jy⟩ := j1 src.items[n] (List.getElem?_eq_getElem hlt)
      refine .inr ⟨jg, fun H' => ∃ i M acc da ys2, Gro i0 H0 i H' ∧ MemR K C i M H' ∧ H' D = some (.lst acc) ∧ D ∉ i ∧ DLs K i H' da acc ∧ lcG src.ok g gt ge (wipeL L vs) (src.items.drop (n + 1)) M = some (ys2, Mf) ∧ da ++ ys2 = ys,
        fun H' z => ⟨src.items.length - (n + 1), by omega, rfl, hlt, z⟩, fun x H1 y => ?_⟩
      obtain ⟨g1, m1, rx⟩ := jy x H1 y
      cases hg : g src.items[n] (wipeL L vs) with
      | none =>
        rw [hg] at e
        cases e
      | some L1 =>
        rw [hg] at e
        dsimp only [Option.bind] at e
        have gr1 := gr.trans g1
        refine st i L M σ H1 _ x L1 _ m1 (wipe_loc (l.mono gr1) vs) rx hg fun i2 H2 σ2 g2 m2 l2 hw => ⟨hw, ?_⟩
        have gr2 := gr1.trans g2
        -- the list stands where it was
        have keepD : ∀ {i' : List Addr} {H' : Hp}, Gro i H i' H' → H' D = some (.lst acc) ∧ D ∉ i' := fun {i' H'} gg => ⟨gg.fr _ _ eD nD, fun z => by
          rcases gg.new D z with z | z
          · exact nD z
          · rw [eD] at z
            cases z⟩
        cases hc : okO (gt L1 M) with
        | none =>
          rw [hc] at e
          cases e
        | some pc =>
          obtain ⟨c, M1⟩ := pc
          have hc' := okO_some hc
          rw [hc] at e
          dsimp only at e
          refine sc i2 L1 M σ2 H2 _ _ m2 l2 hc' ?_
          intro i3 H3 b g3 m3 rb
          cases rb
          have gi3 : Gro i H i3 H3 := (g1.trans g2).trans g3
          have gr3 := gr.trans gi3
          cases c with
          | false =>
            rw [if_neg Bool.false_ne_true] at e
            show (if false = true then _ else _)
            rw [if_neg Bool.false_ne_true]
            obtain ⟨k1, k2⟩ := keepD gi3
            exact ⟨i3, M1, acc, da, ys2, gr3, m3, k1, k2, ra.mono gi3, e, ey⟩
          | true =>
            rw [if_pos rfl] at e
            show (if true = true then _ else _)
            rw [if_pos rfl]
            cases hq : okO (ge L1 M1) with
            | none =>
              rw [hq] at e
              cases e
            | some pq =>
              obtain ⟨d, M2⟩ := pq
              have hq' := okO_some hq
              rw [hq] at e
              dsimp only at e
              refine se i3 L1 M1 σ2 H3 _ _ m3 (l2.mono g3) hq' ?_
              intro i4 H4 v g4 m4 rv
              have gi4 := gi3.trans g4
              have gr4 := gr.trans gi4
              obtain ⟨k1, k2⟩ := keepD gi4
              cases hz : lcG src.ok g gt ge (wipeL L vs) (src.items.drop (n + 1)) M2 with
              | none =>
                rw [hz] at e
                cases e
              | some pz =>
                obtain ⟨zs, Mz⟩ := pz
                rw [hz] at e
                dsimp only at e
                have e' := Option.some.inj e
                cases e'
                have hlen : acc.length < sizeLine := by
                  have h1 := ra.length
                  have h2 : da.length ≤ ys.length := by rw [← ey, List.length_append]; omega
                  rw [PySem.sizeLine_eq]
                  omega
                refine ⟨acc, k1, hlen, i4, M2, acc ++ [v], da ++ [d], zs, ?_, ?_, upd_same, k2, ?_, hz, by rw [← ey]; simp⟩
                · refine ⟨gr4.pre, gr4.new, fun a o ha hi => ?_, fun a xs ha => ?_, fun a o u ha => ?_⟩
                  · rw [upd_ne (ne_of_none ha hD)]
                    exact gr4.fr a o ha hi
                  · rw [upd_ne (ne_of_none ha hD)]
                    exact gr4.tups a xs ha
                  · rw [upd_ne (ne_of_none ha hD)]
                    exact gr4.frzs a o u ha
                · refine ⟨m4.len, m4.nd, fun n' o' a h1 h2 => ?_⟩
                  refine ob_mono ⟨⟨[], by simp⟩, fun a xs ha => ?_, fun a o u ha => ?_⟩ (fun u hu => ?_) (m4.ob n' o' a h1 h2)
                  · rw [upd_ne (ne_of ha k1 (by intro z; cases z))]
                    exact ha
                  · rw [upd_ne (ne_of ha k1 (by intro z; cases z))]
                    exact ha
                  · rw [upd_ne fun z => k2 (by rw [← z]; exact List.mem_of_getElem? h2)]
                    exact hu
                · have mo : Mon i4 H4 i4 (upd H4 D (.lst (acc ++ [v]))) := ⟨⟨[], by simp⟩, fun a xs ha => by rw [upd_ne (ne_of ha k1 (by intro z; cases z))]; exact ha, fun a o u ha => by rw [upd_ne (ne_of ha k1 (by intro z; cases z))]; exact ha⟩
                  exact dl_mono mo _ _ (dl_append rv (ra.mono gi4))
    · cases e
  · have en : n = src.items.length := by omega
    subst en
    rw [List.drop_length] at e
    unfold lcG at e
    split at e
    · rename_i hok
      cases e
      obtain ⟨j1, j2⟩ := j i H Mf src.items.length gr m hok
      rw [List.append_nil] at ey
      subst ey
      refine .inl ⟨j2 (Nat.le_refl _), q (i ++ [D]) H _ ?_ (m.app nD ⟨acc, eD, ?_⟩) ?_⟩
      · obtain ⟨ll, el⟩ := gr.pre
        refine ⟨⟨ll ++ [D], by rw [el, List.append_assoc]⟩, fun a ha => ?_, gr.fr, gr.tups, gr.frzs⟩
        rcases List.mem_append.mp ha with z | z
        · exact gr.new a z
        · have : a = D := by simpa using z
          subst this
          exact .inr hD
      · exact dl_mono ⟨⟨[D], rfl⟩, fun _ _ h => h, fun _ _ _ h => h⟩ _ _ ra
      · simp only [DV]
        exact ⟨D, by rw [← m.len, List.getElem?_append_right (Nat.le_refl _), Nat.sub_self]; rfl, rfl⟩
    · cases e
variable {elt tgE iter : Expr} {ifs : List Expr} {scope : Scope} {own : List (Str × Nat)} {pos : Pos} {gi : GI} {g : GG} {tg : TG} {gt : GT} {ge : GE}
theorem lc_snd {wi : TI} {tt : TT} {te : TE} {vs : List Nat} (si : SndG X.K X.mg C W (JR X.K C) wi gi) (st : SndC X.K C vs tg g) (sc : SndG X.K X.mg C W0 RB tt gt) (se : SndG X.K X.mg C W0 (DV X.K) te ge) :
    SndG X.K X.mg C W (DV X.K) (tLc wi tg tt te vs) (mLc gi g gt ge vs) := fun i L M σ H r Q m l e q => by
  refine si.step m l e q fun src M1 i1 H1 J g1 m1 l1 j e1 q1 => ?_
  intro D hD
  obtain ⟨d, M', h1, h2⟩ := snd_ret e1 q1
  cases hl : lcG src.ok g gt ge (wipeL L vs) src.items M1 with
  | none =>
    rw [hl] at h1
    cases h1
  | some pz =>
    obtain ⟨ys, Mf⟩ := pz
    rw [hl] at h1
    dsimp only [Option.bind] at h1
    unfold oLstBig at h1
    split at h1
    · rename_i hy
      cases h1
      exact lcG_sound st sc se j m1 l1 hl hy h2 D hD
    · cases h1
theorem snd_tG {α β : Type} {K : PySem.W.Frag} {mg : Str → Option Value} {R : List Addr → Hp → α → β → Prop} {g : Loc → Mem → Option (Rz α)} : SndG K mg C W R (tG K mg C W R g) g := fun i L M σ H r Q m l e q => ⟨i, L, M, r, m, l, e, q⟩
theorem se_lc (hc : X.calm = true) (hN : X.N.Nodup) (hi : SI X C W tgE iter gi) (ok : BlkOk X.N X.env.scope scope own)
    (hg : ∀ (s : Shared) (H : Hp) (Cc : Addr) (cl : List (Str × Addr)) (fp : List Addr), PG (X.blk s H scope (PySem.compEnvC scope cl Cc X.env) fp) tgE tg) (sg : SndC X.K C (own.map (·.2)) tg g)
    (ht : ∀ (s : Shared) (H : Hp) (Cc : Addr) (cl : List (Str × Addr)) (fp : List Addr), PTs (X.blk s H scope (PySem.compEnvC scope cl Cc X.env) fp) ifs (tG X.K X.mg C W0 RB gt))
    (he : ∀ (s : Shared) (H : Hp) (Cc : Addr) (cl : List (Str × Addr)) (fp : List Addr), SE (X.blk s H scope (PySem.compEnvC scope cl Cc X.env) fp) C W0 elt ge) (hs : ∀ x, foldedSetIterable iter X.env x = pure x := by intro _; rfl) :
    SE X C W (.ListComp elt [⟨tgE, iter, ifs, 0⟩] scope pos) (mLc gi g gt ge (own.map (·.2))) := by
  obtain ⟨wi, pi, si⟩ := hi.ex
  have he' : ∀ (s : Shared) (H : Hp) (Cc : Addr) (cl : List (Str × Addr)) (fp : List Addr), PE (X.blk s H scope (PySem.compEnvC scope cl Cc X.env) fp) elt (tG X.K X.mg C W0 (DV X.K) ge) := fun s H Cc cl fp => (he s H Cc cl fp).pe
  exact ⟨_, pe_lc hc hN pi ok hg ht he' hs, lc_snd si sg snd_tG snd_tG⟩
theorem ss_setLc {n : Nat} {y : Str} {py spos : Pos} (hc : X.calm = true) (hN : X.N.Nodup) (hy : X.N[n]? = some y) (hyl : X.env.scope.names.lookup y = some .local)
    (hsw : swapsWith (.ListComp elt [⟨tgE, iter, ifs, 0⟩] scope pos) (some (.Name y py)) spos.line X.env = pure true) (hi : SI X C W tgE iter gi) (ok : BlkOk X.N X.env.scope scope own)
    (hg : ∀ (s : Shared) (H : Hp) (Cc : Addr) (cl : List (Str × Addr)) (fp : List Addr), PG (X.blk s H scope (PySem.compEnvC scope cl Cc X.env) fp) tgE tg) (sg : SndC X.K C (own.map (·.2)) tg g)
    (ht : ∀ (s : Shared) (H : Hp) (Cc : Addr) (cl : List (Str × Addr)) (fp : List Addr), PTs (X.blk s H scope (PySem.compEnvC scope cl Cc X.env) fp) ifs (tG X.K X.mg C W0 RB gt))
    (he : ∀ (s : Shared) (H : Hp) (Cc : Addr) (cl : List (Str × Addr)) (fp : List Addr), SE (X.blk s H scope (PySem.compEnvC scope cl Cc X.env) fp) C W0 elt ge) (hs : ∀ x, foldedSetIterable iter X.env x = pure x := by intro _; rfl) :
    SS X C W (.Assign [.Name y py] (.ListComp elt [⟨tgE, iter, ifs, 0⟩] scope pos) spos) (mSet n (mLc gi g gt ge (own.map (·.2)))) := by
  obtain ⟨wi, pi, si⟩ := hi.ex
  have he' : ∀ (s : Shared) (H : Hp) (Cc : Addr) (cl : List (Str × Addr)) (fp : List Addr), PE (X.blk s H scope (PySem.compEnvC scope cl Cc X.env) fp) elt (tG X.K X.mg C W0 (DV X.K) ge) := fun s H Cc cl fp => (he s H Cc cl fp).pe
  refine ⟨_, ps_setLc hc hN hy hyl hsw pi ok hg ht he' hs, fun i L M σ H D r m l e q => ?_⟩
  refine (lc_snd si sg snd_tG snd_tG).stepS m l e q fun dx M1 i1 H1 x g1 m1 l1 rx e1 q1 => ?_
  cases e1
  exact q1 i1 H1 _ Gro.refl m1 (l1.set n rx)
theorem sc_name {K : PySem.W.Frag} (n : Nat) : SndC K C [n] (L2.gName n) (mName n) := fun i L M σ H d v L1 Q m l r e q => by
  cases e
  refine q i H _ Gro.refl m (l.set n r) ?_
  show ((σ.set n none).set n (some v)).set n none = σ.set n none
  rw [List.set_set, List.set_set]
theorem sc_name2 {K : PySem.W.Frag} (n k : Nat) (hnk : n ≠ k) : SndC K C [n, k] (gTup K 2 (L2.gCons (L2.gName n) (L2.gCons (L2.gName k) L2.gNil))) (mName2 n k) := fun i L M σ H d v L1 Q m l r e q => by
  unfold mName2 at e
  split at e
  · cases e
    obtain ⟨a, u, w, rfl, h2, h3, h4⟩ := r.tup2
    refine ⟨a, [u, w], rfl, h2.seq, rfl, u, [w], rfl, w, [], rfl, rfl, q i H _ Gro.refl m ((l.set n h3).set k h4) ?_⟩
    show (((((σ.set k none).set n none).set n (some u)).set k (some w)).set k none).set n none = (σ.set k none).set n none
    rw [List.set_set, List.set_set, List.set_comm _ _ hnk, List.set_set, List.set_set]
  · cases e
theorem st_yes {ifs : List Expr} (h : PTs X ifs tYes) : PTs X ifs (tG X.K X.mg C W0 RB mYes) := pts_imp h fun σ H Q ⟨i, L, M, r, m, l, e, q⟩ => by
  cases e
  exact q i H true Gro.refl m rfl
theorem mYes_ok (L : Loc) (M : Mem) : mYes L M = some (.ok true M) := rfl
/-! ### a def -/
section
variable {P : Program} {w : World} {K : PySem.W.Frag} {mg : Str → Option Value} {base : Heap}
theorem start_loc {i : List Addr} {H : Hp} {N : List Str} {ds : List D} {vs : List V} (h : DLs K i H ds vs) : LocR K i H (ds.map some ++ List.replicate (N.length - ds.length) none) (L2.start N vs) := by
  refine ⟨by unfold L2.start; simp [h.length], fun n d hn => ?_⟩
  have key : ∀ (ds : List D) (vs : List V) (n : Nat) (d : D), DLs K i H ds vs → ds[n]? = some d → ∃ v, vs[n]? = some v ∧ DV K i H d v := by
    intro ds
    induction ds with
    | nil => intro vs n d _ h; simp at h
    | cons x ds ih =>
      intro vs n d h hn
      simp only [DLs] at h
      obtain ⟨v, r, h1, h2, h3⟩ := h
      subst h1
      cases n with
      | zero =>
        have e : x = d := by simpa using hn
        subst e
        exact ⟨v, rfl, h2⟩
      | succ n => exact ih r n d h3 (by simpa using hn)
  by_cases hl : n < ds.length
  · rw [List.getElem?_append_left (by simpa using hl), List.getElem?_map] at hn
    cases hd : ds[n]? with
    | none =>
      rw [hd] at hn
      cases hn
    | some d' =>
      rw [hd] at hn
      have e : d' = d := by simpa using hn
      subst e
      obtain ⟨v, h1, h2⟩ := key ds vs n d' h hd
      refine ⟨v, ?_, h2⟩
      unfold L2.start
      rw [List.getElem?_append_left (by simpa [← h.length] using hl), List.getElem?_map, h1]
      rfl
  · rw [List.getElem?_append_right (by simpa using hl)] at hn
    rw [List.getElem?_replicate] at hn
    split at hn <;> simp at hn
/-- THE RULE for a def -/
theorem ok_def {x qual : Str} {st : Stmt} {f : Addr} {fd : FuncData} {N ps : List Str} {k : Nat} {body : GS} (F : Fun K x qual st f fd) (S : FnScope N ps (defScope st)) 
    (hbody : ∀ (cdv : Value) (A : Around) (outer : List Env) (s : Shared) (H : Hp) (E : XK), Room k (A.deeper (PyProof.Rows.envOfC qual (defScope st) s.heap.objs.size f cdv)) →
      SSs (cxOf (L2.CX P w) P w K mg base N qual (defScope st) f cdv A outer s H E) C (fun c d _ H' => E c d H') (defBody st) body) : FnOk P w K mg base (L2.CX P w) (k + 1) f fd ps (spG K mg C (mDef ps.length N.length body)) := by
  refine F.okX S (fun vs H Q E h => ?_) (fun cdv A outer s H vs Q E hr h => ?_)
  · obtain ⟨i, M, ds, r, m, rl, e, q⟩ := h
    rw [← rl.length]
    exact mDef_len e
  · obtain ⟨i, M, ds, r, m, rl, e, q⟩ := h
    obtain ⟨t, p, sd⟩ := (hbody cdv A outer s H E hr).ex
    have hl := mDef_len e
    unfold mDef at e
    rw [if_pos hl] at e
    cases hb : body (ds.map some ++ List.replicate (N.length - ps.length) none) M with
    | none =>
      rw [hb] at e
      cases e
    | some z =>
      obtain ⟨fl, M1⟩ := z
      rw [hb] at e
      refine ⟨t, p, sd i _ M _ H _ _ m (start_loc rl) (by rw [← hl] at hb; exact hb) ?_⟩
      cases fl with
      | nx L1 =>
        cases e
        exact fun i' H' σ' g m' l' => q i' H' .non g m' (by simp only [DV])
      | rt d =>
        cases e
        exact fun i' H' v g m' rv => q i' H' v g m' rv
      | ex c L1 =>
        cases e
        exact fun i' H' σ' cc hc g m' l' => q i' H' cc hc g m'
      | bk L1 => cases e
      | ct L1 => cases e
end
end
end BL
/-! BLIter: what loops walk. -/
namespace PySem
open Sem (wp)
open AutoSeq1 (wpAny_loadPart')
theorem bl_meets_enumT {v : Value} {o : Obj} {H : Heap → Prop} (B : Begins v o H) :
    Meets (Builtin.«enumerate.__new__» ⟨[.type "enumerate", v], []⟩) (fun _ R s => H s.heap ∧
      R (.ok (.ret (.ref (s.heap.push o).objs.size))) { s with heap := (s.heap.push o).push { cls := .type "enumerate", data := .fields #[.none, .bool false, .ref s.heap.objs.size, rawInt 0, .none, .none] } }) :=
  .of_wp fun prog w A R s h => by
    obtain ⟨hp, g, d, tk, os⟩ := s; obtain ⟨h1, h⟩ := h
    have hsub := sub_enumerate
    have q1 : ∀ {A' : Around} {E : Value → Shared → Prop} {Q : Value → Shared → Prop}, Q (.ref hp.objs.size) ⟨hp.push o, g, d, tk, os⟩ → wpAny (model prog w) A' (pyIter v) Q E ⟨hp, g, d, tk, os⟩ :=
      fun q => B.iter prog w _ _ ⟨hp, g, d, tk, os⟩ _ h1 q
    wp_walk using q1
    refine wpAny_stack_any fun st => wpAny_pure ?_
    split
    · rename_i c _ _ _ _ _
      cases (c == Value.type "enumerate")
      · wp_walk using q1
        exact ⟨_, rfl, h⟩
      · wp_walk using q1
        exact ⟨_, rfl, h⟩
    · wp_walk using q1
      exact ⟨_, rfl, h⟩
theorem bl_call_enumT {prog : Program} {w : World} {A : Around} {E : Value → Shared → Prop} {s : Shared} {v : Value} {o : Obj} {H : Heap → Prop} {Q : Value → Shared → Prop} (B : Begins v o H) (h1 : H s.heap)
    (h : ∀ h', IsEnum h' (s.heap.objs.size + 1) s.heap.objs.size 0 .none → h'.get? s.heap.objs.size = some o → h'.objs.size = s.heap.objs.size + 2 →
      (∀ b o, s.heap.get? b = some o → h'.get? b = some o) → Q (.ref (s.heap.objs.size + 1)) { s with heap := h' }) :
    wpAny (model prog w) A (call (.type "enumerate") [v]) Q E s := by
  refine callType_new F.called_enumerate (by decide) (F.typeCall_enumerate_1 _) (F.newCall_enumerate_1 _) (fun obj => F.args_object_init_2 obj _) F.entry_enumerate_new (bl_meets_enumT B) ⟨h1, ?_⟩
  have hz : (s.heap.push o).objs.size = s.heap.objs.size + 1 := Heap.size_push ..
  show _ ∧ _
  rw [hz]
  have he : IsEnum ((s.heap.push o).push { cls := .type "enumerate", data := .fields #[.none, .bool false, .ref s.heap.objs.size, rawInt 0, .none, .none] }) (s.heap.objs.size + 1) s.heap.objs.size 0 .none := by
    have := Heap.get?_push_size (s.heap.push o) (o := { cls := .type "enumerate", data := .fields #[.none, .bool false, .ref s.heap.objs.size, rawInt 0, .none, .none] }) rfl
    rw [hz] at this; exact this
  refine ⟨⟨_, he, rfl⟩, h _ he (Heap.get?_push_of_some _ (Heap.get?_push_size _ B.free)) (by rw [Heap.size_push, hz]) fun b o x => Heap.get?_push_of_some _ (Heap.get?_push_of_some _ x)⟩
end PySem
namespace BL
open PySem L2

/-- a tuple's items in new pairs -/
def IteT (K : PySem.W.Frag) (a : Addr) : It :=
  ⟨fun i H => ∃ (xs : List V) (x : V), SqT K H a xs ∧ xs[i]? = some x, fun i H v H' => ∃ T x, v = .ref T ∧ H T = none ∧ H' = upd H T (.tup [.int (i : Nat), x]) ∧ ∀ xs, SqT K H a xs → xs[i]? = some x, fun i H => ∃ xs : List V, SqT K H a xs ∧ xs.length ≤ i⟩
theorem turn_enumT {P : Program} {w : World} {K : PySem.W.Frag} {elts : List Expr} {kk : Nat} {tpos : Pos} (a e it : Addr) :
    Turn P w K (.Tuple elts kk tpos) (IteT K a) [e, it] e (fun i h => (∃ old, IsEnum h e it ((i : Nat) : Int) old) ∧ h.IsTupleIter it a i ∧ e ≠ it ∧ a ≠ it ∧ a ≠ e) where
  mem := by simp
  obj := fun i h st b hb => by
    obtain ⟨⟨old, he⟩, ⟨o, ho, hc, hd⟩, _⟩ := st
    have e' : b = e ∨ b = it := by simpa using hb
    rcases e' with z | z
    · rw [z]; exact ⟨_, he, fun v q => nomatch q⟩
    · rw [z]; exact ⟨o, ho, fun v q => by rw [hd] at q; cases q⟩
  keep := fun i h h' st k => let ⟨⟨old, he⟩, hi, hne⟩ := st; ⟨⟨old, k e (by simp) _ he⟩, hi.at fun o q => k it (by simp) o q, hne⟩
  item := by
    intro X hP hw hK hc i pins s σ H E I hf st hg
    subst hP hw hK
    obtain ⟨⟨old, he⟩, hit, hne, hat, hae⟩ := st
    obtain ⟨xs, x, hq, hx⟩ := hg
    obtain ⟨its, rv, p, hz⟩ := I.tuple hq
    obtain ⟨u, hu, ru⟩ := rv.get hx
    have hel : e < s.heap.objs.size := Heap.lt_size he
    have hil : it < s.heap.objs.size := by obtain ⟨_, q, _⟩ := hit; exact Heap.lt_size q
    have hlt : i < its.toArray.size := by
      have := (List.getElem?_eq_some_iff.mp hx).1
      simp only [List.size_toArray, ← rv.length]
      exact this
    have D := Draws.tuple (prog := X.prog) (w := X.w) (A := X.A.in1) (show X.A.in1.handled = none from I.ok.hd hc) it a hat its.toArray
    refine wpAny_pyNext_enum_itemD D he ⟨hit, p⟩ hlt hne (by simp [hne, Ne.symm hae]) fun y h' tk hP ho hst hT hsz hk => ?_
    have ey : y = u := by
      have h2 : its.toArray[i]? = some u := by simpa using hu
      exact Option.some.inj (hP.symm.trans h2)
    subst ey
    refine ⟨_, rfl, wpAny_letOwnedTupleGo_enum (s := { s with heap := h', toks := tk + 1 }) ho fun h'' he' sb => ?_⟩
    have hT2 : h''.get? s.heap.objs.size = some { cls := .type "tuple", data := .seq #[.int i tk, y] } := (sb.2 _ (Nat.ne_of_gt hel)).trans hT
    have new : ObjOk X.prog X.w (upd H s.heap.objs.size (.tup [.int (i : Nat), x])) h'' s.heap.objs.size (.tup [.int (i : Nat), x]) :=
      ⟨by show 2 ≤ sizeLine; decide, [.int i tk, y], .cons ⟨_, rfl⟩ (.cons ru .nil), ⟨_, hT2, rfl, _, rfl⟩⟩
    have I1 : Inv X pins σ (upd H s.heap.objs.size (.tup [.int (i : Nat), x])) { s with heap := h'', toks := tk + 1 } :=
      I.turnedNew (ch := [e, it]) (fun b ob hb q => (sb.2 b (fun z => hb (by simp [z]))).trans (hk b ob (fun z => hb (by simp [z])) (fun z => hb (by simp [z])) q)) hf (Nat.le_refl _) new
    refine ⟨.ref s.heap.objs.size, _, I1, rfl, ⟨_, x, rfl, I.hok.fresh (Nat.le_refl _), rfl, fun ys hy => by rw [I.tuple_inj hy hq]; exact hx⟩, ⟨⟨y, ?_⟩, hst.1.at fun o q => (sb.2 it (Ne.symm hne)).trans q, hne, hat, hae⟩, fun b hb => ?_⟩
    · have e1 : ((i + 1 : Nat) : Int) = (i : Int) + 1 := by omega
      rw [e1]; exact he'
    · have hb' : b < s.heap.objs.size := by
        have e' : b = e ∨ b = it := by simpa using hb
        rcases e' with z | z
        · rw [z]; exact hel
        · rw [z]; exact hil
      rw [upd_ne (Nat.ne_of_lt hb')]
      exact (hf b hb).1
  done := by
    intro X hP hw hK hc i pins s σ H E I hf st hg
    subst hP hw hK
    obtain ⟨⟨old, he⟩, hit, hne, hat, hae⟩ := st
    obtain ⟨xs, hq, hx⟩ := hg
    obtain ⟨its, rv, p, hz⟩ := I.tuple hq
    obtain ⟨f0, f1, f2, f3, f4, f5⟩ := hf it (by simp)
    have hl := rv.length
    have hT : s.TypeIs (.ref e) "enumerate" := ⟨_, he, rfl⟩
    unfold pyNext
    refine wpAny_bind (wpAny_attempt (wpAny_callSpecial?_slot (name := Str.ofString "__next__") hT F.slot_enumerate_next
      (wpAny_call_entry F.slot_enumerate_next hT F.entry_enumerate_next ?_ (F.args_enumerate_next_1 _))))
    show wpAny _ _ (field (.ref e) 2 >>= _) _ _ _
    refine wpAny_bind (wpAny_field he rfl (x := .ref it) rfl ?_)
    refine wpAny_bind (wpAny_nextOf_tuple_end (show X.A.in1.handled = none from I.ok.hd hc) hit p (by simp; omega) fun h' x he' hx' => ?_)
    obtain ⟨o, ho, hc'⟩ := hx'
    refine wpAny_bind (wpAny_isInstance (T := "StopIteration") (b := true) ⟨o, ho, hc'⟩ isSubtype_stop ?_)
    exact wpAny_pure ⟨rfl, I.turned (t' := s.toks) (fun b o hb q => he' b o hb q) f0 f1 f3 f4 f5⟩
  self := fun A i s Q E st h => let ⟨⟨_, he⟩, _⟩ := st; wpAny_pyIter_enum he h
def iEnumA (K : PySem.W.Frag) (ta : TA) : TI := fun σ H R => ta σ H fun vs H1 => ∃ a xs, vs = [.ref a] ∧ ((SqL K H1 a xs ∧ R (Ite K a) H1) ∨ (SqT K H1 a xs ∧ R (IteT K a) H1))
theorem pi_enumA {X : Cx} {e : Expr} {ta : TA} {p pos tpos : Pos} {elts : List Expr} {kk : Nat} (hg : Gl X "enumerate") (hm : X.mg "enumerate" = none) (ha : PA X [e] ta) (hs : starEach [e] X.env = [(false, eval e X.env)] := by rfl) :
    PI X (.Tuple elts kk tpos) (.Call (.Name "enumerate" p) [e] [] pos) (iEnumA X.K ta) := by
  refine ⟨fun pins s σ H R I h => ?_⟩
  refine PyProof.Rows.Call_ (ld_blt I hg hm PyProof.Rows.boot_enumerate (PyProof.Rows.callWith_type1 (thn (ha.run pos pins s σ H _ I h) fun us s1 ⟨vs, H1, I1, r1, q1⟩ => ?_) hs rfl))
  obtain ⟨a, xs, ex, q⟩ := q1
  subst ex
  cases r1 with
  | cons r rr =>
    cases rr
    cases r
    rcases q with ⟨hq, q⟩ | ⟨hq, q⟩
    · obtain ⟨its, rv, p', hz⟩ := I1.list hq
      refine call_enumerate_list p'.isList fun h' he hit hsz hk => wpAny_pyIter_enum he ?_
      have I2 : Inv X pins σ H1 { s1 with heap := h' } := I1.kept (t' := s1.toks) hk
      refine ⟨s1.heap.objs.size + 1, [s1.heap.objs.size + 1, s1.heap.objs.size], _, _, H1, rfl, I2, turn_enum a (s1.heap.objs.size + 1) s1.heap.objs.size, ⟨⟨.none, he⟩, hit, Nat.succ_ne_self _⟩, fun b hb => ?_, q⟩
      have e' : b = s1.heap.objs.size + 1 ∨ b = s1.heap.objs.size := by simpa using hb
      have hle : s1.heap.objs.size ≤ b := by
        rcases e' with z | z
        · rw [z]; exact Nat.le_add_right _ _
        · rw [z]; exact Nat.le_refl _
      exact I1.fpOk hle (I1.hok.fresh hle)
    · obtain ⟨its, rv, p', hz⟩ := I1.tuple hq
      have hlt : a < s1.heap.objs.size := by obtain ⟨o, ho, _⟩ := id p'; exact Heap.lt_size ho
      refine bl_call_enumT (begins_tuple a its.toArray) (show s1.heap.IsTuple a its.toArray from p') fun h' he hit hsz hk => wpAny_pyIter_enum he ?_
      have I2 : Inv X pins σ H1 { s1 with heap := h' } := I1.kept (t' := s1.toks) hk
      refine ⟨s1.heap.objs.size + 1, [s1.heap.objs.size + 1, s1.heap.objs.size], _, _, H1, rfl, I2, turn_enumT a (s1.heap.objs.size + 1) s1.heap.objs.size, ⟨⟨.none, he⟩, ⟨_, hit, rfl, rfl⟩, Nat.succ_ne_self _, Nat.ne_of_lt hlt, Nat.ne_of_lt (Nat.lt_succ_of_lt hlt)⟩, fun b hb => ?_, q⟩
      have e' : b = s1.heap.objs.size + 1 ∨ b = s1.heap.objs.size := by simpa using hb
      have hle : s1.heap.objs.size ≤ b := by
        rcases e' with z | z
        · rw [z]; exact Nat.le_add_right _ _
        · rw [z]; exact Nat.le_refl _
      exact I1.fpOk hle (I1.hok.fresh hle)
/-- any sequence -/
def iSeq (K : PySem.W.Frag) (tl : TE) : TI := fun σ H R => tl σ H fun x H1 => ∃ a xs, x = .ref a ∧ ((SqL K H1 a xs ∧ R (Itl K a) H1) ∨ (SqT K H1 a xs ∧ R (Itt K a) H1))
theorem pi_seq {X : Cx} {tg l : Expr} {tl : TE} (hl : PE X l tl) : PI X tg l (iSeq X.K tl) := by
  refine ⟨fun pins s σ H R I h => ?_⟩
  refine thn (hl.run pins s σ H _ I h) fun v s1 ⟨x, H1, I1, r1, q1⟩ => ?_
  obtain ⟨a, xs, e, q⟩ := q1
  subst e
  cases r1
  rcases q with ⟨hq, q⟩ | ⟨hq, q⟩
  · obtain ⟨its, rv, p, hz⟩ := I1.list hq
    refine PySem.wpAny_pyIter_list p.isList ?_
    refine ⟨s1.heap.objs.size, [s1.heap.objs.size], _, _, H1, rfl, I1.kept (t' := s1.toks) fun b o e => Heap.get?_push_of_some _ e, turn_list a _, ⟨_, Heap.get?_push_size _ rfl, rfl, rfl⟩, fun b hb => ?_, q⟩
    have e : b = s1.heap.objs.size := by simpa using hb
    subst e
    exact I1.fpOk (Nat.le_refl _) (I1.hok.fresh (Nat.le_refl _))
  · obtain ⟨its, rv, p, hz⟩ := I1.tuple hq
    refine PySem.wpAny_pyIter_tuple (show s1.heap.IsTuple a its.toArray from p) ?_
    refine ⟨s1.heap.objs.size, [s1.heap.objs.size], _, _, H1, rfl, I1.kept (t' := s1.toks) fun b o e => Heap.get?_push_of_some _ e, turn_tuple a _, ⟨_, Heap.get?_push_size _ rfl, rfl, rfl⟩, fun b hb => ?_, q⟩
    have e : b = s1.heap.objs.size := by simpa using hb
    subst e
    exact I1.fpOk (Nat.le_refl _) (I1.hok.fresh (Nat.le_refl _))

/-! ### in the machine -/
def oSrc : D → Mem → Option Src := fun d M => match d with
  | .tup ds => some ⟨ds, none⟩
  | .scr ns => some ⟨ns.map D.int, none⟩
  | .ref n => (match M[n]? with
    | some (.lst ds) => some ⟨ds, some (n, ds)⟩
    | _ => none)
  | _ => none
def Src.map (f : List D → List D) (s : Src) : Src := ⟨f s.items, s.guard⟩
def mSeqI (f : List D → List D) (e : GE) : GI := fun L M => bnd (e L M) fun d M1 => match oSrc d M1 with
  | some s => some (.ok (s.map f) M1)
  | none => none
def pairUp (k : Nat) : List D → List D
  | [] => []
  | d :: ds => .tup [.int (k : Int), d] :: pairUp (k + 1) ds
theorem pairUp_get : ∀ (ds : List D) (k n : Nat), (pairUp k ds)[n]? = ds[n]?.map fun d => .tup [.int ((k + n : Nat) : Int), d]
  | [], k, n => by simp [pairUp]
  | d :: ds, k, 0 => by simp [pairUp]
  | d :: ds, k, n + 1 => by
    rw [pairUp, List.getElem?_cons_succ, List.getElem?_cons_succ, pairUp_get ds (k + 1) n, show k + 1 + n = k + (n + 1) by omega]
theorem pairUp_length : ∀ (ds : List D) (k : Nat), (pairUp k ds).length = ds.length
  | [], _ => rfl
  | d :: ds, k => by rw [pairUp, List.length_cons, List.length_cons, pairUp_length]
abbrev mIter (e : GE) : GI := mSeqI (fun ds => ds) e
abbrev mEnum (e : GE) : GI := mSeqI (pairUp 0) e
abbrev mRev (e : GE) : GI := mSeqI List.reverse e
section
variable {K : PySem.W.Frag} {C : Addr} {i0 i : List Addr} {H0 H : Hp} {M : Mem}
theorem DLs.get : ∀ {ds : List D} {vs : List V}, DLs K i H ds vs → ∀ {n : Nat} {d : D}, ds[n]? = some d → ∃ v, vs[n]? = some v ∧ DV K i H d v
  | [], vs, h, n, d, hn => by simp at hn
  | x :: ds, vs, h, n, d, hn => by
    simp only [DLs] at h
    obtain ⟨v, r, h1, h2, h3⟩ := h
    subst h1
    cases n with
    | zero =>
      have e : x = d := by simpa using hn
      subst e
      exact ⟨v, rfl, h2⟩
    | succ n => exact DLs.get h3 (by simpa using hn)
theorem dl_ints : ∀ (ns : List Int), DLs K i H (ns.map D.int) (ns.map V.int)
  | [] => by simp only [List.map, DLs]
  | n :: ns => by
    simp only [List.map, DLs]
    exact ⟨_, _, rfl, by simp only [DV], dl_ints ns⟩
/-- what stands behind a sequence: a list or a tuple at a, its values by the items, as long as the guard holds -/
def SeqAt' (K : PySem.W.Frag) (C : Addr) (i0 : List Addr) (H0 : Hp) (s : Src) (a : Addr) (b : Bool) : Prop :=
  ∀ i H M, Gro i0 H0 i H → MemR K C i M H → s.ok M → ∃ vs, DLs K i H s.items vs ∧ (if b = true then SqL K H a vs else SqT K H a vs)
theorem src_at {d : D} {x : V} {s : Src} (m : MemR K C i0 M H0) (r : DV K i0 H0 d x) (e : oSrc d M = some s) : ∃ a b, x = .ref a ∧ s.ok M ∧ SeqAt' K C i0 H0 s a b := by
  cases d <;> first
    | (cases e; done)
    | skip
  · rename_i ds
    cases e
    simp only [DV] at r
    obtain ⟨a, vs, rfl, h2, h3⟩ := r
    exact ⟨a, false, rfl, trivial, fun i H M g m' _ => ⟨vs, h3.mono g, (h2.mono g.mon).seq⟩⟩
  · rename_i ns
    cases e
    simp only [DV] at r
    obtain ⟨a, rfl, h2⟩ := r
    exact ⟨a, true, rfl, trivial, fun i H M g m' _ => ⟨_, dl_ints ns, (h2.mono g.mon).seq⟩⟩
  · rename_i n
    dsimp only [oSrc] at e
    split at e
    · rename_i ds hn
      cases e
      simp only [DV] at r
      obtain ⟨a, ha, rfl⟩ := r
      refine ⟨a, true, rfl, hn, fun i H M' g m' ok => ?_⟩
      obtain ⟨vs, h1, h2⟩ := m'.ob n _ a ok (g.mon.ix ha)
      exact ⟨vs, h2, SqL.of h1⟩
    · cases e
theorem jr_list {s : Src} {a : Addr} (h : SeqAt' K C i0 H0 s a true) : JR K C i0 H0 s (Itl K a) := fun i H M n g m ok => by
  obtain ⟨vs, h1, h2⟩ := h i H M g m ok
  refine ⟨fun d hd => ?_, fun hn => ⟨vs, h2, by rw [← h1.length]; exact hn⟩⟩
  obtain ⟨v, hv, rv⟩ := h1.get hd
  refine ⟨⟨vs, v, h2, hv⟩, fun x H' y => ?_⟩
  obtain ⟨rfl, y⟩ := y
  have e := Option.some.inj ((y vs h2).symm.trans hv)
  subst e
  exact ⟨Gro.refl, m, rv⟩
theorem jr_tup {s : Src} {a : Addr} (h : SeqAt' K C i0 H0 s a false) : JR K C i0 H0 s (Itt K a) := fun i H M n g m ok => by
  obtain ⟨vs, h1, h2⟩ := h i H M g m ok
  refine ⟨fun d hd => ?_, fun hn => ⟨vs, h2, by rw [← h1.length]; exact hn⟩⟩
  obtain ⟨v, hv, rv⟩ := h1.get hd
  refine ⟨⟨vs, v, h2, hv⟩, fun x H' y => ?_⟩
  obtain ⟨rfl, y⟩ := y
  have e := Option.some.inj ((y vs h2).symm.trans hv)
  subst e
  exact ⟨Gro.refl, m, rv⟩
theorem pair_end {n : Nat} {d : D} {v : V} {T : Addr} (m : MemR K C i M H) (rv : DV K i H d v) (hT : H T = none) : Gro i H i (upd H T (.tup [.int (n : Nat), v])) ∧ MemR K C i M (upd H T (.tup [.int (n : Nat), v])) ∧ DV K i (upd H T (.tup [.int (n : Nat), v])) (.tup [.int ((0 + n : Nat) : Int), d]) (.ref T) := by
  refine ⟨ext_new hT, m.new hT, ?_⟩
  simp only [DV, DLs]
  exact ⟨T, [.int (n : Nat), v], rfl, .inl upd_same, .int (n : Nat), [v], rfl, by rw [Nat.zero_add], v, [], rfl, rv.mono (ext_new hT), rfl⟩
theorem jr_enum {s : Src} {a : Addr} (h : SeqAt' K C i0 H0 s a true) : JR K C i0 H0 (s.map (pairUp 0)) (Ite K a) := fun i H M n g m ok => by
  obtain ⟨vs, h1, h2⟩ := h i H M g m ok
  refine ⟨fun d hd => ?_, fun hn => ⟨vs, h2, by rw [← h1.length]; simpa [Src.map, pairUp_length] using hn⟩⟩
  have hd' : (pairUp 0 s.items)[n]? = some d := hd
  rw [pairUp_get] at hd'
  obtain ⟨d0, hd0, rfl⟩ := Option.map_eq_some_iff.mp hd'
  obtain ⟨v, hv, rv⟩ := h1.get hd0
  refine ⟨⟨vs, v, h2, hv⟩, fun x H' y => ?_⟩
  obtain ⟨T, x', rfl, hT, rfl, y⟩ := y
  have e := Option.some.inj ((y vs h2).symm.trans hv)
  subst e
  exact pair_end m rv hT
theorem jr_enumT {s : Src} {a : Addr} (h : SeqAt' K C i0 H0 s a false) : JR K C i0 H0 (s.map (pairUp 0)) (IteT K a) := fun i H M n g m ok => by
  obtain ⟨vs, h1, h2⟩ := h i H M g m ok
  refine ⟨fun d hd => ?_, fun hn => ⟨vs, h2, by rw [← h1.length]; simpa [Src.map, pairUp_length] using hn⟩⟩
  have hd' : (pairUp 0 s.items)[n]? = some d := hd
  rw [pairUp_get] at hd'
  obtain ⟨d0, hd0, rfl⟩ := Option.map_eq_some_iff.mp hd'
  obtain ⟨v, hv, rv⟩ := h1.get hd0
  refine ⟨⟨vs, v, h2, hv⟩, fun x H' y => ?_⟩
  obtain ⟨T, x', rfl, hT, rfl, y⟩ := y
  have e := Option.some.inj ((y vs h2).symm.trans hv)
  subst e
  exact pair_end m rv hT
theorem rev_get {s : Src} {n : Nat} {d : D} (hd : (s.map List.reverse).items[n]? = some d) : n < s.items.length ∧ s.items[s.items.length - 1 - n]? = some d := by
  have hd' : s.items.reverse[n]? = some d := hd
  have hn : n < s.items.length := by
    have := (List.getElem?_eq_some_iff.mp hd').1
    simpa using this
  exact ⟨hn, by rw [List.getElem?_reverse hn] at hd'; exact hd'⟩
theorem jr_rev {s : Src} {a : Addr} (h : SeqAt' K C i0 H0 s a true) : JR K C i0 H0 (s.map List.reverse) (Itv K a s.items.length) := fun i H M n g m ok => by
  obtain ⟨vs, h1, h2⟩ := h i H M g m ok
  refine ⟨fun d hd => ?_, fun hn => (show s.items.length ≤ n by simpa [Src.map] using hn)⟩
  obtain ⟨hn, hd0⟩ := rev_get hd
  obtain ⟨v, hv, rv⟩ := h1.get hd0
  refine ⟨⟨hn, vs, v, h2, hv⟩, fun x H' y => ?_⟩
  obtain ⟨rfl, y⟩ := y
  have e := Option.some.inj ((y vs h2).symm.trans hv)
  subst e
  exact ⟨Gro.refl, m, rv⟩
theorem jr_revT {s : Src} {a : Addr} (h : SeqAt' K C i0 H0 s a false) : JR K C i0 H0 (s.map List.reverse) (RT.ItvT K a s.items.length) := fun i H M n g m ok => by
  obtain ⟨vs, h1, h2⟩ := h i H M g m ok
  refine ⟨fun d hd => ?_, fun hn => (show s.items.length ≤ n by simpa [Src.map] using hn)⟩
  obtain ⟨hn, hd0⟩ := rev_get hd
  obtain ⟨v, hv, rv⟩ := h1.get hd0
  refine ⟨⟨hn, vs, v, h2, hv⟩, fun x H' y => ?_⟩
  obtain ⟨rfl, y⟩ := y
  have e := Option.some.inj ((y vs h2).symm.trans hv)
  subst e
  exact ⟨Gro.refl, m, rv⟩
end
section
variable {X : Cx} {C : Addr} {W : WX} {e a b tg : Expr} {ge ga gb : GE} {p pos tpos : Pos} {elts : List Expr} {kk : Nat}
theorem seqI_some {f : List D → List D} {d : D} {M : Mem} {r : Rz Src} (e : (match oSrc d M with
  | some s => some (Rz.ok (s.map f) M)
  | none => none) = some r) : ∃ s, oSrc d M = some s ∧ r = .ok (s.map f) M := by
  split at e
  · rename_i s hs
    exact ⟨s, hs, (Option.some.inj e).symm⟩
  · cases e
theorem map_id (s : Src) : s.map (fun ds => ds) = s := rfl
theorem si_seq (he : SE X C W e ge) : SI X C W tg e (mIter ge) := by
  obtain ⟨t, p, s⟩ := he.ex
  refine ⟨_, pi_seq p, fun i L M σ H r Q m l e q => ?_⟩
  refine s.step m l e q fun dx M1 i1 H1 x g1 m1 l1 rx e1 q1 => ?_
  obtain ⟨sr, h1, rfl⟩ := seqI_some e1
  obtain ⟨a, b, rfl, ok, h⟩ := src_at m1 rx h1
  obtain ⟨vs, h2, h3⟩ := h i1 H1 M1 Gro.refl m1 ok
  cases b with
  | true => exact ⟨a, vs, rfl, .inl ⟨h3, q1 i1 H1 _ Gro.refl m1 (jr_list h)⟩⟩
  | false => exact ⟨a, vs, rfl, .inr ⟨h3, q1 i1 H1 _ Gro.refl m1 (jr_tup h)⟩⟩
theorem si_enum (hg : Gl X "enumerate") (hm : X.mg "enumerate" = none) (he : SE X C W e ge) (hs : starEach [e] X.env = [(false, eval e X.env)] := by rfl) (hs2 : starEach (e :: []) X.env = (false, eval e X.env) :: starEach [] X.env := by rfl) :
    SI X C W (.Tuple elts kk tpos) (.Call (.Name "enumerate" p) [e] [] pos) (mEnum ge) := by
  obtain ⟨t, p, s⟩ := he.ex
  refine ⟨_, pi_enumA hg hm (pa_cons p pa_nil hs2) hs, fun i L M σ H r Q m l e q => ?_⟩
  refine s.step m l e q fun dx M1 i1 H1 x g1 m1 l1 rx e1 q1 => ?_
  obtain ⟨sr, h1, rfl⟩ := seqI_some e1
  obtain ⟨a, b, rfl, ok, h⟩ := src_at m1 rx h1
  obtain ⟨vs, h2, h3⟩ := h i1 H1 M1 Gro.refl m1 ok
  cases b with
  | true => exact ⟨a, vs, rfl, .inl ⟨h3, q1 i1 H1 _ Gro.refl m1 (jr_enum h)⟩⟩
  | false => exact ⟨a, vs, rfl, .inr ⟨h3, q1 i1 H1 _ Gro.refl m1 (jr_enumT h)⟩⟩
theorem si_rev (hg : Gl X "reversed") (hm : X.mg "reversed" = none) (he : SE X C W e ge) (hs2 : starEach (e :: []) X.env = (false, eval e X.env) :: starEach [] X.env := by rfl) :
    SI X C W tg (.Call (.Name "reversed" p) [e] [] pos) (mRev ge) := by
  obtain ⟨t, p, s⟩ := he.ex
  refine ⟨_, RT.pi_revA hg hm p hs2, fun i L M σ H r Q m l e q => ?_⟩
  refine s.step m l e q fun dx M1 i1 H1 x g1 m1 l1 rx e1 q1 => ?_
  obtain ⟨sr, h1, rfl⟩ := seqI_some e1
  obtain ⟨a, b, rfl, ok, h⟩ := src_at m1 rx h1
  obtain ⟨vs, h2, h3⟩ := h i1 H1 M1 Gro.refl m1 ok
  have hl : vs.length = sr.items.length := h2.length.symm
  cases b with
  | true => exact ⟨a, vs, rfl, .inl ⟨h3, by rw [hl]; exact q1 i1 H1 _ Gro.refl m1 (jr_rev h)⟩⟩
  | false => exact ⟨a, vs, rfl, .inr ⟨h3, by rw [hl]; exact q1 i1 H1 _ Gro.refl m1 (jr_revT h)⟩⟩
/-! ### ranges -/
def fits62 (i : Int) : Prop := -(2 ^ 62) ≤ i ∧ i < 2 ^ 62
instance (i : Int) : Decidable (fits62 i) := inferInstanceAs (Decidable (_ ∧ _))
def rng (lo : Int) (n : Nat) : List D := (List.range n).map fun (k : Nat) => D.int (lo + (k : Int))
def mRange1 (e : GE) : GI := fun L M => bnd (e L M) fun d M1 => match d with
  | .int j => if fits62 j then some (.ok ⟨rng 0 j.toNat, none⟩ M1) else none
  | _ => none
def mRange2 (a b : GE) : GI := fun L M => bnd (a L M) fun d M1 => bnd (b L M1) fun d2 M2 => match d, d2 with
  | .int i, .int j => if fits62 i ∧ fits62 j then some (.ok ⟨rng i (j - i).toNat, none⟩ M2) else none
  | _, _ => none
theorem jr_rng {K : PySem.W.Frag} {i0 : List Addr} {H0 : Hp} (lo : Int) (n : Nat) : JR K C i0 H0 ⟨rng lo n, none⟩ (Itr lo n) := fun i H M k g m ok => by
  refine ⟨fun d hd => ?_, fun hn => (show n ≤ k by simpa [rng] using hn)⟩
  have hd' : (rng lo n)[k]? = some d := hd
  unfold rng at hd'
  rw [List.getElem?_map] at hd'
  obtain ⟨j, hj, rfl⟩ := Option.map_eq_some_iff.mp hd'
  have hk : k < n := by
    have := (List.getElem?_eq_some_iff.mp hj).1
    simpa using this
  rw [List.getElem?_range hk] at hj
  cases hj
  refine ⟨hk, fun x H' y => ?_⟩
  obtain ⟨rfl, rfl⟩ := y
  exact ⟨Gro.refl, m, by simp only [DV]⟩
theorem si_range1 (hg : Gl X "range") (hm : X.mg "range" = none) (he : SE X C W e ge) (hs : starEach [e] X.env = [(false, eval e X.env)] := by rfl) (hs2 : starEach (e :: []) X.env = (false, eval e X.env) :: starEach [] X.env := by rfl) :
    SI X C W tg (.Call (.Name "range" p) [e] [] pos) (mRange1 ge) := by
  obtain ⟨t, p, s⟩ := he.ex
  refine ⟨_, pi_range1 hg hm (pa_cons p pa_nil hs2) hs, fun i L M σ H r Q m l e q => ?_⟩
  refine s.step m l e q fun dx M1 i1 H1 x g1 m1 l1 rx e1 q1 => ?_
  cases dx <;> first
    | (cases e1; done)
    | skip
  rename_i j
  dsimp only at e1
  split at e1
  · rename_i hf
    cases e1
    simp only [DV] at rx
    subst rx
    exact ⟨j, rfl, hf.1, hf.2, q1 i1 H1 _ Gro.refl m1 (jr_rng 0 j.toNat)⟩
  · cases e1
theorem si_range2 (hg : Gl X "range") (hm : X.mg "range" = none) (ha : SE X C W a ga) (hb : SE X C W b gb) (hs : starEach [a, b] X.env = [(false, eval a X.env), (false, eval b X.env)] := by rfl) (hs1 : starEach [b] X.env = [(false, eval b X.env)] := by rfl)
    (hs2 : starEach (a :: [b]) X.env = (false, eval a X.env) :: starEach [b] X.env := by rfl) (hs3 : starEach (b :: []) X.env = (false, eval b X.env) :: starEach [] X.env := by rfl) :
    SI X C W tg (.Call (.Name "range" p) [a, b] [] pos) (mRange2 ga gb) := by
  obtain ⟨t, p, s⟩ := ha.ex
  obtain ⟨t2, p2, s2⟩ := hb.ex
  refine ⟨_, pi_range2 hg hm (pa_cons p (pa_cons p2 pa_nil hs3) hs2) hs hs1, fun i L M σ H r Q m l e q => ?_⟩
  refine s.step m l e q fun dx M1 i1 H1 x g1 m1 l1 rx e1 q1 => ?_
  refine s2.step m1 l1 e1 q1 fun dy M2 i2 H2 y g2 m2 l2 ry e2 q2 => ?_
  cases dx <;> first
    | (cases e2; done)
    | skip
  rename_i ji
  cases dy <;> first
    | (cases e2; done)
    | skip
  rename_i jj
  dsimp only at e2
  split at e2
  · rename_i hf
    cases e2
    simp only [DV] at rx ry
    subst rx ry
    exact ⟨ji, jj, rfl, ⟨hf.1.1, hf.1.2, hf.2.1, hf.2.2⟩, q2 i2 H2 _ Gro.refl m2 (jr_rng ji (jj - ji).toNat)⟩
  · cases e2
/-! ### signs -/
def mSigns (e : GE) : GI := fun L M => bnd (e L M) fun d M1 => match d with
  | .str x => some (.ok ⟨x.cps.toList.map fun c => .str ⟨#[c]⟩, none⟩ M1)
  | _ => none
theorem si_str (he : SE X C W e ge) : SI X C W tg e (mSigns ge) := by
  obtain ⟨t, p, s⟩ := he.ex
  refine ⟨_, pi_str p, fun i L M σ H r Q m l e q => ?_⟩
  refine s.step m l e q fun dx M1 i1 H1 x g1 m1 l1 rx e1 q1 => ?_
  cases dx <;> first
    | (cases e1; done)
    | skip
  rename_i z
  cases e1
  simp only [DV] at rx
  subst rx
  refine ⟨z, rfl, q1 i1 H1 _ Gro.refl m1 fun i H M k g m ok => ⟨fun d hd => ?_, fun hn => (show z.cps.size ≤ k by simpa using hn)⟩⟩
  have hd' : (z.cps.toList.map fun c => D.str ⟨#[c]⟩)[k]? = some d := hd
  rw [List.getElem?_map] at hd'
  obtain ⟨c, hc, rfl⟩ := Option.map_eq_some_iff.mp hd'
  have hk : k < z.cps.size := by
    have := (List.getElem?_eq_some_iff.mp hc).1
    simpa using this
  refine ⟨hk, fun x H' y => ?_⟩
  obtain ⟨rfl, c', hc', rfl⟩ := y
  have e : c = c' := by
    rw [Array.getElem?_toList] at hc
    exact Option.some.inj (hc.symm.trans hc')
  subst e
  exact ⟨Gro.refl, m, by simp only [DV]⟩
end
end BL
/-! BLOps: operators, comparisons, built-ins, methods by values. -/
namespace BL
open PySem L2

theorem small_line {n : Nat} (h : n < 16000000) : n < sizeLine := by rw [PySem.sizeLine_eq]; omega
/-! ### what an operation leaves -/
section
variable {K : PySem.W.Frag} {C : Addr} {i : List Addr} {M : Mem} {H : Hp} {d : D} {Q : VK}
abbrev Goes (K : PySem.W.Frag) (C : Addr) (i : List Addr) (H : Hp) (d : D) (M' : Mem) (Q : VK) : Prop := ∀ i' H' z, Gro i H i' H' → MemR K C i' M' H' → DV K i' H' d z → Q z H'
theorem goSame {v : V} (q : Goes K C i H d M Q) (m : MemR K C i M H) (r : DV K i H d v) : Q v H := q i H v Gro.refl m r
theorem goInt {k : Int} (q : Goes K C i H (.int k) M Q) (m : MemR K C i M H) : Q (.int k) H := goSame q m (by simp only [DV])
theorem goBl {k : Bool} (q : Goes K C i H (.bl k) M Q) (m : MemR K C i M H) : Q (.bl k) H := goSame q m (by simp only [DV])
theorem goStr {k : Str} (q : Goes K C i H (.str k) M Q) (m : MemR K C i M H) : Q (.str k) H := goSame q m (by simp only [DV])
theorem goNon (q : Goes K C i H .non M Q) (m : MemR K C i M H) : Q .non H := goSame q m (by simp only [DV])
theorem goTup {ds : List D} {vs : List V} (q : Goes K C i H (.tup ds) M Q) (m : MemR K C i M H) (r : DLs K i H ds vs) : ∀ p, H p = none → Q (.ref p) (upd H p (.tup vs)) := fun p hp => by
  refine q i _ _ (ext_new hp) (m.new hp) ?_
  simp only [DV]
  exact ⟨p, vs, rfl, .inl upd_same, r.mono (ext_new hp)⟩
theorem ref_last {p : Addr} (m : MemR K C i M H) {H' : Hp} : DV K (i ++ [p]) H' (.ref M.length) (.ref p) := by
  simp only [DV]
  exact ⟨p, by rw [← m.len, List.getElem?_append_right (Nat.le_refl _), Nat.sub_self]; rfl, rfl⟩
theorem goLst {ds : List D} {vs : List V} (q : Goes K C i H (.ref M.length) (M ++ [.lst ds]) Q) (m : MemR K C i M H) (r : DLs K i H ds vs) : ∀ p, H p = none → Q (.ref p) (upd H p (.lst vs)) := fun p hp =>
  q _ _ _ (ext_laid hp) (m.laid hp ⟨vs, upd_same, r.mono (ext_laid hp)⟩) (ref_last m)
theorem goDct {ds : List (Int × D)} {vs : List (Key × V)} (q : Goes K C i H (.ref M.length) (M ++ [.dct ds]) Q) (m : MemR K C i M H) (r : DKs K i H ds vs) : ∀ p, H p = none → Q (.ref p) (upd H p (.dK vs)) := fun p hp =>
  q _ _ _ (ext_laid hp) (m.laid hp ⟨vs, upd_same, r.mono (ext_laid hp)⟩) (ref_last m)
/-- an object changed: what it gives besides -/
theorem goWlst {n : Nat} {a : Addr} {ds : List D} {vs : List V} {v : V} (q : Goes K C i H d (M.set n (.lst ds)) Q) (m : MemR K C i M H) (ha : i[n]? = some a) (r : DLs K i H ds vs) (rd : DV K i H d v) : Q v (upd H a (.lst vs)) :=
  q i _ v (ext_write m ha) (m.write ha ⟨vs, upd_same, r.mono (ext_write m ha)⟩) (rd.mono (ext_write m ha))
theorem goWdct {n : Nat} {a : Addr} {ds : List (Int × D)} {vs : List (Key × V)} {v : V} (q : Goes K C i H d (M.set n (.dct ds)) Q) (m : MemR K C i M H) (ha : i[n]? = some a) (r : DKs K i H ds vs) (rd : DV K i H d v) : Q v (upd H a (.dK vs)) :=
  q i _ v (ext_write m ha) (m.write ha ⟨vs, upd_same, r.mono (ext_write m ha)⟩) (rd.mono (ext_write m ha))
/-- a list, a dict in the memory -/
theorem lst_at {n : Nat} {ds : List D} {x : V} (m : MemR K C i M H) (h : M[n]? = some (.lst ds)) (r : DV K i H (.ref n) x) : ∃ a vs, i[n]? = some a ∧ x = .ref a ∧ H a = some (.lst vs) ∧ DLs K i H ds vs := by
  simp only [DV] at r
  obtain ⟨a, ha, rfl⟩ := r
  obtain ⟨vs, h1, h2⟩ := m.ob n _ a h ha
  exact ⟨a, vs, ha, rfl, h1, h2⟩
theorem dct_at {n : Nat} {ds : List (Int × D)} {x : V} (m : MemR K C i M H) (h : M[n]? = some (.dct ds)) (r : DV K i H (.ref n) x) : ∃ a vs, i[n]? = some a ∧ x = .ref a ∧ H a = some (.dK vs) ∧ DKs K i H ds vs := by
  simp only [DV] at r
  obtain ⟨a, ha, rfl⟩ := r
  obtain ⟨vs, h1, h2⟩ := m.ob n _ a h ha
  exact ⟨a, vs, ha, rfl, h1, h2⟩
theorem tup_at {ds : List D} {x : V} (r : DV K i H (.tup ds) x) : ∃ a vs, x = .ref a ∧ TupAt K H a vs ∧ DLs K i H ds vs := by
  simpa only [DV] using r
theorem scr_at {ds : List Int} {x : V} (r : DV K i H (.scr ds) x) : ∃ a, x = .ref a ∧ ScrAt K H a ds := by
  simpa only [DV] using r
theorem dl_app : ∀ {ds es : List D} {vs ws : List V}, DLs K i H ds vs → DLs K i H es ws → DLs K i H (ds ++ es) (vs ++ ws)
  | [], es, vs, ws, h, h' => by
    simp only [DLs] at h
    subst h
    exact h'
  | x :: ds, es, vs, ws, h, h' => by
    simp only [DLs] at h
    obtain ⟨v', r', h1, h2, h3⟩ := h
    subst h1
    simp only [List.cons_append, DLs]
    exact ⟨v', _, rfl, h2, dl_app h3 h'⟩
theorem dl_take : ∀ {ds : List D} {vs : List V} (n : Nat), DLs K i H ds vs → DLs K i H (ds.take n) (vs.take n)
  | [], vs, n, h => by
    simp only [DLs] at h
    subst h
    simp only [List.take_nil, DLs]
  | x :: ds, vs, 0, h => by simp only [List.take_zero, DLs]
  | x :: ds, vs, n + 1, h => by
    simp only [DLs] at h
    obtain ⟨v', r', h1, h2, h3⟩ := h
    subst h1
    simp only [List.take_succ_cons, DLs]
    exact ⟨v', _, rfl, h2, dl_take n h3⟩
theorem dl_drop : ∀ {ds : List D} {vs : List V} (n : Nat), DLs K i H ds vs → DLs K i H (ds.drop n) (vs.drop n)
  | [], vs, n, h => by
    simp only [DLs] at h
    subst h
    simp only [List.drop_nil, DLs]
  | x :: ds, vs, 0, h => h
  | x :: ds, vs, n + 1, h => by
    simp only [DLs] at h
    obtain ⟨v', r', h1, h2, h3⟩ := h
    subst h1
    exact dl_drop n h3
theorem dl_one {d : D} {v : V} (h : DLs K i H [d] [v]) : DV K i H d v := by
  simp only [DLs] at h
  obtain ⟨v', r', h1, h2, h3⟩ := h
  cases h1
  exact h2
theorem dl1 {d : D} {vs : List V} (h : DLs K i H [d] vs) : ∃ v, vs = [v] ∧ DV K i H d v := by
  simp only [DLs] at h
  obtain ⟨v', r', h1, h2, h3⟩ := h
  exact ⟨v', by rw [h1, h3], h2⟩
theorem dl2 {d e : D} {vs : List V} (h : DLs K i H [d, e] vs) : ∃ v w, vs = [v, w] ∧ DV K i H d v ∧ DV K i H e w := by
  simp only [DLs] at h
  obtain ⟨v', r', h1, h2, w, r2, h3, h4, h5⟩ := h
  exact ⟨v', w, by rw [h1, h3, h5], h2, h4⟩
end

/-! ### a dict's value under a key -/
def aget (kvs : List (Int × D)) (k : Int) : Option D := match kvs with
  | [] => none
  | (j, d) :: r => if j = k then some d else aget r k
section
variable {K : PySem.W.Frag} {i : List Addr} {H : Hp}
theorem aval_none {k : Int} : ∀ {kvs : List (Int × D)} {vs : List (Key × V)}, DKs K i H kvs vs → aget kvs k = none → valV vs (Sum.inl k : Key) = none
  | [], vs, h, _ => by
    simp only [DKs] at h
    subst h
    rfl
  | (j, x) :: r, vs, h, e => by
    simp only [DKs] at h
    obtain ⟨v, r', h1, h2, h3⟩ := h
    subst h1
    unfold aget at e
    by_cases ej : j = k
    · rw [if_pos ej] at e
      cases e
    · rw [if_neg ej] at e
      rw [valV_neg (show ¬ ((Sum.inl j : Key), v).1 = Sum.inl k from fun z => ej (Sum.inl.inj z))]
      exact aval_none h3 e
theorem aval_some {k : Int} {d : D} : ∀ {kvs : List (Int × D)} {vs : List (Key × V)}, DKs K i H kvs vs → aget kvs k = some d → ∃ v, valV vs (Sum.inl k : Key) = some v ∧ DV K i H d v
  | [], vs, h, e => by cases e
  | (j, x) :: r, vs, h, e => by
    simp only [DKs] at h
    obtain ⟨v, r', h1, h2, h3⟩ := h
    subst h1
    unfold aget at e
    by_cases ej : j = k
    · rw [if_pos ej] at e
      cases e
      subst ej
      exact ⟨v, valV_pos rfl, h2⟩
    · rw [if_neg ej] at e
      rw [valV_neg (show ¬ ((Sum.inl j : Key), v).1 = Sum.inl k from fun z => ej (Sum.inl.inj z))]
      exact aval_some h3 e
theorem DKs.length' : ∀ {kvs : List (Int × D)} {vs : List (Key × V)}, DKs K i H kvs vs → kvs.length = vs.length
  | [], vs, h => by
    simp only [DKs] at h
    subst h
    rfl
  | (j, x) :: r, vs, h => by
    simp only [DKs] at h
    obtain ⟨v, r', h1, h2, h3⟩ := h
    subst h1
    rw [List.length_cons, List.length_cons, h3.length']
end
/-! ### operators -/
def strOk2 (s t : Str) : Prop := s.length + t.length ≤ sizeLine
def oAdd : Op2 := fun x y M => match x, y with
  | .int i, .int j => some (.int (i + j), M)
  | .str s, .str t => if s.length + t.length < 16000000 then some (.str (s ++ t), M) else none
  | .tup xs, .tup ys => if xs.length + ys.length < 16000000 then some (.tup (xs ++ ys), M) else none
  | .ref a, .ref b => (match M[a]?, M[b]? with
    | some (.lst xs), some (.lst ys) => if xs.length + ys.length < 16000000 then some (.ref M.length, M ++ [.lst (xs ++ ys)]) else none
    | _, _ => none)
  | _, _ => none
def oSub : Op2 := fun x y M => match x, y with
  | .int i, .int j => some (.int (i - j), M)
  | _, _ => none
abbrev mulFits (i j : Int) : Prop := CMulX i j
instance (i j : Int) : Decidable (mulFits i j) := inferInstanceAs (Decidable ((Builtin.Int.intBits i : Int) + (Builtin.Int.intBits j : Int) ≤ 134217728))
def strRep (s : Str) (k : Nat) : Str := ⟨(List.replicate k s.cps.toList).flatten.toArray⟩
def oMul : Op2 := fun x y M => match x, y with
  | .int i, .int j => if mulFits i j then some (.int (i * j), M) else none
  | .str s, .int k => if s.length ≤ 1000 ∧ -(2 ^ 63) ≤ k ∧ k ≤ 1000 then some (.str (Txt.mul s k), M) else none
  | .ref a, .int k => (match M[a]? with
    | some (.lst xs) => if -(2 ^ 63) ≤ k ∧ k ≤ 1000 ∧ xs.length ≤ 1000 then some (.ref M.length, M ++ [.lst (List.replicate k.toNat xs).flatten]) else none
    | _ => none)
  | _, _ => none
def oDiv : Op2 := fun x y M => match x, y with
  | .int i, .int j => if 0 < j ∧ j < 1073741824 then some (.int (i / j), M) else none
  | _, _ => none
def oMod : Op2 := fun x y M => match x, y with
  | .int i, .int j => if 0 < j then some (.int (i % j), M) else none
  | _, _ => none
def oPow : Op2 := fun x y M => match x, y with
  | .int i, .int j => if 0 ≤ j ∧ j ≤ 1000 ∧ i.natAbs < 2 ^ 64 then some (.int (i ^ j.toNat), M) else none
  | _, _ => none
def oNeg : Op1 := fun x M => match x with
  | .int i => some (.int (-i), M)
  | _ => none
section
variable {X : Cx} {C : Addr}
theorem dl_rep {K : PySem.W.Frag} {i : List Addr} {H : Hp} {ds : List D} {vs : List V} (h : DLs K i H ds vs) : ∀ k : Nat, DLs K i H (List.replicate k ds).flatten (List.replicate k vs).flatten
  | 0 => by simp only [List.replicate_zero, List.flatten_nil, DLs]
  | k + 1 => by
    simp only [List.replicate_succ, List.flatten_cons]
    exact dl_app h (dl_rep h k)
theorem or_add : OpR X (binaryOp .Add) (rO X.K C oAdd) := by
  intro pins s σ H x y v u Q I rv ru h
  obtain ⟨i, M, dx, dy, d, M', m, rx, ry, e, q⟩ := h
  unfold oAdd at e
  split at e
  · cases e
    simp only [DV] at rx ry
    subst rx ry
    exact op_add pins s σ H _ _ v u Q I rv ru ⟨_, _, rfl, rfl, goInt q m⟩
  · split at e
    · rename_i hl
      cases e
      simp only [DV] at rx ry
      subst rx ry
      exact op_add_str pins s σ H _ _ v u Q I rv ru ⟨_, _, rfl, rfl, Nat.le_of_lt (small_line hl), goStr q m⟩
    · cases e
  · rename_i xs ys
    obtain ⟨a, vs, rfl, h1, h2⟩ := tup_at rx
    obtain ⟨b, ws, rfl, h3, h4⟩ := tup_at ry
    have hl1 := h2.length
    have hl2 := h4.length
    split at e
    · rename_i hl
      cases e
      refine op_catA pins s σ H _ _ v u Q I rv ru ⟨a, b, vs, ws, rfl, rfl, h1.seq, h3.seq, by rw [← hl1, ← hl2]; exact Nat.le_of_lt (small_line hl), fun z => ?_, fun _ z => ?_, fun _ _ => goTup q m (dl_app h2 h4)⟩
      · subst z
        have : xs = [] := List.eq_nil_of_length_eq_zero hl1
        subst this
        exact goSame q m ry
      · subst z
        have : ys = [] := List.eq_nil_of_length_eq_zero hl2
        subst this
        refine goSame q m ?_
        rw [List.append_nil]
        exact rx
    · cases e
  · rename_i a b
    split at e
    · rename_i xs ys ha hb
      split at e
      · rename_i hl
        cases e
        obtain ⟨p, vs, hp, rfl, h1, h2⟩ := lst_at m ha rx
        obtain ⟨p', ws, hp', rfl, h3, h4⟩ := lst_at m hb ry
        refine op_cat pins s σ H _ _ v u Q I rv ru ⟨p, p', vs, ws, rfl, rfl, h1, h3, by rw [← h2.length, ← h4.length]; exact Nat.le_of_lt (small_line hl), goLst q m (dl_app h2 h4)⟩
      · cases e
    · cases e
  · cases e
theorem or_sub : OpR X (binaryOp .Sub) (rO X.K C oSub) := by
  intro pins s σ H x y v u Q I rv ru h
  obtain ⟨i, M, dx, dy, d, M', m, rx, ry, e, q⟩ := h
  unfold oSub at e
  split at e
  · cases e
    simp only [DV] at rx ry
    subst rx ry
    exact op_sub pins s σ H _ _ v u Q I rv ru ⟨_, _, rfl, rfl, goInt q m⟩
  · cases e
theorem or_mul : OpR X (binaryOp .Mult) (rO X.K C oMul) := by
  intro pins s σ H x y v u Q I rv ru h
  obtain ⟨i, M, dx, dy, d, M', m, rx, ry, e, q⟩ := h
  unfold oMul at e
  split at e
  · split at e
    · rename_i hf
      cases e
      simp only [DV] at rx ry
      subst rx ry
      exact op_mulX pins s σ H _ _ v u Q I rv ru ⟨_, _, rfl, rfl, hf, goInt q m⟩
    · cases e
  · rename_i st k
    split at e
    · rename_i hl
      cases e
      simp only [DV] at rx ry
      subst rx ry
      obtain ⟨t, rfl⟩ := rv
      obtain ⟨t', rfl⟩ := ru
      obtain ⟨h1, h2, h3⟩ := hl
      refine PySem.SB.mul (x := st) (n := k) ⟨?_, fun h4 _ => ?_, fun h4 _ => ?_⟩ fun t' tk => ⟨.str (Txt.mul st k), H, I.tok tk, ⟨_, rfl⟩, goStr q m⟩
      · rw [decide_eq_false (by omega), decide_eq_false (by omega)]
        rfl
      · have h5 : (0 : Int) < k := by omega
        have h6 : (1000 : Int) ≤ (2 ^ 63 - 1) / k := by
          rw [Int.le_ediv_iff_mul_le h5]
          omega
        omega
      · have h5 : st.length * k.toNat ≤ 1000 * 1000 := Nat.mul_le_mul h1 (by omega)
        unfold Builtin.Str.tooLong
        exact decide_eq_false (by rw [PySem.sizeLine_eq]; omega)
    · cases e
  · rename_i a k
    split at e
    · rename_i xs ha
      split at e
      · rename_i hl
        cases e
        obtain ⟨p, vs, hp, rfl, h1, h2⟩ := lst_at m ha rx
        simp only [DV] at ry
        subst ry
        have hk : xs.length * k.toNat ≤ 1000 * 1000 := Nat.mul_le_mul hl.2.2 (by omega)
        exact op_rep pins s σ H _ _ v u Q I rv ru ⟨p, k, vs, rfl, rfl, h1, hl.1, by omega, by rw [← h2.length, PySem.sizeLine_eq]; omega, goLst q m (dl_rep h2 _)⟩
      · cases e
    · cases e
  · cases e
theorem or_div : OpR X (binaryOp .FloorDiv) (rO X.K C oDiv) := by
  intro pins s σ H x y v u Q I rv ru h
  obtain ⟨i, M, dx, dy, d, M', m, rx, ry, e, q⟩ := h
  unfold oDiv at e
  split at e
  · split at e
    · rename_i hf
      cases e
      simp only [DV] at rx ry
      subst rx ry
      exact op_fdiv pins s σ H _ _ v u Q I rv ru ⟨_, _, rfl, rfl, hf, goInt q m⟩
    · cases e
  · cases e
theorem or_mod : OpR X (binaryOp .Mod) (rO X.K C oMod) := by
  intro pins s σ H x y v u Q I rv ru h
  obtain ⟨i, M, dx, dy, d, M', m, rx, ry, e, q⟩ := h
  unfold oMod at e
  split at e
  · split at e
    · rename_i hf
      cases e
      simp only [DV] at rx ry
      subst rx ry
      exact op_mod pins s σ H _ _ v u Q I rv ru ⟨_, _, rfl, rfl, hf, goInt q m⟩
    · cases e
  · cases e
theorem or_pow : OpR X (binaryOp .Pow) (rO X.K C oPow) := by
  intro pins s σ H x y v u Q I rv ru h
  obtain ⟨i, M, dx, dy, d, M', m, rx, ry, e, q⟩ := h
  unfold oPow at e
  split at e
  · split at e
    · rename_i hf
      cases e
      simp only [DV] at rx ry
      subst rx ry
      exact op_pow pins s σ H _ _ v u Q I rv ru ⟨_, _, rfl, rfl, ⟨hf.1, by omega, hf.2.2⟩, goInt q m⟩
    · cases e
  · cases e
theorem ur_neg : UnR X (unaryOp .USub) (rO1 X.K C oNeg) := by
  intro pins s σ H x v Q I rv h
  obtain ⟨i, M, dx, d, M', m, rx, e, q⟩ := h
  unfold oNeg at e
  split at e
  · cases e
    simp only [DV] at rx
    subst rx
    exact un_neg pins s σ H _ v Q I rv ⟨_, rfl, goInt q m⟩
  · cases e
end
/-! ### comparisons -/
mutual
def pyD (f : Nat → Option PyData) : D → Option PyData
  | .non => some .none
  | .bl b => some (.bool b)
  | .int i => some (.int i)
  | .str s => some (.str s)
  | .tup xs => (pyL f xs).map .tuple
  | .scr ns => some (.list (ns.map .int))
  | .ref n => f n
def pyL (f : Nat → Option PyData) : List D → Option (List PyData)
  | [] => some []
  | d :: ds => match pyD f d, pyL f ds with
    | some x, some xs => some (x :: xs)
    | _, _ => none
end
def pyM (M : Mem) : Nat → Nat → Option PyData
  | 0, _ => none
  | k + 1, n => match M[n]? with
    | some (.lst ds) => (pyL (pyM M k) ds).map .list
    | _ => none
/-- the datum that a value shows -/
def pyOf (M : Mem) (d : D) : Option PyData := match pyD (pyM M 4) d with
  | some p => if SeqAt.shaped p = true then some p else none
  | none => none
/-- are two dicts alike -/
def dictEq (M : Mem) (b : List (Int × D)) : List (Int × D) → Option Bool
  | [] => some true
  | (k, d) :: r => match aget b k with
    | none => some false
    | some d2 => match pyOf M d, pyOf M d2 with
      | some p, some p2 => (match dictEq M b r with
        | some z => some (PyData.eqv p p2 && z)
        | none => none)
      | _, _ => none
def eqD (x y : D) (M : Mem) : Option Bool := match pyOf M x, pyOf M y with
  | some p, some p2 => some (PyData.eqv p p2)
  | _, _ => none
/-- two dicts, or two data -/
def eqX (x y : D) (M : Mem) : Option Bool := match x, y with
  | .ref n, .ref m => (match M[n]?, M[m]? with
    | some (.dct ka), some (.dct kb) => if ka.length = kb.length then dictEq M kb ka else some false
    | _, _ => eqD x y M)
  | _, _ => eqD x y M
def oEq : Op2 := fun x y M => match eqX x y M with
  | some b => some (.bl b, M)
  | none => none
def oNe : Op2 := fun x y M => match eqX x y M with
  | some b => some (.bl (!b), M)
  | none => none
def oLt : Op2 := fun x y M => match x, y with
  | .int i, .int j => some (.bl (decide (i < j)), M)
  | _, _ => none
def oLe : Op2 := fun x y M => match x, y with
  | .int i, .int j => some (.bl (decide (i ≤ j)), M)
  | .str s, .str t => some (.bl (!decide (t.cps.toList < s.cps.toList)), M)
  | _, _ => none
def oGt : Op2 := fun x y M => match x, y with
  | .int i, .int j => some (.bl (decide (j < i)), M)
  | _, _ => none
def oGe : Op2 := fun x y M => match x, y with
  | .int i, .int j => some (.bl (decide (j ≤ i)), M)
  | _, _ => none
def isNon : D → Bool
  | .non => true
  | _ => false
def oIs : Op2 := fun x y M => match y with
  | .non => some (.bl (isNon x), M)
  | .bl b => (match x with
    | .bl a => some (.bl (decide (a = b)), M)
    | _ => none)
  | _ => none
def oIsNot : Op2 := fun x y M => match y with
  | .non => some (.bl (!isNon x), M)
  | .bl b => (match x with
    | .bl a => some (.bl (!decide (a = b)), M)
    | _ => none)
  | _ => none
section
variable {K : PySem.W.Frag} {C : Addr} {i : List Addr} {M : Mem} {H : Hp}
theorem dp_ints : ∀ ns : List Int, DpAll K H (ns.map V.int) (ns.map PyData.int)
  | [] => .nil
  | n :: ns => .cons (.int n) (dp_ints ns)
mutual
theorem dp_d {f : Nat → Option PyData} (hf : ∀ n p v, f n = some p → DV K i H (.ref n) v → Dp K H v p) : ∀ (d : D) (p : PyData) (v : V), pyD f d = some p → DV K i H d v → Dp K H v p
  | .non, p, v, e, r => by
    simp only [pyD, Option.some.injEq] at e
    simp only [DV] at r
    subst e r
    exact .non
  | .bl b, p, v, e, r => by
    simp only [pyD, Option.some.injEq] at e
    simp only [DV] at r
    subst e r
    exact .bl b
  | .int b, p, v, e, r => by
    simp only [pyD, Option.some.injEq] at e
    simp only [DV] at r
    subst e r
    exact .int b
  | .str b, p, v, e, r => by
    simp only [pyD, Option.some.injEq] at e
    simp only [DV] at r
    subst e r
    exact .str b
  | .tup xs, p, v, e, r => by
    simp only [pyD] at e
    simp only [DV] at r
    obtain ⟨a, vs, rfl, h1, h2⟩ := r
    obtain ⟨ps, hp, rfl⟩ := Option.map_eq_some_iff.mp e
    exact .tup h1.seq (dp_l hf xs ps vs hp h2)
  | .scr ns, p, v, e, r => by
    simp only [pyD, Option.some.injEq] at e
    simp only [DV] at r
    obtain ⟨a, rfl, h1⟩ := r
    subst e
    exact .lst h1.seq (dp_ints ns)
  | .ref n, p, v, e, r => by
    simp only [pyD] at e
    exact hf n p v e r
theorem dp_l {f : Nat → Option PyData} (hf : ∀ n p v, f n = some p → DV K i H (.ref n) v → Dp K H v p) : ∀ (ds : List D) (ps : List PyData) (vs : List V), pyL f ds = some ps → DLs K i H ds vs → DpAll K H vs ps
  | [], ps, vs, e, r => by
    simp only [pyL, Option.some.injEq] at e
    simp only [DLs] at r
    subst e r
    exact .nil
  | d :: ds, ps, vs, e, r => by
    simp only [pyL] at e
    simp only [DLs] at r
    obtain ⟨v, r', rfl, h1, h2⟩ := r
    split at e
    · rename_i x xs hx hxs
      cases e
      exact .cons (dp_d hf d x v hx h1) (dp_l hf ds xs r' hxs h2)
    · cases e
end
theorem dp_m (m : MemR K C i M H) : ∀ (k n : Nat) (p : PyData) (v : V), pyM M k n = some p → DV K i H (.ref n) v → Dp K H v p
  | 0, n, p, v, e, r => by
    unfold pyM at e
    cases e
  | k + 1, n, p, v, e, r => by
    unfold pyM at e
    split at e
    · rename_i ds hn
      obtain ⟨ps, hp, rfl⟩ := Option.map_eq_some_iff.mp e
      obtain ⟨a, vs, ha, rfl, h1, h2⟩ := lst_at m hn r
      exact .lst (SqL.of h1) (dp_l (dp_m m k) ds ps vs hp h2)
    · cases e
theorem dp_of (m : MemR K C i M H) {d : D} {p : PyData} {v : V} (e : pyOf M d = some p) (r : DV K i H d v) : Dp K H v p ∧ SeqAt.shaped p = true := by
  unfold pyOf at e
  split at e
  · rename_i p' hp
    split at e
    · rename_i hs
      cases e
      exact ⟨dp_d (dp_m m 4) d _ v hp r, hs⟩
    · cases e
  · cases e
end
section
variable {X : Cx} {C : Addr}
theorem room100 {A : Around} {k : Nat} (hr : Room k A) : A.units + 100 < cLine := by
  have := hr.un
  omega
theorem kv_uncons {k : Key} {v : V} {vs : List (Key × V)} {us : List (Key × Value)} (h : KV ((k, v) :: vs) us) : ∃ u r, us = (k, u) :: r ∧ RelV v u ∧ KV vs r := by
  unfold KV at h
  cases h with
  | @cons p q ps qs h1 t =>
    obtain ⟨k', u⟩ := q
    obtain ⟨h2, h3⟩ := h1
    cases (show k = k' from h2)
    exact ⟨u, qs, rfl, h3, t⟩
theorem hits_of {M : Mem} {i : List Addr} {H : Hp} {pins : List (Addr × Obj)} {σ : L2.St} {s : Shared} (hu : X.A.units + 100 < cLine) (I : Inv X pins σ H s) (m : MemR X.K C i M H) {kb : List (Int × D)} {vb : List (Key × V)} {ub : List (Key × Value)} (rb : DKs X.K i H kb vb) (hb : KV vb ub) :
    ∀ (ka : List (Int × D)) (va : List (Key × V)) (ua : List (Key × Value)) (b : Bool), DKs X.K i H ka va → KV va ua → dictEq M kb ka = some b → PySem.W.KeqHits X.A.in1 s ub ua b
  | [], va, ua, b, ra, ha, e => by
    simp only [DKs] at ra
    subst ra
    unfold KV at ha
    cases ha
    cases e
    exact .nil
  | (k, d) :: r, va, ua, b, ra, ha, e => by
    simp only [DKs] at ra
    obtain ⟨v, r', h1, h2, h3⟩ := ra
    subst h1
    obtain ⟨u, ur, rfl, ru, hr⟩ := kv_uncons ha
    unfold dictEq at e
    cases hg : aget kb k with
    | none =>
      rw [hg] at e
      cases e
      have hn := aval_none rb hg
      have := hb.val (Sum.inl k : Key)
      rw [hn] at this
      refine .miss ?_
      cases hv : valueAt ub (Sum.inl k : Key) with
      | none => rfl
      | some y =>
        rw [hv] at this
        exact this.elim
    | some d2 =>
      rw [hg] at e
      dsimp only at e
      split at e
      · rename_i p p2 hp hp2
        split at e
        · rename_i z hz
          cases e
          obtain ⟨v2, hv2, r2⟩ := aval_some rb hg
          have := hb.val (Sum.inl k : Key)
          rw [hv2] at this
          obtain ⟨y, hy, ry⟩ := RelO.some_of (v := v2) (o := valueAt ub (Sum.inl k : Key)) this
          obtain ⟨q1, q2⟩ := dp_of m hp h2
          obtain ⟨q3, q4⟩ := dp_of m hp2 r2
          obtain ⟨as, w1⟩ := Dp.reads I p v u q1 ru
          obtain ⟨bs, w2⟩ := Dp.reads I p2 v2 y q3 ry
          exact .hit hy (PySem.W.keq_at w1 w2 q2 q4 (by show X.A.units + 1 + 64 < cLine; omega)) (hits_of hu I m rb hb r r' ur z h3 hr hz)
        · cases e
      · cases e
theorem or_eqX (hu : X.A.units + 100 < cLine) {x y : V} {v u : Value} {dx dy : D} {i : List Addr} {M : Mem} {H : Hp} {pins : List (Addr × Obj)} {σ : L2.St} {s : Shared} {b : Bool} (I : Inv X pins σ H s) (m : MemR X.K C i M H) (rx : DV X.K i H dx x) (ry : DV X.K i H dy y) (rv : RelV x v) (ru : RelV y u)
    (e : eqX dx dy M = some b) : (∃ p p2, Dp X.K H x p ∧ Dp X.K H y p2 ∧ SeqAt.shaped p = true ∧ SeqAt.shaped p2 = true ∧ PyData.eqv p p2 = b) ∨
      ∃ (a c : Addr) (ka kb : List (Key × Value)) (r : Bool), v = .ref a ∧ u = .ref c ∧ (a == sysModules) = false ∧ (c == sysModules) = false ∧ s.heap.DictOf (mixKind X.prog X.w) a ka ∧ s.heap.DictOf (mixKind X.prog X.w) c kb ∧ (ka.length = kb.length → PySem.W.KeqHits X.A.in1 s kb ka r) ∧ (ka.length == kb.length && r) = b := by
  have plain : eqD dx dy M = some b → (∃ p p2, Dp X.K H x p ∧ Dp X.K H y p2 ∧ SeqAt.shaped p = true ∧ SeqAt.shaped p2 = true ∧ PyData.eqv p p2 = b) := fun e => by
    unfold eqD at e
    split at e
    · rename_i p p2 h1 h2
      cases e
      obtain ⟨k1, k2⟩ := dp_of m h1 rx
      obtain ⟨k3, k4⟩ := dp_of m h2 ry
      exact ⟨p, p2, k1, k3, k2, k4, rfl⟩
    · cases e
  unfold eqX at e
  split at e
  · rename_i n n2
    split at e
    · rename_i ka kb h1 h2
      obtain ⟨a, va, _, rfl, h3, h4⟩ := dct_at m h1 rx
      obtain ⟨c, vb, _, rfl, h5, h6⟩ := dct_at m h2 ry
      cases rv
      cases ru
      obtain ⟨_, ya, ua, ra, da⟩ := dk_rd I.hok (.inl h3)
      obtain ⟨_, yb, ub, rb, db⟩ := dk_rd I.hok (.inl h5)
      have la : ka.length = ua.length := by rw [h4.length', ra.length]
      have lb : kb.length = ub.length := by rw [h6.length', rb.length]
      by_cases hl : ka.length = kb.length
      · rw [if_pos hl] at e
        exact .inr ⟨a, c, ua, ub, b, rfl, rfl, ya, yb, da, db, fun _ => hits_of hu I m h6 rb ka va ua b h4 ra e, by rw [← la, ← lb, hl]; simp⟩
      · rw [if_neg hl] at e
        cases e
        exact .inr ⟨a, c, ua, ub, false, rfl, rfl, ya, yb, da, db, fun z => absurd (by rw [la, lb, z]) hl, by simp⟩
    · exact .inl (plain e)
  · exact .inl (plain e)
theorem or_eq (hu : X.A.units + 100 < cLine) : OpR X (compareOp .Eq) (rO X.K C oEq) := by
  intro pins s σ H x y v u Q I rv ru h
  obtain ⟨i, M, dx, dy, d, M', m, rx, ry, e, q⟩ := h
  unfold oEq at e
  split at e
  · rename_i b hb
    cases e
    rcases or_eqX hu I m rx ry rv ru hb with ⟨p, p2, k1, k3, k2, k4, rfl⟩ | ⟨a, c, ka, kb, r, rfl, rfl, ya, yb, da, db, hits, hr⟩
    · exact op_eqD (by omega) pins s σ H _ _ v u Q I rv ru ⟨p, p2, k1, k3, k2, k4, goBl q m⟩
    · exact PySem.W.keq_eq ya yb da db (by omega) hits ⟨.bl b, H, I, by rw [hr]; rfl, goBl q m⟩
  · cases e
theorem or_ne (hu : X.A.units + 100 < cLine) : OpR X (compareOp .NotEq) (rO X.K C oNe) := by
  intro pins s σ H x y v u Q I rv ru h
  obtain ⟨i, M, dx, dy, d, M', m, rx, ry, e, q⟩ := h
  unfold oNe at e
  split at e
  · rename_i b hb
    cases e
    rcases or_eqX hu I m rx ry rv ru hb with ⟨p, p2, k1, k3, k2, k4, rfl⟩ | ⟨a, c, ka, kb, r, rfl, rfl, ya, yb, da, db, hits, hr⟩
    · exact op_neD (by omega) pins s σ H _ _ v u Q I rv ru ⟨p, p2, k1, k3, k2, k4, goBl q m⟩
    · exact PySem.W.keq_ne ya yb da db (by omega) hits ⟨.bl (!b), H, I, by rw [hr]; rfl, goBl q m⟩
  · cases e
theorem or_lt : OpR X (compareOp .Lt) (rO X.K C oLt) := by
  intro pins s σ H x y v u Q I rv ru h
  obtain ⟨i, M, dx, dy, d, M', m, rx, ry, e, q⟩ := h
  unfold oLt at e
  split at e
  · cases e
    simp only [DV] at rx ry
    subst rx ry
    exact op_lt pins s σ H _ _ v u Q I rv ru ⟨_, _, rfl, rfl, goBl q m⟩
  · cases e
theorem or_gt : OpR X (compareOp .Gt) (rO X.K C oGt) := by
  intro pins s σ H x y v u Q I rv ru h
  obtain ⟨i, M, dx, dy, d, M', m, rx, ry, e, q⟩ := h
  unfold oGt at e
  split at e
  · cases e
    simp only [DV] at rx ry
    subst rx ry
    exact op_gt pins s σ H _ _ v u Q I rv ru ⟨_, _, rfl, rfl, goBl q m⟩
  · cases e
theorem or_ge : OpR X (compareOp .GtE) (rO X.K C oGe) := by
  intro pins s σ H x y v u Q I rv ru h
  obtain ⟨i, M, dx, dy, d, M', m, rx, ry, e, q⟩ := h
  unfold oGe at e
  split at e
  · cases e
    simp only [DV] at rx ry
    subst rx ry
    exact op_ge pins s σ H _ _ v u Q I rv ru ⟨_, _, rfl, rfl, goBl q m⟩
  · cases e
theorem or_le : OpR X (compareOp .LtE) (rO X.K C oLe) := by
  intro pins s σ H x y v u Q I rv ru h
  obtain ⟨i, M, dx, dy, d, M', m, rx, ry, e, q⟩ := h
  unfold oLe at e
  split at e
  · cases e
    simp only [DV] at rx ry
    subst rx ry
    exact op_le pins s σ H _ _ v u Q I rv ru ⟨_, _, rfl, rfl, goBl q m⟩
  · cases e
    simp only [DV] at rx ry
    subst rx ry
    exact op_le_str pins s σ H _ _ v u Q I rv ru ⟨_, _, rfl, rfl, goBl q m⟩
  · cases e
theorem isNon_dv {K : PySem.W.Frag} {i : List Addr} {H : Hp} {d : D} {v : V} (r : DV K i H d v) : isNon d = decide (v = .non) := by
  cases d <;> simp only [DV] at r
  · subst r; rfl
  · subst r; rfl
  · subst r; rfl
  · subst r; rfl
  · obtain ⟨a, vs, rfl, _⟩ := r; rfl
  · obtain ⟨a, rfl, _⟩ := r; rfl
  · obtain ⟨a, _, rfl⟩ := r; rfl
theorem or_is : OpR X (compareOp .Is) (rO X.K C oIs) := by
  intro pins s σ H x y v u Q I rv ru h
  obtain ⟨i, M, dx, dy, d, M', m, rx, ry, e, q⟩ := h
  unfold oIs at e
  split at e
  · cases e
    simp only [DV] at ry
    subst ry
    exact op_isN pins s σ H _ _ v u Q I rv ru ⟨rfl, by rw [← isNon_dv rx]; exact goBl q m⟩
  · split at e
    · cases e
      simp only [DV] at rx ry
      subst rx ry
      exact op_isBl pins s σ H _ _ v u Q I rv ru ⟨_, _, rfl, rfl, goBl q m⟩
    · cases e
  · cases e
theorem or_isNot : OpR X (compareOp .IsNot) (rO X.K C oIsNot) := by
  intro pins s σ H x y v u Q I rv ru h
  obtain ⟨i, M, dx, dy, d, M', m, rx, ry, e, q⟩ := h
  unfold oIsNot at e
  split at e
  · cases e
    simp only [DV] at ry
    subst ry
    exact op_notN pins s σ H _ _ v u Q I rv ru ⟨rfl, by rw [← isNon_dv rx]; exact goBl q m⟩
  · split at e
    · cases e
      simp only [DV] at rx ry
      subst rx ry
      exact op_notBl pins s σ H _ _ v u Q I rv ru ⟨_, _, rfl, rfl, goBl q m⟩
    · cases e
  · cases e
end
end BL
/-! BLBuilt: subscripts, slices, dicts, built-ins, methods by values. -/
namespace BL
open PySem L2

/-! ### dicts -/
def ahas (kvs : List (Int × D)) (k : Int) : Bool := (aget kvs k).isSome
def aput (kvs : List (Int × D)) (k : Int) (d : D) : List (Int × D) := if ahas kvs k = true then kvs.map fun p => if p.1 = k then (p.1, d) else p else kvs ++ [(k, d)]
def adel (kvs : List (Int × D)) (k : Int) : List (Int × D) := kvs.filter fun p => decide (p.1 ≠ k)
section
variable {K : PySem.W.Frag} {C : Addr} {i : List Addr} {M : Mem} {H : Hp}
theorem DKs.val (k : Int) : ∀ {kvs : List (Int × D)} {vs : List (Key × V)}, DKs K i H kvs vs → (aget kvs k = none → valV vs (Sum.inl k : Key) = none) ∧ ∀ d, aget kvs k = some d → ∃ v, valV vs (Sum.inl k : Key) = some v ∧ DV K i H d v
  | [], vs, h => by
    simp only [DKs] at h
    subst h
    exact ⟨fun _ => rfl, fun d e => by cases e⟩
  | (j, x) :: r, vs, h => by
    simp only [DKs] at h
    obtain ⟨v, r', h1, h2, h3⟩ := h
    subst h1
    obtain ⟨n1, n2⟩ := DKs.val k h3
    by_cases e : j = k
    · subst e
      rw [valV_pos (show ((Sum.inl j : Key), v).1 = Sum.inl j from rfl)]
      unfold aget
      rw [if_pos rfl]
      exact ⟨fun z => (by cases z), fun d z => ⟨v, rfl, by cases z; exact h2⟩⟩
    · rw [valV_neg (show ¬ ((Sum.inl j : Key), v).1 = Sum.inl k from fun z => e (Sum.inl.inj z))]
      unfold aget
      rw [if_neg e]
      exact ⟨n1, n2⟩
theorem DKs.length : ∀ {kvs : List (Int × D)} {vs : List (Key × V)}, DKs K i H kvs vs → kvs.length = vs.length
  | [], vs, h => by
    simp only [DKs] at h
    subst h
    rfl
  | (j, x) :: r, vs, h => by
    simp only [DKs] at h
    obtain ⟨v, r', h1, h2, h3⟩ := h
    subst h1
    rw [List.length_cons, List.length_cons, h3.length]
theorem dk_snoc {k : Int} {d : D} {v : V} (rv : DV K i H d v) : ∀ {kvs : List (Int × D)} {vs : List (Key × V)}, DKs K i H kvs vs → DKs K i H (kvs ++ [(k, d)]) (vs ++ [(Sum.inl k, v)])
  | [], vs, h => by
    simp only [DKs] at h
    subst h
    simp only [List.nil_append, DKs]
    exact ⟨v, [], rfl, rv, rfl⟩
  | (j, x) :: r, vs, h => by
    simp only [DKs] at h
    obtain ⟨v', r', h1, h2, h3⟩ := h
    subst h1
    simp only [List.cons_append, DKs]
    exact ⟨v', _, rfl, h2, dk_snoc rv h3⟩
theorem dk_repl {k : Int} {d : D} {v : V} (rv : DV K i H d v) : ∀ {kvs : List (Int × D)} {vs : List (Key × V)}, DKs K i H kvs vs →
    DKs K i H (kvs.map fun p => if p.1 = k then (p.1, d) else p) (vs.map fun kv => if kv.1 = (Sum.inl k : Key) then (kv.1, v) else kv)
  | [], vs, h => by
    simp only [DKs] at h
    subst h
    simp only [List.map, DKs]
  | (j, x) :: r, vs, h => by
    simp only [DKs] at h
    obtain ⟨v', r', h1, h2, h3⟩ := h
    subst h1
    simp only [List.map]
    by_cases e : j = k
    · subst e
      rw [if_pos rfl, if_pos rfl]
      simp only [DKs]
      exact ⟨v, _, rfl, rv, dk_repl rv h3⟩
    · rw [if_neg e, if_neg fun z => e (Sum.inl.inj z)]
      simp only [DKs]
      exact ⟨v', _, rfl, h2, dk_repl rv h3⟩
theorem DKs.put {k : Int} {d : D} {v : V} (rv : DV K i H d v) {kvs : List (Int × D)} {vs : List (Key × V)} (h : DKs K i H kvs vs) : DKs K i H (aput kvs k d) (putK vs (Sum.inl k : Key) v) := by
  obtain ⟨n1, n2⟩ := DKs.val k h
  unfold aput putK ahas
  cases e : aget kvs k with
  | none =>
    have e2 := n1 e
    have e3 : (vs.any fun kv => decide (kv.1 = (Sum.inl k : Key))) = false := by rw [valV_any, e2]; rfl
    rw [if_neg (by simp), if_neg (by rw [e3]; simp)]
    exact dk_snoc rv h
  | some d' =>
    obtain ⟨v', e2, _⟩ := n2 d' e
    have e3 : (vs.any fun kv => decide (kv.1 = (Sum.inl k : Key))) = true := by rw [valV_any, e2]; rfl
    rw [if_pos (by simp), if_pos e3]
    exact dk_repl rv h
theorem DKs.del {k : Int} : ∀ {kvs : List (Int × D)} {vs : List (Key × V)}, DKs K i H kvs vs → DKs K i H (adel kvs k) (dropK vs (Sum.inl k : Key))
  | [], vs, h => by
    simp only [DKs] at h
    subst h
    simp only [adel, dropK, List.filter, DKs]
  | (j, x) :: r, vs, h => by
    simp only [DKs] at h
    obtain ⟨v', r', h1, h2, h3⟩ := h
    subst h1
    have ih := DKs.del (k := k) h3
    unfold adel dropK at ih ⊢
    by_cases e : j = k
    · subst e
      rw [List.filter_cons_of_neg (by simp), List.filter_cons_of_neg (by simp)]
      exact ih
    · rw [List.filter_cons_of_pos (by simpa using e), List.filter_cons_of_pos (by simpa using fun z => e z)]
      simp only [DKs]
      exact ⟨v', _, rfl, h2, ih⟩
theorem dk_keys : ∀ {kvs : List (Int × D)} {vs : List (Key × V)}, DKs K i H kvs vs → vs.map (·.1) = (kvs.map (·.1)).map Sum.inl
  | [], vs, h => by
    simp only [DKs] at h
    subst h
    rfl
  | (j, x) :: r, vs, h => by
    simp only [DKs] at h
    obtain ⟨v', r', h1, h2, h3⟩ := h
    subst h1
    simp only [List.map, List.cons.injEq, true_and]
    exact dk_keys h3
theorem dk_keysV : ∀ {kvs : List (Int × D)} {vs : List (Key × V)}, DKs K i H kvs vs → vs.map (fun kv => kV kv.1) = (kvs.map (·.1)).map V.int
  | [], vs, h => by
    simp only [DKs] at h
    subst h
    rfl
  | (j, x) :: r, vs, h => by
    simp only [DKs] at h
    obtain ⟨v', r', h1, h2, h3⟩ := h
    subst h1
    simp only [List.map, kV, List.cons.injEq, true_and]
    exact dk_keysV h3
end
/-! ### subscripts -/
def oIx : Op2 := fun x y M => match y with
  | .int k => (match x with
    | .tup ds => (match atI ds k with
      | some d => some (d, M)
      | none => none)
    | .scr ns => (match atI ns k with
      | some n => some (.int n, M)
      | none => none)
    | .str s => if s.length < 16000000 then (match atI s.cps.toList k with
      | some c => some (.str ⟨#[c]⟩, M)
      | none => none) else none
    | .ref n => (match M[n]? with
      | some (.lst ds) => (match atI ds k with
        | some d => some (d, M)
        | none => none)
      | some (.dct kvs) => (match aget kvs k with
        | some d => some (d, M)
        | none => none)
      | _ => none)
    | _ => none)
  | _ => none
section
variable {X : Cx} {C : Addr} {W : WX}
theorem ix_dict (hu : X.A.units + 1 < cLine) : IxR X (fun x y H Q => ∃ a v, x = .ref a ∧ DGet H a y (some v) ∧ Q v H) := by
  intro value slice pins s σ H x y v u Q I rx ry h hs
  obtain ⟨a, z, rfl, g, q⟩ := h
  cases rx
  unfold PyProof.Rows.subscriptTail
  refine wpAny_bind ?_
  have hT := dict_typeIs I g
  rw [getitemInPython_of_ne hT.not_modules]
  refine wpAny_bind (wpAny_specialOf hT PySem.F.slot_dict_getitem.lookup ?_)
  have fin : wpAny (model X.prog X.w) X.A (subscripted slice false (.ref a) u) (fun r s₃ => wpAny (model X.prog X.w) X.A (letTemporaryGo value (.ref a) r >>= fun _ => pure r) (EP X pins σ Q) X.xe s₃) X.xe s := by
    rw [hs]
    exact wpAny_operating (d_getItem hu I g ry fun w' s3 I3 rw' => wpAny_bind (wpAny_letTemporaryGo (wpAny_pure ⟨z, H, I3, rw', q⟩)))
  first
    | exact wpAny_pure (wpAny_bind fin)
    | exact wpAny_bind (wpAny_pure (wpAny_bind fin))
    | exact wpAny_bind fin
theorem atI_dl {K : PySem.W.Frag} {i : List Addr} {H : Hp} {ds : List D} {vs : List V} {k : Int} {d : D} (h : DLs K i H ds vs) (e : atI ds k = some d) : ∃ v, atI vs k = some v ∧ DV K i H d v := by
  unfold atI at e ⊢
  rw [← h.length]
  cases hx : ixN ds.length k with
  | none =>
    rw [hx] at e
    cases e
  | some j =>
    rw [hx] at e
    obtain ⟨v, h1, h2⟩ := h.get e
    exact ⟨v, h1, h2⟩
theorem atI_map {α β : Type} {f : α → β} {xs : List α} {k : Int} {x : α} (e : atI xs k = some x) : atI (xs.map f) k = some (f x) := by
  unfold atI at e ⊢
  rw [List.length_map]
  cases hx : ixN xs.length k with
  | none =>
    rw [hx] at e
    cases e
  | some j =>
    rw [hx] at e
    show (xs.map f)[j]? = some (f x)
    rw [List.getElem?_map, show xs[j]? = some x from e]
    rfl
theorem ir_ix (hu : X.A.units + 1 < cLine) : IxR X (rO X.K C oIx) := by
  intro value slice pins s σ H x y v u Q I rv ru h hs
  obtain ⟨i, M, dx, dy, d, M', m, rx, ry, e, q⟩ := h
  unfold oIx at e
  split at e
  · rename_i k
    simp only [DV] at ry
    subst ry
    split at e
    · rename_i ds
      obtain ⟨a, vs, rfl, h1, h2⟩ := tup_at rx
      split at e
      · rename_i d' hd
        cases e
        obtain ⟨w, k1, k2⟩ := atI_dl h2 hd
        exact ix_tup value slice pins s σ H _ _ v u Q I rv ru ⟨a, vs, k, w, rfl, rfl, h1.seq, k1, goSame q m k2⟩ hs
      · cases e
    · rename_i ns
      obtain ⟨a, rfl, h1⟩ := scr_at rx
      split at e
      · rename_i n hd
        cases e
        exact ix_list value slice pins s σ H _ _ v u Q I rv ru ⟨a, _, k, _, rfl, rfl, h1.seq, atI_map hd, goInt q m⟩ hs
      · cases e
    · rename_i z
      simp only [DV] at rx
      subst rx
      split at e
      · rename_i hl
        split at e
        · rename_i c hc
          cases e
          exact ix_str value slice pins s σ H _ _ v u Q I rv ru ⟨z, k, c, rfl, rfl, Nat.le_of_lt (small_line hl), hc, goStr q m⟩ hs
        · cases e
      · cases e
    · rename_i n
      split at e
      · rename_i ds hn
        obtain ⟨a, vs, ha, rfl, h1, h2⟩ := lst_at m hn rx
        split at e
        · rename_i d' hd
          cases e
          obtain ⟨w, k1, k2⟩ := atI_dl h2 hd
          exact ix_list value slice pins s σ H _ _ v u Q I rv ru ⟨a, vs, k, w, rfl, rfl, SqL.of h1, k1, goSame q m k2⟩ hs
        · cases e
      · rename_i kvs hn
        obtain ⟨a, vs, ha, rfl, h1, h2⟩ := dct_at m hn rx
        split at e
        · rename_i d' hd
          cases e
          obtain ⟨w, k1, k2⟩ := (DKs.val k h2).2 _ hd
          exact ix_dict hu value slice pins s σ H _ _ v u Q I rv ru ⟨a, w, rfl, by rw [← k1]; exact DGet.k (k := Sum.inl k) h1, goSame q m k2⟩ hs
        · cases e
      · cases e
    · cases e
  · cases e
variable {a b : Expr} {ga gb : GE} {pos : Pos}
theorem se_ix (hu : X.A.units + 1 < cLine) (ha : SE X C W a ga) (hb : SE X C W b gb) (hs : PlainIx b) : SE X C W (.Subscript a b pos) (mBin oIx ga gb) := by
  obtain ⟨ta, pa, sa⟩ := ha.ex
  obtain ⟨tb, pb, sb⟩ := hb.ex
  exact ⟨_, pe_ix (ir_ix hu) pa pb hs, snd_bin2 sa sb⟩
/-! ### slices -/
def cutD {α : Type} (xs : List α) (lo hi : Option Int) : List α := (xs.drop (HT.sIx xs.length 0 lo)).take (HT.sIx xs.length xs.length hi - HT.sIx xs.length 0 lo)
def oSl (x : D) (lo hi : Option Int) (M : Mem) : Option (D × Mem) := match x with
  | .tup ds => some (.tup (cutD ds lo hi), M)
  | .scr ns => some (.ref M.length, M ++ [.lst ((cutD ns lo hi).map .int)])
  | .str s => if s.length < 16000000 then some (.str (cutS s lo hi), M) else none
  | .ref n => (match M[n]? with
    | some (.lst ds) => some (.ref M.length, M ++ [.lst (cutD ds lo hi)])
    | _ => none)
  | _ => none
abbrev GO := Loc → Mem → Option (Rz (Option Int))
def mNo : GO := fun _ M => some (.ok none M)
def mSome (e : GE) : GO := fun L M => bnd (e L M) fun d M1 => match d with
  | .int k => some (.ok (some k) M1)
  | _ => none
def mSl (e : GE) (lo hi : GO) : GE := fun L M => bnd (e L M) fun d M1 => bnd (lo L M1) fun l M2 => bnd (hi L M2) fun h M3 => ret (oSl d l h M3)
structure SO (X : Cx) (C : Addr) (W : WX) (e : Option Expr) (g : GO) : Prop where
  ex : ∃ t, PO X e t ∧ SndG X.K X.mg C W (fun _ _ (x y : Option Int) => y = x) t g
theorem so_no : SO X C W none mNo := ⟨_, po_none, fun i L M σ H r Q m l e q => by
  cases e
  exact q i H none Gro.refl m rfl⟩
theorem so_some (ha : SE X C W a ga) : SO X C W (some a) (mSome ga) := by
  obtain ⟨ta, pa, sa⟩ := ha.ex
  refine ⟨_, po_some pa, fun i L M σ H r Q m l e q => ?_⟩
  refine sa.step m l e q fun dx M1 i1 H1 x g1 m1 l1 rx e1 q1 => ?_
  cases dx <;> first
    | (cases e1; done)
    | skip
  rename_i k
  cases e1
  simp only [DV] at rx
  exact ⟨k, rx, q1 i1 H1 _ Gro.refl m1 rfl⟩
theorem cut_dl {K : PySem.W.Frag} {i : List Addr} {H : Hp} {ds : List D} {vs : List V} (h : DLs K i H ds vs) (lo hi : Option Int) : DLs K i H (cutD ds lo hi) (cutV vs lo hi) := by
  unfold cutD cutV
  rw [h.length]
  exact dl_take _ (dl_drop _ h)
theorem cutD_length {α : Type} (xs : List α) (lo hi : Option Int) : (cutD xs lo hi).length ≤ xs.length := by
  unfold cutD
  rw [List.length_take, List.length_drop]
  omega
theorem cutV_map {α : Type} (f : α → V) (xs : List α) (lo hi : Option Int) : cutV (xs.map f) lo hi = (cutD xs lo hi).map f := by
  unfold cutD cutV
  rw [List.length_map, List.map_take, List.map_drop]
theorem cutD_whole {α : Type} (xs : List α) (lo hi : Option Int) (h : HT.sIx xs.length 0 lo = 0 ∧ HT.sIx xs.length xs.length hi = xs.length) : cutD xs lo hi = xs := by
  unfold cutD
  rw [h.1, h.2]
  simp
theorem rSl_any : SlR X (fun x lo hi H Q => ∃ i M dx d M', MemR X.K C i M H ∧ DV X.K i H dx x ∧ oSl dx lo hi M = some (d, M') ∧ Goes X.K C i H d M' Q) := by
  intro pins s σ H x v vl vu lo hi sl Q I rv hs pl pu h
  obtain ⟨i, M, dx, d, M', m, rx, e, q⟩ := h
  unfold oSl at e
  split at e
  · rename_i ds
    cases e
    obtain ⟨a, vs, rfl, h1, h2⟩ := tup_at rx
    refine sl_tupA pins s σ H _ v vl vu lo hi sl Q I rv hs pl pu ⟨a, vs, rfl, h1.seq, fun z => ?_, fun z => goTup q m (cut_dl h2 lo hi)⟩
    rw [← h2.length] at z
    refine goSame q m ?_
    rw [cutD_whole ds lo hi z]
    exact rx
  · rename_i ns
    cases e
    obtain ⟨a, rfl, h1⟩ := scr_at rx
    refine sl_list pins s σ H _ v vl vu lo hi sl Q I rv hs pl pu ⟨a, _, rfl, h1.seq, ?_⟩
    rw [cutV_map]
    exact goLst q m (dl_ints _)
  · rename_i z
    split at e
    · rename_i hl
      cases e
      simp only [DV] at rx
      subst rx
      exact sl_str pins s σ H _ v vl vu lo hi sl Q I rv hs pl pu ⟨z, rfl, Nat.le_of_lt (small_line hl), goStr q m⟩
    · cases e
  · rename_i n
    split at e
    · rename_i ds hn
      cases e
      obtain ⟨a, vs, ha, rfl, h1, h2⟩ := lst_at m hn rx
      exact sl_list pins s σ H _ v vl vu lo hi sl Q I rv hs pl pu ⟨a, vs, rfl, SqL.of h1, goLst q m (cut_dl h2 lo hi)⟩
    · cases e
  · cases e
variable {lo hi : Option Expr} {gl gh : GO} {p2 : Pos}
theorem se_sl (ha : SE X C W a ga) (hl : SO X C W lo gl) (hh : SO X C W hi gh) : SE X C W (.Subscript a (.Slice lo hi none p2) pos) (mSl ga gl gh) := by
  obtain ⟨ta, pa, sa⟩ := ha.ex
  obtain ⟨tl, pl, sl⟩ := hl.ex
  obtain ⟨th, ph, sh⟩ := hh.ex
  refine ⟨_, pe_slice (rSl_any (C := C)) pa pl ph, fun i L M σ H r Q m l e q => ?_⟩
  refine sa.step m l e q fun dx M1 i1 H1 x g1 m1 l1 rx e1 q1 => ?_
  refine sl.step m1 l1 e1 q1 fun dl M2 i2 H2 xl g2 m2 l2 rl e2 q2 => ?_
  refine sh.step m2 l2 e2 q2 fun dh M3 i3 H3 xh g3 m3 l3 rh e3 q3 => ?_
  obtain ⟨d, M', h1, h2⟩ := snd_ret e3 q3
  cases rl
  cases rh
  exact ⟨i3, M3, dx, d, M', m3, (rx.mono g2).mono g3, h1, h2⟩
end
end BL
/-! BLCalls: built-ins and methods by values. -/
namespace BL
open PySem L2

/-! ### built-ins -/
def oLen : OpN := fun xs M => match xs with
  | [.tup ds] => some (.int ds.length, M)
  | [.scr ns] => some (.int ns.length, M)
  | [.str s] => if s.length < 16000000 then some (.int s.length, M) else none
  | [.ref n] => (match M[n]? with
    | some (.lst ds) => some (.int ds.length, M)
    | some (.dct kvs) => some (.int kvs.length, M)
    | _ => none)
  | _ => none
def oList : OpN := fun xs M => match xs with
  | [.tup ds] => some (.ref M.length, M ++ [.lst ds])
  | [.scr ns] => some (.ref M.length, M ++ [.lst (ns.map .int)])
  | [.ref n] => (match M[n]? with
    | some (.lst ds) => some (.ref M.length, M ++ [.lst ds])
    | some (.dct kvs) => some (.ref M.length, M ++ [.lst (kvs.map fun p => .int p.1)])
    | _ => none)
  | _ => none
def oTuple : OpN := fun xs M => match xs with
  | [.tup ds] => some (.tup ds, M)
  | [.ref n] => (match M[n]? with
    | some (.lst ds) => some (.tup ds, M)
    | _ => none)
  | _ => none
def oDict : OpN := fun xs M => match xs with
  | [.ref n] => (match M[n]? with
    | some (.dct kvs) => some (.ref M.length, M ++ [.dct kvs])
    | _ => none)
  | _ => none
def oInt : OpN := fun xs M => match xs with
  | [.int i] => some (.int i, M)
  | [.bl b] => some (.int (if b then 1 else 0), M)
  | _ => none
def oStr : OpN := fun xs M => match xs with
  | [.int i] => if i.natAbs.log2 < 1920 then some (.str (toString i), M) else none
  | _ => none
def oMax2 : OpN := fun xs M => match xs with
  | [.int i, .int j] => some (.int (if j > i then j else i), M)
  | _ => none
def oMin2 : OpN := fun xs M => match xs with
  | [.int i, .int j] => some (.int (if j < i then j else i), M)
  | _ => none
def intsOf : List D → Option (List Int)
  | [] => some []
  | .int i :: ds => (match intsOf ds with
    | some ns => some (i :: ns)
    | none => none)
  | _ :: _ => none
def maxOf : List Int → Option Int
  | [] => none
  | n :: ns => some (ns.foldl (fun a b => if b > a then b else a) n)
def minOf : List Int → Option Int
  | [] => none
  | n :: ns => some (ns.foldl (fun a b => if b < a then b else a) n)
def oMax1 : OpN := fun xs M => match xs with
  | [.ref n] => (match M[n]? with
    | some (.lst ds) => (match (intsOf ds).bind maxOf with
      | some k => some (.int k, M)
      | none => none)
    | _ => none)
  | _ => none
def oMin1 : OpN := fun xs M => match xs with
  | [.ref n] => (match M[n]? with
    | some (.lst ds) => (match (intsOf ds).bind minOf with
      | some k => some (.int k, M)
      | none => none)
    | _ => none)
  | _ => none
/-- kinds -/
def kindOf (M : Mem) : D → Option String
  | .non => some "NoneType"
  | .bl _ => some "bool"
  | .int _ => some "int"
  | .str _ => some "str"
  | .tup _ => some "tuple"
  | .scr _ => some "list"
  | .ref n => (match M[n]? with
    | some (.lst _) => some "list"
    | some (.dct _) => some "dict"
    | _ => none)
def oIsi (T : String) : Op1 := fun x M => match kindOf M x with
  | some k => (match kitB k T with
    | some b => some (.bl b, M)
    | none => none)
  | none => none
section
variable {K : PySem.W.Frag} {C : Addr} {i : List Addr} {M : Mem} {H : Hp}
theorem intsOf_dl : ∀ {ds : List D} {vs : List V} {ns : List Int}, DLs K i H ds vs → intsOf ds = some ns → vs = ns.map V.int
  | [], vs, ns, h, e => by
    simp only [DLs] at h
    simp only [intsOf, Option.some.injEq] at e
    subst h e
    rfl
  | d :: ds, vs, ns, h, e => by
    simp only [DLs] at h
    obtain ⟨v, r, rfl, h2, h3⟩ := h
    cases d <;> first
      | (cases e; done)
      | skip
    rename_i k
    unfold intsOf at e
    split at e
    · rename_i ns' hn
      cases e
      simp only [DV] at h2
      subst h2
      rw [intsOf_dl h3 hn]
      rfl
    · cases e
theorem maxOf_eq {ns : List Int} {k m : Int} (e : maxOf ns = some k) (hm : m ∈ ns) (hle : ∀ y ∈ ns, y ≤ m) : m = k := by
  cases ns with
  | nil => cases hm
  | cons n r =>
    cases e
    have key : ∀ (r : List Int) (n : Int), (r.foldl (fun a b => if b > a then b else a) n = n ∨ r.foldl (fun a b => if b > a then b else a) n ∈ r) ∧ n ≤ r.foldl (fun a b => if b > a then b else a) n ∧ ∀ y ∈ r, y ≤ r.foldl (fun a b => if b > a then b else a) n := by
      intro r
      induction r with
      | nil => intro n; simp
      | cons x r ih =>
        intro n
        rw [List.foldl_cons]
        obtain ⟨h1, h2, h3⟩ := ih (if x > n then x else n)
        refine ⟨?_, ?_, fun y hy => ?_⟩
        · rcases h1 with h1 | h1
          · rw [h1]
            split
            · exact .inr List.mem_cons_self
            · exact .inl rfl
          · exact .inr (List.mem_cons_of_mem _ h1)
        · exact Int.le_trans (by split <;> omega) h2
        · rcases List.mem_cons.mp hy with rfl | hy
          · exact Int.le_trans (by split <;> omega) h2
          · exact h3 y hy
    obtain ⟨h1, h2, h3⟩ := key r n
    have a : m ≤ r.foldl (fun a b => if b > a then b else a) n := by
      rcases List.mem_cons.mp hm with rfl | hm
      · exact h2
      · exact h3 m hm
    have b : r.foldl (fun a b => if b > a then b else a) n ≤ m := by
      rcases h1 with h1 | h1
      · rw [h1]; exact hle n List.mem_cons_self
      · exact hle _ (List.mem_cons_of_mem _ h1)
    omega
theorem minOf_eq {ns : List Int} {k m : Int} (e : minOf ns = some k) (hm : m ∈ ns) (hle : ∀ y ∈ ns, m ≤ y) : m = k := by
  cases ns with
  | nil => cases hm
  | cons n r =>
    cases e
    have key : ∀ (r : List Int) (n : Int), (r.foldl (fun a b => if b < a then b else a) n = n ∨ r.foldl (fun a b => if b < a then b else a) n ∈ r) ∧ r.foldl (fun a b => if b < a then b else a) n ≤ n ∧ ∀ y ∈ r, r.foldl (fun a b => if b < a then b else a) n ≤ y := by
      intro r
      induction r with
      | nil => intro n; simp
      | cons x r ih =>
        intro n
        rw [List.foldl_cons]
        obtain ⟨h1, h2, h3⟩ := ih (if x < n then x else n)
        refine ⟨?_, ?_, fun y hy => ?_⟩
        · rcases h1 with h1 | h1
          · rw [h1]
            split
            · exact .inr List.mem_cons_self
            · exact .inl rfl
          · exact .inr (List.mem_cons_of_mem _ h1)
        · exact Int.le_trans h2 (by split <;> omega)
        · rcases List.mem_cons.mp hy with rfl | hy
          · exact Int.le_trans h2 (by split <;> omega)
          · exact h3 y hy
    obtain ⟨h1, h2, h3⟩ := key r n
    have a : r.foldl (fun a b => if b < a then b else a) n ≤ m := by
      rcases List.mem_cons.mp hm with rfl | hm
      · exact h2
      · exact h3 m hm
    have b : m ≤ r.foldl (fun a b => if b < a then b else a) n := by
      rcases h1 with h1 | h1
      · rw [h1]; exact hle n List.mem_cons_self
      · exact hle _ (List.mem_cons_of_mem _ h1)
    omega
end
section
variable {X : Cx} {C : Addr} {W : WX}
theorem cl_len : CallR X (.builtin "len") (rON X.K C oLen) := by
  intro pins s σ H xs us Q I rv h
  obtain ⟨i, M, ds, d, M', m, rx, e, q⟩ := h
  unfold oLen at e
  split at e
  · cases e
    obtain ⟨v, rfl, r1⟩ := dl1 rx
    obtain ⟨a, vs, rfl, h1, h2⟩ := tup_at r1
    exact call_len_seq pins s σ H _ us Q I rv ⟨a, vs, rfl, .inr h1.seq, by rw [← h2.length]; exact goInt q m⟩
  · rename_i ns
    cases e
    obtain ⟨v, rfl, r1⟩ := dl1 rx
    obtain ⟨a, rfl, h1⟩ := scr_at r1
    exact call_len_seq pins s σ H _ us Q I rv ⟨a, _, rfl, .inl h1.seq, by rw [List.length_map]; exact goInt q m⟩
  · split at e
    · rename_i hl
      cases e
      obtain ⟨v, rfl, r1⟩ := dl1 rx
      simp only [DV] at r1
      subst r1
      exact call_len_str pins s σ H _ us Q I rv ⟨_, rfl, Nat.le_of_lt (small_line hl), goInt q m⟩
    · cases e
  · split at e
    · rename_i ds hn
      cases e
      obtain ⟨v, rfl, r1⟩ := dl1 rx
      obtain ⟨a, vs, ha, rfl, h1, h2⟩ := lst_at m hn r1
      exact call_len_seq pins s σ H _ us Q I rv ⟨a, vs, rfl, .inl (SqL.of h1), by rw [← h2.length]; exact goInt q m⟩
    · rename_i kvs hn
      cases e
      obtain ⟨v, rfl, r1⟩ := dl1 rx
      obtain ⟨a, vs, ha, rfl, h1, h2⟩ := dct_at m hn r1
      exact call_lenD pins s σ H _ us Q I rv ⟨a, vs, rfl, h1, by rw [← h2.length]; exact goInt q m⟩
    · cases e
  · cases e
theorem ints_dl {K : PySem.W.Frag} {i : List Addr} {H : Hp} : ∀ (ks : List (Int × D)), DLs K i H (ks.map fun p => D.int p.1) ((ks.map (·.1)).map V.int)
  | [] => by simp only [List.map, DLs]
  | p :: ks => by
    simp only [List.map, DLs]
    exact ⟨_, _, rfl, by simp only [DV], ints_dl ks⟩
theorem cl_list (hc : X.calm = true) : CallR X (.type "list") (rON X.K C oList) := by
  intro pins s σ H xs us Q I rv h
  obtain ⟨i, M, ds, d, M', m, rx, e, q⟩ := h
  unfold oList at e
  split at e
  · cases e
    obtain ⟨v, rfl, r1⟩ := dl1 rx
    obtain ⟨a, vs, rfl, h1, h2⟩ := tup_at r1
    exact call_list_of pins s σ H _ us Q I rv ⟨a, vs, rfl, .inr h1.seq, goLst q m h2⟩
  · rename_i ns
    cases e
    obtain ⟨v, rfl, r1⟩ := dl1 rx
    obtain ⟨a, rfl, h1⟩ := scr_at r1
    exact call_list_of pins s σ H _ us Q I rv ⟨a, _, rfl, .inl h1.seq, goLst q m (dl_ints _)⟩
  · split at e
    · rename_i ds hn
      cases e
      obtain ⟨v, rfl, r1⟩ := dl1 rx
      obtain ⟨a, vs, ha, rfl, h1, h2⟩ := lst_at m hn r1
      exact call_list_of pins s σ H _ us Q I rv ⟨a, vs, rfl, .inl (SqL.of h1), goLst q m h2⟩
    · rename_i kvs hn
      cases e
      obtain ⟨v, rfl, r1⟩ := dl1 rx
      obtain ⟨a, vs, ha, rfl, h1, h2⟩ := dct_at m hn r1
      refine call_listD hc pins s σ H _ us Q I rv ⟨a, vs, rfl, .inl h1, ?_⟩
      rw [dk_keysV h2]
      exact goLst q m (ints_dl kvs)
    · cases e
  · cases e
theorem cl_tuple : CallR X (.type "tuple") (rON X.K C oTuple) := by
  intro pins s σ H xs us Q I rv h
  obtain ⟨i, M, ds, d, M', m, rx, e, q⟩ := h
  unfold oTuple at e
  split at e
  · cases e
    obtain ⟨v, rfl, r1⟩ := dl1 rx
    obtain ⟨a, vs, rfl, h1, h2⟩ := tup_at r1
    exact call_tuple_of pins s σ H _ us Q I rv ⟨a, vs, rfl, .inr ⟨h1.seq, goSame q m r1⟩⟩
  · split at e
    · rename_i ds hn
      cases e
      obtain ⟨v, rfl, r1⟩ := dl1 rx
      obtain ⟨a, vs, ha, rfl, h1, h2⟩ := lst_at m hn r1
      exact call_tuple_of pins s σ H _ us Q I rv ⟨a, vs, rfl, .inl ⟨SqL.of h1, goTup q m h2⟩⟩
    · cases e
  · cases e
theorem cl_dict : CallR X (.type "dict") (rON X.K C oDict) := by
  intro pins s σ H xs us Q I rv h
  obtain ⟨i, M, ds, d, M', m, rx, e, q⟩ := h
  unfold oDict at e
  split at e
  · split at e
    · rename_i kvs hn
      cases e
      obtain ⟨v, rfl, r1⟩ := dl1 rx
      obtain ⟨a, vs, ha, rfl, h1, h2⟩ := dct_at m hn r1
      exact call_dictD pins s σ H _ us Q I rv ⟨a, vs, rfl, .inl h1, goDct q m h2⟩
    · cases e
  · cases e
theorem cl_int : CallR X (.type "int") (rON X.K C oInt) := by
  intro pins s σ H xs us Q I rv h
  obtain ⟨i, M, ds, d, M', m, rx, e, q⟩ := h
  unfold oInt at e
  split at e
  · cases e
    obtain ⟨v, rfl, r1⟩ := dl1 rx
    simp only [DV] at r1
    subst r1
    exact call_int1 pins s σ H _ us Q I rv (.inl ⟨_, rfl, goInt q m⟩)
  · cases e
    obtain ⟨v, rfl, r1⟩ := dl1 rx
    simp only [DV] at r1
    subst r1
    exact call_int1 pins s σ H _ us Q I rv (.inr ⟨_, rfl, goInt q m⟩)
  · cases e
theorem cl_str : CallR X (.type "str") (rON X.K C oStr) := by
  intro pins s σ H xs us Q I rv h
  obtain ⟨i, M, ds, d, M', m, rx, e, q⟩ := h
  unfold oStr at e
  split at e
  · split at e
    · rename_i hl
      cases e
      obtain ⟨v, rfl, r1⟩ := dl1 rx
      simp only [DV] at r1
      subst r1
      exact call_str_int pins s σ H _ us Q I rv ⟨_, rfl, hl, goStr q m⟩
    · cases e
  · cases e
theorem cl_max2 (hc : X.calm = true) : CallR X (.builtin "max") (rON X.K C oMax2) := by
  intro pins s σ H xs us Q I rv h
  obtain ⟨i, M, ds, d, M', m, rx, e, q⟩ := h
  unfold oMax2 at e
  split at e
  · cases e
    obtain ⟨v, w, rfl, r1, r2⟩ := dl2 rx
    simp only [DV] at r1 r2
    subst r1 r2
    exact call_max2 hc pins s σ H _ us Q I rv ⟨_, _, rfl, goInt q m⟩
  · cases e
theorem cl_min2 (hc : X.calm = true) : CallR X (.builtin "min") (rON X.K C oMin2) := by
  intro pins s σ H xs us Q I rv h
  obtain ⟨i, M, ds, d, M', m, rx, e, q⟩ := h
  unfold oMin2 at e
  split at e
  · cases e
    obtain ⟨v, w, rfl, r1, r2⟩ := dl2 rx
    simp only [DV] at r1 r2
    subst r1 r2
    exact call_min2 hc pins s σ H _ us Q I rv ⟨_, _, rfl, goInt q m⟩
  · cases e
theorem maxOf_pos {ns : List Int} {k : Int} (e : maxOf ns = some k) : 0 < ns.length := by
  cases ns with
  | nil => cases e
  | cons n r => simp
theorem minOf_pos {ns : List Int} {k : Int} (e : minOf ns = some k) : 0 < ns.length := by
  cases ns with
  | nil => cases e
  | cons n r => simp
theorem cl_max1 (hc : X.calm = true) : CallR X (.builtin "max") (rON X.K C oMax1) := by
  intro pins s σ H xs us Q I rv h
  obtain ⟨i, M, ds, d, M', m, rx, e, q⟩ := h
  unfold oMax1 at e
  split at e
  · split at e
    · rename_i ds hn
      split at e
      · rename_i k hk
        cases e
        obtain ⟨ns, h3, h4⟩ := Option.bind_eq_some_iff.mp hk
        obtain ⟨v, rfl, r1⟩ := dl1 rx
        obtain ⟨a, vs, ha, rfl, h1, h2⟩ := lst_at m hn r1
        have ev := intsOf_dl h2 h3
        subst ev
        refine cr_max hc pins s σ H _ us Q I rv ⟨a, ns, rfl, SqL.of h1, maxOf_pos h4, fun mm hm hle => ?_⟩
        rw [maxOf_eq h4 hm hle]
        exact goInt q m
      · cases e
    · cases e
  · cases e
theorem cl_min1 (hc : X.calm = true) : CallR X (.builtin "min") (rON X.K C oMin1) := by
  intro pins s σ H xs us Q I rv h
  obtain ⟨i, M, ds, d, M', m, rx, e, q⟩ := h
  unfold oMin1 at e
  split at e
  · split at e
    · rename_i ds hn
      split at e
      · rename_i k hk
        cases e
        obtain ⟨ns, h3, h4⟩ := Option.bind_eq_some_iff.mp hk
        obtain ⟨v, rfl, r1⟩ := dl1 rx
        obtain ⟨a, vs, ha, rfl, h1, h2⟩ := lst_at m hn r1
        have ev := intsOf_dl h2 h3
        subst ev
        refine cr_min hc pins s σ H _ us Q I rv ⟨a, ns, rfl, SqL.of h1, minOf_pos h4, fun mm hm hle => ?_⟩
        rw [minOf_eq h4 hm hle]
        exact goInt q m
      · cases e
    · cases e
  · cases e
/-! ### isinstance -/
theorem kind_ty {K : PySem.W.Frag} {i : List Addr} {M : Mem} {H : Hp} {d : D} {v : V} {k : String} (m : MemR K C i M H) (r : DV K i H d v) (e : kindOf M d = some k) : TyX K H v (.type k) := by
  cases d
  · simp only [DV] at r
    cases e
    subst r
    exact .base .non
  · simp only [DV] at r
    cases e
    subst r
    exact .base (.bl _)
  · simp only [DV] at r
    cases e
    subst r
    exact .base (.int _)
  · simp only [DV] at r
    cases e
    subst r
    exact .base (.str _)
  · cases e
    obtain ⟨a, vs, rfl, h1, h2⟩ := tup_at r
    rcases h1 with h1 | ⟨o, its, n, hk, hc, _⟩
    · exact .base (.tup h1)
    · exact .kTuple hk hc
  · cases e
    obtain ⟨a, rfl, h1⟩ := scr_at r
    rcases h1 with ⟨o, h1⟩ | ⟨o, its, n, hk, hc, _⟩
    · exact .base (.frz h1)
    · exact .kList hk hc
  · dsimp only [kindOf] at e
    split at e
    · rename_i ds hn
      cases e
      obtain ⟨a, vs, ha, rfl, h1, h2⟩ := lst_at m hn r
      exact .base (.lst h1)
    · rename_i kvs hn
      cases e
      obtain ⟨a, vs, ha, rfl, h1, h2⟩ := dct_at m hn r
      exact .base (.dK h1)
    · cases e
variable {a b e : Expr} {ga ge : GE} {p p2 pos : Pos} {T : String} {Tn : Str}
theorem se_isi (hg : Gl X "isinstance") (hm : X.mg "isinstance" = none) (he : SE X C W e ge) (ht : PE X b (tC (.ty T)))
    (hs : starEach (e :: [b]) X.env = (false, eval e X.env) :: starEach [b] X.env := by rfl) (hs2 : starEach (b :: []) X.env = (false, eval b X.env) :: starEach [] X.env := by rfl) (hpl : (backTo pos (starEach [b] X.env)).any (·.1) = false := by rfl)
    (hv : bootBuiltins "isinstance" = some (.builtin "isinstance") := by decide +kernel) :
    SE X C W (.Call (.Name "isinstance" p) [e, b] [] pos) (mUn (oIsi T) ge) := by
  obtain ⟨t, pt, s⟩ := he.ex
  refine ⟨_, pe_callB call_isi hg hm hv (pa_cons pt (pa_cons ht pa_nil hs2) hs) (by decide) (by decide) hs hpl, fun i L M σ H r Q m l e q => ?_⟩
  refine s.step m l e q fun dx M1 i1 H1 x g1 m1 l1 rx e1 q1 => ?_
  obtain ⟨d, M', h1, h2⟩ := snd_ret e1 q1
  unfold oIsi at h1
  split at h1
  · rename_i k hk
    split at h1
    · rename_i bb hb
      cases h1
      exact ⟨x, .ty T, .type k, .type T, bb, rfl, .ty T, kind_ty m1 rx hk, kit_ty hb, goBl h2 m1⟩
    · cases h1
  · cases h1
/-! ### methods -/
def oAppend : OpM := fun x xs M => match x, xs with
  | .ref n, [d] => (match M[n]? with
    | some (.lst ds) => if ds.length < 16000000 then some (.non, M.set n (.lst (ds ++ [d]))) else none
    | _ => none)
  | _, _ => none
def oPop0 : OpM := fun x xs M => match x, xs with
  | .ref n, [] => (match M[n]? with
    | some (.lst ds) => (match ds[ds.length - 1]? with
      | some d => some (d, M.set n (.lst ds.dropLast))
      | none => none)
    | _ => none)
  | _, _ => none
def oClear : OpM := fun x xs M => match x, xs with
  | .ref n, [] => (match M[n]? with
    | some (.lst ds) => some (.non, M.set n (.lst []))
    | _ => none)
  | _, _ => none
theorem dl_dropLast {K : PySem.W.Frag} {i : List Addr} {H : Hp} {ds : List D} {vs : List V} (h : DLs K i H ds vs) : DLs K i H ds.dropLast vs.dropLast := by
  rw [List.dropLast_eq_take, List.dropLast_eq_take, h.length]
  exact dl_take _ h
theorem rm_append : MtR X "list.append" (rOM X.K C oAppend) := by
  intro pins s σ H x xs v us Q I rv ru h
  obtain ⟨i, M, dx, ds, d, M', m, rx, rs, e, q⟩ := h
  unfold oAppend at e
  split at e
  · split at e
    · rename_i ls hn
      split at e
      · rename_i hl
        cases e
        obtain ⟨a, vs, ha, rfl, h1, h2⟩ := lst_at m hn rx
        obtain ⟨w, rfl, r1⟩ := dl1 rs
        exact mt_append pins s σ H _ _ v us Q I rv ru ⟨a, vs, w, rfl, rfl, h1, by rw [← h2.length]; exact small_line hl, goWlst q m ha (dl_append r1 h2) (by simp only [DV])⟩
      · cases e
    · cases e
  · cases e
theorem rm_pop0 : MtR X "list.pop" (rOM X.K C oPop0) := by
  intro pins s σ H x xs v us Q I rv ru h
  obtain ⟨i, M, dx, ds, d, M', m, rx, rs, e, q⟩ := h
  unfold oPop0 at e
  split at e
  · split at e
    · rename_i ls hn
      split at e
      · rename_i d' hd
        cases e
        obtain ⟨a, vs, ha, rfl, h1, h2⟩ := lst_at m hn rx
        simp only [DLs] at rs
        subst rs
        obtain ⟨w, hw, rw'⟩ := h2.get hd
        exact mt_pop pins s σ H _ _ v us Q I rv ru ⟨a, vs, w, rfl, rfl, h1, by rw [← h2.length]; exact hw, goWlst q m ha (dl_dropLast h2) rw'⟩
      · cases e
    · cases e
  · cases e
theorem rm_clear : MtR X "list.clear" (rOM X.K C oClear) := by
  intro pins s σ H x xs v us Q I rv ru h
  obtain ⟨i, M, dx, ds, d, M', m, rx, rs, e, q⟩ := h
  unfold oClear at e
  split at e
  · split at e
    · rename_i ls hn
      cases e
      obtain ⟨a, vs, ha, rfl, h1, h2⟩ := lst_at m hn rx
      simp only [DLs] at rs
      subst rs
      exact mt_clear pins s σ H _ _ v us Q I rv ru ⟨a, vs, rfl, rfl, h1, goWlst q m ha (by simp only [DLs]) (by simp only [DV])⟩
    · cases e
  · cases e
/-- a list's method -/
def asList (op : OpM) : OpM := fun x xs M => match x with
  | .ref n => (match M[n]? with
    | some (.lst _) => op x xs M
    | _ => none)
  | _ => none
def mMtL (op : OpM) (o : GE) (as : GA) : GE := fun L M => bnd (o L M) fun x M1 => match x with
  | .ref n => (match M1[n]? with
    | some (.lst _) => bnd (as L M1) fun xs M2 => ret (op x xs M2)
    | _ => none)
  | _ => none
variable {es : List Expr} {gs : GA} {o : Expr} {go : GE} {apos cpos : Pos} {name : Str} {id : String} {op : OpM}
theorem se_mtL (slot : Slot "list" name id) (hty : typeOf (.builtin id) = pure (.type "method_descriptor")) (hm : MtR X id (rOM X.K C op)) (ho : SE X C W o go) (ha : SA X C W (e :: es) gs)
    (hbase : attributeBase o name X.env (eval o X.env) = eval o X.env := by rfl)
    (hfew : ((backTo cpos (starEach (e :: es) X.env)).all (fun x => !x.1) && (backToKw cpos (keywordEach [] X.env)).all (fun x => x.1.isSome)
      && decide ((e :: es).length + ([] : List Keyword).length + (if ([] : List Keyword).isEmpty then 0 else 1) < 30)) = true := by rfl)
    (hline : (apos.endLine == cpos.line) = true := by rfl) (hs : starEach (e :: es) X.env = (false, eval e X.env) :: starEach es X.env := by rfl) (hplain : (backTo cpos (starEach es X.env)).any (·.1) = false := by rfl) :
    SE X C W (.Call (.Attribute o name apos) (e :: es) [] cpos) (mMtL op go gs) := by
  obtain ⟨t, pt, s⟩ := ho.ex
  obtain ⟨t2, pt2, s2⟩ := ha.ex
  refine ⟨_, pe_bm PySem.F.plainAttrs_list slot hty hm pt pt2 hbase hfew hline hs hplain, fun i L M σ H r Q m l e q => ?_⟩
  refine s.step m l e q fun dx M1 i1 H1 x g1 m1 l1 rx e1 q1 => ?_
  cases dx <;> first
    | (cases e1; done)
    | skip
  rename_i n
  dsimp only at e1
  split at e1
  · rename_i ds hn
    obtain ⟨a, vs, ha, rfl, h1, h2⟩ := lst_at m1 hn rx
    refine ⟨.inl ⟨rfl, vs, SqL.of h1⟩, ?_⟩
    refine s2.step m1 l1 e1 q1 fun dxs M2 i2 H2 xs g2 m2 l2 rs e2 q2 => ?_
    obtain ⟨d, M', k1, k2⟩ := snd_ret e2 q2
    exact ⟨i2, M2, .ref n, dxs, d, M', m2, rx.mono g2, rs, k1, k2⟩
  · cases e1
theorem se_mtL0 (slot : Slot "list" name id) (hty : typeOf (.builtin id) = pure (.type "method_descriptor")) (hm : MtR X id (rOM X.K C op)) (ho : SE X C W o go)
    (hbase : attributeBase o name X.env (eval o X.env) = eval o X.env := by rfl) (hline : (apos.endLine == cpos.line) = true := by rfl) : SE X C W (.Call (.Attribute o name apos) [] [] cpos) (mMtL op go mNil) := by
  obtain ⟨t, pt, s⟩ := ho.ex
  refine ⟨_, pe_bm0 PySem.F.plainAttrs_list slot hty hm pt hbase hline, fun i L M σ H r Q m l e q => ?_⟩
  refine s.step m l e q fun dx M1 i1 H1 x g1 m1 l1 rx e1 q1 => ?_
  cases dx <;> first
    | (cases e1; done)
    | skip
  rename_i n
  dsimp only at e1
  split at e1
  · rename_i ds hn
    obtain ⟨a, vs, ha, rfl, h1, h2⟩ := lst_at m1 hn rx
    refine ⟨.inl ⟨rfl, vs, SqL.of h1⟩, ?_⟩
    obtain ⟨d, M', k1, k2⟩ := snd_ret (show ret (op (.ref n) [] M1) = some r from e1) q1
    exact ⟨i1, M1, .ref n, [], d, M', m1, rx, by simp only [DLs], k1, k2⟩
  · cases e1
end
end BL
/-! BLGen: what a def is to its callers; facts of built-ins. -/
namespace BL
open PySem L2

/-- a def of the text, by its name -/
structure Cal (P : Program) (w : World) (K : PySem.W.Frag) (mg : Str → Option Value) (base : Heap) (C : Addr) (k : Nat) (nm : Str) (ps : List Str) (g : Fn) : Prop where
  ex : ∃ f fd, FnOk P w K mg base (L2.CX P w) k f fd ps (spG K mg C g) ∧ mg nm = some (.ref f) ∧ PySem.W.keepIn K (.ref f) = true ∧ Binds K fd ps []
section
variable {X : Cx} {C : Addr} {W : WX} {e : Expr} {es : List Expr} {gs : GA} {x : Str} {p pos : Pos} {k : Nat} {ps : List Str} {g : Fn}
theorem se_cal (c : Cal X.prog X.w X.K X.mg X.base C k x ps g) (hr : Room k X.A) (hx : Lets X W) (ha : SA X C W (e :: es) gs) (hg : Gl X x := by rfl) (hdb : (x == ("__debug__" : Str)) = false := by decide)
    (he : starEach (e :: es) X.env = (false, eval e X.env) :: starEach es X.env := by rfl) (hpl : (backTo pos (starEach es X.env)).any (·.1) = false := by rfl) : SE X C W (.Call (.Name x p) (e :: es) [] pos) (mCall g gs) := by
  obtain ⟨f, fd, F, hm, hk, hb⟩ := c.ex
  exact se_call F hr hx hg hm hk hb ha hdb he hpl
theorem lets_of (tk : Takes X W) : Lets X W := fun σ => passAt tk σ
theorem lets_blk {s : Shared} {H : Hp} {scope : Scope} {cenv : Env} {fp : List Addr} : Lets (X.blk s H scope cenv fp) W0 := fun σ pins H' s1 e s' I c => by
  obtain ⟨_, _, _, _, _, _, _, _, _, _, _, _, z⟩ := c
  exact z.elim
end
theorem fun_of {K : PySem.W.Frag} {x qual : Str} {st : Stmt} {f : Addr} {fd : FuncData} (F : FunD K x qual (defArgs st) (defBody st) (defScope st) [] [] f fd) : Fun K x qual st f fd := by
  obtain ⟨⟨oc, od, dV, kV, doc, pm, an, cdv, ct, osl, e, l, c, hd, hk⟩, kp⟩ := F
  refine ⟨⟨oc, od, kV, doc, pm, an, cdv, ct, osl, ?_, l, c⟩, kp⟩
  rcases hd with ⟨h1, h2⟩ | ⟨h1, _⟩
  · subst h2
    exact e
  · exact absurd rfl h1
section
variable {P : Program} {w : World} {K : PySem.W.Frag} {mg : Str → Option Value} {base : Heap} {C : Addr}
theorem ok_cal {x : Str} {st : Stmt} {f : Addr} {fd : FuncData} {N ps : List Str} {k : Nat} {body : GS} (F : Fun K x x st f fd) (hm : mg x = some (.ref f)) (S : FnScope N ps (defScope st))
    (hb : ∀ (kV doc pm : Value) (an : Option Addr) (cdv ct : Value) (us : List Value), us.length = ps.length → bindArgs (PySem.W.fnOf x x (defArgs st) (defBody st) (defScope st) .none kV doc pm an cdv ct) ⟨us, []⟩ = pure (ps.zip us))
    (hbody : ∀ (X : Cx) (W : WX) (cdv : Value) (A : Around) (outer : List Env) (s : Shared) (H : Hp) (E : XK), X = cxOf (L2.CX P w) P w K mg base N x (defScope st) f cdv A outer s H E → W = (fun c d _ H' => E c d H') →
      Room k (cxOf (L2.CX P w) P w K mg base N x (defScope st) f cdv A outer s H E).A → PassesOwn (model P w) (cxOf (L2.CX P w) P w K mg base N x (defScope st) f cdv A outer s H E).A (cxOf (L2.CX P w) P w K mg base N x (defScope st) f cdv A outer s H E).env (cxOf (L2.CX P w) P w K mg base N x (defScope st) f cdv A outer s H E).xe →
      Takes (cxOf (L2.CX P w) P w K mg base N x (defScope st) f cdv A outer s H E) (fun c d _ H' => E c d H') → 
      SSs (cxOf (L2.CX P w) P w K mg base N x (defScope st) f cdv A outer s H E) C (fun c d _ H' => E c d H') (defBody st) body) :
    Cal P w K mg base C (k + 1) x ps (mDef ps.length N.length body) :=
  ⟨f, fd, ok_def F S fun cdv A outer s H E hr => hbody _ _ cdv A outer s H E rfl rfl hr (passes_of rfl) (takes_of rfl rfl rfl rfl), hm, F.kp, F.binds hb⟩
end
/-! ### built-ins -/
theorem bv_len : bootBuiltins "len" = some (.builtin "len") := by decide +kernel
theorem bv_max : bootBuiltins "max" = some (.builtin "max") := by decide +kernel
theorem bv_min : bootBuiltins "min" = some (.builtin "min") := by decide +kernel
theorem bv_sorted : bootBuiltins "sorted" = some (.builtin "sorted") := by decide +kernel
theorem bv_isinstance : bootBuiltins "isinstance" = some (.builtin "isinstance") := by decide +kernel
theorem bv_list : bootBuiltins "list" = some (.type "list") := by decide +kernel
theorem bv_tuple : bootBuiltins "tuple" = some (.type "tuple") := by decide +kernel
theorem bv_dict : bootBuiltins "dict" = some (.type "dict") := by decide +kernel
theorem bv_int : bootBuiltins "int" = some (.type "int") := by decide +kernel
theorem bv_bool : bootBuiltins "bool" = some (.type "bool") := by decide +kernel
theorem bv_str : bootBuiltins "str" = some (.type "str") := by decide +kernel
end BL
/-! BLHead: a law's end. -/
namespace BL
open PySem PySem.Spec PyProof.Rows L2
/-- what the head tells of the text -/
structure Tx (fa : List He.Fa) (fn : List He.DefD) (tf : List (Str × List He.Dv)) (K : PySem.W.Frag) (mg : Str → Option Value) : Prop where
  says : He.SaysD fa fn K
  tups : (tf.all fun p => He.tupB K p.1 p.2) = true
  at_ : ∃ h : Heap, K.In h ∧ h.Ns mainGlobals mg
section
variable {fa : List He.Fa} {fn : List He.DefD} {tf : List (Str × List He.Dv)} {K : PySem.W.Frag} {mg : Str → Option Value}
theorem Tx.free (T : Tx fa fn tf K mg) (i : Nat) {x : Str} (h : fa[i]? = some (.free x) := by rfl) : mg x = none := by
  obtain ⟨hp, X, G⟩ := T.at_
  exact He.free_ok X G (T.says.fact i h)
theorem Tx.glo (T : Tx fa fn tf K mg) (i : Nat) {x : Str} (h : fa[i]? = some (.glo x) := by rfl) : mg x = some (.ref (He.ga K x)) := by
  obtain ⟨hp, X, G⟩ := T.at_
  exact He.glo_ok X G (T.says.fact i h)
/-- a tuple of the text -/
theorem Tx.tup (T : Tx fa fn tf K mg) (i j : Nat) {x : Str} {vs : List He.Dv} (h : tf[i]? = some (x, vs) := by rfl) (hg : fa[j]? = some (.glo x) := by rfl) : ∃ a, mg x = some (.ref a) ∧ ∀ H, TupAt K H a (vs.map (He.Dv.v K)) := by
  refine ⟨_, T.glo j hg, fun H => ?_⟩
  rcases He.tupB_ok (List.all_eq_true.mp T.tups (x, vs) (List.mem_of_getElem? h)) (fun _ => none) with (z | ⟨o, z⟩) | z
  · cases z
  · cases z
  · exact .inr z
theorem Tx.int (T : Tx fa fn tf K mg) (i : Nat) {x : Str} {k : Int} (h : fa[i]? = some (.int x k) := by rfl) : ∃ t, mg x = some (.int k t) := by
  obtain ⟨hp, X, G⟩ := T.at_
  exact He.int_ok X G (T.says.fact i h)
/-- a def of the text -/
theorem Tx.def_ (T : Tx fa fn tf K mg) (i j : Nat) {x : Str} {st : Stmt} (h : fn[i]? = some ⟨(x, none), x, x, defArgs st, defBody st, defScope st, [], []⟩ := by rfl) (hg : fa[j]? = some (.glo x) := by rfl) :
    ∃ f fd, Fun K x x st f fd ∧ mg x = some (.ref f) := by
  obtain ⟨fd, F⟩ := T.says.def_ i h
  exact ⟨_, fd, fun_of F, T.glo j hg⟩
end
section
variable {P : Program} {w : World} {K : PySem.W.Frag} {mg : Str → Option Value} {base : Heap} {C : Addr}
theorem ok_calT {x : Str} {st : Stmt} {N ps : List Str} {k : Nat} {body : GS} (F : ∃ f fd, Fun K x x st f fd ∧ mg x = some (.ref f)) (S : FnScope N ps (defScope st))
    (hb : ∀ (kV doc pm : Value) (an : Option Addr) (cdv ct : Value) (us : List Value), us.length = ps.length → bindArgs (PySem.W.fnOf x x (defArgs st) (defBody st) (defScope st) .none kV doc pm an cdv ct) ⟨us, []⟩ = pure (ps.zip us))
    (hbody : ∀ (X : Cx) (W : WX) (f : Addr) (cdv : Value) (A : Around) (outer : List Env) (s : Shared) (H : Hp) (E : XK), X = cxOf (L2.CX P w) P w K mg base N x (defScope st) f cdv A outer s H E → W = (fun c d _ H' => E c d H') →
      Room k (cxOf (L2.CX P w) P w K mg base N x (defScope st) f cdv A outer s H E).A → PassesOwn (model P w) (cxOf (L2.CX P w) P w K mg base N x (defScope st) f cdv A outer s H E).A (cxOf (L2.CX P w) P w K mg base N x (defScope st) f cdv A outer s H E).env (cxOf (L2.CX P w) P w K mg base N x (defScope st) f cdv A outer s H E).xe →
      Takes (cxOf (L2.CX P w) P w K mg base N x (defScope st) f cdv A outer s H E) (fun c d _ H' => E c d H') → 
      SSs (cxOf (L2.CX P w) P w K mg base N x (defScope st) f cdv A outer s H E) C (fun c d _ H' => E c d H') (defBody st) body) :
    Cal P w K mg base C (k + 1) x ps (mDef ps.length N.length body) := by
  obtain ⟨f, fd, F, hm⟩ := F
  exact ok_cal F hm S hb fun X W cdv A outer s H E h1 h2 => hbody X W f cdv A outer s H E h1 h2
end
/-- the same, of the law's def -/
theorem ok_fnT {P : Program} {w : World} {K : PySem.W.Frag} {mg : Str → Option Value} {base : Heap} {C : Addr} {x : Str} {st : Stmt} {f : Addr} {fd : FuncData} {N ps : List Str} {k : Nat} {body : GS} (F : Fun K x x st f fd) (S : FnScope N ps (defScope st))
    (hbody : ∀ (X : Cx) (W : WX) (f : Addr) (cdv : Value) (A : Around) (outer : List Env) (s : Shared) (H : Hp) (E : XK), X = cxOf (L2.CX P w) P w K mg base N x (defScope st) f cdv A outer s H E → W = (fun c d _ H' => E c d H') →
      Room k (cxOf (L2.CX P w) P w K mg base N x (defScope st) f cdv A outer s H E).A → PassesOwn (model P w) (cxOf (L2.CX P w) P w K mg base N x (defScope st) f cdv A outer s H E).A (cxOf (L2.CX P w) P w K mg base N x (defScope st) f cdv A outer s H E).env (cxOf (L2.CX P w) P w K mg base N x (defScope st) f cdv A outer s H E).xe →
      Takes (cxOf (L2.CX P w) P w K mg base N x (defScope st) f cdv A outer s H E) (fun c d _ H' => E c d H') → 
      SSs (cxOf (L2.CX P w) P w K mg base N x (defScope st) f cdv A outer s H E) C (fun c d _ H' => E c d H') (defBody st) body) :
    FnOk P w K mg base (L2.CX P w) (k + 1) f fd ps (spG K mg C (mDef ps.length N.length body)) :=
  ok_def F S fun cdv A outer s H E hr => hbody _ _ f cdv A outer s H E rfl rfl hr (passes_of rfl) (takes_of rfl rfl rfl rfl)
theorem mem_nil (K : PySem.W.Frag) (C : Addr) (H : Hp) : MemR K C [] [] H := ⟨rfl, List.nodup_nil, fun n o a h => by simp at h⟩
/-! ### the hook: facts, and tuples -/
abbrev AlB : Type := He.AlD × Bool
def obsB (fa : List He.Fa) (fn : List He.DefD) (tf : List (Str × List He.Dv)) (K : PySem.W.Frag) : AlB := (He.obsD fa fn K, tf.all fun p => He.tupB K p.1 p.2)
def valB (fn : List He.DefD) : AlB := (He.valD fn, true)
def obsBG (n : Nat) (fa : List He.Fa) (fn : List He.DefD) (tf : List (Str × List He.Dv)) (g : Addr → Option Obj) : AlB := obsB fa fn tf (He.frG g (He.asD g n))
def hookB (n : Nat) (fa : List He.Fa) (fn : List He.DefD) (tf : List (Str × List He.Dv)) : PySem.W.Hook where
  α := AlB
  obs := fun s => obsBG n fa fn tf s.heap.get?
  val := fun _ => valB fn
  says := fun _ h => ∃ K : PySem.W.Frag, K.In h ∧ obsB fa fn tf K = valB fn
  of := fun _ _ e => ⟨_, He.frG_in, e⟩
  keeps := fun _ _ _ ⟨K, hK, c⟩ k => ⟨K, PySem.W.Frag.In.keeps hK k, c⟩
theorem obsBG_eq {n : Nat} {fa : List He.Fa} {fn : List He.DefD} {tf : List (Str × List He.Dv)} {g : Addr → Option Obj} {s : Shared} (h : ∀ a, g a = s.heap.get? a) : obsBG n fa fn tf g = (hookB n fa fn tf).obs s := by
  have e : g = s.heap.get? := funext h
  rw [e] <;> rfl
/-- the law's end -/
theorem bl_walk {l : PySem.W.OpenLaw} {n k j : Nat} {q : Program} {loose : List Str} {XP : (Str → Option Value) → Heap → Prop} {hn' : Nat} {fa : List He.Fa} {fn : List He.DefD} {tf : List (Str × List He.Dv)} {d : DefRec} {x y : Str} {st : Stmt} {g : Fn} (C : PySem.W.Frag → Addr) (i : Nat)
    (hn : l.most = some n) (hn2 : n ≤ sizeLine) (hdf : d.params.defaults = []) (hr : Room k callerA) (hd : d.name = y)
    (hfn : fn[i]? = some ⟨(y, none), y, y, defArgs st, defBody st, defScope st, [], []⟩) (hfa : fa[j]? = some (.glo y))
    (hb : ∀ (kV doc pm : Value) (an : Option Addr) (cdv ct : Value) (us : List Value), us.length = [x].length → bindArgs (PySem.W.fnOf y y (defArgs st) (defBody st) (defScope st) .none kV doc pm an cdv ct) ⟨us, []⟩ = pure ([x].zip us))
    (F : ∀ (w : World) (K : PySem.W.Frag) (mg : Str → Option Value) (base : Heap) (f : Addr) (fd : FuncData), Tx fa fn tf K mg → Fun K y y st f fd → FnOk l.prog w K mg base (L2.CX l.prog w) k f fd [x] (spG K mg (C K) g))
    (law : ∀ ns : List Int, ns.length ≤ n → (∀ z ∈ ns, Builtin.Int.intBits z ≤ 1048576) → ∃ M, g [.scr ns] [] = some (.ok (.bl true) M)) :
    PySem.W.WalkO q loose XP (hookB hn' fa fn tf).says l.row.toRowW d [] (fun f vs => PySem.call f vs) := by
  refine Att.attach_callB hn hdf fun w s₀ s₁ mg mb fad o pm cd doc a vs ns G Y ho hd' hcd hmg hobj hints hlen hbits hg => ?_
  obtain ⟨K, KX, sb⟩ := Y
  have says : He.SaysD fa fn K := congrArg (fun z : AlB => z.1) sb
  have tups : (tf.all fun p => He.tupB K p.1 p.2) = true := congrArg (fun z : AlB => z.2) sb
  obtain ⟨fd, FD⟩ := says.def_ i hfn
  have e : fad = He.fAd K (y, none) := by
    have e1 := He.glo_ok KX G.T.g (says.fact j hfa)
    rw [hd] at hmg
    exact Value.ref.inj (Option.some.inj (hmg.symm.trans e1))
  subst e
  refine law_call KX G.T.g G.T.b G.T.builtins G.T.nolimit hg hobj hints (Nat.le_trans hlen hn2) hr (fun base hK hG => F w K mg base _ fd ⟨says, tups, base, hK, hG⟩ (fun_of FD)) (fun s u => FunD.bindsA (ps := [x]) FD hb s [u] rfl) (fun H hO hS => ?_) fun H e s' z => ?_
  · obtain ⟨M, hM⟩ := law ns hlen hbits
    refine ⟨[], [], [.scr ns], _, mem_nil K (C K) H, ?_, hM, fun i' H' b g m r => ?_⟩
    · simp only [DLs, DV]
      refine ⟨_, [], rfl, ⟨a, rfl, ?_⟩, rfl⟩
      rcases hS with (h | h) | h
      · rcases hO a with z | ⟨o, xs, z⟩
        · rw [z] at h
          cases h
        · rw [z] at h
          cases h
      · exact .inl h
      · exact .inr h
    · simpa only [DV] using r
  · obtain ⟨_, _, _, _, _, _, _, _, _, _, _, _, z⟩ := z
    exact z
end BL
/-! BLMore: texts joined, dicts, module's names. -/
namespace BL
open PySem L2
section
variable {X : Cx} {C : Addr} {W : WX} {o e f : Expr} {go ge gf : GE} {gs : GA} {apos cpos pos : Pos} {x : Str}
theorem se_globI {k : Int} (h : ∃ t, X.mg x = some (.int k t)) (hg : Gl X x := by rfl) (hd : (x == ("__debug__" : Str)) = false := by decide) : SE X C W (.Name x pos) (mC (.int k)) := by
  obtain ⟨t, h⟩ := h
  exact se_const (pe_glob (v := .int k) hg h ⟨t, rfl⟩ hd) fun _ _ => by simp only [DV]
theorem se_globT1 {z : Str} (h : ∃ a, X.mg x = some (.ref a) ∧ ∀ H, TupAt X.K H a [V.str z]) (hg : Gl X x := by rfl) (hd : (x == ("__debug__" : Str)) = false := by decide) : SE X C W (.Name x pos) (mC (.tup [.str z])) := by
  obtain ⟨a, h, ht⟩ := h
  refine se_const (pe_glob (v := .ref a) hg h rfl hd) fun i H => ?_
  simp only [DV, DLs]
  exact ⟨a, [V.str z], rfl, ht H, _, [], rfl, rfl, rfl⟩
/-! ### join -/
def strsOf : List D → Option (List Str)
  | [] => some []
  | .str s :: ds => (match strsOf ds with
    | some zs => some (s :: zs)
    | none => none)
  | _ :: _ => none
theorem strs_dl {K : PySem.W.Frag} {i : List Addr} {H : Hp} : ∀ {ds : List D} {vs : List V} {zs : List Str}, DLs K i H ds vs → strsOf ds = some zs → vs = zs.map V.str
  | [], vs, zs, h, e => by
    cases e
    simp only [DLs] at h
    exact h
  | d :: ds, vs, zs, h, e => by
    cases d <;> first
      | (cases e; done)
      | skip
    unfold strsOf at e
    cases e2 : strsOf ds with
    | none => rw [e2] at e; cases e
    | some ys =>
      rw [e2] at e
      cases e
      simp only [DLs, DV] at h
      obtain ⟨v, r, rfl, rfl, h3⟩ := h
      rw [strs_dl h3 e2]
      rfl
def oJoin : OpM := fun x xs M => match x, xs with
  | .str a, [.ref n] => (match M[n]? with
    | some (.lst ds) => (match strsOf ds with
      | some ys => if (ys.map (·.length)).sum + ys.length * a.length ≤ 16777216 then some (.str (Txt.join a ys), M) else none
      | none => none)
    | _ => none)
  | _, _ => none
/-- a text's method -/
def mMtS (op : OpM) (o : GE) (as : GA) : GE := fun L M => bnd (o L M) fun x M1 => match x with
  | .str _ => bnd (as L M1) fun xs M2 => ret (op x xs M2)
  | _ => none
theorem se_join (ho : SE X C W o go) (he : SE X C W e ge) (hs : starEach [e] X.env = [(false, eval e X.env)] := by rfl) (hbase : attributeBase o "join" X.env (eval o X.env) = eval o X.env := by rfl) (hline : (apos.endLine == cpos.line) = true := by rfl) :
    SE X C W (.Call (.Attribute o "join" apos) [e] [] cpos) (mMtS oJoin go (mCons ge mNil)) := by
  obtain ⟨t, pt, s⟩ := ho.ex
  obtain ⟨t2, pt2, s2⟩ := he.ex
  refine ⟨_, pe_join pt pt2 hs hbase hline, fun i L M σ H r Q m l e q => ?_⟩
  refine s.step m l e q fun dx M1 i1 H1 x g1 m1 l1 rx e1 q1 => ?_
  cases dx <;> first
    | (cases e1; done)
    | skip
  rename_i a
  simp only [DV] at rx
  subst rx
  refine ⟨⟨a, rfl⟩, ?_⟩
  have e1' : bnd (ge L M1) (fun d M2 => ret (oJoin (.str a) [d] M2)) = some r := by
    refine Eq.trans ?_ e1
    show _ = bnd (mCons ge mNil L M1) fun xs M2 => ret (oJoin (.str a) xs M2)
    unfold mCons
    cases ge L M1 with
    | none => rfl
    | some z => cases z <;> rfl
  refine s2.step m1 l1 e1' q1 fun dy M2 i2 H2 y g2 m2 l2 ry e2 q2 => ?_
  obtain ⟨d, M', k1, k2⟩ := snd_ret e2 q2
  unfold oJoin at k1
  split at k1
  · rename_i a' n ea eb
    cases ea
    cases eb
    split at k1
    · rename_i ds hn
      split at k1
      · rename_i ys hy
        split at k1
        · rename_i hl
          cases k1
          obtain ⟨p, vs, hp, rfl, h1, h2⟩ := lst_at m2 hn ry
          have := strs_dl h2 hy
          subst this
          exact ⟨a, p, ys, rfl, rfl, .inl (SqL.of h1), hl, goStr k2 m2⟩
        · cases k1
      · cases k1
    · cases k1
  · cases k1
/-! ### dicts -/
def oGet1 : Op2 := fun x y M => match x, y with
  | .ref n, .int k => (match M[n]? with
    | some (.dct kvs) => some ((aget kvs k).getD .non, M)
    | _ => none)
  | _, _ => none
def oPopD2 : Op2 := fun x y M => match x, y with
  | .ref n, .int k => (match M[n]? with
    | some (.dct kvs) => some ((aget kvs k).getD .non, M.set n (.dct (adel kvs k)))
    | _ => none)
  | _, _ => none
def oPopD1 : Op2 := fun x y M => match x, y with
  | .ref n, .int k => (match M[n]? with
    | some (.dct kvs) => (match aget kvs k with
      | some d => some (d, M.set n (.dct (adel kvs k)))
      | none => none)
    | _ => none)
  | _, _ => none
/-- a dict's method: its receiver first looked at -/
def mMtD (op : Op2) (o e : GE) : GE := fun L M => bnd (o L M) fun x M1 => match x with
  | .ref n => (match M1[n]? with
    | some (.dct _) => bnd (e L M1) fun y M2 => ret (op x y M2)
    | _ => none)
  | _ => none
theorem mtD_snd {op : Op2} {t ta : TE} {tr : TE} (s : SndG X.K X.mg C W (DV X.K) t go) (s2 : SndG X.K X.mg C W (DV X.K) ta ge)
    (h : ∀ σ H Q, t σ H (fun x H1 => ∃ a, x = .ref a ∧ (∃ kvs, Rd H1 a (.dK kvs)) ∧ ta σ H1 fun y H2 => rO X.K C op x y H2 Q) → tr σ H Q) : SndG X.K X.mg C W (DV X.K) tr (mMtD op go ge) := fun i L M σ H r Q m l e q => by
  refine h σ H Q ?_
  refine s.step m l e q fun dx M1 i1 H1 x g1 m1 l1 rx e1 q1 => ?_
  cases dx <;> first
    | (cases e1; done)
    | skip
  rename_i n
  dsimp only at e1
  split at e1
  · rename_i ds hn
    obtain ⟨a, vs, ha, rfl, h1, h2⟩ := dct_at m1 hn rx
    refine ⟨a, rfl, ⟨vs, .inl h1⟩, ?_⟩
    refine s2.step m1 l1 e1 q1 fun dy M2 i2 H2 y g2 m2 l2 ry e2 q2 => ?_
    obtain ⟨d, M', k1, k2⟩ := snd_ret e2 q2
    exact ⟨i2, M2, .ref n, dy, d, M', m2, rx.mono g2, ry, k1, k2⟩
  · cases e1
theorem TE_mono {t : TE} (ht : ∃ e, PE X e t) : True := trivial
theorem se_get1 (hu : X.A.units + 1 < cLine) (ho : SE X C W o go) (he : SE X C W e ge) (m : M1 X o "get" apos e cpos := by exact ⟨by rfl, by rfl, by rfl, by rfl⟩) : SE X C W (.Call (.Attribute o "get" apos) [e] [] cpos) (mMtD oGet1 go ge) := by
  have p := pe_dget1 hu ho.pe he.pe m
  obtain ⟨t, pt, s⟩ := ho.ex
  obtain ⟨t2, pt2, s2⟩ := he.ex
  refine ⟨_, pe_dget1 hu pt pt2 m, fun i L M σ H r Q mm l e q => ?_⟩
  refine s.step mm l e q fun dx M1 i1 H1 x g1 m1 l1 rx e1 q1 => ?_
  cases dx <;> first
    | (cases e1; done)
    | skip
  rename_i n
  dsimp only at e1
  split at e1
  · rename_i ds hn
    obtain ⟨a, vs, ha, rfl, h1, h2⟩ := dct_at m1 hn rx
    refine ⟨a, rfl, .inl ⟨vs, .inl h1⟩, ?_⟩
    refine s2.step m1 l1 e1 q1 fun dy M2 i2 H2 y g2 m2 l2 ry e2 q2 => ?_
    obtain ⟨d, M', k1, k2⟩ := snd_ret e2 q2
    unfold oGet1 at k1
    split at k1
    · rename_i n' k ea
      cases ea
      split at k1
      · rename_i kvs hk
        cases k1
        obtain ⟨a', vs', ha', ea', h1', h2'⟩ := dct_at m2 hk (rx.mono g2)
        cases ea'
        simp only [DV] at ry
        subst ry
        obtain ⟨n1, n2⟩ := DKs.val k h2'
        cases hg : aget kvs k with
        | none =>
          refine ⟨none, .inl ⟨vs', Sum.inl k, .inl h1', rfl, (n1 hg).symm⟩, ?_⟩
          rw [hg] at k2
          exact goNon k2 m2
        | some d =>
          obtain ⟨v, hv, rv⟩ := n2 d hg
          refine ⟨some v, .inl ⟨vs', Sum.inl k, .inl h1', rfl, hv.symm⟩, ?_⟩
          rw [hg] at k2
          exact goSame k2 m2 rv
      · cases k1
    · cases k1
  · cases e1
theorem pop_some {kvs : List (Int × D)} {vs : List (Key × V)} {i2 : List Addr} {M2 : Mem} {H2 : Hp} {n : Nat} {a : Addr} {k : Int} {d : D} {v : V} {Q : VK} (m2 : MemR X.K C i2 M2 H2) (ha : i2[n]? = some a) (h2 : DKs X.K i2 H2 kvs vs) (rv : DV X.K i2 H2 d v)
    (q : Goes X.K C i2 H2 d (M2.set n (.dct (adel kvs k))) Q) : Q v (upd H2 a (.dK (dropK vs (Sum.inl k : Key)))) := goWdct q m2 ha h2.del rv
theorem adel_none {k : Int} : ∀ {kvs : List (Int × D)}, aget kvs k = none → adel kvs k = kvs
  | [], _ => rfl
  | (j, d) :: r, h => by
    unfold aget at h
    split at h
    · cases h
    · rename_i hj
      have ih := adel_none h
      unfold adel at ih ⊢
      rw [List.filter_cons_of_pos (by simpa using hj), ih]
theorem se_popD2 (ho : SE X C W o go) (he : SE X C W e ge) (hf : SE X C W f (mC .non)) (m : M2 X o "pop" apos e f cpos := by exact ⟨by rfl, by rfl, by rfl, by rfl⟩) : SE X C W (.Call (.Attribute o "pop" apos) [e, f] [] cpos) (mMtD oPopD2 go ge) := by
  obtain ⟨t, pt, s⟩ := ho.ex
  obtain ⟨t2, pt2, s2⟩ := he.ex
  obtain ⟨t3, pt3, s3⟩ := hf.ex
  refine ⟨_, pe_dpop2 pt pt2 pt3 m, fun i L M σ H r Q mm l e q => ?_⟩
  refine s.step mm l e q fun dx M1 i1 H1 x g1 m1 l1 rx e1 q1 => ?_
  cases dx <;> first
    | (cases e1; done)
    | skip
  rename_i n
  dsimp only at e1
  split at e1
  · rename_i ds hn
    obtain ⟨a, vs, ha, rfl, h1, h2⟩ := dct_at m1 hn rx
    refine ⟨a, rfl, .inl ⟨vs, .inl h1⟩, ?_⟩
    refine s2.step m1 l1 e1 q1 fun dy M2 i2 H2 y g2 m2 l2 ry e2 q2 => ?_
    obtain ⟨d, M', k1, k2⟩ := snd_ret e2 q2
    refine s3 i2 L M2 σ H2 (.ok .non M2) _ m2 l2 rfl fun i3 H3 z g3 m3 rz => ?_
    simp only [DV] at rz
    subst rz
    have k3 : Goes X.K C i3 H3 d M' Q := fun i' H' z g mm' rr => k2 i' H' z (g3.trans g) mm' rr
    unfold oPopD2 at k1
    split at k1
    · rename_i n' k ea
      cases ea
      split at k1
      · rename_i kvs hk
        cases k1
        obtain ⟨a', vs', ha', ea', h1', h2'⟩ := dct_at m3 hk ((rx.mono g2).mono g3)
        cases ea'
        have ry' := ry.mono g3
        simp only [DV] at ry'
        subst ry'
        obtain ⟨n1, n2⟩ := DKs.val k h2'
        refine ⟨vs', Sum.inl k, h1', rfl, fun v hv => ?_, fun hv => ?_⟩
        · cases hg : aget kvs k with
          | none =>
            rw [n1 hg] at hv
            cases hv
          | some d =>
            obtain ⟨v', hv', rv⟩ := n2 d hg
            rw [hv'] at hv
            cases hv
            rw [hg] at k3
            exact goWdct k3 m3 ha' h2'.del rv
        · cases hg : aget kvs k with
          | none =>
            rw [hg, adel_none hg] at k3
            have e5 : M2.set n (.dct kvs) = M2 := by
              apply List.ext_getElem?
              intro j
              rw [List.getElem?_set]
              split
              · rename_i hj
                subst hj
                rw [hk]
                have := (List.getElem?_eq_some_iff.mp hk).1
                simp [this]
              · rfl
            rw [e5] at k3
            exact goNon k3 m3
          | some d =>
            obtain ⟨v', hv', rv⟩ := n2 d hg
            rw [hv'] at hv
            cases hv
      · cases k1
    · cases k1
  · cases e1
theorem se_popD1 (ho : SE X C W o go) (he : SE X C W e ge) (m : M1 X o "pop" apos e cpos := by exact ⟨by rfl, by rfl, by rfl, by rfl⟩) : SE X C W (.Call (.Attribute o "pop" apos) [e] [] cpos) (mMtD oPopD1 go ge) := by
  obtain ⟨t, pt, s⟩ := ho.ex
  obtain ⟨t2, pt2, s2⟩ := he.ex
  refine ⟨_, pe_dpop1 pt pt2 m, fun i L M σ H r Q mm l e q => ?_⟩
  refine s.step mm l e q fun dx M1 i1 H1 x g1 m1 l1 rx e1 q1 => ?_
  cases dx <;> first
    | (cases e1; done)
    | skip
  rename_i n
  dsimp only at e1
  split at e1
  · rename_i ds hn
    obtain ⟨a, vs, ha, rfl, h1, h2⟩ := dct_at m1 hn rx
    refine ⟨a, rfl, .inl ⟨vs, .inl h1⟩, ?_⟩
    refine s2.step m1 l1 e1 q1 fun dy M2 i2 H2 y g2 m2 l2 ry e2 q2 => ?_
    obtain ⟨d, M', k1, k2⟩ := snd_ret e2 q2
    unfold oPopD1 at k1
    split at k1
    · rename_i n' k ea
      cases ea
      split at k1
      · rename_i kvs hk
        split at k1
        · rename_i d' hg
          cases k1
          obtain ⟨a', vs', ha', ea', h1', h2'⟩ := dct_at m2 hk (rx.mono g2)
          cases ea'
          simp only [DV] at ry
          subst ry
          obtain ⟨v, hv, rv⟩ := (DKs.val k h2').2 _ hg
          exact ⟨vs', Sum.inl k, v, h1', rfl, hv, goWdct k2 m2 ha' h2'.del rv⟩
        · cases k1
      · cases k1
    · cases k1
  · cases e1
/-! ### o[i] = e -/
def oPutA : D → D → D → Mem → Option Mem := fun x k v M => match x, k with
  | .ref n, .int k => (match M[n]? with
    | some (.dct kvs) => if kvs.length < 16000000 then some (M.set n (.dct (aput kvs k v))) else none
    | some (.lst ds) => (match ixN ds.length k with
      | some j => some (M.set n (.lst (ds.set j v)))
      | none => none)
    | _ => none)
  | _, _ => none
theorem dl_set {K : PySem.W.Frag} {i : List Addr} {H : Hp} {d : D} {v : V} (rv : DV K i H d v) : ∀ {ds : List D} {vs : List V} (j : Nat), DLs K i H ds vs → DLs K i H (ds.set j d) (vs.set j v)
  | [], vs, j, h => by
    simp only [DLs] at h
    subst h
    simp only [List.set_nil, DLs]
  | x :: ds, vs, 0, h => by
    simp only [DLs] at h
    obtain ⟨v', r', h1, h2, h3⟩ := h
    subst h1
    simp only [List.set_cons_zero, DLs]
    exact ⟨v, _, rfl, rv, h3⟩
  | x :: ds, vs, j + 1, h => by
    simp only [DLs] at h
    obtain ⟨v', r', h1, h2, h3⟩ := h
    subst h1
    simp only [List.set_cons_succ, DLs]
    exact ⟨v', _, rfl, h2, dl_set rv j h3⟩
theorem ps_putA (hu : X.A.units + 1 < cLine) : PSet X (rOS X.K C oPutA) := by
  intro pins s σ H o i v ov iv u Q I ro ri rv h
  obtain ⟨ii, M, dx, dk, dv, M', m, rx, rk, rd, e, q⟩ := h
  unfold oPutA at e
  split at e
  · rename_i n k
    simp only [DV] at rk
    subst rk
    split at e
    · rename_i kvs hk
      split at e
      · rename_i hl
        cases e
        obtain ⟨a, vs, ha, rfl, h1, h2⟩ := dct_at m hk rx
        cases ro
        refine d_setItem hu I (DPut.k (k := Sum.inl k) (v := v) h1 (by rw [← h2.length]; exact small_line hl)) ri rv fun s' J => ⟨_, J, ?_⟩
        exact q ii _ (ext_write m ha) (m.write ha ⟨_, upd_same, (DKs.put rd h2).mono (ext_write m ha)⟩)
      · cases e
    · rename_i ds hk
      split at e
      · rename_i j hj
        cases e
        obtain ⟨a, vs, ha, rfl, h1, h2⟩ := lst_at m hk rx
        refine L2.set_list pins s σ H _ _ _ ov iv u Q I ro ri rv ⟨a, vs, k, j, rfl, rfl, h1, by rw [← h2.length]; exact hj, ?_⟩
        exact q ii _ (ext_write m ha) (m.write ha ⟨_, upd_same, (dl_set rd j h2).mono (ext_write m ha)⟩)
      · cases e
    · cases e
  · cases e
/-! ### in, not in -/
def oInD (x y : D) (M : Mem) : Option Bool := match x, y with
  | .int k, .ref n => (match M[n]? with
    | some (.dct kvs) => some (aget kvs k).isSome
    | some (.lst ds) => (match intsOf ds with
      | some ns => some (decide (k ∈ ns))
      | none => none)
    | _ => none)
  | .int k, .tup ds => (match intsOf ds with
    | some ns => some (decide (k ∈ ns))
    | none => none)
  | .str k, .tup ds => (match strsOf ds with
    | some ns => some (decide (k ∈ ns))
    | none => none)
  | _, _ => none
def oIn : Op2 := fun x y M => match oInD x y M with
  | some b => some (.bl b, M)
  | none => none
def oNotIn : Op2 := fun x y M => match oInD x y M with
  | some b => some (.bl (!b), M)
  | none => none
theorem inV_ints (k : Int) (ns : List Int) : inV (.int k) (ns.map V.int) = decide (k ∈ ns) := by
  unfold inV
  induction ns with
  | nil => simp
  | cons n ns ih =>
    rw [List.map_cons, List.any_cons, ih]
    show ((n == k) || _) = _
    rw [Bool.eq_iff_iff]
    simp only [Bool.or_eq_true, beq_iff_eq, decide_eq_true_eq, List.mem_cons]
    exact ⟨fun h => h.imp Eq.symm id, fun h => h.imp Eq.symm id⟩
theorem inV_strs (k : Str) (ns : List Str) : inV (.str k) (ns.map V.str) = decide (k ∈ ns) := by
  unfold inV
  induction ns with
  | nil => simp
  | cons n ns ih =>
    rw [List.map_cons, List.any_cons, ih]
    show ((n == k) || _) = _
    rw [Bool.eq_iff_iff]
    simp only [Bool.or_eq_true, beq_iff_eq, decide_eq_true_eq, List.mem_cons]
    exact ⟨fun h => h.imp Eq.symm id, fun h => h.imp Eq.symm id⟩
theorem flat_ints (ns : List Int) : (ns.map V.int).all flatV = true := by simp [flatV]
theorem flat_strs (ns : List Str) : (ns.map V.str).all flatV = true := by simp [flatV]
theorem inD_cases {x y : D} {M : Mem} {b : Bool} {i : List Addr} {H : Hp} {vx vy : V} (m : MemR X.K C i M H) (rx : DV X.K i H x vx) (ry : DV X.K i H y vy) (e : oInD x y M = some b) :
    (∃ a o, vy = .ref a ∧ DGet H a vx o ∧ o.isSome = b) ∨ ∃ p xs, vy = .ref p ∧ (SqL X.K H p xs ∨ SqT X.K H p xs) ∧ flatV vx = true ∧ xs.all flatV = true ∧ inV vx xs = b := by
  unfold oInD at e
  split at e
  · rename_i k n
    simp only [DV] at rx
    subst rx
    split at e
    · rename_i kvs hk
      cases e
      obtain ⟨a, vs, ha, rfl, h1, h2⟩ := dct_at m hk ry
      obtain ⟨n1, n2⟩ := DKs.val k h2
      refine .inl ⟨a, _, rfl, .inl ⟨vs, Sum.inl k, .inl h1, rfl, rfl⟩, ?_⟩
      cases hg : aget kvs k with
      | none => rw [n1 hg]; rfl
      | some d =>
        obtain ⟨v, hv, _⟩ := n2 d hg
        rw [hv]
        rfl
    · rename_i ds hk
      split at e
      · rename_i ns hn
        cases e
        obtain ⟨a, vs, ha, rfl, h1, h2⟩ := lst_at m hk ry
        have := intsOf_dl h2 hn
        subst this
        exact .inr ⟨a, _, rfl, .inl (SqL.of h1), rfl, flat_ints ns, inV_ints k ns⟩
      · cases e
    · cases e
  · rename_i k ds
    simp only [DV] at rx
    subst rx
    split at e
    · rename_i ns hn
      cases e
      obtain ⟨a, vs, rfl, h1, h2⟩ := tup_at ry
      have := intsOf_dl h2 hn
      subst this
      exact .inr ⟨a, _, rfl, .inr h1.seq, rfl, flat_ints ns, inV_ints k ns⟩
    · cases e
  · rename_i k ds
    simp only [DV] at rx
    subst rx
    split at e
    · rename_i ns hn
      cases e
      obtain ⟨a, vs, rfl, h1, h2⟩ := tup_at ry
      have := strs_dl h2 hn
      subst this
      exact .inr ⟨a, _, rfl, .inr h1.seq, rfl, flat_strs ns, inV_strs k ns⟩
    · cases e
  · cases e
theorem or_in (hu : X.A.units + 1 < cLine) : OpR X (compareOp .In) (rO X.K C oIn) := by
  intro pins s σ H x y v u Q I rv ru h
  obtain ⟨i, M, dx, dy, d, M', m, rx, ry, e, q⟩ := h
  unfold oIn at e
  split at e
  · rename_i b hb
    cases e
    rcases inD_cases m rx ry hb with ⟨a, o, rfl, g, e2⟩ | ⟨p, xs, rfl, h1, h2, h3, h4⟩
    · cases ru
      refine d_in hu I g rv fun s' J => ⟨.bl b, H, J, by rw [e2]; rfl, goBl q m⟩
    · exact op_in_seq pins s σ H _ _ v u Q I rv ru ⟨p, xs, rfl, h1, h2, h3, by rw [h4]; exact goBl q m⟩
  · cases e
theorem or_notIn (hu : X.A.units + 1 < cLine) : OpR X (compareOp .NotIn) (rO X.K C oNotIn) := by
  intro pins s σ H x y v u Q I rv ru h
  obtain ⟨i, M, dx, dy, d, M', m, rx, ry, e, q⟩ := h
  unfold oNotIn at e
  split at e
  · rename_i b hb
    cases e
    rcases inD_cases m rx ry hb with ⟨a, o, rfl, g, e2⟩ | ⟨p, xs, rfl, h1, h2, h3, h4⟩
    · cases ru
      refine d_notIn hu I g rv fun s' J => ⟨.bl (!b), H, J, by rw [e2]; rfl, goBl q m⟩
    · exact op_notIn_seq pins s σ H _ _ v u Q I rv ru ⟨p, xs, rfl, h1, h2, h3, by rw [h4]; exact goBl q m⟩
  · cases e
end
end BL
/-! BLMore2: extend, sets of ints, sorted. -/
namespace PySem
open Sem (wp)
theorem bl_meets_extend {l b : Addr} {its1 its2 : Array Value} {n1 n2 : Nat} {ob : Obj} {T : String} (hT : T = "list" ∨ T = "tuple") (hsz : its1.size + its2.size ≤ sizeLine) :
    Meets (Builtin.«list.extend» ⟨[.ref l, .ref b], []⟩) (fun _ R s => s.heap.get? l = some { cls := .type "list", data := .seq its1 n1 } ∧ (s.heap.get? b = some ob ∧ ob.cls = .type T ∧ ob.data = .seq its2 n2) ∧
      R (.ok (.ret .none)) { s with heap := s.heap.update l (Obj.mapSeq (· ++ its2)) }) := fun prog w A R s ⟨hl, ⟨hb, hc, hd⟩, hR⟩ => by
  show wpAny _ A.in1 (Builtin.List.listExtendWith (.ref l) (.ref b) .none) _ _ s
  unfold Builtin.List.listExtendWith
  refine wpAny_bind (wpAny_typeOf ⟨ob, hb, hc⟩ ?_)
  have hsame : (Builtin.List.listSameRef (.ref l) (.ref b) || Value.type T == Value.type "list" || Value.type T == Value.type "tuple") = true := by
    rcases hT with rfl | rfl <;> simp
  simp only [hsame, if_true]
  refine wpAny_bind ?_
  unfold Builtin.List.listItems
  refine wpAny_bind (wpAny_seqItems hb hd (wpAny_pure ?_))
  refine wpAny_bind ?_
  refine wpAny_bind (wpAny_seqItems hl rfl (wpAny_pure ?_))
  have hfit : (!its1.isEmpty && Builtin.List.listTooLong (its1.size + its2.size)) = false := by
    unfold Builtin.List.listTooLong
    rw [decide_eq_false (by omega), Bool.and_false]
  simp only [hfit, Bool.false_eq_true, if_false]
  show wpAny _ A.in1 (updateSeq l (· ++ its2) >>= fun _ => ret .none) _ _ s
  refine wpAny_bind (wpAny_updateSeq hl rfl ?_ (by omega) (by simp only [Array.size_append]; omega))
  exact wpAny_pure hR
end PySem
namespace BL
open PySem L2
section
variable {X : Cx} {C : Addr} {W : WX} {o e f a : Expr} {go ge gf ga : GE} {gs : GA} {apos cpos pos p p2 q : Pos} {x : Str}
def seqOf (M : Mem) : D → Option (List D)
  | .tup xs => some xs
  | .ref n => (match M[n]? with
    | some (.lst xs) => some xs
    | _ => none)
  | _ => none
def oExtend : OpM := fun x xs M => match x, xs with
  | .ref n, [d] => (match M[n]?, seqOf M d with
    | some (.lst ds), some es => if ds.length + es.length < 16000000 then some (.non, M.set n (.lst (ds ++ es))) else none
    | _, _ => none)
  | _, _ => none
theorem seqOf_at {i : List Addr} {M : Mem} {H : Hp} {d : D} {v : V} {es : List D} (m : MemR X.K C i M H) (r : DV X.K i H d v) (e : seqOf M d = some es) : ∃ b vs, v = .ref b ∧ (SqL X.K H b vs ∨ SqT X.K H b vs) ∧ DLs X.K i H es vs := by
  cases d <;> first
    | (cases e; done)
    | skip
  · cases e
    obtain ⟨b, vs, rfl, h1, h2⟩ := tup_at r
    exact ⟨b, vs, rfl, .inr h1.seq, h2⟩
  · rename_i n
    unfold seqOf at e
    dsimp only at e
    split at e
    · rename_i xs hn
      cases e
      obtain ⟨b, vs, _, rfl, h1, h2⟩ := lst_at m hn r
      exact ⟨b, vs, rfl, .inl (SqL.of h1), h2⟩
    · cases e
theorem rm_extend : MtR X "list.extend" (rOM X.K C oExtend) := by
  intro pins s σ H x xs v us Q I rv ru h
  obtain ⟨i, M, dx, ds, d, M', m, rx, rs, e, q⟩ := h
  unfold oExtend at e
  split at e
  · rename_i n d'
    split at e
    · rename_i ls es hn he
      split at e
      · rename_i hl
        cases e
        obtain ⟨a, vs, ha, rfl, h1, h2⟩ := lst_at m hn rx
        obtain ⟨w, rfl, r1⟩ := dl1 rs
        obtain ⟨b, ws, rfl, h3, h4⟩ := seqOf_at m r1 he
        cases rv
        obtain ⟨u, rfl, ru1⟩ := ru.one
        cases ru1
        obtain ⟨z, its, k, r, e1⟩ := I.hok a _ h1
        obtain ⟨its2, ob, T, k2, hT, r2, e2, c2, d2⟩ : ∃ (its2 : List Value) (ob : Obj) (T : String) (k2 : Nat), (T = "list" ∨ T = "tuple") ∧ Vals ws its2 ∧ s.heap.get? b = some ob ∧ ob.cls = .type T ∧ ob.data = .seq its2.toArray k2 := by
          rcases h3 with h3 | h3
          · obtain ⟨its2, r2, ⟨ob, k2, e2, c2, _, d2⟩, _⟩ := I.list h3
            exact ⟨its2, ob, "list", k2, .inl rfl, r2, e2, c2, d2⟩
          · obtain ⟨its2, r2, ⟨ob, e2, c2, k2, d2⟩, _⟩ := I.tuple h3
            exact ⟨its2, ob, "tuple", k2, .inr rfl, r2, e2, c2, d2⟩
        have l1 : its.length = ls.length := by rw [← r.length, h2.length]
        have l2 : its2.length = es.length := by rw [← r2.length, h4.length]
        have hz := PySem.sizeLine_eq
        refine call_meets F.slot_list_extend ⟨_, e1, rfl⟩ F.entry_list_extend (F.args_list_extend_2 _ _) (bl_meets_extend (ob := ob) hT (by rw [List.size_toArray, List.size_toArray]; omega)) ⟨e1, ⟨e2, c2, d2⟩, ?_⟩
        refine ⟨.non, _, I.lset (its' := its ++ its2) h1 e1 (by simp) (r.append r2) ?_, rfl, ?_⟩
        · rw [List.length_append, ← h2.length, ← h4.length]
          omega
        · exact goWlst q m ha (dl_app h2 h4) (by simp only [DV])
      · cases e
    · cases e
  · cases e
/-! ### sorted -/
def oSorted : OpN := fun xs M => match xs with
  | [.ref n] => (match M[n]? with
    | some (.lst ds) => (match intsOf ds with
      | some ns => some (.ref M.length, M ++ [.lst ((ns.mergeSort (fun a b => decide (a ≤ b))).map .int)])
      | none => none)
    | _ => none)
  | _ => none
theorem sorted_same {a ns : List Int} (hp : a.Perm ns) (hs : a.Pairwise (· ≤ ·)) : a = ns.mergeSort (fun a b => decide (a ≤ b)) := by
  have h1 : (ns.mergeSort (fun a b => decide (a ≤ b))).Perm ns := List.mergeSort_perm ns _
  have h2 : (ns.mergeSort (fun a b => decide (a ≤ b))).Pairwise (fun a b => decide (a ≤ b) = true) := List.pairwise_mergeSort (fun a b c h h' => by simp at h h' ⊢; omega) (fun a b => by simp; omega) ns
  exact PySem.W.ksm_same (hp.trans h1.symm) hs (h2.imp fun h => by simpa using h)
theorem cl_sorted : CallR X (.builtin "sorted") (rON X.K C oSorted) := by
  intro pins s σ H xs us Q I rv h
  obtain ⟨i, M, ds, d, M', m, rx, e, q⟩ := h
  unfold oSorted at e
  split at e
  · rename_i n
    split at e
    · rename_i ls hn
      split at e
      · rename_i ns hi
        cases e
        obtain ⟨v, rfl, r1⟩ := dl1 rx
        obtain ⟨a, vs, ha, rfl, h1, h2⟩ := lst_at m hn r1
        have := intsOf_dl h2 hi
        subst this
        refine cr_sortedI pins s σ H _ us Q I rv ⟨a, ns, rfl, SqL.of h1, fun ns' p hp hs hP => ?_⟩
        rw [sorted_same hp hs]
        exact goLst q m (dl_ints _) p hP
      · cases e
    · cases e
  · cases e
/-! ### len(set(xs)) -/
def dist (ns : List Int) : List Int := PyProof.Rows.firstMet (fun i => ns.getD i 0) ns.length
def oLenSet : Op1 := fun x M => match x with
  | .ref n => (match M[n]? with
    | some (.lst ds) => (match intsOf ds with
      | some ns => if ns.length ≤ 4000 then some (.int (dist ns).length, M) else none
      | none => none)
    | _ => none)
  | _ => none
def tLenSetD (K : PySem.W.Frag) (ta : TE) : TE := fun σ H Q => ta σ H fun x H1 => ∃ (l : Addr) (ns : List Int), x = .ref l ∧ SqL K H1 l (ns.map V.int) ∧ ns.length ≤ 4000 ∧ Q (.int ((dist ns).length : Nat)) H1
theorem pe_lenSetD {ta : TE} (hg : Gl X "len") (hm : X.mg "len" = none) (hg2 : Gl X "set") (hm2 : X.mg "set" = none) (ha : PE X a ta) (hc : X.calm = true := by rfl)
    (na : starEach [a] X.env = (false, eval a X.env) :: starEach [] X.env := by rfl) : PE X (.Call (.Name "len" p) [.Call (.Name "set" p2) [a] [] q] [] pos) (tLenSetD X.K ta) := by
  refine ⟨fun pins s σ H Q I h => ?_⟩
  refine PyProof.Rows.Call_ (ld_blt I hg hm bv_len ?_)
  refine PyProof.Rows.callWith_builtin1 (PyProof.Rows.args_cons ?_ rfl) rfl rfl
  refine PyProof.Rows.Call_ (ld_blt I hg2 hm2 (show bootBuiltins "set" = some (.type "set") by decide +kernel) ?_)
  refine PyProof.Rows.callWith_type1 (PyProof.Rows.args_cons (thn (ha.run pins s σ H _ I h) fun v s1 ⟨x, H1, I1, r1, w1⟩ => PyProof.Rows.args_nil ?_) na) na rfl
  obtain ⟨l, ns, rfl, hq, hz, w1⟩ := w1
  cases r1
  obtain ⟨its, r, pl, _⟩ := I1.list hq
  have size1 : its.toArray.size = ns.length := by rw [List.size_toArray, ← r.length, List.length_map]
  refine call_set_list (I1.ok.hd hc) pl.isList (by simpa using RZ.intsAre_vals r) (by rw [size1]; unfold scanBound; omega) fun h' tk hS hk => ?_
  refine PyProof.Rows.args_nil ?_
  rw [size1] at hS
  have small1 : (dist ns).length ≤ ns.length := PyProof.Rows.firstMet_length_le _ _
  obtain ⟨o, es, ep, t, ho, hex, hd, _, _, _, hf, hn⟩ := hS
  have I2 : Inv X pins σ H1 { s1 with heap := h', toks := tk } := I1.kept fun b o e => hk b o (Heap.lt_size e) e
  have hn' : es.size = (dist ns).length := hn
  exact call_len_set ho hex hd hf (by rw [hn']; omega) ⟨.int (dist ns).length, H1, I2.tok _, ⟨_, by rw [hn']⟩, w1⟩
theorem se_lenSet (hg : Gl X "len") (hm : X.mg "len" = none) (hg2 : Gl X "set") (hm2 : X.mg "set" = none) (ha : SE X C W a ga) (hc : X.calm = true := by rfl)
    (na : starEach [a] X.env = (false, eval a X.env) :: starEach [] X.env := by rfl) : SE X C W (.Call (.Name "len" p) [.Call (.Name "set" p2) [a] [] q] [] pos) (mUn oLenSet ga) := by
  obtain ⟨t, pt, s⟩ := ha.ex
  refine ⟨_, pe_lenSetD hg hm hg2 hm2 pt hc na, fun i L M σ H r Q m l e q => ?_⟩
  refine s.step m l e q fun dx M1 i1 H1 x g1 m1 l1 rx e1 q1 => ?_
  obtain ⟨d, M', h1, h2⟩ := snd_ret e1 q1
  unfold oLenSet at h1
  split at h1
  · rename_i n
    split at h1
    · rename_i ls hn
      split at h1
      · rename_i ns hi
        split at h1
        · rename_i hz
          cases h1
          obtain ⟨b, vs, _, rfl, h3, h4⟩ := lst_at m1 hn rx
          have := intsOf_dl h4 hi
          subst this
          exact ⟨b, ns, rfl, SqL.of h3, hz, goInt h2 m1⟩
        · cases h1
      · cases h1
    · cases h1
  · cases h1
end
end BL
/-! BLRev: xs[::-1] of tuples and lists. -/
namespace HT
open PySem PySem.Spec PyProof.Rows
section
variable {prog : Program} {w : World} {A : Around} {E : Value → Shared → Prop} {s : Shared}
theorem bl_pick (xs : Array Value) : ((List.range xs.size).filterMap fun (m : Nat) => xs[(((xs.size : Int) - 1) + (m : Int) * (-1)).toNat]?).toArray = xs.toList.reverse.toArray := by
  have e : (List.range xs.size).map (fun (m : Nat) => (((xs.size : Int) - 1) + (m : Int) * (-1)).toNat) = (List.range xs.size).map (fun k => xs.size - 1 - k) := List.map_congr_left fun m hm => by
    have := List.mem_range.mp hm
    omega
  have e2 : (List.range xs.size).filterMap (fun (m : Nat) => xs[(((xs.size : Int) - 1) + (m : Int) * (-1)).toNat]?) = ((List.range xs.size).map (fun (m : Nat) => (((xs.size : Int) - 1) + (m : Int) * (-1)).toNat)).filterMap (xs[·]?) := by
    rw [List.filterMap_map]
    rfl
  rw [e2, e, PySem.W.krv_range, List.filterMap_reverse, PySem.W.krv_all]
theorem bl_applied {sl : Addr} {v1 v2 v3 : Value} {n : Nat} {Q : Int × Int × Nat → Shared → Prop} (hs : s.heap.IsSliceOf sl v1 v2 v3) (p1 : IsPart v1 none) (p2 : IsPart v2 none) (p3 : IsPart v3 (some (-1)))
    (h : Q ((n : Int) - 1, -1, n) s) : wpAny (model prog w) A (Builtin.Slice.sliceApplied (.ref sl) (pure (n : Int))) Q E s := by
  obtain ⟨os, hos, hcs, hds⟩ := id hs
  unfold Builtin.Slice.sliceApplied Builtin.Slice.sliceFields
  refine wpAny_bind (wpAny_bind (wpAny_field hos hds (x := v1) rfl (wpAny_bind (wpAny_field hos hds (x := v2) rfl (wpAny_bind (wpAny_field hos hds (x := v3) rfl (wpAny_pure ?_)))))))
  refine wpAny_bind (slicePart_ p3 ?_)
  show wpAny _ _ (if ((-1 : Int) == 0) = true then _ else _) _ _ s
  rw [if_neg (by decide)]
  refine wpAny_bind (slicePart_ p1 (wpAny_bind (slicePart_ p2 (wpAny_bind (wpAny_pure ?_)))))
  have e : Builtin.Slice.sliceAdjust none none (-1) (n : Int) = ((n : Int) - 1, -1) := by
    unfold Builtin.Slice.sliceAdjust
    simp
  have e2 : Builtin.Slice.slicePlaces ((n : Int) - 1) (-1) (-1) = n := by
    unfold Builtin.Slice.slicePlaces
    simp
    split <;> omega
  show wpAny _ _ (match Builtin.Slice.sliceAdjust none none (-1) (n : Int) with | (lo, hi) => pure (lo, (-1 : Int), Builtin.Slice.slicePlaces lo hi (-1))) _ _ s
  rw [e]
  show wpAny _ _ (pure ((n : Int) - 1, (-1 : Int), Builtin.Slice.slicePlaces ((n : Int) - 1) (-1) (-1))) _ _ s
  rw [e2]
  exact wpAny_pure h
theorem bl_getItem_rev {t sl : Addr} {its : Array Value} {v1 v2 v3 : Value} {Q : Value → Shared → Prop} (ht : IsTup s.heap t its) (hs : s.heap.IsSliceOf sl v1 v2 v3) (p1 : IsPart v1 none) (p2 : IsPart v2 none) (p3 : IsPart v3 (some (-1)))
    (h : Q (.ref s.heap.objs.size) { s with heap := s.heap.push { cls := .type "tuple", data := .seq its.toList.reverse.toArray } })
    (hsz : its.size ≤ sizeLine) : wpAny (model prog w) A (getItem (.ref t) (.ref sl)) Q E s := by
  have hz : sizeOk (.seq its.toList.reverse.toArray) := by
    show its.toList.reverse.toArray.size ≤ sizeLine
    rw [List.size_toArray, List.length_reverse, Array.length_toList]
    exact hsz
  obtain ⟨os, hos, hcs, hds⟩ := id hs
  have hTs : s.TypeIs (.ref sl) "slice" := ⟨os, hos, hcs⟩
  unfold getItem
  try with_reducible refine wpAny_holding ?_
  first | refine wpAny_bind (wpAny_pure ?_) | skip
  refine wpAny_bind (wpAny_sequenceKey ht.typeIs (by decide) ?_)
  refine wpAny_bind (wpAny_callSpecial?_slot (name := Str.ofString "__getitem__") ht.typeIs PyProof.Rows.slot_tuple_getitem
    (wpAny_call_entry PyProof.Rows.slot_tuple_getitem ht.typeIs entry_tuple_getitem ?_ (args_tuple_getitem _ _)))
  show wpAny _ _ (Builtin.Tuple.tupleItemsOf (.ref t) >>= _) _ _ s
  refine wpAny_bind (tupleItemsOf_ ht ?_)
  refine wpAny_bind (wpAny_typeOf hTs ?_)
  rw [if_pos (by decide)]
  refine wpAny_bind (bl_applied hs p1 p2 p3 ?_)
  have hno : ¬ ((((its.size : Int) - 1) == 0 && (-1 : Int) == 1 && its.size == its.size) = true) := by
    intro q
    rw [Bool.and_eq_true, Bool.and_eq_true] at q
    exact absurd q.1.2 (by decide)
  show wpAny _ _ (if (((its.size : Int) - 1) == 0 && (-1 : Int) == 1 && its.size == its.size) = true then _ else _) _ _ s
  rw [if_neg hno, bl_pick]
  first
    | exact wpAny_bind (m := Builtin.Tuple.tupleExact _) (wpAny_newObj_type (wpAny_pure ⟨_, rfl, wpAny_pure h⟩) hz)
    | exact wpAny_bind (m := Builtin.Tuple.tupleExact _) (wpAny_newObj_type (wpAny_bind (wpAny_pure (wpAny_pure ⟨_, rfl, wpAny_pure h⟩))) hz)
    | exact wpAny_bind (wpAny_bind (m := Builtin.Tuple.tupleExact _) (wpAny_newObj_type (wpAny_pure (wpAny_pure ⟨_, rfl, wpAny_pure h⟩)) hz))
    | exact wpAny_bind (wpAny_bind (m := Builtin.Tuple.tupleExact _) (wpAny_newObj_type (wpAny_pure ⟨_, rfl, wpAny_pure h⟩) hz))
end
end HT
namespace BL
open PySem L2
section
variable {X : Cx} {C : Addr} {W : WX} {a e : Expr} {ga : GE} {k : Nat} {p1 p2 p3 pos : Pos}
def tRevA (K : PySem.W.Frag) (te : TE) : TE := fun σ H Q => te σ H fun x H1 => ∃ a xs, x = .ref a ∧ ((SqL K H1 a xs ∧ ∀ p, H1 p = none → Q (.ref p) (upd H1 p (.lst xs.reverse))) ∨ (SqT K H1 a xs ∧ ∀ p, H1 p = none → Q (.ref p) (upd H1 p (.tup xs.reverse))))
theorem pe_revX {te : TE} (he : PE X e te) : PE X (.Subscript e (.Slice none none (some (.UnaryOp .USub (.Constant (.int 1) k p1) p2)) p3) pos) (tRevA X.K te) := by
  refine ⟨fun pins s σ H Q I h => ?_⟩
  refine PyProof.Rows.Subscript_ (thn (he.run pins s σ H _ I h) fun v s1 ⟨x, H1, I1, r1, w1⟩ => ?_)
  obtain ⟨b, xs, ex, w⟩ := w1
  subst ex
  cases r1
  have third : PO X (some (.UnaryOp .USub (.Constant (.int 1) k p1) p2)) (tPart (tUn (rU fun i => .int (-i)) (tC (.int 1)))) := po_some (pe_un un_neg pe_int)
  refine wpAny_Slice (thn (po_none.run pins s1 σ H1 (fun o H2 => o = none ∧ H2 = H1) I1 ⟨rfl, rfl⟩) fun y1 s2 ⟨l, H2, I2, q1, el, e2⟩ => ?_)
  subst el e2
  refine thn (po_none.run pins s2 σ H2 (fun o H3 => o = none ∧ H3 = H2) I2 ⟨rfl, rfl⟩) fun y2 s3 ⟨u, H3, I3, q2, eu, e3⟩ => ?_
  subst eu e3
  refine thn (third.run pins s3 σ H3 (fun o H4 => o = some (-1) ∧ H4 = H3) I3 ⟨1, rfl, -1, rfl, rfl, rfl⟩) fun y3 s4 ⟨o, H4, I4, q3, eo, e4⟩ => ?_
  subst eo e4
  have I5 : Inv X pins σ H4 { s4 with heap := s4.heap.push { cls := .type "slice", data := .fields #[y1, y2, y3] } } := I4.kept (t' := s4.toks) fun b ob z => Heap.get?_push_of_some _ z
  show wpAny (model X.prog X.w) X.A (PyProof.Rows.subscriptTail e (.Slice none none (some (.UnaryOp .USub (.Constant (.int 1) k p1) p2)) p3) (.ref b) (.ref s4.heap.objs.size)) (EP X pins σ Q) X.xe { s4 with heap := s4.heap.push { cls := .type "slice", data := .fields #[y1, y2, y3] } }
  rcases w with ⟨hx, w⟩ | ⟨hx, w⟩
  · obtain ⟨its, r, ht, hz⟩ := I5.list hx
    have size1 := r.length
    refine PyProof.Rows.tail_any (ops := [.ref b, .ref s4.heap.objs.size]) ht.isList.typeIs (PySem.slot_list_getitem.lookup) ?_ (by with_unfolding_all rfl)
    refine wpAny_getItem_list_slice ht.isList (Heap.IsSliceOf.new _ y1 y2 y3) q1 q2 q3 (by decide) ?_ (by rw [List.size_toArray]; omega)
    rw [PySem.W.krv_pick]
    refine ⟨.ref _, _, I5.laid (t' := s4.toks) (o := .lst xs.reverse) (fun b ob z => Heap.get?_push_of_some _ z) (Nat.le_refl _) ?_, rfl, w _ (I5.hok.fresh (Nat.le_refl _))⟩
    exact ⟨by rw [List.length_reverse]; exact hz, _, 0, r.reverse, Heap.get?_push_size _ rfl⟩
  · obtain ⟨its, r, ht, hz⟩ := I5.tuple hx
    have size1 := r.length
    refine PyProof.Rows.tail_any (ops := [.ref b, .ref s4.heap.objs.size]) ht.typeIs (PyProof.Rows.slot_tuple_getitem.lookup) ?_ (by with_unfolding_all rfl)
    refine HT.bl_getItem_rev ht (Heap.IsSliceOf.new _ y1 y2 y3) q1 q2 q3 ?_ (by rw [List.size_toArray]; omega)
    refine ⟨.ref _, _, I5.laid (t' := s4.toks) (o := .tup xs.reverse) (fun b ob z => Heap.get?_push_of_some _ z) (Nat.le_refl _) ?_, rfl, w _ (I5.hok.fresh (Nat.le_refl _))⟩
    exact ⟨by rw [List.length_reverse]; exact hz, _, r.reverse, PyProof.Rows.IsTup.new _ _⟩
def oRevL : Op1 := fun x M => match x with
  | .tup xs => some (.tup xs.reverse, M)
  | .ref n => (match M[n]? with
    | some (.lst xs) => some (.ref M.length, M ++ [.lst xs.reverse])
    | _ => none)
  | _ => none
theorem dl_rev {K : PySem.W.Frag} {i : List Addr} {H : Hp} : ∀ {ds : List D} {vs : List V}, DLs K i H ds vs → DLs K i H ds.reverse vs.reverse
  | [], vs, h => by
    simp only [DLs] at h
    subst h
    simp only [List.reverse_nil, DLs]
  | d :: ds, vs, h => by
    simp only [DLs] at h
    obtain ⟨v, r, h1, h2, h3⟩ := h
    subst h1
    rw [List.reverse_cons, List.reverse_cons]
    exact dl_append h2 (dl_rev h3)
theorem se_revl (ha : SE X C W a ga) : SE X C W (.Subscript a (.Slice none none (some (.UnaryOp .USub (.Constant (.int 1) k p1) p2)) p3) pos) (mUn oRevL ga) := by
  obtain ⟨t, pt, s⟩ := ha.ex
  refine ⟨_, pe_revX pt, fun i L M σ H r Q m l e q => ?_⟩
  refine s.step m l e q fun dx M1 i1 H1 x g1 m1 l1 rx e1 q1 => ?_
  obtain ⟨d, M', h1, h2⟩ := snd_ret e1 q1
  unfold oRevL at h1
  split at h1
  · cases h1
    obtain ⟨b, vs, rfl, h3, h4⟩ := tup_at rx
    exact ⟨b, vs, rfl, .inr ⟨h3.seq, goTup h2 m1 (dl_rev h4)⟩⟩
  · split at h1
    · rename_i xs hn
      cases h1
      obtain ⟨b, vs, _, rfl, h3, h4⟩ := lst_at m1 hn rx
      exact ⟨b, vs, rfl, .inl ⟨SqL.of h3, goLst h2 m1 (dl_rev h4)⟩⟩
    · cases h1
  · cases h1
end
end BL
/-! BLEval: the machine run by rewriting. -/
namespace BL
open PySem L2
section
variable {L : Loc} {M : Mem} {a b c : GE} {op op2 : Op2} {o1 : Op1} {on : OpN} {gs : GA} {t u : GT} {p q : GS} {i j : Nat} {d : D} {f : Fn}
@[simp] theorem ev_var : mVar i L M = (match L[i]? with | some (some d) => some (.ok d M) | _ => none) := (rfl)
@[simp] theorem ev_c : mC d L M = some (.ok d M) := (rfl)
@[simp] theorem ev_bin : mBin op a b L M = bnd (a L M) fun x M1 => bnd (b L M1) fun y M2 => ret (op x y M2) := (rfl)
@[simp] theorem ev_un : mUn o1 a L M = bnd (a L M) fun x M1 => ret (o1 x M1) := (rfl)
@[simp] theorem ev_chain : mChain op op2 a b c L M = bnd (a L M) fun x M1 => bnd (b L M1) fun y M2 => bnd (ret (op x y M2)) fun z M3 => match z with
  | .bl true => bnd (c L M3) fun w M4 => ret (op2 y w M4)
  | .bl false => some (.ok (.bl false) M3)
  | _ => none := (rfl)
@[simp] theorem ev_nil : mNil L M = some (.ok [] M) := (rfl)
@[simp] theorem ev_cons : mCons a gs L M = bnd (a L M) fun x M1 => bnd (gs L M1) fun xs M2 => some (.ok (x :: xs) M2) := (rfl)
@[simp] theorem ev_cb : mCB on gs L M = bnd (gs L M) fun xs M1 => ret (on xs M1) := (rfl)
@[simp] theorem ev_call : mCall f gs L M = bnd (gs L M) fun xs M1 => f xs M1 := (rfl)
@[simp] theorem ev_tup : mTup gs L M = bnd (gs L M) fun xs M1 => ret (oTup xs M1) := (rfl)
@[simp] theorem ev_lst : mLst gs L M = bnd (gs L M) fun xs M1 => ret (oLst xs M1) := (rfl)
@[simp] theorem ev_dnew : mDnew L M = some (.ok (.ref M.length) (M ++ [.dct []])) := (rfl)
@[simp] theorem ev_t : mT a L M = bnd (a L M) fun x M1 => (match x with | .bl b => some (.ok b M1) | _ => none) := (rfl)
@[simp] theorem ev_and : mAnd t u L M = bnd (t L M) fun x M1 => if x = true then u L M1 else some (.ok false M1) := (rfl)
@[simp] theorem ev_or : mOr t u L M = bnd (t L M) fun x M1 => if x = true then some (.ok true M1) else u L M1 := (rfl)
@[simp] theorem ev_not : mNot t L M = bnd (t L M) fun x M1 => some (.ok (!x) M1) := (rfl)
@[simp] theorem ev_andV : mAndV a b L M = bnd (a L M) fun x M1 => (match x with | .bl true => b L M1 | .bl false => some (.ok (.bl false) M1) | _ => none) := (rfl)
@[simp] theorem ev_orV : mOrV a b L M = bnd (a L M) fun x M1 => (match x with | .bl false => b L M1 | .bl true => some (.ok (.bl true) M1) | _ => none) := (rfl)
@[simp] theorem ev_notV : mNotV a L M = bnd (a L M) fun x M1 => (match x with | .bl b => some (.ok (.bl (!b)) M1) | _ => none) := (rfl)
@[simp] theorem ev_if : mIf t a b L M = bnd (t L M) fun c M1 => if c = true then a L M1 else b L M1 := (rfl)
@[simp] theorem ev_skip : mSkip L M = some (.nx L, M) := (rfl)
@[simp] theorem ev_seq : mSeq p q L M = thenS (p L M) q := (rfl)
@[simp] theorem ev_name : mName i d L = some (L.set i (some d)) := (rfl)
@[simp] theorem ev_name2 {x y : D} : mName2 i j (.tup [x, y]) L = some ((L.set i (some x)).set j (some y)) := (rfl)
@[simp] theorem ev_set : mSet i a L M = bndS L (a L M) fun d M1 => some (.nx (L.set i (some d)), M1) := (rfl)
@[simp] theorem ev_ret : mRet a L M = bndS L (a L M) fun d M1 => some (.rt d, M1) := (rfl)
@[simp] theorem ev_retN : mRetN L M = some (.rt .non, M) := (rfl)
@[simp] theorem ev_expr : mExpr a L M = bndS L (a L M) fun _ M1 => some (.nx L, M1) := (rfl)
@[simp] theorem ev_ite : mIte t p q L M = bndS L (t L M) fun c M1 => if c = true then p L M1 else q L M1 := (rfl)
@[simp] theorem ev_put {op : D → D → D → Mem → Option Mem} : mPut op a b c L M = bndS L (c L M) fun v M1 => bndS L (a L M1) fun x M2 => bndS L (b L M2) fun k M3 => (match op x k v M3 with | some M4 => some (.nx L, M4) | none => none) := (rfl)
@[simp] theorem ev_raise {cn : Str} : mRaise cn L M = some (.ex cn L, M) := (rfl)
@[simp] theorem ev_mtL {om : OpM} : mMtL om a gs L M = bnd (a L M) fun x M1 => (match x with
  | .ref n => (match M1[n]? with
    | some (.lst _) => bnd (gs L M1) fun xs M2 => ret (om x xs M2)
    | _ => none)
  | _ => none) := (rfl)
@[simp] theorem ev_def1 {n : Nat} {x : D} : mDef 1 n p [x] M = endS (p ([some x] ++ List.replicate (n - 1) none) M) := if_pos rfl
@[simp] theorem ev_def2 {n : Nat} {x y : D} : mDef 2 n p [x, y] M = endS (p ([some x, some y] ++ List.replicate (n - 2) none) M) := if_pos rfl
@[simp] theorem ev_def3 {n : Nat} {x y z : D} : mDef 3 n p [x, y, z] M = endS (p ([some x, some y, some z] ++ List.replicate (n - 3) none) M) := if_pos rfl
@[simp] theorem ev_def4 {n : Nat} {x y z w : D} : mDef 4 n p [x, y, z, w] M = endS (p ([some x, some y, some z, some w] ++ List.replicate (n - 4) none) M) := if_pos rfl
@[simp] theorem ev_def5 {n : Nat} {x y z w v : D} : mDef 5 n p [x, y, z, w, v] M = endS (p ([some x, some y, some z, some w, some v] ++ List.replicate (n - 5) none) M) := if_pos rfl
theorem ev_def {k n : Nat} {ds : List D} (h : ds.length = k) : mDef k n p ds M = endS (p (ds.map some ++ List.replicate (n - k) none) M) := if_pos h
end
section
variable {M : Mem} {i j : Int} {s z : Str} {xs ys : List D} {x y : D} {n m : Nat}
@[simp] theorem add_int : oAdd (.int i) (.int j) M = some (.int (i + j), M) := (rfl)
@[simp] theorem add_str : oAdd (.str s) (.str z) M = if s.length + z.length < 16000000 then some (.str (s ++ z), M) else none := (rfl)
@[simp] theorem add_tup : oAdd (.tup xs) (.tup ys) M = if xs.length + ys.length < 16000000 then some (.tup (xs ++ ys), M) else none := (rfl)
theorem add_lst (h1 : M[n]? = some (.lst xs)) (h2 : M[m]? = some (.lst ys)) (h : xs.length + ys.length < 16000000) : oAdd (.ref n) (.ref m) M = some (.ref M.length, M ++ [.lst (xs ++ ys)]) := by
  show (match M[n]?, M[m]? with
    | some (.lst xs), some (.lst ys) => if xs.length + ys.length < 16000000 then some (D.ref M.length, M ++ [Ob.lst (xs ++ ys)]) else none
    | _, _ => none) = _
  rw [h1, h2]
  exact if_pos h
@[simp] theorem sub_int : oSub (.int i) (.int j) M = some (.int (i - j), M) := (rfl)
theorem mul_int (h : mulFits i j) : oMul (.int i) (.int j) M = some (.int (i * j), M) := if_pos h
@[simp] theorem div_int : oDiv (.int i) (.int j) M = if 0 < j ∧ j < 1073741824 then some (.int (i / j), M) else none := (rfl)
@[simp] theorem mod_int : oMod (.int i) (.int j) M = if 0 < j then some (.int (i % j), M) else none := (rfl)
@[simp] theorem pow_int : oPow (.int i) (.int j) M = if 0 ≤ j ∧ j ≤ 1000 ∧ i.natAbs < 2 ^ 64 then some (.int (i ^ j.toNat), M) else none := (rfl)
@[simp] theorem neg_int : oNeg (.int i) M = some (.int (-i), M) := (rfl)
@[simp] theorem lt_int : oLt (.int i) (.int j) M = some (.bl (decide (i < j)), M) := (rfl)
@[simp] theorem le_int : oLe (.int i) (.int j) M = some (.bl (decide (i ≤ j)), M) := (rfl)
@[simp] theorem gt_int : oGt (.int i) (.int j) M = some (.bl (decide (j < i)), M) := (rfl)
@[simp] theorem ge_int : oGe (.int i) (.int j) M = some (.bl (decide (j ≤ i)), M) := (rfl)
/-! whole numbers that fit -/
def small (i : Int) : Prop := -(10 ^ 80) ≤ i ∧ i ≤ 10 ^ 80
theorem bits_small (h : small i) : Builtin.Int.intBits i ≤ 300 := by
  unfold Builtin.Int.intBits
  unfold small at h
  by_cases e : (i == 0) = true
  · simp [e]
  · simp only [e]
    have h0 : i.natAbs ≠ 0 := by simp at e; omega
    have h1 : i.natAbs.log2 < 299 := (Nat.log2_lt h0).mpr (by omega)
    simp
    omega
theorem fits_small (h : small i) (h' : small j) : mulFits i j := by
  have a := bits_small h
  have b := bits_small h'
  unfold mulFits L2.CMulX
  omega
theorem fits_cell (h : Builtin.Int.intBits i ≤ 1048576) (h' : small j) : mulFits i j := by
  have b := bits_small h'
  unfold mulFits L2.CMulX
  omega
end
theorem lt_bits (c : Int) : c.natAbs < 2 ^ PySem.Builtin.Int.intBits c := by
  unfold PySem.Builtin.Int.intBits
  by_cases e : (c == 0) = true
  · simp at e
    simp [e]
  · simp only [e]
    simp at e
    exact Nat.lt_log2_self
theorem sum_bits {c k : Int} {p q : Nat} (hc : c.natAbs < 2 ^ p) (hk : k.natAbs < 2 ^ q) : (c + k).natAbs < 2 ^ (p + q + 1) := by
  have h1 : (c + k).natAbs ≤ c.natAbs + k.natAbs := Int.natAbs_add_le c k
  have h2 : 2 ^ p ≤ 2 ^ (p + q) := Nat.pow_le_pow_right (by decide) (by omega)
  have h3 : 2 ^ q ≤ 2 ^ (p + q) := Nat.pow_le_pow_right (by decide) (by omega)
  rw [Nat.pow_succ]
  omega
theorem fits_sum {c k j : Int} (h : PySem.Builtin.Int.intBits c ≤ 1048576) (hk : small k) (hj : small j) : mulFits (c + k) j := by
  have b := bits_small hk
  have b2 := bits_small hj
  exact L2.mulx_ok (sum_bits (lt_bits c) (lt_bits k)) (lt_bits j) (by omega)
/-! ### equality of plain data -/
/-- no truths, no references, texts of signs -/
def Pl : Nat → D → Prop
  | _, .non => True
  | _, .int _ => True
  | _, .str s => PyData.strOk s = true
  | n + 1, .tup xs => ∀ x ∈ xs, Pl n x
  | _, _ => False
theorem Pl.mono : ∀ {n : Nat} {d : D}, Pl n d → Pl (n + 1) d
  | _, .non, _ => by unfold Pl; trivial
  | _, .int _, _ => by unfold Pl; trivial
  | _, .str s, h => by unfold Pl at h ⊢; exact h
  | 0, .tup xs, h => by unfold Pl at h; exact h.elim
  | n + 1, .tup xs, h => by
    unfold Pl at h ⊢
    exact fun x hx => (h x hx).mono
  | n, .bl b, h => by cases n <;> (unfold Pl at h; exact h.elim)
  | n, .scr b, h => by cases n <;> (unfold Pl at h; exact h.elim)
  | n, .ref b, h => by cases n <;> (unfold Pl at h; exact h.elim)
theorem pl_non {n : Nat} : Pl n .non := by cases n <;> (unfold Pl; trivial)
theorem pl_int {n : Nat} {i : Int} : Pl n (.int i) := by cases n <;> (unfold Pl; trivial)
theorem pl_str {n : Nat} {s : Str} (h : PyData.strOk s = true) : Pl n (.str s) := by cases n <;> (unfold Pl; exact h)
theorem pl_tup {n : Nat} {xs : List D} (h : ∀ x ∈ xs, Pl n x) : Pl (n + 1) (.tup xs) := by unfold Pl; exact h
theorem Pl.items {n : Nat} {xs : List D} (h : Pl (n + 1) (.tup xs)) : ∀ x ∈ xs, Pl n x := by unfold Pl at h; exact h
/-- how it is told -/
structure Told (n : Nat) (d : D) (p : PyData) : Prop where
  py : ∀ f, pyD f d = some p
  lay : p.canLay0 = true
  deep : p.depth ≤ n
theorem told_list {n : Nat} (ih : ∀ d : D, Pl n d → ∃ p, Told n d p) : ∀ xs : List D, (∀ x ∈ xs, Pl n x) → ∃ ps : List PyData, (∀ f, pyL f xs = some ps) ∧ PyData.canLayAll0 ps = true ∧ PyData.depthAll ps ≤ n
  | [], _ => ⟨[], fun f => by simp only [pyL], by simp only [PyData.canLayAll0], by simp only [PyData.depthAll]; omega⟩
  | x :: xs, h => by
    obtain ⟨p, h1⟩ := ih x (h x List.mem_cons_self)
    obtain ⟨ps, h2, h3, h4⟩ := told_list ih xs fun y hy => h y (List.mem_cons_of_mem _ hy)
    refine ⟨p :: ps, fun f => by simp only [pyL, h1.py f, h2 f], by simp only [PyData.canLayAll0, h1.lay, h3, Bool.and_self], ?_⟩
    simp only [PyData.depthAll]
    have := h1.deep
    omega
theorem Pl.told : ∀ {n : Nat} {d : D}, Pl n d → ∃ p, Told n d p
  | n, .non, _ => ⟨.none, fun f => by simp only [pyD], rfl, by simp only [PyData.depth]; omega⟩
  | n, .int i, _ => ⟨.int i, fun f => by simp only [pyD], rfl, by simp only [PyData.depth]; omega⟩
  | n, .str s, h => ⟨.str s, fun f => by simp only [pyD], by
      simp only [PyData.canLay0]
      cases n <;> (unfold Pl at h; exact h), by simp only [PyData.depth]; omega⟩
  | 0, .tup xs, h => by unfold Pl at h; exact h.elim
  | n + 1, .tup xs, h => by
    obtain ⟨ps, h1, h2, h3⟩ := told_list (fun d => Pl.told (n := n)) xs h.items
    exact ⟨.tuple ps, fun f => by simp only [pyD, h1 f, Option.map_some], by simp only [PyData.canLay0, h2], by simp only [PyData.depth]; omega⟩
  | n, .bl b, h => by cases n <;> (unfold Pl at h; exact h.elim)
  | n, .scr b, h => by cases n <;> (unfold Pl at h; exact h.elim)
  | n, .ref b, h => by cases n <;> (unfold Pl at h; exact h.elim)
open Classical in
theorem eqv_list {n m : Nat} (ih : ∀ (d d' : D) (p p' : PyData), Pl n d → Pl m d' → (∀ f, pyD f d = some p) → (∀ f, pyD f d' = some p') → PyData.eqv p p' = decide (d = d')) : ∀ (xs ys : List D) (ps qs : List PyData), (∀ x ∈ xs, Pl n x) → (∀ x ∈ ys, Pl m x) → (∀ f, pyL f xs = some ps) → (∀ f, pyL f ys = some qs) → PyData.eqvAll ps qs = decide (xs = ys)
  | [], [], ps, qs, _, _, h3, h4 => by
    have e1 := h3 fun _ => none
    have e2 := h4 fun _ => none
    simp only [pyL] at e1 e2
    cases e1
    cases e2
    simp [PyData.eqvAll]
  | [], y :: ys, ps, qs, h1, h2, h3, h4 => by
    obtain ⟨p, t⟩ := (h2 y List.mem_cons_self).told
    have e1 := h3 fun _ => none
    have e2 := h4 fun _ => none
    simp only [pyL, t.py] at e1 e2
    cases e1
    split at e2
    · cases e2
      simp [PyData.eqvAll]
    · cases e2
  | x :: xs, [], ps, qs, h1, h2, h3, h4 => by
    have e1 := h3 fun _ => none
    have e2 := h4 fun _ => none
    simp only [pyL] at e1 e2
    cases e2
    split at e1
    · cases e1
      simp [PyData.eqvAll]
    · cases e1
  | x :: xs, y :: ys, ps, qs, h1, h2, h3, h4 => by
    obtain ⟨p, t⟩ := (h1 x List.mem_cons_self).told
    obtain ⟨p', t'⟩ := (h2 y List.mem_cons_self).told
    have k1 : ∃ r, ps = p :: r ∧ ∀ f, pyL f xs = some r := by
      have e := h3 fun _ => none
      simp only [pyL, t.py] at e
      cases hr : pyL (fun _ => none) xs with
      | none => rw [hr] at e; cases e
      | some r =>
        rw [hr] at e
        have e := Option.some.inj e
        subst e
        refine ⟨_, rfl, fun f => ?_⟩
        have e2 := h3 f
        simp only [pyL, t.py] at e2
        cases hq : pyL f xs with
        | none => rw [hq] at e2; cases e2
        | some z =>
          rw [hq] at e2
          have e2 := Option.some.inj e2
          exact congrArg some (List.cons.inj e2).2
    have k2 : ∃ r, qs = p' :: r ∧ ∀ f, pyL f ys = some r := by
      have e := h4 fun _ => none
      simp only [pyL, t'.py] at e
      cases hr : pyL (fun _ => none) ys with
      | none => rw [hr] at e; cases e
      | some r =>
        rw [hr] at e
        have e := Option.some.inj e
        subst e
        refine ⟨_, rfl, fun f => ?_⟩
        have e2 := h4 f
        simp only [pyL, t'.py] at e2
        cases hq : pyL f ys with
        | none => rw [hq] at e2; cases e2
        | some z =>
          rw [hq] at e2
          have e2 := Option.some.inj e2
          exact congrArg some (List.cons.inj e2).2
    obtain ⟨r, rfl, hr⟩ := k1
    obtain ⟨r', rfl, hr'⟩ := k2
    rw [PyData.eqvAll, ih x y p p' (h1 x List.mem_cons_self) (h2 y List.mem_cons_self) t.py t'.py, eqv_list ih xs ys r r' (fun z hz => h1 z (List.mem_cons_of_mem _ hz)) (fun z hz => h2 z (List.mem_cons_of_mem _ hz)) hr hr', ← Bool.decide_and]
    exact decide_eq_decide.mpr (by rw [List.cons.injEq])
theorem Pl.cases {n : Nat} {d : D} (h : Pl n d) : d = .non ∨ (∃ i, d = .int i) ∨ (∃ s, d = .str s) ∨ ∃ xs, d = .tup xs := by
  cases d with
  | non => exact .inl rfl
  | int i => exact .inr (.inl ⟨_, rfl⟩)
  | str s => exact .inr (.inr (.inl ⟨_, rfl⟩))
  | tup xs => exact .inr (.inr (.inr ⟨_, rfl⟩))
  | bl b => cases n <;> (unfold Pl at h; exact False.elim h)
  | scr b => cases n <;> (unfold Pl at h; exact False.elim h)
  | ref b => cases n <;> (unfold Pl at h; exact False.elim h)
theorem py_of {n : Nat} {d : D} {p : PyData} (h : Pl n d) (e : ∀ f, pyD f d = some p) : (d = .non ∧ p = .none) ∨ (∃ i, d = .int i ∧ p = .int i) ∨ (∃ s, d = .str s ∧ p = .str s) ∨ ∃ xs ps, d = .tup xs ∧ p = .tuple ps ∧ ∀ f, pyL f xs = some ps := by
  have e0 := e fun _ => none
  rcases h.cases with rfl | ⟨i, rfl⟩ | ⟨s, rfl⟩ | ⟨xs, rfl⟩
  · simp only [pyD] at e0
    cases e0
    exact .inl ⟨rfl, rfl⟩
  · simp only [pyD] at e0
    cases e0
    exact .inr (.inl ⟨_, rfl, rfl⟩)
  · simp only [pyD] at e0
    cases e0
    exact .inr (.inr (.inl ⟨_, rfl, rfl⟩))
  · simp only [pyD, Option.map_eq_some_iff] at e0
    obtain ⟨ps, _, rfl⟩ := e0
    refine .inr (.inr (.inr ⟨xs, ps, rfl, rfl, fun f => ?_⟩))
    have := e f
    simp only [pyD, Option.map_eq_some_iff] at this
    obtain ⟨_, k, e⟩ := this
    cases e
    exact k
open Classical in
theorem eqv_pl : ∀ {n m : Nat} {d d' : D} {p p' : PyData}, Pl n d → Pl m d' → (∀ f, pyD f d = some p) → (∀ f, pyD f d' = some p') → PyData.eqv p p' = decide (d = d') := by
  intro n
  induction n with
  | zero =>
    intro m d d' p p' h h' e e'
    rcases py_of h e with ⟨rfl, rfl⟩ | ⟨i, rfl, rfl⟩ | ⟨s, rfl, rfl⟩ | ⟨xs, ps, rfl, rfl, _⟩
    case inr.inr.inr => unfold Pl at h; exact False.elim h
    all_goals
      rcases py_of h' e' with ⟨rfl, rfl⟩ | ⟨i', rfl, rfl⟩ | ⟨s', rfl, rfl⟩ | ⟨xs', ps', rfl, rfl, _⟩
    all_goals first
      | exact (show _ = false by rfl).trans (decide_eq_false (by intro z; cases z)).symm
      | exact (show _ = true by rfl).trans (decide_eq_true rfl).symm
      | (rw [PyData.eqv, Bool.eq_iff_iff, beq_iff_eq, decide_eq_true_eq]; exact ⟨fun z => by rw [z], fun z => by cases z; rfl⟩)
  | succ n ih =>
    intro m d d' p p' h h' e e'
    rcases py_of h e with ⟨rfl, rfl⟩ | ⟨i, rfl, rfl⟩ | ⟨s, rfl, rfl⟩ | ⟨xs, ps, rfl, rfl, hx⟩
    all_goals
      rcases py_of h' e' with ⟨rfl, rfl⟩ | ⟨i', rfl, rfl⟩ | ⟨s', rfl, rfl⟩ | ⟨xs', ps', rfl, rfl, hy⟩
    all_goals first
      | exact (show _ = false by rfl).trans (decide_eq_false (by intro z; cases z)).symm
      | exact (show _ = true by rfl).trans (decide_eq_true rfl).symm
      | (rw [PyData.eqv, Bool.eq_iff_iff, beq_iff_eq, decide_eq_true_eq]; exact ⟨fun z => by rw [z], fun z => by cases z; rfl⟩)
      | skip
    cases m with
    | zero => unfold Pl at h'; exact False.elim h'
    | succ m =>
      rw [PyData.eqv, eqv_list (fun d d' p p' => ih (m := m)) xs xs' ps ps' h.items h'.items hx hy]
      exact decide_eq_decide.mpr (by rw [D.tup.injEq])
section
variable {M : Mem} {x y : D} {n m : Nat} {xs ys : List D}
theorem shaped_of {p : PyData} (h : p.canLay0 = true) (h2 : p.depth ≤ 60) : SeqAt.shaped p = true := by
  unfold SeqAt.shaped
  rw [h, decide_eq_true (by omega)]
  rfl
theorem pyOf_pl (h : Pl 50 x) : ∃ p, Told 50 x p ∧ pyOf M x = some p := by
  obtain ⟨p, t⟩ := h.told
  refine ⟨p, t, ?_⟩
  unfold pyOf
  rw [t.py]
  exact if_pos (shaped_of t.lay (by have := t.deep; omega))
theorem pyOf_lst (h : M[n]? = some (.lst xs)) (hx : ∀ x ∈ xs, Pl 50 x) : ∃ ps, (∀ f, pyL f xs = some ps) ∧ pyOf M (.ref n) = some (.list ps) := by
  obtain ⟨ps, h1, h2, h3⟩ := told_list (fun d => Pl.told (n := 50)) xs hx
  refine ⟨ps, h1, ?_⟩
  unfold pyOf
  have e : pyD (pyM M 4) (.ref n) = some (.list ps) := by
    simp only [pyD, pyM, h, h1, Option.map_some]
  rw [e]
  exact if_pos (shaped_of (by simpa only [PyData.canLay0] using h2) (by simp only [PyData.depth]; omega))
open Classical in
theorem eqD_pl (h : Pl 50 x) (h' : Pl 50 y) : eqD x y M = some (decide (x = y)) := by
  obtain ⟨p, t, e⟩ := pyOf_pl (M := M) h
  obtain ⟨q, t', e'⟩ := pyOf_pl (M := M) h'
  unfold eqD
  rw [e, e']
  exact congrArg some (eqv_pl h h' t.py t'.py)
open Classical in
theorem eqD_lst (h1 : M[n]? = some (.lst xs)) (h2 : M[m]? = some (.lst ys)) (hx : ∀ x ∈ xs, Pl 50 x) (hy : ∀ x ∈ ys, Pl 50 x) : eqD (.ref n) (.ref m) M = some (decide (xs = ys)) := by
  obtain ⟨p, t, e⟩ := pyOf_lst h1 hx
  obtain ⟨q, t', e'⟩ := pyOf_lst h2 hy
  unfold eqD
  rw [e, e']
  show some (PyData.eqv (.list p) (.list q)) = _
  rw [PyData.eqv]
  exact congrArg some (eqv_list (fun d d' p p' => eqv_pl) xs ys p q hx hy t t')
@[simp] theorem eqD_int {i j : Int} : eqD (.int i) (.int j) M = some (decide (i = j)) := by
  unfold eqD pyOf
  simp only [pyD, SeqAt.shaped, PyData.canLay0, PyData.depth, PyData.eqv]
  simp
  rfl
@[simp] theorem eqD_bl {i j : Bool} : eqD (.bl i) (.bl j) M = some (i == j) := by
  cases i <;> cases j <;> rfl
theorem eqX_of {b : Bool} (h : eqD x y M = some b) : eqX x y M = some b := by
  unfold eqX
  split
  · rename_i n m
    split
    · rename_i ka kb h1 h2
      exfalso
      unfold eqD pyOf at h
      simp only [pyD, pyM, h1] at h
      cases h
    · exact h
  · exact h
theorem eqX_dct {ka kb : List (Int × D)} (h1 : M[n]? = some (.dct ka)) (h2 : M[m]? = some (.dct kb)) : eqX (.ref n) (.ref m) M = if ka.length = kb.length then dictEq M kb ka else some false := by
  unfold eqX
  dsimp only
  rw [h1, h2]
theorem oEq_ofX {b : Bool} (h : eqX x y M = some b) : oEq x y M = some (.bl b, M) := by
  unfold oEq
  rw [h]
theorem oNe_ofX {b : Bool} (h : eqX x y M = some b) : oNe x y M = some (.bl (!b), M) := by
  unfold oNe
  rw [h]
theorem oEq_of {b : Bool} (h : eqD x y M = some b) : oEq x y M = some (.bl b, M) := oEq_ofX (eqX_of h)
theorem oNe_of {b : Bool} (h : eqD x y M = some b) : oNe x y M = some (.bl (!b), M) := oNe_ofX (eqX_of h)
open Classical in
/-- two dicts of plain data -/
theorem dictEq_pl {kb : List (Int × D)} (hb : ∀ p ∈ kb, Pl 50 p.2) : ∀ ka : List (Int × D), (∀ p ∈ ka, Pl 50 p.2) → dictEq M kb ka = some (decide (∀ p ∈ ka, aget kb p.1 = some p.2))
  | [], _ => by simp [dictEq]
  | (k, d) :: r, h => by
    unfold dictEq
    have ih := dictEq_pl hb r fun p hp => h p (List.mem_cons_of_mem _ hp)
    cases hg : aget kb k with
    | none =>
      dsimp only
      refine congrArg some (decide_eq_false fun z => ?_).symm
      have := z (k, d) List.mem_cons_self
      rw [hg] at this
      cases this
    | some d2 =>
      dsimp only
      have hd2 : Pl 50 d2 := by
        have : ∀ (kb : List (Int × D)), (∀ p ∈ kb, Pl 50 p.2) → aget kb k = some d2 → Pl 50 d2 := by
          intro kb
          induction kb with
          | nil => intro _ e; cases e
          | cons p kb ih =>
            intro hk e
            obtain ⟨j, x⟩ := p
            unfold aget at e
            split at e
            · cases e
              exact hk _ List.mem_cons_self
            · exact ih (fun q hq => hk q (List.mem_cons_of_mem _ hq)) e
        exact this kb hb hg
      obtain ⟨p, t, e1⟩ := pyOf_pl (M := M) (h (k, d) List.mem_cons_self)
      obtain ⟨q, t', e2⟩ := pyOf_pl (M := M) hd2
      rw [e1, e2]
      dsimp only
      rw [ih]
      dsimp only
      rw [eqv_pl (h (k, d) List.mem_cons_self) hd2 t.py t'.py, ← Bool.decide_and]
      refine congrArg some (decide_eq_decide.mpr ⟨fun ⟨z1, z2⟩ p hp => ?_, fun z => ⟨?_, fun p hp => z p (List.mem_cons_of_mem _ hp)⟩⟩)
      · rcases List.mem_cons.mp hp with rfl | hp
        · rw [hg, z1]
        · exact z2 p hp
      · have := z (k, d) List.mem_cons_self
        rw [hg] at this
        exact (Option.some.inj this).symm
open Classical in
theorem eqX_dcts {ka kb : List (Int × D)} (h1 : M[n]? = some (.dct ka)) (h2 : M[m]? = some (.dct kb)) (pa : ∀ p ∈ ka, Pl 50 p.2) (pb : ∀ p ∈ kb, Pl 50 p.2) : eqX (.ref n) (.ref m) M = some (decide (ka.length = kb.length ∧ ∀ p ∈ ka, aget kb p.1 = some p.2)) := by
  rw [eqX_dct h1 h2, dictEq_pl pb ka pa]
  by_cases h : ka.length = kb.length
  · rw [if_pos h]
    simp [h]
  · rw [if_neg h]
    simp [h]
open Classical in
theorem eqX_same {ka : List (Int × D)} (h1 : M[n]? = some (.dct ka)) (h2 : M[m]? = some (.dct ka)) (pa : ∀ p ∈ ka, Pl 50 p.2) (nd : (ka.map (·.1)).Nodup) : eqX (.ref n) (.ref m) M = some true := by
  rw [eqX_dcts h1 h2 pa pa]
  refine congrArg some (decide_eq_true ⟨rfl, fun p hp => ?_⟩)
  clear h1 h2 pa
  induction ka with
  | nil => cases hp
  | cons q ka ih =>
    obtain ⟨j, x⟩ := q
    rw [List.map_cons, List.nodup_cons] at nd
    unfold aget
    rcases List.mem_cons.mp hp with rfl | hp
    · rw [if_pos rfl]
    · rw [if_neg fun e => nd.1 (by rw [e]; exact List.mem_map.mpr ⟨p, hp, rfl⟩)]
      exact ih nd.2 hp
@[simp] theorem oEq_int {i j : Int} : oEq (.int i) (.int j) M = some (.bl (decide (i = j)), M) := oEq_of eqD_int
@[simp] theorem oNe_int {i j : Int} : oNe (.int i) (.int j) M = some (.bl (!decide (i = j)), M) := oNe_of eqD_int
@[simp] theorem oEq_bl {i j : Bool} : oEq (.bl i) (.bl j) M = some (.bl (i == j), M) := oEq_of eqD_bl
end
section
variable {M : Mem}
theorem oEq_strs {s t : PySem.Str} {b : Bool} (hs : PyData.strOk s = true) (ht : PyData.strOk t = true) (h : decide (s = t) = b) : oEq (.str s) (.str t) M = some (.bl b, M) := by
  rw [oEq_of (eqD_pl (pl_str hs) (pl_str ht)), ← h]
  refine congrArg (fun b => some (D.bl b, M)) (decide_eq_decide.mpr (by rw [D.str.injEq]))
theorem oNe_strs {s t : PySem.Str} {b : Bool} (hs : PyData.strOk s = true) (ht : PyData.strOk t = true) (h : decide (s = t) = b) : oNe (.str s) (.str t) M = some (.bl (!b), M) := by
  rw [oNe_of (eqD_pl (pl_str hs) (pl_str ht)), ← h]
  refine congrArg (fun b => some (D.bl (!b), M)) (decide_eq_decide.mpr (by rw [D.str.injEq]))
theorem oEq_same {d : D} (h : Pl 50 d) : oEq d d M = some (.bl true, M) := by
  rw [oEq_of (eqD_pl h h)]
  simp
theorem oNe_same {d : D} (h : Pl 50 d) : oNe d d M = some (.bl false, M) := by
  rw [oNe_of (eqD_pl h h)]
  simp
theorem oEq_diff {d e : D} (h : Pl 50 d) (h' : Pl 50 e) (hn : d ≠ e) : oEq d e M = some (.bl false, M) := by
  rw [oEq_of (eqD_pl h h')]
  simp [hn]
theorem oNe_diff {d e : D} (h : Pl 50 d) (h' : Pl 50 e) (hn : d ≠ e) : oNe d e M = some (.bl true, M) := by
  rw [oNe_of (eqD_pl h h')]
  simp [hn]
theorem oEq_lsts {n m : Nat} {xs : List D} (h1 : M[n]? = some (.lst xs)) (h2 : M[m]? = some (.lst xs)) (hx : ∀ x ∈ xs, Pl 50 x) : oEq (.ref n) (.ref m) M = some (.bl true, M) := by
  rw [oEq_of (eqD_lst h1 h2 hx hx)]
  simp
theorem oNe_lsts {n m : Nat} {xs : List D} (h1 : M[n]? = some (.lst xs)) (h2 : M[m]? = some (.lst xs)) (hx : ∀ x ∈ xs, Pl 50 x) : oNe (.ref n) (.ref m) M = some (.bl false, M) := by
  rw [oNe_of (eqD_lst h1 h2 hx hx)]
  simp
theorem pl_ints {n : Nat} {xs : List D} (h : ∀ x ∈ xs, Pl n x) {d : D} (hd : Pl n d) : ∀ x ∈ xs ++ [d], Pl n x := fun x hx => by
  rcases List.mem_append.mp hx with hx | hx
  · exact h x hx
  · have : x = d := by simpa using hx
    rw [this]
    exact hd
theorem pl1 {n : Nat} {a : D} (ha : Pl n a) : Pl (n + 1) (.tup [a]) := pl_tup fun x hx => by
  have : x = a := by simpa using hx
  rw [this]
  exact ha
theorem pl2 {n : Nat} {a b : D} (ha : Pl n a) (hb : Pl n b) : Pl (n + 1) (.tup [a, b]) := pl_tup fun x hx => by
  rcases List.mem_cons.mp hx with rfl | hx
  · exact ha
  · have : x = b := by simpa using hx
    rw [this]
    exact hb
theorem pl3 {n : Nat} {a b c : D} (ha : Pl n a) (hb : Pl n b) (hc : Pl n c) : Pl (n + 1) (.tup [a, b, c]) := pl_tup fun x hx => by
  rcases List.mem_cons.mp hx with rfl | hx
  · exact ha
  · rcases List.mem_cons.mp hx with rfl | hx
    · exact hb
    · have : x = c := by simpa using hx
      rw [this]
      exact hc
@[simp] theorem is_non {d : D} : oIs d .non M = some (.bl (isNon d), M) := (rfl)
@[simp] theorem isNot_non {d : D} : oIsNot d .non M = some (.bl (!isNon d), M) := (rfl)
end
/-! ### built-ins on data at hand -/
section
variable {M : Mem} {n : Nat} {xs : List D} {ns : List Int} {i j : Int} {s : Str} {T : String} {d : D}
@[simp] theorem len_tup : oLen [.tup xs] M = some (.int xs.length, M) := (rfl)
@[simp] theorem len_scr : oLen [.scr ns] M = some (.int ns.length, M) := (rfl)
@[simp] theorem len_str : oLen [.str s] M = if s.length < 16000000 then some (.int s.length, M) else none := (rfl)
theorem len_lst (h : M[n]? = some (.lst xs)) : oLen [.ref n] M = some (.int xs.length, M) := by
  show (match M[n]? with | some (.lst ds) => some (D.int ds.length, M) | some (.dct kvs) => some (.int kvs.length, M) | _ => none) = _
  rw [h]
theorem list_lst (h : M[n]? = some (.lst xs)) : oList [.ref n] M = some (.ref M.length, M ++ [.lst xs]) := by
  show (match M[n]? with | some (.lst ds) => some (D.ref M.length, M ++ [Ob.lst ds]) | some (.dct kvs) => some (D.ref M.length, M ++ [Ob.lst (kvs.map fun (p : Int × D) => D.int p.1)]) | _ => none) = _
  rw [h]
@[simp] theorem list_tup : oList [.tup xs] M = some (.ref M.length, M ++ [.lst xs]) := (rfl)
theorem tuple_lst (h : M[n]? = some (.lst xs)) : oTuple [.ref n] M = some (.tup xs, M) := by
  show (match M[n]? with | some (.lst ds) => some (D.tup ds, M) | _ => none) = _
  rw [h]
@[simp] theorem tuple_tup : oTuple [.tup xs] M = some (.tup xs, M) := (rfl)
@[simp] theorem tup_disp : oTup xs M = if xs.length ≤ 1000 then some (.tup xs, M) else none := (rfl)
@[simp] theorem lst_disp : oLst xs M = if xs.length ≤ 1000 then some (.ref M.length, M ++ [.lst xs]) else none := (rfl)
@[simp] theorem int_bl {b : Bool} : oInt [.bl b] M = some (.int (if b then 1 else 0), M) := (rfl)
@[simp] theorem int_int : oInt [.int i] M = some (.int i, M) := (rfl)
@[simp] theorem max2_int : oMax2 [.int i, .int j] M = some (.int (if j > i then j else i), M) := (rfl)
@[simp] theorem min2_int : oMin2 [.int i, .int j] M = some (.int (if j < i then j else i), M) := (rfl)
theorem isi_of {k : String} {b : Bool} (h : kindOf M d = some k) (h2 : kitB k T = some b) : oIsi T d M = some (.bl b, M) := by
  unfold oIsi
  rw [h]
  dsimp only
  rw [h2]
@[simp] theorem isi_int_int : oIsi "int" (.int i) M = some (.bl true, M) := isi_of rfl (by decide)
@[simp] theorem isi_bool_int : oIsi "bool" (.int i) M = some (.bl false, M) := isi_of rfl (by decide)
theorem append_lst (h : M[n]? = some (.lst xs)) (hl : xs.length < 16000000) : oAppend (.ref n) [d] M = some (.non, M.set n (.lst (xs ++ [d]))) := by
  show (match M[n]? with | some (.lst ds) => if ds.length < 16000000 then some (D.non, M.set n (.lst (ds ++ [d]))) else none | _ => none) = _
  rw [h]
  exact if_pos hl
theorem ix_lst {k : Int} (h : M[n]? = some (.lst xs)) (e : L2.atI xs k = some d) : oIx (.ref n) (.int k) M = some (d, M) := by
  unfold oIx
  dsimp only
  rw [h]
  dsimp only
  rw [e]
theorem ix_tup {k : Int} (e : L2.atI xs k = some d) : oIx (.tup xs) (.int k) M = some (d, M) := by
  unfold oIx
  dsimp only
  rw [e]
theorem ix_scr {k v : Int} (e : L2.atI ns k = some v) : oIx (.scr ns) (.int k) M = some (.int v, M) := by
  unfold oIx
  dsimp only
  rw [e]
theorem atI_nat {α : Type} {xs : List α} {k : Nat} : L2.atI xs (k : Int) = xs[k]? := by
  unfold L2.atI L2.ixN
  rw [if_pos (Int.natCast_nonneg k)]
  by_cases h : (k : Int) < xs.length
  · rw [if_pos h]
    rfl
  · rw [if_neg h]
    rw [List.getElem?_eq_none (by omega)]
    rfl
theorem atI_pos {α : Type} {xs : List α} {k : Int} (h : 0 ≤ k) : L2.atI xs k = xs[k.toNat]? := by
  rw [← atI_nat, Int.toNat_of_nonneg h]
theorem get_app {M J : Mem} {n : Nat} {o : Ob} (h : M[n]? = some o) : (M ++ J)[n]? = some o := by
  rw [List.getElem?_append_left (List.getElem?_eq_some_iff.mp h).1]
  exact h
theorem get_new {M : Mem} {o : Ob} : (M ++ [o])[M.length]? = some o := by simp
end
/-! ### a list or a tuple -/
def Sq (M : Mem) (x : D) (ds : List D) : Prop := x = .tup ds ∨ ∃ n, x = .ref n ∧ M[n]? = some (.lst ds)
section
variable {M : Mem} {x : D} {ds : List D}
theorem sq_lst {n : Nat} (h : M[n]? = some (.lst ds)) : Sq M (.ref n) ds := .inr ⟨n, rfl, h⟩
theorem sq_tup : Sq M (.tup ds) ds := .inl rfl
theorem Sq.app (h : Sq M x ds) (J : Mem) : Sq (M ++ J) x ds := by
  rcases h with h | ⟨n, h1, h2⟩
  · exact .inl h
  · exact .inr ⟨n, h1, get_app h2⟩
theorem Sq.len (h : Sq M x ds) : oLen [x] M = some (.int ds.length, M) := by
  rcases h with rfl | ⟨n, rfl, h2⟩
  · rfl
  · exact len_lst h2
theorem Sq.list (h : Sq M x ds) : oList [x] M = some (.ref M.length, M ++ [.lst ds]) := by
  rcases h with rfl | ⟨n, rfl, h2⟩
  · rfl
  · exact list_lst h2
theorem Sq.tuple (h : Sq M x ds) : oTuple [x] M = some (.tup ds, M) := by
  rcases h with rfl | ⟨n, rfl, h2⟩
  · rfl
  · exact tuple_lst h2
theorem Sq.ix (h : Sq M x ds) {k : Int} {d : D} (e : L2.atI ds k = some d) : oIx x (.int k) M = some (d, M) := by
  rcases h with rfl | ⟨n, rfl, h2⟩
  · exact ix_tup e
  · exact ix_lst h2 e
theorem Sq.src (h : Sq M x ds) : ∃ gd, oSrc x M = some ⟨ds, gd⟩ ∧ Src.ok ⟨ds, gd⟩ M := by
  rcases h with rfl | ⟨n, rfl, h2⟩
  · exact ⟨none, rfl, trivial⟩
  · refine ⟨some (n, ds), ?_, h2⟩
    unfold oSrc
    dsimp only
    rw [h2]
theorem sl_lst {n : Nat} (h : M[n]? = some (.lst ds)) (lo hi : Option Int) : oSl (.ref n) lo hi M = some (.ref M.length, M ++ [.lst (cutD ds lo hi)]) := by
  unfold oSl
  dsimp only
  rw [h]
theorem Sq.sl (h : Sq M x ds) (lo hi : Option Int) : ∃ y J, oSl x lo hi M = some (y, M ++ J) ∧ Sq (M ++ J) y (cutD ds lo hi) := by
  rcases h with rfl | ⟨n, rfl, h2⟩
  · exact ⟨.tup (cutD ds lo hi), [], by rw [List.append_nil]; rfl, .inl rfl⟩
  · exact ⟨_, _, sl_lst h2 lo hi, sq_lst get_new⟩
theorem cut_take {α : Type} (xs : List α) (k : Nat) : cutD xs none (some (k : Int)) = xs.take k := by
  unfold cutD
  rw [HT.sIx_none, HT.sIx_nat, List.drop_zero, Nat.sub_zero]
  rcases Nat.le_total k xs.length with h | h
  · rw [Nat.min_eq_left h]
  · rw [Nat.min_eq_right h, List.take_of_length_le h, List.take_length]
theorem cut_drop {α : Type} (xs : List α) (k : Nat) : cutD xs (some (k : Int)) none = xs.drop k := by
  unfold cutD
  rw [HT.sIx_none, HT.sIx_nat]
  rcases Nat.le_total k xs.length with h | h
  · rw [Nat.min_eq_left h, List.take_of_length_le (by rw [List.length_drop]; omega)]
  · rw [Nat.min_eq_right h, Nat.sub_self, List.take_zero, List.drop_eq_nil_of_le h]
@[simp] theorem ev_sl {e : GE} {lo hi : GO} {L : Loc} : mSl e lo hi L M = bnd (e L M) fun d M1 => bnd (lo L M1) fun l M2 => bnd (hi L M2) fun h M3 => ret (oSl d l h M3) := (rfl)
@[simp] theorem ev_no {L : Loc} : mNo L M = some (.ok none M) := (rfl)
theorem ev_some {e : GE} {L : Loc} {M1 : Mem} {i : Int} (h : e L M = some (.ok (.int i) M1)) : mSome e L M = some (.ok (some i) M1) := by
  unfold mSome
  rw [h]
  rfl
theorem isi_lst_list {n : Nat} (h : M[n]? = some (.lst ds)) : oIsi "list" (.ref n) M = some (.bl true, M) := isi_of (k := "list") (by unfold kindOf; dsimp only; rw [h]) (by decide)
@[simp] theorem isi_tup_tuple : oIsi "tuple" (.tup ds) M = some (.bl true, M) := isi_of rfl (by decide)
end
/-! ### loops -/
section
variable {ok : Mem → Prop} {g : GG} {body : GS}
theorem forG_gen (Post : Fl × Mem → Prop) (I : Nat → Loc → Mem → Prop) (ds : List D) (step : ∀ (k : Nat) (L : Loc) (M : Mem) (d : D), ds[k]? = some d → I k L M → ok M ∧ ∃ L1, g d L = some L1 ∧ ∃ r, body L1 M = some r ∧ (match r with
      | (.nx L2, M2) => I (k + 1) L2 M2
      | (.ct L2, M2) => I (k + 1) L2 M2
      | (.bk L2, M2) => Post (.nx L2, M2)
      | r => Post r)) (last : ∀ L M, I ds.length L M → ok M ∧ Post (.nx L, M)) {L : Loc} {M : Mem} (h0 : I 0 L M) : ∃ r, forG ok g body ds L M = some r ∧ Post r := by
  have key : ∀ (es : List D) (k : Nat) (L : Loc) (M : Mem), (∀ j, es[j]? = ds[k + j]?) → k + es.length = ds.length → I k L M → ∃ r, forG ok g body es L M = some r ∧ Post r := by
    intro es
    induction es with
    | nil =>
      intro k L M he hk hI
      have e : k = ds.length := by simpa using hk
      subst e
      obtain ⟨h1, h2⟩ := last L M hI
      exact ⟨_, by unfold forG; exact if_pos h1, h2⟩
    | cons d es ih =>
      intro k L M he hk hI
      have hd : ds[k]? = some d := by rw [← Nat.add_zero k, ← he 0]; rfl
      obtain ⟨h1, L1, h2, r, h3, h4⟩ := step k L M d hd hI
      have next : ∀ L2 M2, I (k + 1) L2 M2 → ∃ r, forG ok g body es L2 M2 = some r ∧ Post r := fun L2 M2 i => ih (k + 1) L2 M2 (fun j => by have := he (j + 1); rw [List.getElem?_cons_succ] at this; rw [this]; congr 1; omega) (by simp at hk; omega) i
      unfold forG
      rw [if_pos h1, h2]
      dsimp only
      rw [h3]
      obtain ⟨f, M2⟩ := r
      cases f with
      | nx L2 => exact next L2 M2 h4
      | ct L2 => exact next L2 M2 h4
      | bk L2 => exact ⟨_, rfl, h4⟩
      | rt d => exact ⟨_, rfl, h4⟩
      | ex c L2 => exact ⟨_, rfl, h4⟩
  exact key ds 0 L M (fun j => by rw [Nat.zero_add]) (by simp) h0
theorem forG_run (I : Nat → Loc → Mem → Prop) (ds : List D) (step : ∀ (k : Nat) (L : Loc) (M : Mem) (d : D), ds[k]? = some d → I k L M → ok M ∧ ∃ L1, g d L = some L1 ∧ ∃ L2 M2, body L1 M = some (.nx L2, M2) ∧ I (k + 1) L2 M2) (last : ∀ L M, I ds.length L M → ok M) {L : Loc} {M : Mem} (h0 : I 0 L M) :
    ∃ L' M', forG ok g body ds L M = some (.nx L', M') ∧ I ds.length L' M' := by
  obtain ⟨r, h, L', M', rfl, i⟩ := forG_gen (ok := ok) (g := g) (body := body) (fun r => ∃ L' M', r = (.nx L', M') ∧ I ds.length L' M') I ds (fun k L M d hd i => by
    obtain ⟨h1, L1, h2, L2, M2, h3, h4⟩ := step k L M d hd i
    exact ⟨h1, L1, h2, _, h3, h4⟩) (fun L M i => ⟨last L M i, _, _, rfl, i⟩) h0
  exact ⟨L', M', h, i⟩
theorem lcG_map {tt : GT} {e : GE} {L : Loc} {M : Mem} (p : D → Bool) (f : D → D) (hok : ok M) : ∀ ds : List D, (∀ d ∈ ds, ∃ L1, g d L = some L1 ∧ tt L1 M = some (.ok (p d) M) ∧ (p d = true → e L1 M = some (.ok (f d) M))) → lcG ok g tt e L ds M = some ((ds.filter p).map f, M)
  | [], _ => by unfold lcG; exact if_pos hok
  | d :: ds, h => by
    obtain ⟨L1, h1, h2, h3⟩ := h d List.mem_cons_self
    have ih := lcG_map p f hok ds fun x hx => h x (List.mem_cons_of_mem _ hx)
    unfold lcG
    rw [if_pos hok, h1]
    dsimp only [Option.bind]
    rw [h2]
    dsimp only [okO]
    cases e : p d with
    | true =>
      rw [if_pos rfl, h3 e]
      dsimp only [okO]
      rw [ih]
      simp [List.filter_cons, e]
    | false =>
      rw [if_neg Bool.false_ne_true, ih]
      simp [List.filter_cons, e]
/-- what is walked, at hand -/
theorem for_at {it : GI} {L : Loc} {M M1 : Mem} {s : Src} (h : it L M = some (.ok s M1)) : mFor it g body L M = forG s.ok g body s.items L M1 := by
  unfold mFor
  rw [h]
  rfl
@[simp] theorem range1_int {e : GE} {L : Loc} {M M1 : Mem} {j : Int} (h : e L M = some (.ok (.int j) M1)) (hf : fits62 j) : mRange1 e L M = some (.ok ⟨rng 0 j.toNat, none⟩ M1) := by
  unfold mRange1
  rw [h]
  exact if_pos hf
theorem range2_int {a b : GE} {L : Loc} {M M1 M2 : Mem} {i j : Int} (h : a L M = some (.ok (.int i) M1)) (h2 : b L M1 = some (.ok (.int j) M2)) (hf : fits62 i ∧ fits62 j) : mRange2 a b L M = some (.ok ⟨rng i (j - i).toNat, none⟩ M2) := by
  unfold mRange2
  rw [h]
  dsimp only [bnd]
  rw [h2]
  exact if_pos hf
theorem seq_at {e : GE} {L : Loc} {M M1 : Mem} {d : D} {s : Src} (f : List D → List D) (h : e L M = some (.ok d M1)) (h2 : oSrc d M1 = some s) : mSeqI f e L M = some (.ok (s.map f) M1) := by
  unfold mSeqI
  rw [h]
  dsimp only [bnd]
  rw [h2]
@[simp] theorem src_tup {xs : List D} {M : Mem} : oSrc (.tup xs) M = some ⟨xs, none⟩ := (rfl)
@[simp] theorem src_scr {ns : List Int} {M : Mem} : oSrc (.scr ns) M = some ⟨ns.map D.int, none⟩ := (rfl)
/-- items that lay things besides -/
theorem lcG_grow {P : D → D → Prop} {e : GE} {L : Loc} : ∀ (ds : List D) (M : Mem), (∀ J, ok (M ++ J)) → (∀ d ∈ ds, ∀ J, ∃ L1, g d L = some L1 ∧ ∃ y J2, e L1 (M ++ J) = some (.ok y (M ++ J ++ J2)) ∧ P d y) →
    ∃ ys J, lcG ok g mYes e L ds M = some (ys, M ++ J) ∧ ys.length = ds.length ∧ ∀ (k : Nat) (d y : D), ds[k]? = some d → ys[k]? = some y → P d y
  | [], M, hok, _ => ⟨[], [], by
      unfold lcG
      rw [List.append_nil]
      have := hok []
      rw [List.append_nil] at this
      exact if_pos this, rfl, fun k d y h => by simp at h⟩
  | d :: ds, M, hok, h => by
    obtain ⟨L1, h1, y, J2, h2, hP⟩ := h d List.mem_cons_self []
    rw [List.append_nil] at h2
    obtain ⟨ys, J, h3, h4, h5⟩ := lcG_grow ds (M ++ J2) (fun J => by rw [List.append_assoc]; exact hok _) fun x hx J => by
      obtain ⟨L1, k1, y, J3, k2, k3⟩ := h x (List.mem_cons_of_mem _ hx) (J2 ++ J)
      rw [← List.append_assoc] at k2
      exact ⟨L1, k1, y, J3, k2, k3⟩
    refine ⟨y :: ys, J2 ++ J, ?_, by simp [h4], fun k x z hx hz => ?_⟩
    · unfold lcG
      have := hok []
      rw [List.append_nil] at this
      rw [if_pos this, h1]
      dsimp only [Option.bind]
      rw [mYes_ok]
      dsimp only [okO]
      rw [if_pos rfl, h2]
      dsimp only [okO]
      rw [h3, List.append_assoc]
    · cases k with
      | zero =>
        cases hx
        cases hz
        exact hP
      | succ k => exact h5 k x z (by simpa using hx) (by simpa using hz)
theorem rng_get {lo : Int} {n k : Nat} {d : D} (h : (rng lo n)[k]? = some d) : d = .int (lo + k) ∧ k < n := by
  unfold rng at h
  rw [List.getElem?_map] at h
  obtain ⟨j, hj, rfl⟩ := Option.map_eq_some_iff.mp h
  have hk : k < n := by
    have := (List.getElem?_eq_some_iff.mp hj).1
    simpa using this
  rw [List.getElem?_range hk] at hj
  cases hj
  exact ⟨rfl, hk⟩
@[simp] theorem rng_length {lo : Int} {n : Nat} : (rng lo n).length = n := by simp [rng]
end
theorem src_lst {n : Nat} {xs : List D} {M : Mem} (h : M[n]? = some (.lst xs)) : oSrc (.ref n) M = some ⟨xs, some (n, xs)⟩ := by
  unfold oSrc
  dsimp only
  rw [h]
theorem lc_at {g : GG} {it : GI} {tt : GT} {e : GE} {vs : List Nat} {L : Loc} {M M1 M2 : Mem} {s : Src} {ys : List D} (h : it L M = some (.ok s M1)) (h2 : lcG s.ok g tt e (wipeL L vs) s.items M1 = some (ys, M2)) (hl : ys.length < 16000000) : mLc it g tt e vs L M = some (.ok (.ref M2.length) (M2 ++ [.lst ys])) := by
  unfold mLc
  rw [h]
  dsimp only [bnd]
  rw [h2]
  dsimp only [Option.bind]
  unfold oLstBig
  rw [if_pos hl]
  rfl
theorem seq_step {a b : GS} {L L1 : Loc} {M M1 : Mem} (h : a L M = some (.nx L1, M1)) : mSeq a b L M = b L1 M1 := by
  unfold mSeq
  rw [h]
  rfl
theorem seq2 {a b c : GS} {L L1 : Loc} {M M1 : Mem} (h : mSeq a b L M = some (.nx L1, M1)) : mSeq a (mSeq b c) L M = c L1 M1 := by
  unfold mSeq at h ⊢
  cases e : a L M with
  | none => rw [e] at h; cases h
  | some r =>
    obtain ⟨f, M2⟩ := r
    rw [e] at h
    cases f with
    | nx L2 =>
      have h' : b L2 M2 = some (.nx L1, M1) := h
      show thenS (b L2 M2) c = _
      rw [h']
      rfl
    | _ => cases h
theorem seq3 {a b c d : GS} {L L1 : Loc} {M M1 : Mem} (h : mSeq a (mSeq b c) L M = some (.nx L1, M1)) : mSeq a (mSeq b (mSeq c d)) L M = d L1 M1 := by
  have e : mSeq a (mSeq b (mSeq c d)) L M = mSeq a (mSeq (mSeq b c) d) L M := by
    unfold mSeq
    congr 1
    funext L' M'
    generalize b L' M' = r
    cases r with
    | none => rfl
    | some r =>
      obtain ⟨f, M2⟩ := r
      cases f <;> rfl
  rw [e]
  exact seq2 h
theorem seq4 {a b c d e : GS} {L L1 : Loc} {M M1 : Mem} (h : mSeq a (mSeq b (mSeq c d)) L M = some (.nx L1, M1)) : mSeq a (mSeq b (mSeq c (mSeq d e))) L M = e L1 M1 := by
  have k : mSeq a (mSeq b (mSeq c (mSeq d e))) L M = mSeq a (mSeq b (mSeq (mSeq c d) e)) L M := by
    unfold mSeq
    congr 1
    funext L' M'
    congr 1
    funext L' M'
    generalize c L' M' = r
    cases r with
    | none => rfl
    | some r =>
      obtain ⟨f, M2⟩ := r
      cases f <;> rfl
  rw [k]
  exact seq3 h
theorem ok_non {xs : List D} {M : Mem} : Src.ok ⟨xs, none⟩ M := trivial
/-! ### texts -/
section
variable {M : Mem} {L : Loc}
theorem lt_one (c d : Nat) : ([c] < [d]) ↔ c < d := by
  constructor
  · intro h
    cases h with
    | rel h => exact h
    | cons h => cases h
  · exact fun h => List.Lex.rel h
@[simp] theorem le_one (c d : Nat) : oLe (.str ⟨#[c]⟩) (.str ⟨#[d]⟩) M = some (.bl (decide (c ≤ d)), M) := by
  show some (D.bl (!decide (([d] : List Nat) < [c])), M) = _
  have : decide (([d] : List Nat) < [c]) = decide (d < c) := decide_eq_decide.mpr (lt_one d c)
  rw [this]
  by_cases h : c ≤ d
  · rw [decide_eq_false (by omega), decide_eq_true h]
    rfl
  · rw [decide_eq_true (by omega), decide_eq_false h]
    rfl
theorem signs_at {e : GE} {M1 : Mem} {s : PySem.Str} (h : e L M = some (.ok (.str s) M1)) : mSigns e L M = some (.ok ⟨s.cps.toList.map fun c => .str ⟨#[c]⟩, none⟩ M1) := by
  unfold mSigns
  rw [h]
  rfl
theorem strs_one : ∀ l : List Nat, strsOf (l.map fun c => D.str ⟨#[c]⟩) = some (l.map fun c => (⟨#[c]⟩ : PySem.Str))
  | [] => rfl
  | c :: l => by
    rw [List.map_cons, strsOf, strs_one l]
    rfl
theorem joinL_one : ∀ l : List Nat, TL.joinL [] (l.map fun c => [c]) = l
  | [] => rfl
  | [c] => rfl
  | c :: d :: l => by
    show [c] ++ ([] ++ TL.joinL [] ((d :: l).map fun c => [c])) = _
    rw [joinL_one (d :: l)]
    rfl
theorem join_one (l : List Nat) : Txt.join (PySem.Str.ofString "") (l.map fun c => (⟨#[c]⟩ : PySem.Str)) = ⟨l.toArray⟩ := by
  have e : Txt.join (SX.S []) ((l.map fun c => [c]).map SX.S) = SX.S (TL.joinL [] (l.map fun c => [c])) := SX.join_S [] _
  rw [joinL_one, List.map_map] at e
  exact e
theorem join_signs {n : Nat} {l : List Nat} (h : M[n]? = some (.lst (l.map fun c => D.str ⟨#[c]⟩))) (hl : l.length ≤ 1000) : oJoin (.str (PySem.Str.ofString "")) [.ref n] M = some (.str ⟨l.toArray⟩, M) := by
  unfold oJoin
  dsimp only
  rw [h]
  dsimp only
  rw [strs_one]
  dsimp only
  rw [join_one]
  refine if_pos ?_
  have e : ((l.map fun c => (⟨#[c]⟩ : PySem.Str)).map (·.length)).sum = l.length := by
    rw [List.map_map]
    have : ∀ l : List Nat, (l.map ((·.length) ∘ fun c => (⟨#[c]⟩ : PySem.Str))).sum = l.length := by
      intro l
      induction l with
      | nil => rfl
      | cons c l ih =>
        rw [List.map_cons, List.sum_cons, ih, List.length_cons]
        show 1 + l.length = _
        omega
    exact this l
  rw [e, List.length_map]
  have : (PySem.Str.ofString "").length = 0 := by decide +kernel
  rw [this]
  omega
theorem ev_mtS {om : OpM} {a : GE} {gs : GA} : mMtS om a gs L M = bnd (a L M) fun x M1 => (match x with
  | .str _ => bnd (gs L M1) fun xs M2 => ret (om x xs M2)
  | _ => none) := (rfl)
@[simp] theorem str_len (l : List Nat) : (⟨l.toArray⟩ : PySem.Str).length = l.length := by
  show l.toArray.size = _
  simp
@[simp] theorem str_cps (l : List Nat) : (⟨l.toArray⟩ : PySem.Str).cps.toList = l := by simp
theorem str_app (l m : List Nat) : (⟨l.toArray⟩ : PySem.Str) ++ (⟨m.toArray⟩ : PySem.Str) = ⟨(l ++ m).toArray⟩ := by
  show (⟨l.toArray ++ m.toArray⟩ : PySem.Str) = _
  simp
theorem add_strs (l m : List Nat) (h : l.length + m.length < 16000000) : oAdd (.str ⟨l.toArray⟩) (.str ⟨m.toArray⟩) M = some (.str ⟨(l ++ m).toArray⟩, M) := by
  rw [add_str, str_len, str_len, if_pos h, str_app]
theorem ix_str {l : List Nat} {k : Int} {c : Nat} (h : l.length < 16000000) (e : L2.atI l k = some c) : oIx (.str ⟨l.toArray⟩) (.int k) M = some (.str ⟨#[c]⟩, M) := by
  unfold oIx
  dsimp only
  rw [str_len, if_pos h, e]
theorem sl_str {l : List Nat} (h : l.length < 16000000) (lo hi : Option Int) : oSl (.str ⟨l.toArray⟩) lo hi M = some (.str ⟨(cutD l lo hi).toArray⟩, M) := by
  unfold oSl
  dsimp only
  rw [str_len, if_pos h]
  congr 3
theorem isi_str_str {s : PySem.Str} : oIsi "str" (.str s) M = some (.bl true, M) := isi_of rfl (by decide)
theorem isi_int_str {s : PySem.Str} : oIsi "int" (.str s) M = some (.bl false, M) := isi_of rfl (by decide)
theorem isi_str_int {i : Int} : oIsi "str" (.int i) M = some (.bl false, M) := isi_of rfl (by decide)
end
/-! ### cells -/
def cell (ns : List Int) (k : Nat) : Int := ns.getD k 0
theorem cell_mod (ns : List Int) (k : Nat) (m : Int) (h : 0 < m) : 0 ≤ cell ns k % m ∧ cell ns k % m < m := ⟨Int.emod_nonneg _ (by omega), Int.emod_lt_of_pos _ h⟩
theorem cell_bits {ns : List Int} (hb : ∀ z ∈ ns, PySem.Builtin.Int.intBits z ≤ 1048576) (k : Nat) : PySem.Builtin.Int.intBits (cell ns k) ≤ 1048576 := by
  unfold cell
  rw [List.getD_eq_getElem?_getD]
  by_cases h : k < ns.length
  · rw [List.getElem?_eq_getElem h]
    exact hb _ (List.getElem_mem h)
  · rw [List.getElem?_eq_none (by omega)]
    decide
/-- the cell that a law reads -/
noncomputable abbrev gCell : Fn := mDef 2 2 (mSeq (mIte (mT (mBin oLt (mVar 1) (mCB oLen (mCons (mVar 0) mNil)))) (mRet (mBin oIx (mVar 0) (mVar 1))) mSkip) (mRet (mC (.int 0))))
theorem p_gcell (ns : List Int) (k : Nat) (M : Mem) : gCell [.scr ns, .int k] M = some (.ok (.int (cell ns k)) M) := by
  simp only [gCell, ev_def2]
  by_cases h : k < ns.length
  · have e : L2.atI ns (k : Int) = some (cell ns k) := by
      rw [atI_nat, cell, List.getD_eq_getElem?_getD, List.getElem?_eq_getElem h]
      rfl
    simp [h, ix_scr e]
  · simp [h, cell, List.getD_eq_getElem?_getD, List.getElem?_eq_none (Nat.le_of_not_lt h)]
theorem p_gcell0 (ns : List Int) (k : Int) (M : Mem) (h : 0 ≤ k) : gCell [.scr ns, .int k] M = some (.ok (.int (cell ns k.toNat)) M) := by
  obtain ⟨n, rfl⟩ := Int.eq_ofNat_of_zero_le h
  exact p_gcell ns n M
end BL
/-! BLDict: dicts, as functions. -/
namespace BL
section
variable {k j : Int} {d e : D} {kvs ka kb : List (Int × D)}
theorem aget_app : ∀ kvs : List (Int × D), aget (kvs ++ [(k, d)]) j = (aget kvs j).or (if k = j then some d else none)
  | [] => by
    show aget [(k, d)] j = _
    unfold aget
    unfold aget
    rfl
  | (i, x) :: r => by
    rw [List.cons_append]
    unfold aget
    split
    · rfl
    · exact aget_app r
theorem aget_repl : ∀ kvs : List (Int × D), aget (kvs.map fun p => if p.1 = k then (p.1, d) else p) j = if j = k then (aget kvs j).map (fun _ => d) else aget kvs j
  | [] => by
    show none = _
    unfold aget
    simp
  | (i, x) :: r => by
    rw [List.map_cons]
    have ih := aget_repl r
    by_cases h : i = k
    · rw [if_pos h]
      unfold aget
      by_cases h2 : i = j
      · rw [if_pos h2, if_pos h2, if_pos (h2 ▸ h)]
        rfl
      · rw [if_neg h2, if_neg h2, ih]
    · rw [if_neg h]
      unfold aget
      by_cases h2 : i = j
      · rw [if_pos h2, if_pos h2, if_neg (h2 ▸ h)]
      · rw [if_neg h2, if_neg h2, ih]
theorem aget_aput : aget (aput kvs k d) j = if j = k then some d else aget kvs j := by
  unfold aput ahas
  cases h : aget kvs k with
  | none =>
    rw [if_neg (by simp), aget_app]
    by_cases e : j = k
    · subst e
      rw [if_pos rfl, if_pos rfl, h]
      rfl
    · rw [if_neg e, if_neg (Ne.symm e)]
      simp
  | some x =>
    rw [if_pos (by simp), aget_repl]
    by_cases e : j = k
    · subst e
      rw [if_pos rfl, if_pos rfl, h]
      rfl
    · rw [if_neg e, if_neg e]
theorem aget_adel : ∀ kvs : List (Int × D), aget (adel kvs k) j = if j = k then none else aget kvs j
  | [] => by
    show none = _
    unfold aget
    simp
  | (i, x) :: r => by
    have ih := aget_adel r
    unfold adel at ih ⊢
    by_cases h : i = k
    · rw [List.filter_cons_of_neg (by simpa using h), ih]
      by_cases e : j = k
      · rw [if_pos e, if_pos e]
      · rw [if_neg e, if_neg e]
        conv => rhs; unfold aget
        rw [if_neg (by omega)]
    · rw [List.filter_cons_of_pos (by simpa using h)]
      unfold aget
      by_cases h2 : i = j
      · rw [if_pos h2, if_pos h2, if_neg (by omega)]
      · rw [if_neg h2, if_neg h2, ih]
/-- the keys -/
def akeys (kvs : List (Int × D)) : List Int := kvs.map (·.1)
@[simp] theorem akeys_nil : akeys [] = [] := (rfl)
@[simp] theorem akeys_len : (akeys kvs).length = kvs.length := by simp [akeys]
theorem aget_isSome : ∀ {kvs : List (Int × D)}, (aget kvs k).isSome = true ↔ k ∈ akeys kvs
  | [] => by
    unfold aget
    simp
  | (i, x) :: r => by
    have ih := aget_isSome (kvs := r)
    unfold aget
    rw [akeys, List.map_cons, List.mem_cons]
    by_cases h : i = k
    · rw [if_pos h]
      simp [h]
    · rw [if_neg h, ih]
      rw [show List.map (fun p : Int × D => p.1) r = akeys r from rfl]
      simp [Ne.symm h]
theorem aget_none : aget kvs k = none ↔ k ∉ akeys kvs := by
  rw [← aget_isSome]
  cases aget kvs k <;> simp
theorem aget_mem : ∀ {kvs : List (Int × D)}, aget kvs k = some d → (k, d) ∈ kvs
  | [], h => by cases h
  | (i, x) :: r, h => by
    unfold aget at h
    split at h
    · rename_i e
      cases h
      rw [e]
      exact List.mem_cons_self
    · exact List.mem_cons_of_mem _ (aget_mem h)
theorem mem_aget : ∀ {kvs : List (Int × D)}, (akeys kvs).Nodup → (k, d) ∈ kvs → aget kvs k = some d
  | [], _, h => by cases h
  | (i, x) :: r, nd, h => by
    rw [akeys, List.map_cons, List.nodup_cons] at nd
    unfold aget
    rcases List.mem_cons.mp h with e | h
    · cases e
      rw [if_pos rfl]
    · rw [if_neg fun e => nd.1 (by rw [e]; exact List.mem_map.mpr ⟨_, h, rfl⟩)]
      exact mem_aget nd.2 h
theorem akeys_aput : akeys (aput kvs k d) = if k ∈ akeys kvs then akeys kvs else akeys kvs ++ [k] := by
  unfold aput ahas
  by_cases h : k ∈ akeys kvs
  · rw [if_pos h, if_pos (aget_isSome.mpr h), akeys, List.map_map]
    refine List.map_congr_left fun p _ => ?_
    show (if p.1 = k then (p.1, d) else p).1 = p.1
    split <;> rfl
  · rw [if_neg h, if_neg (by rw [aget_isSome]; exact h), akeys, List.map_append]
    rfl
theorem nodup_aput (h : (akeys kvs).Nodup) : (akeys (aput kvs k d)).Nodup := by
  rw [akeys_aput]
  split
  · exact h
  · rename_i hk
    rw [List.nodup_append]
    refine ⟨h, by simp, fun a ha b hb => ?_⟩
    have : b = k := by simpa using hb
    subst this
    intro e
    subst e
    exact hk ha
theorem nodup_adel (h : (akeys kvs).Nodup) : (akeys (adel kvs k)).Nodup := (List.filter_sublist.map _).nodup h
theorem len_aput : (aput kvs k d).length ≤ kvs.length + 1 := by
  have := congrArg List.length (akeys_aput (kvs := kvs) (k := k) (d := d))
  rw [akeys_len] at this
  rw [this]
  split <;> simp
/-- alike as functions -/
theorem len_ext (ha : (akeys ka).Nodup) (hb : (akeys kb).Nodup) (h : ∀ j, aget ka j = aget kb j) : ka.length = kb.length := by
  have p : (akeys ka).Perm (akeys kb) := (List.perm_ext_iff_of_nodup ha hb).mpr fun a => by rw [← aget_isSome, ← aget_isSome, h]
  have := p.length_eq
  simpa using this
def plainD (kvs : List (Int × D)) : Prop := ∀ p ∈ kvs, Pl 50 p.2
theorem plain_aput (h : plainD kvs) (hd : Pl 50 d) : plainD (aput kvs k d) := fun p hp => by
  unfold aput at hp
  split at hp
  · obtain ⟨q, hq, rfl⟩ := List.mem_map.mp hp
    split
    · exact hd
    · exact h q hq
  · rcases List.mem_append.mp hp with hp | hp
    · exact h p hp
    · have : p = (k, d) := by simpa using hp
      rw [this]
      exact hd
theorem plain_adel (h : plainD kvs) : plainD (adel kvs k) := fun p hp => h p (List.mem_filter.mp hp).1
theorem plain_get (h : plainD kvs) (e : aget kvs k = some d) : Pl 50 d := h _ (aget_mem e)
theorem nodup_len : ∀ {xs ys : List Int}, xs.Nodup → (∀ x ∈ xs, x ∈ ys) → xs.length ≤ ys.length
  | [], ys, _, _ => Nat.zero_le _
  | x :: xs, ys, nd, h => by
    rw [List.nodup_cons] at nd
    have hx := h x List.mem_cons_self
    have h2 : xs.length ≤ (ys.erase x).length := nodup_len nd.2 fun y hy => by
      rw [List.mem_erase_of_ne fun e => nd.1 (by rw [← e]; exact hy)]
      exact h y (List.mem_cons_of_mem _ hy)
    rw [List.length_erase_of_mem hx] at h2
    have : 0 < ys.length := List.length_pos_of_mem hx
    rw [List.length_cons]
    omega
variable {M : Mem} {n m : Nat}
open Classical in
theorem eqX_ext (h1 : M[n]? = some (.dct ka)) (h2 : M[m]? = some (.dct kb)) (na : (akeys ka).Nodup) (nb : (akeys kb).Nodup) (pa : plainD ka) (pb : plainD kb) (h : ∀ j, aget ka j = aget kb j) : eqX (.ref n) (.ref m) M = some true := by
  rw [eqX_dcts h1 h2 pa pb]
  refine congrArg some (decide_eq_true ⟨len_ext na nb h, fun p hp => ?_⟩)
  rw [← h]
  exact mem_aget na hp
open Classical in
theorem eqX_iff (h1 : M[n]? = some (.dct ka)) (h2 : M[m]? = some (.dct kb)) (na : (akeys ka).Nodup) (nb : (akeys kb).Nodup) (pa : plainD ka) (pb : plainD kb) : eqX (.ref n) (.ref m) M = some (decide (∀ j, aget ka j = aget kb j)) := by
  rw [eqX_dcts h1 h2 pa pb]
  refine congrArg some (decide_eq_decide.mpr ⟨fun ⟨hl, hp⟩ j => ?_, fun h => ⟨len_ext na nb h, fun p hp => by rw [← h]; exact mem_aget na hp⟩⟩)
  cases ha : aget ka j with
  | some d => exact (hp (j, d) (aget_mem ha)).symm
  | none =>
    -- the keys of ka are among those of kb, as many
    have sub : ∀ x ∈ akeys ka, x ∈ akeys kb := fun x hx => by
      obtain ⟨q, hq, rfl⟩ := List.mem_map.mp hx
      exact aget_isSome.mp (by rw [hp q hq]; rfl)
    have all : ∀ x ∈ akeys kb, x ∈ akeys ka := by
      intro x hx
      by_cases hin : x ∈ akeys ka
      · exact hin
      · have h3 : (akeys ka).length ≤ ((akeys kb).erase x).length := nodup_len na fun y hy => by
          rw [List.mem_erase_of_ne fun e => hin (by rw [← e]; exact hy)]
          exact sub y hy
        rw [List.length_erase_of_mem hx] at h3
        have : 0 < (akeys kb).length := List.length_pos_of_mem hx
        simp only [akeys_len] at h3 this
        omega
    symm
    rw [aget_none]
    exact fun hx => aget_none.mp ha (all j hx)
/-! ### built-ins, subscripts of dicts -/
theorem dict_dct (h : M[n]? = some (.dct kvs)) : oDict [.ref n] M = some (.ref M.length, M ++ [.dct kvs]) := by
  show (match M[n]? with | some (.dct kvs) => some (D.ref M.length, M ++ [Ob.dct kvs]) | _ => none) = _
  rw [h]
theorem list_dct (h : M[n]? = some (.dct kvs)) : oList [.ref n] M = some (.ref M.length, M ++ [.lst ((akeys kvs).map .int)]) := by
  show (match M[n]? with | some (.lst ds) => some (D.ref M.length, M ++ [Ob.lst ds]) | some (.dct kvs) => some (D.ref M.length, M ++ [Ob.lst (kvs.map fun (p : Int × D) => D.int p.1)]) | _ => none) = _
  rw [h, akeys, List.map_map]
  rfl
theorem len_dct (h : M[n]? = some (.dct kvs)) : oLen [.ref n] M = some (.int kvs.length, M) := by
  show (match M[n]? with | some (.lst ds) => some (D.int ds.length, M) | some (.dct kvs) => some (.int kvs.length, M) | _ => none) = _
  rw [h]
theorem ix_dct (h : M[n]? = some (.dct kvs)) (e : aget kvs k = some d) : oIx (.ref n) (.int k) M = some (d, M) := by
  unfold oIx
  dsimp only
  rw [h]
  dsimp only
  rw [e]
theorem put_dct (h : M[n]? = some (.dct kvs)) (hl : kvs.length < 16000000) : oPutA (.ref n) (.int k) d M = some (M.set n (.dct (aput kvs k d))) := by
  unfold oPutA
  dsimp only
  rw [h]
  exact if_pos hl
theorem pop2_dct (h : M[n]? = some (.dct kvs)) : oPopD2 (.ref n) (.int k) M = some ((aget kvs k).getD .non, M.set n (.dct (adel kvs k))) := by
  unfold oPopD2
  dsimp only
  rw [h]
theorem pop1_dct (h : M[n]? = some (.dct kvs)) (e : aget kvs k = some d) : oPopD1 (.ref n) (.int k) M = some (d, M.set n (.dct (adel kvs k))) := by
  unfold oPopD1
  dsimp only
  rw [h]
  dsimp only
  rw [e]
theorem get1_dct (h : M[n]? = some (.dct kvs)) : oGet1 (.ref n) (.int k) M = some ((aget kvs k).getD .non, M) := by
  unfold oGet1
  dsimp only
  rw [h]
theorem in_dct (h : M[n]? = some (.dct kvs)) : oIn (.int k) (.ref n) M = some (.bl (aget kvs k).isSome, M) := by
  unfold oIn oInD
  dsimp only
  rw [h]
theorem notIn_dct (h : M[n]? = some (.dct kvs)) : oNotIn (.int k) (.ref n) M = some (.bl (!(aget kvs k).isSome), M) := by
  unfold oNotIn oInD
  dsimp only
  rw [h]
@[simp] theorem ev_mtD {op : Op2} {o e : GE} {L : Loc} : mMtD op o e L M = bnd (o L M) fun x M1 => (match x with
  | .ref n => (match M1[n]? with
    | some (.dct _) => bnd (e L M1) fun y M2 => ret (op x y M2)
    | _ => none)
  | _ => none) := (rfl)
theorem isi_dct_dict (h : M[n]? = some (.dct kvs)) : oIsi "dict" (.ref n) M = some (.bl true, M) := isi_of (k := "dict") (by unfold kindOf; dsimp only; rw [h]) (by decide)
/-! ### the memory's end -/
theorem set_app {M J : Mem} {o : Ob} {x : Ob} : (M ++ o :: J).set M.length x = M ++ x :: J := by
  rw [List.set_append_right _ _ (Nat.le_refl _), Nat.sub_self]
  rfl
theorem get_at {M J : Mem} {o : Ob} : (M ++ o :: J)[M.length]? = some o := by
  rw [List.getElem?_append_right (Nat.le_refl _), Nat.sub_self]
  rfl
theorem get_plus {M J : Mem} (k : Nat) : (M ++ J)[M.length + k]? = J[k]? := by
  rw [List.getElem?_append_right (by omega)]
  congr 1
  omega
theorem get_set_ne {M : Mem} {n m : Nat} {o : Ob} (h : n ≠ m) : (M.set n o)[m]? = M[m]? := by
  rw [List.getElem?_set, if_neg h]
theorem get_set_eq {M : Mem} {n : Nat} {o x : Ob} (h : M[n]? = some x) : (M.set n o)[n]? = some o := by
  rw [List.getElem?_set, if_pos rfl, if_pos (List.getElem?_eq_some_iff.mp h).1]
end
/-! ### a memory that goes on -/
structure Kp (M M' : Mem) : Prop where
  len : M.length ≤ M'.length
  at_ : ∀ j, j < M.length → M'[j]? = M[j]?
theorem Kp.refl (M : Mem) : Kp M M := ⟨Nat.le_refl _, fun _ _ => rfl⟩
theorem Kp.trans {A B C : Mem} (h : Kp A B) (k : Kp B C) : Kp A C := ⟨Nat.le_trans h.len k.len, fun j hj => by rw [k.at_ j (Nat.lt_of_lt_of_le hj h.len), h.at_ j hj]⟩
theorem Kp.app (M J : Mem) : Kp M (M ++ J) := ⟨by simp, fun j hj => List.getElem?_append_left hj⟩
theorem Kp.more {A B : Mem} (h : Kp A B) (J : Mem) : Kp A (B ++ J) := h.trans (Kp.app B J)
theorem Kp.set {A B : Mem} (h : Kp A B) {n : Nat} (hn : A.length ≤ n) (o : Ob) : Kp A (B.set n o) := ⟨by rw [List.length_set]; exact h.len, fun j hj => by rw [get_set_ne (by omega)]; exact h.at_ j hj⟩
theorem Kp.get {A B : Mem} (h : Kp A B) {n : Nat} {o : Ob} (e : A[n]? = some o) : B[n]? = some o := by
  rw [h.at_ n (List.getElem?_eq_some_iff.mp e).1]
  exact e
theorem get_lt {M : Mem} {n : Nat} {o : Ob} (h : M[n]? = some o) : n < M.length := (List.getElem?_eq_some_iff.mp h).1
end BL
/-! BPTerms: the program's functions of blocks and trees (and the laws' builder of trees), as the machine has them. -/
namespace BP
open PySem BL
/-! place -/
noncomputable def b_place_0 : GS := (mSet 2 (mC (.int 0)))
noncomputable def b_place_1 : GS := (mFor (mEnum (mVar 0)) (mName2 3 4) (mIte (mT (mBin oLe (mBin oIx (mVar 4) (mC (.int 0))) (mVar 1))) (mSet 2 (mVar 3)) mSkip))
noncomputable def b_place_2 : GS := (mRet (mVar 2))
noncomputable def b_place : GS := (mSeq b_place_0 (mSeq b_place_1 b_place_2))
noncomputable def g_place : Fn := mDef 2 5 b_place
/-! parts -/
noncomputable def b_parts_0 : GS := (mIte (mT (mBin oLe (mCB oLen (mCons (mVar 0) mNil)) (mVar 1))) (mRet (mLst (mCons (mCB oTuple (mCons (mVar 0) mNil)) mNil))) mSkip)
noncomputable def b_parts_1 : GS := (mSet 2 (mBin oDiv (mCB oLen (mCons (mVar 0) mNil)) (mC (.int 2))))
noncomputable def b_parts_2 : GS := (mRet (mLst (mCons (mCB oTuple (mCons (mSl (mVar 0) mNo (mSome (mVar 2))) mNil)) (mCons (mCB oTuple (mCons (mSl (mVar 0) (mSome (mVar 2)) mNo) mNil)) mNil))))
noncomputable def b_parts : GS := (mSeq b_parts_0 (mSeq b_parts_1 b_parts_2))
noncomputable def g_parts : Fn := mDef 2 3 b_parts
end BP
namespace BP
open PySem BL
/-! is_whole -/
noncomputable def b_is_whole_0 : GS := (mRet (mAndV (mUn (oIsi "int") (mVar 0)) (mNotV (mUn (oIsi "bool") (mVar 0)))))
noncomputable def b_is_whole : GS := b_is_whole_0
noncomputable def g_is_whole : Fn := mDef 1 1 b_is_whole
/-! is_key -/
noncomputable def b_is_key_0 : GS := (mRet (mAndV (mCall g_is_whole (mCons (mVar 0) mNil)) (mChain oLt oLt (mUn oNeg (mC (.int 1000000000000000000000000000000000000000000000000000000000000))) (mVar 0) (mC (.int 1000000000000000000000000000000000000000000000000000000000000)))))
noncomputable def b_is_key : GS := b_is_key_0
noncomputable def g_is_key : Fn := mDef 1 1 b_is_key
/-! is_value -/
noncomputable def b_is_value_0 : GS := (mIte (mOr (mNot (mT (mUn (oIsi "str") (mVar 0)))) (mT (mBin oGt (mCB oLen (mCons (mVar 0) mNil)) (mC (.int 60))))) (mRet (mC (.bl false))) mSkip)
noncomputable def b_is_value_1 : GS := (mFor (mSigns (mVar 0)) (mName 1) (mIte (mNot (mT (mChain oLe oLe (mC (.str " ")) (mVar 1) (mC (.str "~"))))) (mRet (mC (.bl false))) mSkip))
noncomputable def b_is_value_2 : GS := (mRet (mC (.bl true)))
noncomputable def b_is_value : GS := (mSeq b_is_value_0 (mSeq b_is_value_1 b_is_value_2))
noncomputable def g_is_value : Fn := mDef 1 2 b_is_value
/-! is_pair -/
noncomputable def b_is_pair_0 : GS := (mIte (mOr (mNot (mT (mUn (oIsi "tuple") (mVar 0)))) (mOr (mT (mBin oNe (mCB oLen (mCons (mVar 0) mNil)) (mC (.int 2)))) (mNot (mT (mCall g_is_key (mCons (mBin oIx (mVar 0) (mC (.int 0))) mNil)))))) (mRet (mC (.bl false))) mSkip)
noncomputable def b_is_pair_1 : GS := (mIte (mT (mBin oEq (mVar 1) (mC (.str "leaf")))) (mRet (mCall g_is_value (mCons (mBin oIx (mVar 0) (mC (.int 1))) mNil))) mSkip)
noncomputable def b_is_pair_2 : GS := (mRet (mAndV (mCall g_is_whole (mCons (mBin oIx (mVar 0) (mC (.int 1))) mNil)) (mBin oGt (mBin oIx (mVar 0) (mC (.int 1))) (mC (.int 0)))))
noncomputable def b_is_pair : GS := (mSeq b_is_pair_0 (mSeq b_is_pair_1 b_is_pair_2))
noncomputable def g_is_pair : Fn := mDef 2 2 b_is_pair
/-! is_block -/
noncomputable def b_is_block_0 : GS := (mIte (mOr (mNot (mT (mUn (oIsi "tuple") (mVar 0)))) (mOr (mT (mBin oNe (mCB oLen (mCons (mVar 0) mNil)) (mC (.int 2)))) (mNot (mT (mUn (oIsi "tuple") (mBin oIx (mVar 0) (mC (.int 1)))))))) (mRet (mC (.bl false))) mSkip)
noncomputable def b_is_block_1 : GS := (mIte (mAnd (mT (mBin oNe (mBin oIx (mVar 0) (mC (.int 0))) (mC (.str "leaf")))) (mT (mBin oNe (mBin oIx (mVar 0) (mC (.int 0))) (mC (.str "branch"))))) (mRet (mC (.bl false))) mSkip)
noncomputable def b_is_block_2 : GS := (mIte (mNot (mT (mChain oLe oLe (mVar 1) (mCB oLen (mCons (mBin oIx (mVar 0) (mC (.int 1))) mNil)) (mVar 2)))) (mRet (mC (.bl false))) mSkip)
noncomputable def b_is_block_3 : GS := (mFor (mEnum (mBin oIx (mVar 0) (mC (.int 1)))) (mName2 3 4) (mIte (mOr (mNot (mT (mCall g_is_pair (mCons (mVar 4) (mCons (mBin oIx (mVar 0) (mC (.int 0))) mNil))))) (mAnd (mT (mBin oGt (mVar 3) (mC (.int 0)))) (mT (mBin oLe (mBin oIx (mVar 4) (mC (.int 0))) (mBin oIx (mBin oIx (mBin oIx (mVar 0) (mC (.int 1))) (mBin oSub (mVar 3) (mC (.int 1)))) (mC (.int 0))))))) (mRet (mC (.bl false))) mSkip))
noncomputable def b_is_block_4 : GS := (mRet (mC (.bl true)))
noncomputable def b_is_block : GS := (mSeq b_is_block_0 (mSeq b_is_block_1 (mSeq b_is_block_2 (mSeq b_is_block_3 b_is_block_4))))
noncomputable def g_is_block : Fn := mDef 3 5 b_is_block
/-! half -/
noncomputable def b_half_0 : GS := (mRet (mBin oDiv (mBin oAdd (mVar 0) (mC (.int 1))) (mC (.int 2))))
noncomputable def b_half : GS := b_half_0
noncomputable def g_half : Fn := mDef 1 1 b_half
/-! listed -/
noncomputable def b_listed_0 : GS := (mSet 1 (mLst mNil))
noncomputable def b_listed_1 : GS := (mSet 2 (mLst (mCons (mC (.int 0)) mNil)))
noncomputable def b_listed_2 : GS := (mWhile (mT (mBin oGt (mCB oLen (mCons (mVar 2) mNil)) (mC (.int 0)))) (mSeq (mSet 3 (mBin oIx (mVar 0) (mMtL oPop0 (mVar 2) mNil))) (mIte (mT (mBin oEq (mBin oIx (mVar 3) (mC (.int 0))) (mC (.str "leaf")))) (mExpr (mMtL oExtend (mVar 1) (mCons (mBin oIx (mVar 3) (mC (.int 1))) mNil))) (mExpr (mMtL oExtend (mVar 2) (mCons (mLc (mRev (mBin oIx (mVar 3) (mC (.int 1)))) (mName 4) mYes (mBin oIx (mVar 4) (mC (.int 1))) [4]) mNil))))))
noncomputable def b_listed_3 : GS := (mRet (mVar 1))
noncomputable def b_listed : GS := (mSeq b_listed_0 (mSeq b_listed_1 (mSeq b_listed_2 b_listed_3)))
noncomputable def g_listed : Fn := mDef 1 5 b_listed
/-! leaves_of -/
noncomputable def b_leaves_of_0 : GS := (mSet 2 (mLst mNil))
noncomputable def b_leaves_of_1 : GS := (mSet 3 mDnew)
noncomputable def b_leaves_of_2 : GS := (mSet 4 (mLst (mCons (mTup (mCons (mC (.int 0)) (mCons (mC (.int 0)) (mCons (mC .non) mNil)))) mNil)))
noncomputable def b_leaves_of_3 : GS := (mWhile (mT (mBin oGt (mCB oLen (mCons (mVar 4) mNil)) (mC (.int 0)))) (mSeq (mSet 5 (mMtL oPop0 (mVar 4) mNil)) (mSeq (mSet 6 (mMtD oGet1 (mVar 0) (mBin oIx (mVar 5) (mC (.int 0))))) (mSeq (mSet 7 (mIf (mT (mBin oGt (mBin oIx (mVar 5) (mC (.int 0))) (mC (.int 0)))) (mCall g_half (mCons (mVar 1) mNil)) (mC (.int 0)))) (mSeq (mIte (mOr (mT (mBin oIn (mBin oIx (mVar 5) (mC (.int 0))) (mVar 3))) (mNot (mT (mCall g_is_block (mCons (mVar 6) (mCons (mVar 7) (mCons (mVar 1) mNil))))))) (mRet (mC .non)) mSkip) (mSeq (mIte (mAnd (mT (mBin oIsNot (mBin oIx (mVar 5) (mC (.int 2))) (mC .non))) (mT (mBin oNe (mBin oIx (mBin oIx (mBin oIx (mVar 6) (mC (.int 1))) (mC (.int 0))) (mC (.int 0))) (mBin oIx (mVar 5) (mC (.int 2)))))) (mRet (mC .non)) mSkip) (mSeq (mPut oPutA (mVar 3) (mBin oIx (mVar 5) (mC (.int 0))) (mC (.bl true))) (mIte (mT (mBin oEq (mBin oIx (mVar 6) (mC (.int 0))) (mC (.str "leaf")))) (mExpr (mMtL oAppend (mVar 2) (mCons (mBin oIx (mVar 5) (mC (.int 1))) mNil))) (mIte (mT (mBin oLt (mCB oLen (mCons (mBin oIx (mVar 6) (mC (.int 1))) mNil)) (mC (.int 2)))) (mRet (mC .non)) (mExpr (mMtL oExtend (mVar 4) (mCons (mLc (mRev (mBin oIx (mVar 6) (mC (.int 1)))) (mName 8) mYes (mTup (mCons (mBin oIx (mVar 8) (mC (.int 1))) (mCons (mBin oAdd (mBin oIx (mVar 5) (mC (.int 1))) (mC (.int 1))) (mCons (mBin oIx (mVar 8) (mC (.int 0))) mNil)))) [8]) mNil))))))))))))
noncomputable def b_leaves_of_4 : GS := (mRet (mTup (mCons (mVar 2) (mCons (mVar 3) mNil))))
noncomputable def b_leaves_of : GS := (mSeq b_leaves_of_0 (mSeq b_leaves_of_1 (mSeq b_leaves_of_2 (mSeq b_leaves_of_3 b_leaves_of_4))))
noncomputable def g_leaves_of : Fn := mDef 2 9 b_leaves_of
/-! sound -/
noncomputable def b_sound_0 : GS := (mSet 2 (mCall g_leaves_of (mCons (mVar 0) (mCons (mVar 1) mNil))))
noncomputable def b_sound_1 : GS := (mIte (mOr (mT (mBin oIs (mVar 2) (mC .non))) (mOr (mT (mBin oNe (mCB oLen (mCons (mBin oIx (mVar 2) (mC (.int 1))) mNil)) (mCB oLen (mCons (mVar 0) mNil)))) (mT (mBin oNe (mUn oLenSet (mBin oIx (mVar 2) (mC (.int 0)))) (mC (.int 1)))))) (mRet (mC (.bl false))) mSkip)
noncomputable def b_sound_2 : GS := (mSet 3 (mLc (mIter (mCall g_listed (mCons (mVar 0) mNil))) (mName 5) mYes (mBin oIx (mVar 5) (mC (.int 0))) [5]))
noncomputable def b_sound_3 : GS := (mFor (mRange2 (mC (.int 1)) (mCB oLen (mCons (mVar 3) mNil))) (mName 4) (mIte (mT (mBin oLe (mBin oIx (mVar 3) (mVar 4)) (mBin oIx (mVar 3) (mBin oSub (mVar 4) (mC (.int 1)))))) (mRet (mC (.bl false))) mSkip))
noncomputable def b_sound_4 : GS := (mRet (mC (.bl true)))
noncomputable def b_sound : GS := (mSeq b_sound_0 (mSeq b_sound_1 (mSeq b_sound_2 (mSeq b_sound_3 b_sound_4))))
noncomputable def g_sound : Fn := mDef 2 6 b_sound
/-! _law_level -/
noncomputable def b_law_level_0 : GS := (mSet 3 (mUn oNeg (mBin oDiv (mUn oNeg (mCB oLen (mCons (mVar 0) mNil))) (mVar 1))))
noncomputable def b_law_level_1 : GS := (mSet 4 (mCB oMax2 (mCons (mC (.int 1)) (mCons (mBin oDiv (mCB oLen (mCons (mVar 0) mNil)) (mBin oDiv (mBin oAdd (mVar 1) (mC (.int 1))) (mC (.int 2)))) mNil))))
noncomputable def b_law_level_2 : GS := (mSet 5 (mBin oAdd (mVar 3) (mBin oMod (mVar 2) (mBin oAdd (mBin oSub (mVar 4) (mVar 3)) (mC (.int 1))))))
noncomputable def b_law_level_3 : GS := (mSet 6 (mLst mNil))
noncomputable def b_law_level_4 : GS := (mSet 7 (mC (.int 0)))
noncomputable def b_law_level_5 : GS := (mFor (mRange1 (mVar 5)) (mName 8) (mSeq (mSet 9 (mBin oAdd (mBin oDiv (mCB oLen (mCons (mVar 0) mNil)) (mVar 5)) (mCB oInt (mCons (mBin oLt (mVar 8) (mBin oMod (mCB oLen (mCons (mVar 0) mNil)) (mVar 5))) mNil)))) (mSeq (mExpr (mMtL oAppend (mVar 6) (mCons (mCB oTuple (mCons (mSl (mVar 0) (mSome (mVar 7)) (mSome (mBin oAdd (mVar 7) (mVar 9)))) mNil)) mNil))) (mSet 7 (mBin oAdd (mVar 7) (mVar 9))))))
noncomputable def b_law_level_6 : GS := (mRet (mVar 6))
noncomputable def b_law_level : GS := (mSeq b_law_level_0 (mSeq b_law_level_1 (mSeq b_law_level_2 (mSeq b_law_level_3 (mSeq b_law_level_4 (mSeq b_law_level_5 b_law_level_6))))))
noncomputable def g_law_level : Fn := mDef 3 10 b_law_level
/-! _law_tree_by -/
noncomputable def b_law_tree_by_0 : GS := (mSet 3 mDnew)
noncomputable def b_law_tree_by_1 : GS := (mSet 4 (mC (.str "leaf")))
noncomputable def b_law_tree_by_2 : GS := (mSet 5 (mBin oAdd (mC (.int 1)) (mBin oMod (mVar 2) (mC (.int 3)))))
noncomputable def b_law_tree_by_3 : GS := (mWhile (mT (mBin oGt (mCB oLen (mCons (mVar 0) mNil)) (mVar 1))) (mSeq (mSet 6 (mLst mNil)) (mSeq (mFor (mIter (mCall g_law_level (mCons (mVar 0) (mCons (mVar 1) (mCons (mBin oDiv (mVar 2) (mC (.int 3))) mNil))))) (mName 7) (mSeq (mPut oPutA (mVar 3) (mVar 5) (mTup (mCons (mVar 4) (mCons (mVar 7) mNil)))) (mSeq (mExpr (mMtL oAppend (mVar 6) (mCons (mTup (mCons (mBin oIx (mBin oIx (mVar 7) (mC (.int 0))) (mC (.int 0))) (mCons (mVar 5) mNil))) mNil))) (mSet 5 (mBin oAdd (mBin oAdd (mVar 5) (mC (.int 1))) (mBin oMod (mBin oDiv (mVar 2) (mC (.int 5))) (mC (.int 2)))))))) (mSeq (mSet 0 (mVar 6)) (mSet 4 (mC (.str "branch")))))))
noncomputable def b_law_tree_by_4 : GS := (mPut oPutA (mVar 3) (mC (.int 0)) (mTup (mCons (mVar 4) (mCons (mCB oTuple (mCons (mVar 0) mNil)) mNil))))
noncomputable def b_law_tree_by_5 : GS := (mRet (mVar 3))
noncomputable def b_law_tree_by : GS := (mSeq b_law_tree_by_0 (mSeq b_law_tree_by_1 (mSeq b_law_tree_by_2 (mSeq b_law_tree_by_3 (mSeq b_law_tree_by_4 b_law_tree_by_5)))))
noncomputable def g_law_tree_by : Fn := mDef 3 8 b_law_tree_by
end BP
/-! BLBlock: what is a key, a value, a pair, a block. -/
namespace BP
open BL
open PySem (Str)
abbrev T (l : List Nat) : D := .str ⟨l.toArray⟩
theorem t_of (s : Str) : (D.str s) = T s.cps.toList := by simp
/-- a datum whose kind is known -/
def Kn (M : Mem) (d : D) : Prop := ∃ k, kindOf M d = some k ∧ (k = "NoneType" ∨ k = "bool" ∨ k = "int" ∨ k = "str" ∨ k = "tuple" ∨ k = "list" ∨ k = "dict")
variable {M : Mem}
theorem kn_non : Kn M .non := ⟨_, rfl, by simp⟩
theorem kn_bl {b : Bool} : Kn M (.bl b) := ⟨_, rfl, by simp⟩
theorem kn_int {i : Int} : Kn M (.int i) := ⟨_, rfl, by simp⟩
theorem kn_str {s : Str} : Kn M (.str s) := ⟨_, rfl, by simp⟩
theorem kn_tup {xs : List D} : Kn M (.tup xs) := ⟨_, rfl, by simp⟩
theorem kn_lst {n : Nat} {xs : List D} (h : M[n]? = some (.lst xs)) : Kn M (.ref n) := ⟨"list", by unfold kindOf; dsimp only; rw [h], by simp⟩
theorem kn_dct {n : Nat} {xs : List (Int × D)} (h : M[n]? = some (.dct xs)) : Kn M (.ref n) := ⟨"dict", by unfold kindOf; dsimp only; rw [h], by simp⟩
def isInt : D → Bool
  | .int _ => true
  | .bl _ => true
  | _ => false
def isBl : D → Bool
  | .bl _ => true
  | _ => false
def isStr : D → Bool
  | .str _ => true
  | _ => false
def isTup : D → Bool
  | .tup _ => true
  | _ => false
theorem kn_isi {d : D} (h : Kn M d) : oIsi "int" d M = some (.bl (isInt d), M) ∧ oIsi "bool" d M = some (.bl (isBl d), M) ∧ oIsi "str" d M = some (.bl (isStr d), M) ∧ oIsi "tuple" d M = some (.bl (isTup d), M) := by
  cases d with
  | non => exact ⟨isi_of rfl (by first | exact (show L2.kitB _ _ = some true by decide) | exact (show L2.kitB _ _ = some false by decide)), isi_of rfl (by first | exact (show L2.kitB _ _ = some true by decide) | exact (show L2.kitB _ _ = some false by decide)), isi_of rfl (by first | exact (show L2.kitB _ _ = some true by decide) | exact (show L2.kitB _ _ = some false by decide)), isi_of rfl (by first | exact (show L2.kitB _ _ = some true by decide) | exact (show L2.kitB _ _ = some false by decide))⟩
  | bl b => exact ⟨isi_of rfl (by first | exact (show L2.kitB _ _ = some true by decide) | exact (show L2.kitB _ _ = some false by decide)), isi_of rfl (by first | exact (show L2.kitB _ _ = some true by decide) | exact (show L2.kitB _ _ = some false by decide)), isi_of rfl (by first | exact (show L2.kitB _ _ = some true by decide) | exact (show L2.kitB _ _ = some false by decide)), isi_of rfl (by first | exact (show L2.kitB _ _ = some true by decide) | exact (show L2.kitB _ _ = some false by decide))⟩
  | int i => exact ⟨isi_of rfl (by first | exact (show L2.kitB _ _ = some true by decide) | exact (show L2.kitB _ _ = some false by decide)), isi_of rfl (by first | exact (show L2.kitB _ _ = some true by decide) | exact (show L2.kitB _ _ = some false by decide)), isi_of rfl (by first | exact (show L2.kitB _ _ = some true by decide) | exact (show L2.kitB _ _ = some false by decide)), isi_of rfl (by first | exact (show L2.kitB _ _ = some true by decide) | exact (show L2.kitB _ _ = some false by decide))⟩
  | str s => exact ⟨isi_of rfl (by first | exact (show L2.kitB _ _ = some true by decide) | exact (show L2.kitB _ _ = some false by decide)), isi_of rfl (by first | exact (show L2.kitB _ _ = some true by decide) | exact (show L2.kitB _ _ = some false by decide)), isi_of rfl (by first | exact (show L2.kitB _ _ = some true by decide) | exact (show L2.kitB _ _ = some false by decide)), isi_of rfl (by first | exact (show L2.kitB _ _ = some true by decide) | exact (show L2.kitB _ _ = some false by decide))⟩
  | tup xs => exact ⟨isi_of rfl (by first | exact (show L2.kitB _ _ = some true by decide) | exact (show L2.kitB _ _ = some false by decide)), isi_of rfl (by first | exact (show L2.kitB _ _ = some true by decide) | exact (show L2.kitB _ _ = some false by decide)), isi_of rfl (by first | exact (show L2.kitB _ _ = some true by decide) | exact (show L2.kitB _ _ = some false by decide)), isi_of rfl (by first | exact (show L2.kitB _ _ = some true by decide) | exact (show L2.kitB _ _ = some false by decide))⟩
  | scr ns => exact ⟨isi_of rfl (by first | exact (show L2.kitB _ _ = some true by decide) | exact (show L2.kitB _ _ = some false by decide)), isi_of rfl (by first | exact (show L2.kitB _ _ = some true by decide) | exact (show L2.kitB _ _ = some false by decide)), isi_of rfl (by first | exact (show L2.kitB _ _ = some true by decide) | exact (show L2.kitB _ _ = some false by decide)), isi_of rfl (by first | exact (show L2.kitB _ _ = some true by decide) | exact (show L2.kitB _ _ = some false by decide))⟩
  | ref n =>
    obtain ⟨k, h1, h2⟩ := h
    have h3 : k = "list" ∨ k = "dict" := by
      unfold kindOf at h1
      dsimp only at h1
      split at h1
      · exact .inl (Option.some.inj h1).symm
      · exact .inr (Option.some.inj h1).symm
      · cases h1
    rcases h3 with rfl | rfl
    · exact ⟨isi_of h1 (by first | exact (show L2.kitB _ _ = some true by decide) | exact (show L2.kitB _ _ = some false by decide)), isi_of h1 (by first | exact (show L2.kitB _ _ = some true by decide) | exact (show L2.kitB _ _ = some false by decide)), isi_of h1 (by first | exact (show L2.kitB _ _ = some true by decide) | exact (show L2.kitB _ _ = some false by decide)), isi_of h1 (by first | exact (show L2.kitB _ _ = some true by decide) | exact (show L2.kitB _ _ = some false by decide))⟩
    · exact ⟨isi_of h1 (by first | exact (show L2.kitB _ _ = some true by decide) | exact (show L2.kitB _ _ = some false by decide)), isi_of h1 (by first | exact (show L2.kitB _ _ = some true by decide) | exact (show L2.kitB _ _ = some false by decide)), isi_of h1 (by first | exact (show L2.kitB _ _ = some true by decide) | exact (show L2.kitB _ _ = some false by decide)), isi_of h1 (by first | exact (show L2.kitB _ _ = some true by decide) | exact (show L2.kitB _ _ = some false by decide))⟩
/-! ### keys, values -/
def wholeB : D → Bool
  | .int _ => true
  | _ => false
def keyB : D → Bool
  | .int k => decide (-(10 ^ 60) < k) && decide (k < 10 ^ 60)
  | _ => false
abbrev goodS (l : List Nat) : Prop := l.length ≤ 60 ∧ ∀ c ∈ l, 32 ≤ c ∧ c ≤ 126
def valB : D → Bool
  | .str s => decide (goodS s.cps.toList)
  | _ => false
theorem p_whole {d : D} (h : Kn M d) : g_is_whole [d] M = some (.ok (.bl (wholeB d)) M) := by
  obtain ⟨h1, h2, _, _⟩ := kn_isi h
  cases d <;> simp [g_is_whole, b_is_whole, b_is_whole_0, h1, h2, isInt, isBl, wholeB]
theorem p_key {d : D} (h : Kn M d) : g_is_key [d] M = some (.ok (.bl (keyB d)) M) := by
  have hw := p_whole h
  cases d with
  | int k =>
    by_cases h1 : -1000000000000000000000000000000000000000000000000000000000000 < k
    · simp [g_is_key, b_is_key, b_is_key_0, hw, wholeB, h1, keyB]
    · simp [g_is_key, b_is_key, b_is_key_0, hw, wholeB, h1, keyB]
  | _ => simp [g_is_key, b_is_key, b_is_key_0, hw, wholeB, keyB]
theorem sp : Str.ofString " " = ⟨#[32]⟩ := by decide +kernel
theorem ti : Str.ofString "~" = ⟨#[126]⟩ := by decide +kernel
theorem p_valueS (l : List Nat) (hl : l.length < 16000000) : g_is_value [T l] M = some (.ok (.bl (decide (goodS l))) M) := by
  simp only [g_is_value, b_is_value, b_is_value_0, b_is_value_1, b_is_value_2, ev_def1]
  by_cases h60 : l.length ≤ 60
  · obtain ⟨r, e, hr⟩ := forG_gen (ok := Src.ok ⟨l.map fun c => .str ⟨#[c]⟩, none⟩) (g := mName 1) (body := mIte (mNot (mT (mChain oLe oLe (mC (.str " ")) (mVar 1) (mC (.str "~"))))) (mRet (mC (.bl false))) mSkip)
      (fun r => (∃ L, r = (.nx L, M) ∧ ∀ c ∈ l, 32 ≤ c ∧ c ≤ 126) ∨ (r = (.rt (.bl false), M) ∧ ¬ ∀ c ∈ l, 32 ≤ c ∧ c ≤ 126))
      (fun k L M' => M' = M ∧ (∃ y, L = [some (T l), y]) ∧ ∀ c ∈ l.take k, 32 ≤ c ∧ c ≤ 126) (l.map fun c => .str ⟨#[c]⟩)
      (fun k L M' d hd ⟨hM, ⟨y, hL⟩, hg⟩ => by
        subst hL hM
        rw [List.getElem?_map] at hd
        obtain ⟨c, hc, rfl⟩ := Option.map_eq_some_iff.mp hd
        refine ⟨ok_non, _, rfl, ?_⟩
        have hk := (List.getElem?_eq_some_iff.mp hc).1
        have hck := (List.getElem?_eq_some_iff.mp hc).2
        by_cases h1 : 32 ≤ c
        · by_cases h2 : c ≤ 126
          · refine ⟨(.nx [some (T l), some (.str ⟨#[c]⟩)], M'), by simp [sp, ti, h1, h2], rfl, ⟨_, rfl⟩, fun x hx => ?_⟩
            rw [List.take_succ_eq_append_getElem hk, hck] at hx
            rcases List.mem_append.mp hx with hx | hx
            · exact hg x hx
            · have : x = c := by simpa using hx
              subst this
              exact ⟨h1, h2⟩
          · exact ⟨(.rt (.bl false), M'), by simp [sp, ti, h1, h2], .inr ⟨rfl, fun z => h2 (z c (List.mem_of_getElem? hc)).2⟩⟩
        · exact ⟨(.rt (.bl false), M'), by simp [sp, ti, h1], .inr ⟨rfl, fun z => h1 (z c (List.mem_of_getElem? hc)).1⟩⟩)
      (fun L M' ⟨hM, ⟨y, hL⟩, hg⟩ => by
        subst hL hM
        rw [List.length_map, List.take_length] at hg
        exact ⟨ok_non, .inl ⟨_, rfl, hg⟩⟩) (L := [some (T l), none]) (M := M) ⟨rfl, ⟨_, rfl⟩, by simp⟩
    have hs : mSigns (mVar 0) [some (T l), none] M = some (.ok ⟨l.map fun c => .str ⟨#[c]⟩, none⟩ M) := signs_at (s := ⟨l.toArray⟩) (by simp)
    have h61 : ¬ (60 : Int) < (l.length : Int) := by omega
    simp [hl, h60, h61, isi_str_str]
    rw [for_at hs]
    dsimp only
    rw [e]
    rcases hr with ⟨L, rfl, h⟩ | ⟨rfl, h⟩
    · have : decide (∀ c ∈ l, 32 ≤ c ∧ c ≤ 126) = true := decide_eq_true h
      simp [this]
    · have : decide (∀ c ∈ l, 32 ≤ c ∧ c ≤ 126) = false := decide_eq_false h
      simp [this]
  · have h61 : (60 : Int) < (l.length : Int) := by omega
    simp [hl, h60, h61, isi_str_str]
/-- a text that is not too long -/
def shortD : D → Prop
  | .str s => s.length < 16000000
  | _ => True
theorem p_value {d : D} (h : Kn M d) (hs : shortD d) : g_is_value [d] M = some (.ok (.bl (valB d)) M) := by
  cases d with
  | str s =>
    rw [t_of s]
    exact p_valueS s.cps.toList (by simpa [shortD, Str.length] using hs)
  | _ => simp [g_is_value, b_is_value, b_is_value_0, (kn_isi h).2.2.1, isStr, valB]
/-! ### pairs -/
def leafS : Str := "leaf"
def branchS : Str := "branch"
def posB : D → Bool
  | .int k => decide (0 < k)
  | _ => false
def pairB (leaf : Bool) : D → Bool
  | .tup [a, b] => keyB a && (if leaf = true then valB b else posB b)
  | _ => false
/-- what may be looked at -/
def SeenP (M : Mem) (d : D) : Prop := Kn M d ∧ ∀ a b, d = .tup [a, b] → Kn M a ∧ Kn M b ∧ shortD b
theorem ix0 {d : D} {ds : List D} : oIx (.tup (d :: ds)) (.int 0) M = some (d, M) := ix_tup (by rw [show (0 : Int) = ((0 : Nat) : Int) from rfl, atI_nat]; rfl)
theorem ix1 {d e : D} {ds : List D} : oIx (.tup (d :: e :: ds)) (.int 1) M = some (e, M) := ix_tup (by rw [show (1 : Int) = ((1 : Nat) : Int) from rfl, atI_nat]; rfl)
theorem ix2 {d e f : D} {ds : List D} : oIx (.tup (d :: e :: f :: ds)) (.int 2) M = some (f, M) := ix_tup (by rw [show (2 : Int) = ((2 : Nat) : Int) from rfl, atI_nat]; rfl)
theorem kind_leaf {leaf : Bool} : oEq (.str (if leaf = true then leafS else branchS)) (.str "leaf") M = some (.bl leaf, M) := by
  cases leaf with
  | true => exact oEq_strs (by decide +kernel) (by decide +kernel) (by decide +kernel)
  | false => exact oEq_strs (by decide +kernel) (by decide +kernel) (by decide +kernel)
theorem p_pair {d : D} (leaf : Bool) (h : SeenP M d) : g_is_pair [d, .str (if leaf = true then leafS else branchS)] M = some (.ok (.bl (pairB leaf d)) M) := by
  obtain ⟨hk, hp⟩ := h
  have ht := (kn_isi hk).2.2.2
  have hl := kind_leaf (M := M) (leaf := leaf)
  cases d with
  | tup xs =>
    match xs, hp with
    | [], _ => simp [g_is_pair, b_is_pair, b_is_pair_0, ht, isTup, pairB]
    | [a], _ => simp [g_is_pair, b_is_pair, b_is_pair_0, ht, isTup, pairB]
    | a :: b :: c :: r, _ =>
      have : ¬ ((r.length : Int) + 1 + 1 + 1 = 2) := by omega
      simp [g_is_pair, b_is_pair, b_is_pair_0, ht, isTup, pairB, this]
    | [a, b], hp =>
      obtain ⟨ha, hb, hs⟩ := hp a b rfl
      have k1 := p_key ha
      have k2 := p_value hb hs
      have k3 := p_whole hb
      cases hka : keyB a with
      | false => simp [g_is_pair, b_is_pair, b_is_pair_0, ht, isTup, pairB, ix0, k1, hka]
      | true =>
        cases leaf with
        | true =>
          simp only [if_true] at hl ⊢
          simp [g_is_pair, b_is_pair, b_is_pair_0, b_is_pair_1, b_is_pair_2, ht, isTup, pairB, ix0, ix1, k1, hka, hl, k2]
        | false =>
          simp only [Bool.false_eq_true, if_false] at hl ⊢
          cases b with
          | int n => simp [g_is_pair, b_is_pair, b_is_pair_0, b_is_pair_1, b_is_pair_2, ht, isTup, pairB, ix0, ix1, k1, hka, hl, k3, wholeB, posB]
          | _ => simp [g_is_pair, b_is_pair, b_is_pair_0, b_is_pair_1, b_is_pair_2, ht, isTup, pairB, ix0, ix1, k1, hka, hl, k3, wholeB, posB]
  | _ => simp [g_is_pair, b_is_pair, b_is_pair_0, ht, isTup, pairB]
/-! ### blocks -/
/-- the key of a pair -/
def keyOf : D → Int
  | .tup (.int k :: _) => k
  | _ => 0
theorem keyB_int {a : D} (h : keyB a = true) : ∃ k, a = .int k := by
  cases a <;> first
    | exact ⟨_, rfl⟩
    | cases h
theorem pair_of {leaf : Bool} {d : D} (h : pairB leaf d = true) : ∃ k b, d = .tup [.int k, b] := by
  unfold pairB at h
  split at h
  · rename_i a b
    rw [Bool.and_eq_true] at h
    obtain ⟨k, rfl⟩ := keyB_int h.1
    exact ⟨k, b, rfl⟩
  · cases h
/-- good pairs, rising -/
def rowB (leaf : Bool) : List D → Bool
  | [] => true
  | [d] => pairB leaf d
  | d :: e :: r => pairB leaf d && (decide (keyOf d < keyOf e) && rowB leaf (e :: r))
/-- the same by places -/
theorem rowB_iff (leaf : Bool) : ∀ ds : List D, rowB leaf ds = true ↔ (∀ d ∈ ds, pairB leaf d = true) ∧ ∀ (k : Nat) (d e : D), ds[k]? = some d → ds[k + 1]? = some e → keyOf d < keyOf e
  | [] => by simp [rowB]
  | [d] => by simp [rowB]
  | d :: e :: r => by
    have ih := rowB_iff leaf (e :: r)
    rw [rowB, Bool.and_eq_true, Bool.and_eq_true, ih, decide_eq_true_eq]
    constructor
    · rintro ⟨h1, h2, h3, h4⟩
      refine ⟨fun x hx => ?_, fun k a b ha hb => ?_⟩
      · rcases List.mem_cons.mp hx with rfl | hx
        · exact h1
        · exact h3 x hx
      · cases k with
        | zero =>
          cases ha
          cases hb
          exact h2
        | succ k => exact h4 k a b (by simpa using ha) (by simpa using hb)
    · rintro ⟨h1, h2⟩
      exact ⟨h1 d List.mem_cons_self, h2 0 d e rfl rfl, fun x hx => h1 x (List.mem_cons_of_mem _ hx), fun k a b ha hb => h2 (k + 1) a b (by simpa using ha) (by simpa using hb)⟩
def blockB (d : D) (least most : Int) : Bool := match d with
  | .tup [.str kind, .tup ds] => (decide (kind = leafS) || decide (kind = branchS)) && (decide (least ≤ ds.length) && (decide (ds.length ≤ most) && rowB (decide (kind = leafS)) ds))
  | _ => false
def eqS (a : D) (s : Str) : Bool := match a with
  | .str t => decide (t = s)
  | _ => false
def SeenB (M : Mem) (d : D) : Prop := Kn M d ∧ ∀ a b, d = .tup [a, b] → Kn M b ∧ (∀ s, s = leafS ∨ s = branchS → oNe a (.str s) M = some (.bl (!eqS a s), M)) ∧ ∀ ds, b = .tup ds → ∀ x ∈ ds, SeenP M x
theorem ne_pl {a : D} (h : Pl 50 a) (s : Str) (hs : s = leafS ∨ s = branchS) : oNe a (.str s) M = some (.bl (!eqS a s), M) := by
  have hp : Pl 50 (.str s) := pl_str (by rcases hs with rfl | rfl <;> decide +kernel)
  by_cases e : a = .str s
  · rw [e, oNe_same hp]
    simp [eqS]
  · rw [oNe_diff h hp e]
    have : eqS a s = false := by
      unfold eqS
      split
      · rename_i t
        exact decide_eq_false fun z => e (by rw [z])
      · rfl
    rw [this]
    rfl
theorem p_rows {a l m : D} {leaf : Bool} {ds : List D} (hs : ∀ x ∈ ds, SeenP M x) (hl : ds.length < 1000000) :
    ∃ r, mFor (mEnum (mBin oIx (mVar 0) (mC (.int 1)))) (mName2 3 4) (mIte (mOr (mNot (mT (mCall g_is_pair (mCons (mVar 4) (mCons (mBin oIx (mVar 0) (mC (.int 0))) mNil))))) (mAnd (mT (mBin oGt (mVar 3) (mC (.int 0)))) (mT (mBin oLe (mBin oIx (mVar 4) (mC (.int 0))) (mBin oIx (mBin oIx (mBin oIx (mVar 0) (mC (.int 1))) (mBin oSub (mVar 3) (mC (.int 1)))) (mC (.int 0))))))) (mRet (mC (.bl false))) mSkip) [some (.tup [.str (if leaf = true then leafS else branchS), .tup ds]), some l, some m, none, none] M = some r ∧ ((rowB leaf ds = true ∧ ∃ L, r = (.nx L, M)) ∨ (rowB leaf ds = false ∧ r = (.rt (.bl false), M))) := by
  generalize hk : Str.mk (if leaf = true then leafS else branchS).cps = kind
  have hk' : (if leaf = true then leafS else branchS) = kind := by rw [← hk]
  rw [hk']
  have hi : mEnum (mBin oIx (mVar 0) (mC (.int 1))) [some (.tup [.str kind, .tup ds]), some l, some m, none, none] M = some (.ok (Src.map (pairUp 0) ⟨ds, none⟩) M) := seq_at _ (by simp [ix1]) src_tup
  rw [for_at hi]
  obtain ⟨r, e, hr⟩ := forG_gen (ok := Src.ok (Src.map (pairUp 0) ⟨ds, none⟩)) (g := mName2 3 4) (body := mIte (mOr (mNot (mT (mCall g_is_pair (mCons (mVar 4) (mCons (mBin oIx (mVar 0) (mC (.int 0))) mNil))))) (mAnd (mT (mBin oGt (mVar 3) (mC (.int 0)))) (mT (mBin oLe (mBin oIx (mVar 4) (mC (.int 0))) (mBin oIx (mBin oIx (mBin oIx (mVar 0) (mC (.int 1))) (mBin oSub (mVar 3) (mC (.int 1)))) (mC (.int 0))))))) (mRet (mC (.bl false))) mSkip)
    (fun r => (rowB leaf ds = true ∧ ∃ L, r = (.nx L, M)) ∨ (rowB leaf ds = false ∧ r = (.rt (.bl false), M)))
    (fun k L M' => M' = M ∧ (∃ y z, L = [some (.tup [.str kind, .tup ds]), some l, some m, y, z]) ∧ rowB leaf (ds.take k) = true) (pairUp 0 ds)
    (fun k L M' d hd ⟨hM, ⟨y, z, hL⟩, hrow⟩ => by
      subst hL hM
      rw [pairUp_get] at hd
      obtain ⟨x, hx, rfl⟩ := Option.map_eq_some_iff.mp hd
      have hkl := (List.getElem?_eq_some_iff.mp hx).1
      have hkx := (List.getElem?_eq_some_iff.mp hx).2
      have hxm := List.mem_of_getElem? hx
      refine ⟨ok_non, _, ev_name2, ?_⟩
      have hpx := p_pair leaf (hs x hxm)
      rw [hk'] at hpx
      cases hb : pairB leaf x with
      | false =>
        refine ⟨(.rt (.bl false), M'), by simp [ix0, hpx, hb], .inr ⟨?_, rfl⟩⟩
        cases hr : rowB leaf ds with
        | false => rfl
        | true =>
          have := ((rowB_iff leaf ds).mp hr).1 x hxm
          rw [hb] at this
          cases this
      | true =>
        obtain ⟨q, w, rfl⟩ := pair_of hb
        have take1 : ∀ j, (ds.take (k + 1))[j]? = if j < k + 1 then ds[j]? else none := fun j => List.getElem?_take ..
        have take0 : ∀ j, (ds.take k)[j]? = if j < k then ds[j]? else none := fun j => List.getElem?_take ..
        cases k with
        | zero =>
          refine ⟨(.nx [some (.tup [.str kind, .tup ds]), some l, some m, some (.int 0), some (.tup [.int q, w])], M'), by simp [ix0, hpx, hb], rfl, ⟨_, _, rfl⟩, ?_⟩
          rw [rowB_iff]
          refine ⟨fun d hd => ?_, fun j d e h1 h2 => ?_⟩
          · rw [List.take_succ_eq_append_getElem hkl, hkx] at hd
            have : d = .tup [.int q, w] := by simpa using hd
            rw [this]
            exact hb
          · rw [take1, if_neg (by omega)] at h2
            cases h2
        | succ j =>
          have hj : j < ds.length := by omega
          have hxj : ds[j]? = some ds[j] := List.getElem?_eq_getElem hj
          have hbj : pairB leaf ds[j] = true := ((rowB_iff leaf _).mp hrow).1 _ (List.mem_of_getElem? (show (ds.take (j + 1))[j]? = some ds[j] by rw [take0, if_pos (by omega)]; exact hxj))
          obtain ⟨p, v, hpv⟩ := pair_of hbj
          have g1 : oIx (.tup ds) (.int (j : Int)) M' = some (.tup [.int p, v], M') := ix_tup (by rw [atI_nat, hxj, hpv])
          have e1 : ((j : Int) + 1 - 1) = (j : Int) := by omega
          have e2 : (0 : Int) < (j : Int) + 1 := by omega
          by_cases hle : q ≤ p
          · refine ⟨(.rt (.bl false), M'), by simp [ix0, ix1, hpx, hb, e1, e2, g1, hle], .inr ⟨?_, rfl⟩⟩
            cases hr : rowB leaf ds with
            | false => rfl
            | true =>
              have := ((rowB_iff leaf ds).mp hr).2 j _ _ hxj hx
              rw [hpv] at this
              simp only [keyOf] at this
              omega
          · refine ⟨(.nx [some (.tup [.str kind, .tup ds]), some l, some m, some (.int (((0 + (j + 1) : Nat)) : Int)), some (.tup [.int q, w])], M'), by simp [ix0, ix1, hpx, hb, e1, e2, g1, hle], rfl, ⟨_, _, rfl⟩, ?_⟩
            rw [rowB_iff]
            refine ⟨fun d hd => ?_, fun i d e h1 h2 => ?_⟩
            · rw [List.take_succ_eq_append_getElem hkl, hkx] at hd
              rcases List.mem_append.mp hd with hd | hd
              · exact ((rowB_iff leaf _).mp hrow).1 d hd
              · have : d = .tup [.int q, w] := by simpa using hd
                rw [this]
                exact hb
            · rw [take1] at h1 h2
              by_cases hi1 : i + 1 < j + 1
              · rw [if_pos (by omega)] at h1 h2
                exact ((rowB_iff leaf _).mp hrow).2 i d e (by rw [take0, if_pos (by omega)]; exact h1) (by rw [take0, if_pos hi1]; exact h2)
              · by_cases hi2 : i + 1 < j + 1 + 1
                · have : i = j := by omega
                  subst this
                  rw [if_pos (by omega)] at h1 h2
                  rw [hxj, hpv] at h1
                  rw [hx] at h2
                  cases h1
                  cases h2
                  simp only [keyOf]
                  omega
                · rw [if_neg (by omega)] at h2
                  cases h2)
    (fun L M' ⟨hM, ⟨y, z, hL⟩, hrow⟩ => by
      subst hL hM
      rw [pairUp_length, List.take_length] at hrow
      exact ⟨ok_non, .inl ⟨hrow, _, rfl⟩⟩) (L := [some (.tup [.str kind, .tup ds]), some l, some m, none, none]) (M := M) ⟨rfl, ⟨_, _, rfl⟩, by simp [rowB]⟩
  exact ⟨r, e, hr⟩
theorem p_block {d : D} {least most : Int} (h : SeenB M d) (hz : ∀ a ds, d = .tup [a, .tup ds] → ds.length < 1000000) : g_is_block [d, .int least, .int most] M = some (.ok (.bl (blockB d least most)) M) := by
  obtain ⟨hk, hp⟩ := h
  have ht := (kn_isi hk).2.2.2
  simp only [g_is_block, b_is_block, ev_def3]
  cases d with
  | tup xs =>
    match xs, hp with
    | [], _ => simp [b_is_block_0, ht, isTup, blockB]
    | [a], _ => simp [b_is_block_0, ht, isTup, blockB]
    | a :: b :: c :: r, _ =>
      have : ¬ ((r.length : Int) + 1 + 1 + 1 = 2) := by omega
      simp [b_is_block_0, ht, isTup, blockB, this]
    | [a, b], hp =>
      obtain ⟨hb, hne, hds⟩ := hp a b rfl
      have htb := (kn_isi hb).2.2.2
      have n1 := hne leafS (.inl rfl)
      have n2 := hne branchS (.inr rfl)
      have dl : Str.ofString "leaf" = leafS := rfl
      have db : Str.ofString "branch" = branchS := rfl
      cases b with
      | tup ds =>
        have hl := hz a ds rfl
        have hs := hds ds rfl
        cases h1 : eqS a leafS with
        | true =>
          have ea : a = .str leafS := by
            unfold eqS at h1
            split at h1
            · rename_i t
              rw [of_decide_eq_true h1]
            · cases h1
          subst ea
          have hr0 := p_rows (M := M) (a := .non) (l := .int least) (m := .int most) (leaf := true) hs hl
          simp only [if_true] at hr0
          obtain ⟨r, e, hr⟩ := hr0
          by_cases c1 : least ≤ (ds.length : Int)
          · by_cases c2 : (ds.length : Int) ≤ most
            · rcases hr with ⟨hr, L, rfl⟩ | ⟨hr, rfl⟩
              · simp [b_is_block_0, b_is_block_1, b_is_block_2, b_is_block_3, b_is_block_4, ht, isTup, ix0, ix1, htb, dl, n1, h1, c1, c2, e, blockB, hr]
              · simp [b_is_block_0, b_is_block_1, b_is_block_2, b_is_block_3, b_is_block_4, ht, isTup, ix0, ix1, htb, dl, n1, h1, c1, c2, e, blockB, hr]
            · simp [b_is_block_0, b_is_block_1, b_is_block_2, b_is_block_3, b_is_block_4, ht, isTup, ix0, ix1, htb, dl, n1, h1, c1, c2, blockB]
          · simp [b_is_block_0, b_is_block_1, b_is_block_2, b_is_block_3, b_is_block_4, ht, isTup, ix0, ix1, htb, dl, n1, h1, c1, blockB]
        | false =>
          cases h2 : eqS a branchS with
          | true =>
            have ea : a = .str branchS := by
              unfold eqS at h2
              split at h2
              · rename_i t
                rw [of_decide_eq_true h2]
              · cases h2
            subst ea
            have nb : ¬ branchS = leafS := by decide +kernel
            have hr0 := p_rows (M := M) (a := .non) (l := .int least) (m := .int most) (leaf := false) hs hl
            simp only [Bool.false_eq_true, if_false] at hr0
            obtain ⟨r, e, hr⟩ := hr0
            by_cases c1 : least ≤ (ds.length : Int)
            · by_cases c2 : (ds.length : Int) ≤ most
              · rcases hr with ⟨hr, L, rfl⟩ | ⟨hr, rfl⟩
                · simp [b_is_block_0, b_is_block_1, b_is_block_2, b_is_block_3, b_is_block_4, ht, isTup, ix0, ix1, htb, dl, db, n1, n2, h1, h2, c1, c2, e, blockB, hr, nb]
                · simp [b_is_block_0, b_is_block_1, b_is_block_2, b_is_block_3, b_is_block_4, ht, isTup, ix0, ix1, htb, dl, db, n1, n2, h1, h2, c1, c2, e, blockB, hr, nb]
              · simp [b_is_block_0, b_is_block_1, b_is_block_2, b_is_block_3, b_is_block_4, ht, isTup, ix0, ix1, htb, dl, db, n1, n2, h1, h2, c1, c2, blockB]
            · simp [b_is_block_0, b_is_block_1, b_is_block_2, b_is_block_3, b_is_block_4, ht, isTup, ix0, ix1, htb, dl, db, n1, n2, h1, h2, c1, blockB]
          | false =>
            have hf : blockB (.tup [a, .tup ds]) least most = false := by
              unfold blockB
              split
              · rename_i kind ds' heq
                cases heq
                have : decide (kind = leafS) = false := h1
                have : decide (kind = branchS) = false := h2
                simp [*]
              · rfl
            simp [b_is_block_0, b_is_block_1, b_is_block_2, b_is_block_3, b_is_block_4, ht, isTup, ix0, ix1, htb, dl, db, n1, n2, h1, h2, hf]
      | _ => simp [b_is_block_0, ht, isTup, ix1, htb, blockB]
  | _ => simp [b_is_block_0, ht, isTup, blockB]
end BP
/-! BLTree: the walk over a tree of blocks. -/
namespace BP
open BL
open PySem (Str)
/-- a block that waits: its number, its depth, the key that leads to it -/
structure Tl where
  n : Int
  d : Int
  k : Option Int
def Tl.v (t : Tl) : D := .tup [.int t.n, .int t.d, match t.k with | none => .non | some k => .int k]
def blkOf (B : List (Int × D)) (n : Int) : D := (aget B n).getD .non
def leastOf (w n : Int) : Int := if 0 < n then (w + 1) / 2 else 0
def leafB (d : D) : Bool := match d with
  | .tup [.str k, _] => decide (k = leafS)
  | _ => false
def pairsOf (d : D) : List D := match d with
  | .tup [_, .tup ds] => ds
  | _ => []
def firstKey (d : D) : Int := match pairsOf d with
  | p :: _ => keyOf p
  | [] => 0
def numOf : D → Int
  | .tup [_, .int n] => n
  | _ => 0
def kids (B : List (Int × D)) (t : Tl) : List Tl := if leafB (blkOf B t.n) = true then [] else (pairsOf (blkOf B t.n)).map fun p => ⟨numOf p, t.d + 1, some (keyOf p)⟩
def keyOk (B : List (Int × D)) (t : Tl) : Bool := match t.k with
  | none => true
  | some k => decide (firstKey (blkOf B t.n) = k)
def okT (B : List (Int × D)) (w : Int) (t : Tl) : Bool := blockB (blkOf B t.n) (leastOf w t.n) w && (keyOk B t && (leafB (blkOf B t.n) || decide (2 ≤ (pairsOf (blkOf B t.n)).length)))
/-- all that wait, and what they lead to, in the walk's order -/
inductive WS (B : List (Int × D)) (w : Int) : List Tl → List Tl → Prop
  | nil : WS B w [] []
  | step {t : Tl} {rest vs : List Tl} : okT B w t = true → WS B w (kids B t ++ rest) vs → WS B w (t :: rest) (t :: vs)
/-- the leaves' depths -/
def depths (B : List (Int × D)) (vs : List Tl) : List Int := (vs.filter fun t => leafB (blkOf B t.n)).map (·.d)
/-- the blocks may all be looked at, whatever goes on -/
structure Look (M : Mem) (B : List (Int × D)) : Prop where
  seen : ∀ n d, aget B n = some d → SeenB M d
  size : ∀ n d a ds, aget B n = some d → d = .tup [a, .tup ds] → ds.length < 1000000
variable {M : Mem}
theorem Kn.kp {M M' : Mem} (h : Kp M M') {d : D} (k : Kn M d) : Kn M' d := by
  obtain ⟨t, h1, h2⟩ := k
  refine ⟨t, ?_, h2⟩
  cases d with
  | ref n =>
    unfold kindOf at h1 ⊢
    dsimp only at h1 ⊢
    cases hm : M[n]? with
    | none => rw [hm] at h1; cases h1
    | some o => rw [h.get hm]; rw [hm] at h1; exact h1
  | _ => exact h1
theorem SeenP.kp {M M' : Mem} (h : Kp M M') {d : D} (k : SeenP M d) : SeenP M' d := ⟨k.1.kp h, fun a b e => ⟨(k.2 a b e).1.kp h, (k.2 a b e).2.1.kp h, (k.2 a b e).2.2⟩⟩
theorem block_parts {d : D} {least most : Int} (h : blockB d least most = true) : ∃ (leaf : Bool) (ds : List D), d = .tup [.str (if leaf = true then leafS else branchS), .tup ds] ∧ leafB d = leaf ∧ pairsOf d = ds ∧ rowB leaf ds = true ∧ least ≤ ds.length ∧ (ds.length : Int) ≤ most := by
  unfold blockB at h
  split at h
  · rename_i kind ds
    simp only [Bool.and_eq_true, Bool.or_eq_true, decide_eq_true_eq] at h
    obtain ⟨hk, h1, h2, h3⟩ := h
    by_cases e : kind = leafS
    · refine ⟨true, ds, by rw [e]; rfl, by rw [e]; simp [leafB], rfl, by rw [decide_eq_true e] at h3; exact h3, h1, h2⟩
    · have e2 : kind = branchS := hk.resolve_left e
      have ne : ¬ branchS = leafS := by decide +kernel
      refine ⟨false, ds, by rw [e2]; rfl, by rw [e2]; simp [leafB, ne], rfl, by rw [decide_eq_false e] at h3; exact h3, h1, h2⟩
  · cases h
theorem branch_pair {d : D} (h : pairB false d = true) : ∃ k n : Int, d = .tup [.int k, .int n] := by
  obtain ⟨k, b, rfl⟩ := pair_of h
  have h2 : (keyB (.int k) && posB b) = true := h
  rw [Bool.and_eq_true] at h2
  cases b <;> first
    | exact ⟨k, _, rfl⟩
    | cases h2.2
end BP
/-! BLWalk: leaves_of, by the machine. -/
namespace BP
open BL
open PySem (Str)
variable {M : Mem}
theorem pop0_lst {n : Nat} {xs : List D} {d : D} (h : M[n]? = some (.lst (xs ++ [d]))) : oPop0 (.ref n) [] M = some (d, M.set n (.lst xs)) := by
  unfold oPop0
  dsimp only
  rw [h]
  dsimp only
  rw [show (xs ++ [d])[(xs ++ [d]).length - 1]? = some d by simp]
  dsimp only
  rw [List.dropLast_concat]
theorem extend_at {n : Nat} {xs es : List D} {d : D} (h : M[n]? = some (.lst xs)) (h2 : seqOf M d = some es) (hl : xs.length + es.length < 16000000) : oExtend (.ref n) [d] M = some (.non, M.set n (.lst (xs ++ es))) := by
  unfold oExtend
  dsimp only
  rw [h, h2]
  exact if_pos hl
noncomputable def loT : GT := mT (mBin oGt (mCB oLen (mCons (mVar 4) mNil)) (mC (.int 0)))
noncomputable def lo1 : GS := mSet 5 (mMtL oPop0 (mVar 4) mNil)
noncomputable def lo2 : GS := mSet 6 (mMtD oGet1 (mVar 0) (mBin oIx (mVar 5) (mC (.int 0))))
noncomputable def lo3 : GS := mSet 7 (mIf (mT (mBin oGt (mBin oIx (mVar 5) (mC (.int 0))) (mC (.int 0)))) (mCall g_half (mCons (mVar 1) mNil)) (mC (.int 0)))
noncomputable def lo4 : GS := mIte (mOr (mT (mBin oIn (mBin oIx (mVar 5) (mC (.int 0))) (mVar 3))) (mNot (mT (mCall g_is_block (mCons (mVar 6) (mCons (mVar 7) (mCons (mVar 1) mNil))))))) (mRet (mC .non)) mSkip
noncomputable def lo5 : GS := mIte (mAnd (mT (mBin oIsNot (mBin oIx (mVar 5) (mC (.int 2))) (mC .non))) (mT (mBin oNe (mBin oIx (mBin oIx (mBin oIx (mVar 6) (mC (.int 1))) (mC (.int 0))) (mC (.int 0))) (mBin oIx (mVar 5) (mC (.int 2)))))) (mRet (mC .non)) mSkip
noncomputable def lo6 : GS := mPut oPutA (mVar 3) (mBin oIx (mVar 5) (mC (.int 0))) (mC (.bl true))
noncomputable def lo7 : GS := mIte (mT (mBin oEq (mBin oIx (mVar 6) (mC (.int 0))) (mC (.str "leaf")))) (mExpr (mMtL oAppend (mVar 2) (mCons (mBin oIx (mVar 5) (mC (.int 1))) mNil))) (mIte (mT (mBin oLt (mCB oLen (mCons (mBin oIx (mVar 6) (mC (.int 1))) mNil)) (mC (.int 2)))) (mRet (mC .non)) (mExpr (mMtL oExtend (mVar 4) (mCons (mLc (mRev (mBin oIx (mVar 6) (mC (.int 1)))) (mName 8) mYes (mTup (mCons (mBin oIx (mVar 8) (mC (.int 1))) (mCons (mBin oAdd (mBin oIx (mVar 5) (mC (.int 1))) (mC (.int 1))) (mCons (mBin oIx (mVar 8) (mC (.int 0))) mNil)))) [8]) mNil))))
noncomputable def loB : GS := mSeq lo1 (mSeq lo2 (mSeq lo3 (mSeq lo4 (mSeq lo5 (mSeq lo6 lo7)))))
theorem lo_eq : b_leaves_of_3 = mWhile loT loB := rfl
theorem p_half (w : Int) (M : Mem) : g_half [.int w] M = some (.ok (.int ((w + 1) / 2)) M) := by
  simp [g_half, b_half, b_half_0]
/-- the walk's state in the memory -/
structure LoS (M M' : Mem) (B : List (Int × D)) (dp nm wt : Nat) (S : List Tl) (ds nums : List Int) (N : List (Int × D)) : Prop where
  kp : Kp M M'
  dp_ : M.length ≤ dp
  nm_ : M.length ≤ nm
  wt_ : M.length ≤ wt
  ne : dp ≠ wt
  d : M'[dp]? = some (.lst (ds.map .int))
  n : M'[nm]? = some (.dct N)
  w : M'[wt]? = some (.lst ((S.map Tl.v).reverse))
  keys : akeys N = nums
  nd : nums.Nodup
  sub : ∀ x ∈ nums, x ∈ akeys B
  pos : ∀ t ∈ S, t.k ≠ none → 0 < t.n
abbrev loL (b : Nat) (w : Int) (dp nm wt : Nat) (x5 x6 x7 x8 : Option D) : BL.Loc := [some (.ref b), some (.int w), some (.ref dp), some (.ref nm), some (.ref wt), x5, x6, x7, x8]
theorem lo_test {b dp nm wt : Nat} {w : Int} {x5 x6 x7 x8 : Option D} {M' : Mem} {S : List Tl} (h : M'[wt]? = some (.lst ((S.map Tl.v).reverse))) : loT (loL b w dp nm wt x5 x6 x7 x8) M' = some (.ok (!S.isEmpty) M') := by
  have := len_lst h
  cases S with
  | nil =>
    simp at this
    simp [loT, loL, this]
  | cons t S =>
    simp at this
    have h2 : (0 : Int) < (S.length : Int) + 1 := by omega
    simp [loT, loL, this, h2]
theorem blk_seen {M' : Mem} {B : List (Int × D)} (h : Look M' B) (n : Int) : SeenB M' (blkOf B n) ∧ ∀ a ds, blkOf B n = .tup [a, .tup ds] → ds.length < 1000000 := by
  unfold blkOf
  cases e : aget B n with
  | none => exact ⟨⟨kn_non, fun a b e => by cases e⟩, fun a ds e => by cases e⟩
  | some d => exact ⟨h.seen n d e, fun a ds e2 => h.size n d a ds e e2⟩
/-- one step: told off, or the walk ends -/
theorem lo_step {b dp nm wt : Nat} {w : Int} {x5 x6 x7 x8 : Option D} {M' : Mem} {B N : List (Int × D)} {t : Tl} {rest : List Tl} {ds nums : List Int} (hb : M[b]? = some (.dct B)) (s : LoS M M' B dp nm wt (t :: rest) ds nums N) (hL : ∀ M', Kp M M' → Look M' B) (hw : 3 ≤ w ∧ w ≤ 1000)
    (hB : B.length ≤ 100000) (hlen : rest.length ≤ 10000000) (hds : ds.length ≤ 1000000) :
    ((t.n ∈ nums ∨ okT B w t = false) ∧ ∃ M'', Kp M M'' ∧ loB (loL b w dp nm wt x5 x6 x7 x8) M' = some (.rt .non, M'')) ∨
    (t.n ∉ nums ∧ okT B w t = true ∧ ∃ y5 y6 y7 M'' N', loB (loL b w dp nm wt x5 x6 x7 x8) M' = some (.nx (loL b w dp nm wt y5 y6 y7 x8), M'') ∧ LoS M M'' B dp nm wt (kids B t ++ rest) (if leafB (blkOf B t.n) = true then ds ++ [t.d] else ds) (nums ++ [t.n]) N') := by
  have hlt : b < M.length := get_lt hb
  have hwt : M'[wt]? = some (.lst ((rest.map Tl.v).reverse ++ [t.v])) := by rw [s.w]; simp
  have e1 : lo1 (loL b w dp nm wt x5 x6 x7 x8) M' = some (.nx (loL b w dp nm wt (some t.v) x6 x7 x8), M'.set wt (.lst ((rest.map Tl.v).reverse))) := by
    have := pop0_lst hwt
    simp [lo1, loL, hwt, this]
  generalize hM1 : M'.set wt (Ob.lst ((rest.map Tl.v).reverse)) = M1 at e1
  have k1 : Kp M M1 := by rw [← hM1]; exact s.kp.set s.wt_ _
  have w1 : M1[wt]? = some (.lst ((rest.map Tl.v).reverse)) := by rw [← hM1]; exact get_set_eq hwt
  have d1 : M1[dp]? = some (.lst (ds.map .int)) := by rw [← hM1, get_set_ne (Ne.symm s.ne)]; exact s.d
  have n1 : M1[nm]? = some (.dct N) := by
    rw [← hM1, get_set_ne fun e => ?_]
    · exact s.n
    · have h1 := s.n
      rw [← e, s.w] at h1
      cases h1
  have b1 := k1.get hb
  have t0 : ∀ M, oIx t.v (.int 0) M = some (.int t.n, M) := fun M => ix0
  have t1 : ∀ M, oIx t.v (.int 1) M = some (.int t.d, M) := fun M => ix1
  have e2 : lo2 (loL b w dp nm wt (some t.v) x6 x7 x8) M1 = some (.nx (loL b w dp nm wt (some t.v) (some (blkOf B t.n)) x7 x8), M1) := by
    have := get1_dct (k := t.n) b1
    simp [lo2, loL, b1, t0, this, blkOf]
  have e3 : lo3 (loL b w dp nm wt (some t.v) (some (blkOf B t.n)) x7 x8) M1 = some (.nx (loL b w dp nm wt (some t.v) (some (blkOf B t.n)) (some (.int (leastOf w t.n))) x8), M1) := by
    by_cases h : 0 < t.n
    · simp [lo3, loL, t0, h, p_half, leastOf]
    · simp [lo3, loL, t0, h, leastOf]
  obtain ⟨sb, sz⟩ := blk_seen (hL M1 k1) t.n
  have pb := p_block (least := leastOf w t.n) (most := w) sb sz
  have hin := in_dct (k := t.n) n1
  have hin2 : (aget N t.n).isSome = decide (t.n ∈ nums) := by
    rw [Bool.eq_iff_iff, aget_isSome, s.keys, decide_eq_true_eq]
  rw [hin2] at hin
  generalize hblk : blkOf B t.n = blk at *
  unfold loB
  rw [seq_step e1, seq_step e2, seq_step e3]
  by_cases hmem : t.n ∈ nums
  · refine .inl ⟨.inl hmem, M1, k1, ?_⟩
    simp [lo4, loL, t0, hin, hmem]
  · cases hbb : blockB blk (leastOf w t.n) w with
    | false =>
      refine .inl ⟨.inr (by unfold okT; rw [hblk, hbb]; rfl), M1, k1, ?_⟩
      rw [hbb] at pb
      simp [lo4, loL, t0, hin, hmem, pb]
    | true =>
      rw [hbb] at pb
      have e4 : lo4 (loL b w dp nm wt (some t.v) (some blk) (some (.int (leastOf w t.n))) x8) M1 = some (.nx (loL b w dp nm wt (some t.v) (some blk) (some (.int (leastOf w t.n))) x8), M1) := by
        simp [lo4, loL, t0, hin, hmem, pb]
      rw [seq_step e4]
      obtain ⟨leaf, rows, hd, hlf, hpr, hrow, hle, hge⟩ := block_parts hbb
      have bk : ∀ M, oIx blk (.int 0) M = some (.str (if leaf = true then leafS else branchS), M) := fun M => by rw [hd]; exact ix0
      have b1' : ∀ M, oIx blk (.int 1) M = some (.tup rows, M) := fun M => by rw [hd]; exact ix1
      have hall := ((rowB_iff leaf rows).mp hrow).1
      have hrl : rows.length ≤ 1000 := by omega
      have hinB : t.n ∈ akeys B := by
        rw [← aget_isSome]
        cases hg : aget B t.n with
        | some d => rfl
        | none =>
          unfold blkOf at hblk
          rw [hg] at hblk
          rw [← hblk] at hbb
          cases hbb
      -- the key that led here
      by_cases hkey : keyOk B t = true
      case neg =>
        have hkf : keyOk B t = false := by simpa using hkey
        refine .inl ⟨.inr (by unfold okT; rw [hkf]; simp), M1, k1, ?_⟩
        unfold keyOk at hkf
        cases hk : t.k with
        | none => rw [hk] at hkf; cases hkf
        | some k =>
          rw [hk] at hkf
          have hpos := s.pos t List.mem_cons_self (by rw [hk]; intro z; cases z)
          unfold leastOf at hle
          rw [if_pos hpos] at hle
          have t2 : ∀ M, oIx t.v (.int 2) M = some (.int k, M) := fun M => by
            have : t.v = .tup [.int t.n, .int t.d, .int k] := by unfold Tl.v; rw [hk]
            rw [this]
            exact ix2
          cases hrows : rows with
          | nil => rw [hrows] at hle; simp at hle; omega
          | cons p0 r0 =>
            obtain ⟨q, v, hp0⟩ := pair_of (hall p0 (by rw [hrows]; exact List.mem_cons_self))
            have hfk : firstKey blk = q := by unfold firstKey; rw [hpr, hrows, hp0]; rfl
            rw [hblk, hfk] at hkf
            have hne : ¬ q = k := of_decide_eq_false hkf
            have i0 : ∀ M, oIx (.tup rows) (.int 0) M = some (.tup [.int q, v], M) := fun M => by rw [hrows, hp0]; exact ix0
            have i00 : ∀ M, oIx (.tup [.int q, v]) (.int 0) M = some (.int q, M) := fun M => ix0
            simp [lo5, loL, t2, b1', i0, i00, isNon, hne]
      case pos =>
      have e5 : lo5 (loL b w dp nm wt (some t.v) (some blk) (some (.int (leastOf w t.n))) x8) M1 = some (.nx (loL b w dp nm wt (some t.v) (some blk) (some (.int (leastOf w t.n))) x8), M1) := by
        unfold keyOk at hkey
        cases hk : t.k with
        | none =>
          have t2 : ∀ M, oIx t.v (.int 2) M = some (.non, M) := fun M => by
            have : t.v = .tup [.int t.n, .int t.d, .non] := by unfold Tl.v; rw [hk]
            rw [this]
            exact ix2
          simp [lo5, loL, t2, isNon]
        | some k =>
          rw [hk] at hkey
          have hpos := s.pos t List.mem_cons_self (by rw [hk]; intro z; cases z)
          unfold leastOf at hle
          rw [if_pos hpos] at hle
          have t2 : ∀ M, oIx t.v (.int 2) M = some (.int k, M) := fun M => by
            have : t.v = .tup [.int t.n, .int t.d, .int k] := by unfold Tl.v; rw [hk]
            rw [this]
            exact ix2
          cases hrows : rows with
          | nil => rw [hrows] at hle; simp at hle; omega
          | cons p0 r0 =>
            obtain ⟨q, v, hp0⟩ := pair_of (hall p0 (by rw [hrows]; exact List.mem_cons_self))
            have hfk : firstKey blk = q := by unfold firstKey; rw [hpr, hrows, hp0]; rfl
            rw [hblk, hfk] at hkey
            have heq : q = k := of_decide_eq_true hkey
            subst heq
            have i0 : ∀ M, oIx (.tup rows) (.int 0) M = some (.tup [.int q, v], M) := fun M => by rw [hrows, hp0]; exact ix0
            have i00 : ∀ M, oIx (.tup [.int q, v]) (.int 0) M = some (.int q, M) := fun M => ix0
            simp [lo5, loL, t2, b1', i0, i00, isNon]
      rw [seq_step e5]
      have nlen : N.length ≤ B.length := by
        have h1 := nodup_len s.nd s.sub
        rw [← s.keys] at h1
        simpa using h1
      have e6 : lo6 (loL b w dp nm wt (some t.v) (some blk) (some (.int (leastOf w t.n))) x8) M1 = some (.nx (loL b w dp nm wt (some t.v) (some blk) (some (.int (leastOf w t.n))) x8), M1.set nm (.dct (aput N t.n (.bl true)))) := by
        have := put_dct (k := t.n) (d := .bl true) n1 (by omega)
        simp [lo6, loL, t0, this]
      rw [seq_step e6]
      generalize hM2 : M1.set nm (Ob.dct (aput N t.n (.bl true))) = M2 at *
      have k2 : Kp M M2 := by rw [← hM2]; exact k1.set s.nm_ _
      have nd_ne : nm ≠ dp := fun e => by rw [e, d1] at n1; cases n1
      have nw_ne : nm ≠ wt := fun e => by rw [e, w1] at n1; cases n1
      have w2 : M2[wt]? = some (.lst ((rest.map Tl.v).reverse)) := by rw [← hM2, get_set_ne nw_ne]; exact w1
      have d2 : M2[dp]? = some (.lst (ds.map .int)) := by rw [← hM2, get_set_ne nd_ne]; exact d1
      have n2 : M2[nm]? = some (.dct (aput N t.n (.bl true))) := by rw [← hM2]; exact get_set_eq n1
      have keys2 : akeys (aput N t.n (.bl true)) = nums ++ [t.n] := by rw [akeys_aput, s.keys, if_neg hmem]
      have nd2 : (nums ++ [t.n]).Nodup := by
        rw [List.nodup_append]
        refine ⟨s.nd, by simp, fun a ha c hc => ?_⟩
        have : c = t.n := by simpa using hc
        rw [this]
        intro e
        exact hmem (by rw [← e]; exact ha)
      have sub2 : ∀ x ∈ nums ++ [t.n], x ∈ akeys B := fun x hx => by
        rcases List.mem_append.mp hx with hx | hx
        · exact s.sub x hx
        · have : x = t.n := by simpa using hx
          rw [this]
          exact hinB
      have hkl := kind_leaf (M := M2) (leaf := leaf)
      cases leaf with
      | true =>
        refine .inr ⟨hmem, by unfold okT; rw [hblk, hbb, hkey, hlf]; rfl, some t.v, some blk, some (.int (leastOf w t.n)), M2.set dp (.lst (ds.map .int ++ [.int t.d])), aput N t.n (.bl true), ?_, ⟨k2.set s.dp_ _, s.dp_, s.nm_, s.wt_, s.ne, ?_, ?_, ?_, keys2, nd2, sub2, fun x hx => s.pos x (List.mem_cons_of_mem _ ?_)⟩⟩
        · have ha := append_lst (d := .int t.d) d2 (by simp; omega)
          simp only [if_true] at hkl bk
          simp [lo7, loL, bk, hkl, t1, d2, ha]
        · rw [hlf, if_pos rfl, List.map_append]
          exact get_set_eq d2
        · rw [get_set_ne (Ne.symm nd_ne)]
          exact n2
        · rw [get_set_ne s.ne]
          have : kids B t = [] := by unfold kids; rw [hblk, hlf, if_pos rfl]
          rw [this, List.nil_append]
          exact w2
        · have : kids B t = [] := by unfold kids; rw [hblk, hlf, if_pos rfl]
          rw [this, List.nil_append] at hx
          exact hx
      | false =>
        simp only [Bool.false_eq_true, if_false] at hkl bk
        by_cases h2 : 2 ≤ rows.length
        case neg =>
          refine .inl ⟨.inr ?_, M2, k2, ?_⟩
          · unfold okT
            rw [hblk, hbb, hkey, hlf, hpr, decide_eq_false h2]
            rfl
          · have h3 : (rows.length : Int) < 2 := by omega
            simp [lo7, loL, bk, hkl, b1', h3]
        case pos =>
          have h3 : ¬ (rows.length : Int) < 2 := by omega
          have hkids : kids B t = rows.map fun p => (⟨numOf p, t.d + 1, some (keyOf p)⟩ : Tl) := by unfold kids; rw [hblk, hlf, hpr, if_neg Bool.false_ne_true]
          have hkl2 : (kids B t).length = rows.length := by rw [hkids, List.length_map]
          have hys : (rows.reverse.map fun p => (⟨numOf p, t.d + 1, some (keyOf p)⟩ : Tl).v) = ((kids B t).map Tl.v).reverse := by rw [hkids, List.map_map, List.map_reverse]; rfl
          generalize hLL : loL b w dp nm wt (some t.v) (some blk) (some (.int (leastOf w t.n))) x8 = L
          have v5 : L[5]? = some (some t.v) := by rw [← hLL]; rfl
          have v6 : L[6]? = some (some blk) := by rw [← hLL]; rfl
          have v4 : L[4]? = some (some (.ref wt)) := by rw [← hLL]; rfl
          have hi : mRev (mBin oIx (mVar 6) (mC (.int 1))) L M2 = some (.ok (Src.map List.reverse ⟨rows, none⟩) M2) := seq_at _ (by simp [v6, b1']) src_tup
          have hl := lcG_map (ok := Src.ok (Src.map List.reverse ⟨rows, none⟩)) (g := mName 8) (tt := mYes) (e := mTup (mCons (mBin oIx (mVar 8) (mC (.int 1))) (mCons (mBin oAdd (mBin oIx (mVar 5) (mC (.int 1))) (mC (.int 1))) (mCons (mBin oIx (mVar 8) (mC (.int 0))) mNil)))) (L := wipeL L [8]) (M := M2) (fun _ => true) (fun p => (⟨numOf p, t.d + 1, some (keyOf p)⟩ : Tl).v) trivial rows.reverse (fun p hp => by
            obtain ⟨k, n, rfl⟩ := branch_pair (hall p (List.mem_reverse.mp hp))
            refine ⟨_, rfl, rfl, fun _ => ?_⟩
            have j0 : ∀ M, oIx (.tup [.int k, .int n]) (.int 0) M = some (.int k, M) := fun M => ix0
            have j1 : ∀ M, oIx (.tup [.int k, .int n]) (.int 1) M = some (.int n, M) := fun M => ix1
            show mTup _ _ _ = some (.ok (.tup [.int n, .int (t.d + 1), .int k]) M2)
            rw [← hLL]
            simp [wipeL, loL, t1, j0, j1])
          rw [List.filter_eq_self.mpr (fun _ _ => rfl), hys] at hl
          have hlc := lc_at hi hl (by simp [hkl2]; omega)
          have w3 : (M2 ++ [Ob.lst ((kids B t).map Tl.v).reverse])[wt]? = some (.lst ((rest.map Tl.v).reverse)) := get_app w2
          have hx := extend_at (d := .ref M2.length) w3 (by show (match (M2 ++ [Ob.lst ((kids B t).map Tl.v).reverse])[M2.length]? with | some (.lst xs) => some xs | _ => none) = _; rw [get_new]) (by simp [hkl2]; omega)
          refine .inr ⟨hmem, by unfold okT; rw [hblk, hbb, hkey, hlf, hpr, decide_eq_true h2]; rfl, some t.v, some blk, some (.int (leastOf w t.n)), (M2 ++ [Ob.lst ((kids B t).map Tl.v).reverse]).set wt (.lst ((rest.map Tl.v).reverse ++ ((kids B t).map Tl.v).reverse)), aput N t.n (.bl true), ?_, ⟨(k2.more _).set s.wt_ _, s.dp_, s.nm_, s.wt_, s.ne, ?_, ?_, ?_, keys2, nd2, sub2, fun x hx => ?_⟩⟩
          · rw [hLL]
            simp [lo7, v4, v6, bk, hkl, b1', h3, w2, hlc, hx]
          · rw [hlf, if_neg Bool.false_ne_true, get_set_ne (Ne.symm s.ne)]
            exact get_app d2
          · rw [get_set_ne (Ne.symm nw_ne)]
            exact get_app n2
          · rw [List.map_append, List.reverse_append]
            exact get_set_eq w3
          · intro hxk
            rcases List.mem_append.mp hx with hx | hx
            · rw [hkids] at hx
              obtain ⟨p, hp, rfl⟩ := List.mem_map.mp hx
              have hpb := hall p hp
              obtain ⟨k, n, rfl⟩ := branch_pair hpb
              have : (keyB (.int k) && posB (.int n)) = true := hpb
              rw [Bool.and_eq_true] at this
              exact of_decide_eq_true this.2
            · exact s.pos x (List.mem_cons_of_mem _ hx) hxk
theorem okT_kids {B : List (Int × D)} {w : Int} {t : Tl} (h : okT B w t = true) : ((kids B t).length : Int) ≤ max w 0 := by
  unfold okT at h
  rw [Bool.and_eq_true] at h
  obtain ⟨leaf, rows, _, _, hpr, _, _, hge⟩ := block_parts h.1
  unfold kids
  split
  · simp
    omega
  · rw [List.length_map, hpr]
    omega
theorem WS.inv {B : List (Int × D)} {w : Int} {t : Tl} {rest vs : List Tl} (h : WS B w (t :: rest) vs) : ∃ vs', vs = t :: vs' ∧ okT B w t = true ∧ WS B w (kids B t ++ rest) vs' := by
  cases h with
  | step h1 h2 => exact ⟨_, rfl, h1, h2⟩
theorem lo_loop {b dp nm wt : Nat} {w : Int} {x8 : Option D} {B : List (Int × D)} (hb : M[b]? = some (.dct B)) (hL : ∀ M', Kp M M' → Look M' B) (hw : 3 ≤ w ∧ w ≤ 64) (hB : B.length ≤ 10000) : ∀ (m : Nat) (S : List Tl) (ds nums : List Int) (N : List (Int × D)) (M' : Mem) (x5 x6 x7 : Option D),
    B.length + 1 ≤ nums.length + m → S.length ≤ 1 + 64 * nums.length → ds.length ≤ nums.length → LoS M M' B dp nm wt S ds nums N →
    ∃ r, whileF loT loB m (loL b w dp nm wt x5 x6 x7 x8) M' = some r ∧
      ((∃ vs, WS B w S vs ∧ (nums ++ vs.map (·.n)).Nodup ∧ ∃ y5 y6 y7 M'' N', r = (.nx (loL b w dp nm wt y5 y6 y7 x8), M'') ∧ LoS M M'' B dp nm wt [] (ds ++ depths B vs) (nums ++ vs.map (·.n)) N') ∨
       ((∀ vs, WS B w S vs → ¬ (nums ++ vs.map (·.n)).Nodup) ∧ ∃ M'', r = (.rt .non, M'') ∧ Kp M M''))
  | 0, S, ds, nums, N, M', x5, x6, x7, hm, hS, hd, s => by
    have := nodup_len s.nd s.sub
    simp at this
    omega
  | m + 1, S, ds, nums, N, M', x5, x6, x7, hm, hS, hd, s => by
    have ht := lo_test (b := b) (dp := dp) (nm := nm) (w := w) (x5 := x5) (x6 := x6) (x7 := x7) (x8 := x8) s.w
    unfold whileF
    rw [ht]
    cases S with
    | nil =>
      refine ⟨_, rfl, .inl ⟨[], .nil, by simpa using s.nd, x5, x6, x7, M', N, rfl, ?_⟩⟩
      simpa [depths] using s
    | cons t rest =>
      have hlen := nodup_len s.nd s.sub
      simp at hlen hS
      rcases lo_step (w := w) (x5 := x5) (x6 := x6) (x7 := x7) (x8 := x8) hb s hL ⟨hw.1, by omega⟩ (by omega) (by omega) (by omega) with ⟨h1, M'', hk, e⟩ | ⟨h1, h2, y5, y6, y7, M'', N', e, s'⟩
      · refine ⟨(.rt .non, M''), ?_, .inr ⟨fun vs hv hnd => ?_, M'', rfl, hk⟩⟩
        · dsimp only [bndS, List.isEmpty, Bool.not_false]
          rw [if_pos (show (!false) = true from rfl), e]
        · obtain ⟨vs', rfl, ho, _⟩ := hv.inv
          rcases h1 with h1 | h1
          · rw [List.map_cons, List.nodup_append] at hnd
            exact hnd.2.2 _ h1 _ List.mem_cons_self rfl
          · rw [ho] at h1
            cases h1
      · have hkl := okT_kids h2
        have hle2 : (if leafB (blkOf B t.n) = true then ds ++ [t.d] else ds).length ≤ (nums ++ [t.n]).length := by
          split
          · simp; omega
          · simp; omega
        obtain ⟨r, e2, h3⟩ := lo_loop hb hL hw hB m (kids B t ++ rest) _ (nums ++ [t.n]) N' M'' y5 y6 y7 (by simp; omega) (by simp; omega) hle2 s'
        refine ⟨r, ?_, ?_⟩
        · dsimp only [bndS, List.isEmpty, Bool.not_false]
          rw [if_pos (show (!false) = true from rfl), e]
          exact e2
        · rcases h3 with ⟨vs, v1, v2, z5, z6, z7, M3, N3, hr, hs⟩ | ⟨v1, M3, hr, hk⟩
          · refine .inl ⟨t :: vs, .step h2 v1, by simpa using v2, z5, z6, z7, M3, N3, hr, ?_⟩
            have ed : (if leafB (blkOf B t.n) = true then ds ++ [t.d] else ds) ++ depths B vs = ds ++ depths B (t :: vs) := by
              unfold depths
              by_cases hf : leafB (blkOf B t.n) = true
              · rw [if_pos hf, List.filter_cons_of_pos (by simpa using hf)]
                simp
              · rw [if_neg hf, List.filter_cons_of_neg (by simpa using hf)]
            rw [ed] at hs
            simpa using hs
          · refine .inr ⟨fun vs hv hnd => ?_, M3, hr, hk⟩
            obtain ⟨vs', rfl, ho, hv'⟩ := hv.inv
            exact v1 vs' hv' (by simpa using hnd)
/-- leaves_of -/
theorem p_leaves {b : Nat} {w : Int} {B : List (Int × D)} (hb : M[b]? = some (.dct B)) (hL : ∀ M', Kp M M' → Look M' B) (hw : 3 ≤ w ∧ w ≤ 64) (hB : B.length ≤ 10000) :
    (∃ vs dp nm M' N, WS B w [⟨0, 0, none⟩] vs ∧ (vs.map (·.n)).Nodup ∧ g_leaves_of [.ref b, .int w] M = some (.ok (.tup [.ref dp, .ref nm]) M') ∧ Kp M M' ∧ M'[dp]? = some (.lst ((depths B vs).map .int)) ∧ M'[nm]? = some (.dct N) ∧ N.length = vs.length) ∨
    ((∀ vs, WS B w [⟨0, 0, none⟩] vs → ¬ (vs.map (·.n)).Nodup) ∧ ∃ M', g_leaves_of [.ref b, .int w] M = some (.ok .non M') ∧ Kp M M') := by
  generalize hM1 : M ++ [Ob.lst [], .dct [], .lst [.tup [.int 0, .int 0, .non]]] = M1
  have s0 : LoS M M1 B M.length (M.length + 1) (M.length + 2) [⟨0, 0, none⟩] [] [] [] := by
    rw [← hM1]
    exact ⟨Kp.app _ _, by omega, by omega, by omega, by omega, get_at, get_plus 1, get_plus 2, rfl, List.nodup_nil, fun x hx => by (cases hx), fun t ht hk => by
      have : t = ⟨0, 0, none⟩ := by simpa using ht
      subst this
      exact absurd rfl hk⟩
  obtain ⟨r, e, h⟩ := lo_loop (x8 := none) hb hL hw hB (B.length + 1) [⟨0, 0, none⟩] [] [] [] M1 none none none (by simp) (by simp) (by simp) s0
  have e2 : b_leaves_of_3 (loL b w M.length (M.length + 1) (M.length + 2) none none none none) M1 = some r := by rw [lo_eq]; exact mWhile_of e
  have e0 : mSeq b_leaves_of_0 (mSeq b_leaves_of_1 b_leaves_of_2) ([some (.ref b), some (.int w)] ++ List.replicate (9 - 2) none) M = some (.nx (loL b w M.length (M.length + 1) (M.length + 2) none none none none), M1) := by
    rw [← hM1]
    simp [b_leaves_of_0, b_leaves_of_1, b_leaves_of_2, loL]
  simp only [g_leaves_of, ev_def2]
  rcases h with ⟨vs, v1, v2, y5, y6, y7, M2, N2, rfl, hs⟩ | ⟨v1, M2, rfl, hk⟩
  · refine .inl ⟨vs, M.length, M.length + 1, M2, N2, v1, by simpa using v2, ?_, hs.kp, by simpa using hs.d, hs.n, ?_⟩
    · rw [b_leaves_of, seq3 e0, seq_step e2]
      simp [b_leaves_of_4, loL]
    · have := congrArg List.length hs.keys
      simpa using this
  · refine .inr ⟨fun vs hv hn => v1 vs hv (by simpa using hn), M2, ?_, hk⟩
    rw [b_leaves_of, seq3 e0, ev_seq, e2]
    rfl
end BP
/-! BLSound: listed, sound. -/
namespace BP
open BL
open PySem (Str)
variable {M : Mem}
noncomputable def liT : GT := mT (mBin oGt (mCB oLen (mCons (mVar 2) mNil)) (mC (.int 0)))
noncomputable def li1 : GS := mSet 3 (mBin oIx (mVar 0) (mMtL oPop0 (mVar 2) mNil))
noncomputable def li2 : GS := mIte (mT (mBin oEq (mBin oIx (mVar 3) (mC (.int 0))) (mC (.str "leaf")))) (mExpr (mMtL oExtend (mVar 1) (mCons (mBin oIx (mVar 3) (mC (.int 1))) mNil))) (mExpr (mMtL oExtend (mVar 2) (mCons (mLc (mRev (mBin oIx (mVar 3) (mC (.int 1)))) (mName 4) mYes (mBin oIx (mVar 4) (mC (.int 1))) [4]) mNil)))
noncomputable def liB : GS := mSeq li1 li2
theorem li_eq : b_listed_2 = mWhile liT liB := rfl
theorem intsOf_map : ∀ ns : List Int, intsOf (ns.map D.int) = some ns
  | [] => rfl
  | n :: ns => by
    rw [List.map_cons, intsOf, intsOf_map ns]
/-- a leaf's rows -/
def rowsT (B : List (Int × D)) (t : Tl) : List D := if leafB (blkOf B t.n) = true then pairsOf (blkOf B t.n) else []
def rowsW (B : List (Int × D)) (vs : List Tl) : List D := (vs.map (rowsT B)).flatten
theorem okT_block {B : List (Int × D)} {w : Int} {t : Tl} (h : okT B w t = true) : ∃ (leaf : Bool) (rows : List D), aget B t.n = some (.tup [.str (if leaf = true then leafS else branchS), .tup rows]) ∧ leafB (blkOf B t.n) = leaf ∧ pairsOf (blkOf B t.n) = rows ∧ rowB leaf rows = true ∧ leastOf w t.n ≤ rows.length ∧ (rows.length : Int) ≤ w ∧ keyOk B t = true ∧ (leaf = false → 2 ≤ rows.length) := by
  unfold okT at h
  rw [Bool.and_eq_true, Bool.and_eq_true] at h
  obtain ⟨hb, hk, h2⟩ := h
  obtain ⟨leaf, rows, hd, hl, hp, hr, h3, h4⟩ := block_parts hb
  refine ⟨leaf, rows, ?_, hl, hp, hr, h3, h4, hk, fun e => ?_⟩
  · cases hg : aget B t.n with
    | none =>
      unfold blkOf at hd
      rw [hg] at hd
      cases hd
    | some d =>
      unfold blkOf at hd
      rw [hg] at hd
      exact congrArg some hd
  · rw [hl, hp, e] at h2
    simpa using h2
structure LiS (M M' : Mem) (fd wt : Nat) (S : List Tl) (F : List D) : Prop where
  kp : Kp M M'
  fd_ : M.length ≤ fd
  wt_ : M.length ≤ wt
  ne : fd ≠ wt
  f : M'[fd]? = some (.lst F)
  w : M'[wt]? = some (.lst ((S.map fun t => D.int t.n).reverse))
abbrev liL (b fd wt : Nat) (x3 x4 : Option D) : BL.Loc := [some (.ref b), some (.ref fd), some (.ref wt), x3, x4]
theorem li_loop {b fd wt : Nat} {w : Int} {x4 : Option D} {B : List (Int × D)} (hb : M[b]? = some (.dct B)) (hw : w ≤ 64) {S vs : List Tl} (h : WS B w S vs) : ∀ (F : List D) (M' : Mem) (x3 : Option D), LiS M M' fd wt S F → F.length + 64 * vs.length ≤ 1000000 → S.length + 64 * vs.length ≤ 1000000 →
    ∃ n y3 M'', whileF liT liB n (liL b fd wt x3 x4) M' = some (.nx (liL b fd wt y3 x4), M'') ∧ LiS M M'' fd wt [] (F ++ rowsW B vs) := by
  induction h with
  | nil =>
    intro F M' x3 s _ _
    have hl := len_lst s.w
    refine ⟨1, x3, M', ?_, by simpa [rowsW] using s⟩
    unfold whileF
    simp at hl
    simp [liT, liL, hl]
  | @step t rest vs ho hv ih =>
    intro F M' x3 s hF hS
    obtain ⟨leaf, rows, hg, hlf, hpr, hrow, _, hge, _, h2⟩ := okT_block ho
    have hl := len_lst s.w
    have hwt : M'[wt]? = some (.lst ((rest.map fun t => D.int t.n).reverse ++ [.int t.n])) := by rw [s.w]; simp
    have hpop := pop0_lst hwt
    generalize hM1 : M'.set wt (Ob.lst ((rest.map fun t => D.int t.n).reverse)) = M1 at hpop
    have k1 : Kp M M1 := by rw [← hM1]; exact s.kp.set s.wt_ _
    have w1 : M1[wt]? = some (.lst ((rest.map fun t => D.int t.n).reverse)) := by rw [← hM1]; exact get_set_eq hwt
    have f1 : M1[fd]? = some (.lst F) := by rw [← hM1, get_set_ne (Ne.symm s.ne)]; exact s.f
    generalize hblk : D.tup [.str (if leaf = true then leafS else branchS), .tup rows] = blk at hg
    have hix := ix_dct (k1.get hb) hg
    have bk : ∀ M, oIx blk (.int 0) M = some (.str (if leaf = true then leafS else branchS), M) := fun M => by rw [← hblk]; exact ix0
    have bk1 : ∀ M, oIx blk (.int 1) M = some (.tup rows, M) := fun M => by rw [← hblk]; exact ix1
    have e1 : li1 (liL b fd wt x3 x4) M' = some (.nx (liL b fd wt (some blk) x4), M1) := by
      simp [li1, liL, hwt, hpop, hix]
    have hkl := kind_leaf (M := M1) (leaf := leaf)
    have hall := ((rowB_iff leaf rows).mp hrow).1
    have hrl : rows.length ≤ 64 := by omega
    simp only [List.length_cons] at hF hS
    have htest : liT (liL b fd wt x3 x4) M' = some (.ok true M') := by
      simp at hl
      have h3 : (0 : Int) < (rest.length : Int) + 1 := by omega
      simp [liT, liL, hl, h3]
    cases leaf with
    | true =>
      simp only [if_true] at hkl bk
      have hkids : kids B t = [] := by unfold kids; rw [hlf, if_pos rfl]
      have hrt : rowsT B t = rows := by unfold rowsT; rw [hlf, if_pos rfl, hpr]
      have hx := extend_at (d := .tup rows) f1 (es := rows) rfl (by omega)
      have e2 : li2 (liL b fd wt (some blk) x4) M1 = some (.nx (liL b fd wt (some blk) x4), M1.set fd (.lst (F ++ rows))) := by
        simp [li2, liL, bk, hkl, bk1, f1, hx]
      rw [hkids, List.nil_append] at ih
      obtain ⟨n, y3, M2, e3, s3⟩ := ih (F ++ rows) (M1.set fd (.lst (F ++ rows))) (some blk) ⟨k1.set s.fd_ _, s.fd_, s.wt_, s.ne, get_set_eq f1, by rw [get_set_ne s.ne]; exact w1⟩ (by rw [List.length_append]; omega) (by omega)
      refine ⟨n + 1, y3, M2, ?_, ?_⟩
      · unfold whileF
        rw [htest]
        dsimp only [bndS]
        rw [if_pos rfl, liB, seq_step e1, e2]
        exact e3
      · have : F ++ rows ++ rowsW B vs = F ++ rowsW B (t :: vs) := by
          unfold rowsW
          rw [List.map_cons, List.flatten_cons, hrt, List.append_assoc]
        rw [← this]
        exact s3
    | false =>
      simp only [Bool.false_eq_true, if_false] at hkl bk
      have hkids : kids B t = rows.map fun p => (⟨numOf p, t.d + 1, some (keyOf p)⟩ : Tl) := by unfold kids; rw [hlf, hpr, if_neg Bool.false_ne_true]
      have hrt : rowsT B t = [] := by unfold rowsT; rw [hlf, if_neg Bool.false_ne_true]
      have hkl2 : (kids B t).length = rows.length := by rw [hkids, List.length_map]
      have hys : (rows.reverse.map fun p => D.int (numOf p)) = ((kids B t).map fun t => D.int t.n).reverse := by rw [hkids, List.map_map, List.map_reverse]; rfl
      generalize hLL : liL b fd wt (some blk) x4 = L
      have v3 : L[3]? = some (some blk) := by rw [← hLL]; rfl
      have v2 : L[2]? = some (some (.ref wt)) := by rw [← hLL]; rfl
      have hi : mRev (mBin oIx (mVar 3) (mC (.int 1))) L M1 = some (.ok (Src.map List.reverse ⟨rows, none⟩) M1) := seq_at _ (by simp [v3, bk1]) src_tup
      have hlc0 := lcG_map (ok := Src.ok (Src.map List.reverse ⟨rows, none⟩)) (g := mName 4) (tt := mYes) (e := mBin oIx (mVar 4) (mC (.int 1))) (L := wipeL L [4]) (M := M1) (fun _ => true) (fun p => D.int (numOf p)) trivial rows.reverse (fun p hp => by
        obtain ⟨k, n, rfl⟩ := branch_pair (hall p (List.mem_reverse.mp hp))
        refine ⟨_, rfl, rfl, fun _ => ?_⟩
        have j1 : ∀ M, oIx (.tup [.int k, .int n]) (.int 1) M = some (.int n, M) := fun M => ix1
        rw [← hLL]
        simp [wipeL, liL, j1, numOf])
      rw [List.filter_eq_self.mpr (fun _ _ => rfl), hys] at hlc0
      have hlc := lc_at hi hlc0 (by simp [hkl2]; omega)
      have w3 : (M1 ++ [Ob.lst ((kids B t).map fun t => D.int t.n).reverse])[wt]? = some (.lst ((rest.map fun t => D.int t.n).reverse)) := get_app w1
      have hx := extend_at (d := .ref M1.length) w3 (by show (match (M1 ++ [Ob.lst ((kids B t).map fun t => D.int t.n).reverse])[M1.length]? with | some (.lst xs) => some xs | _ => none) = _; rw [get_new]) (by simp [hkl2]; omega)
      have e2 : li2 L M1 = some (.nx L, (M1 ++ [Ob.lst ((kids B t).map fun t => D.int t.n).reverse]).set wt (.lst ((rest.map fun t => D.int t.n).reverse ++ ((kids B t).map fun t => D.int t.n).reverse))) := by
        simp [li2, v2, v3, bk, hkl, bk1, w1, hlc, hx]
      obtain ⟨n, y3, M2, e3, s3⟩ := ih F ((M1 ++ [Ob.lst ((kids B t).map fun t => D.int t.n).reverse]).set wt (.lst ((rest.map fun t => D.int t.n).reverse ++ ((kids B t).map fun t => D.int t.n).reverse))) (some blk)
        ⟨(k1.more _).set s.wt_ _, s.fd_, s.wt_, s.ne, by rw [get_set_ne (Ne.symm s.ne)]; exact get_app f1, by rw [List.map_append, List.reverse_append]; exact get_set_eq w3⟩ (by omega) (by rw [List.length_append]; omega)
      refine ⟨n + 1, y3, M2, ?_, ?_⟩
      · unfold whileF
        rw [htest]
        dsimp only [bndS]
        rw [if_pos rfl, liB, seq_step e1, hLL, e2]
        dsimp only
        rw [← hLL]
        exact e3
      · have : F ++ rowsW B vs = F ++ rowsW B (t :: vs) := by
          unfold rowsW
          rw [List.map_cons, List.flatten_cons, hrt, List.nil_append]
        rw [← this]
        exact s3
theorem p_listed {b : Nat} {w : Int} {B : List (Int × D)} {vs : List Tl} (hb : M[b]? = some (.dct B)) (hw : w ≤ 64) (h : WS B w [⟨0, 0, none⟩] vs) (hl : vs.length ≤ 10000) :
    ∃ r M', g_listed [.ref b] M = some (.ok (.ref r) M') ∧ Kp M M' ∧ M.length ≤ r ∧ M'[r]? = some (.lst (rowsW B vs)) := by
  obtain ⟨n, y3, M2, e, s⟩ := li_loop (b := b) (fd := M.length) (wt := M.length + 1) (x4 := none) hb hw h [] (M ++ [Ob.lst [], .lst [.int 0]]) none ⟨Kp.app _ _, by omega, by omega, by omega, get_at, get_plus 1⟩ (by simp; omega) (by simp; omega)
  have e2 : b_listed_2 (liL b M.length (M.length + 1) none none) (M ++ [Ob.lst [], .lst [.int 0]]) = some (.nx (liL b M.length (M.length + 1) y3 none), M2) := by rw [li_eq]; exact mWhile_of e
  have e0 : mSeq b_listed_0 b_listed_1 ([some (.ref b)] ++ List.replicate (5 - 1) none) M = some (.nx (liL b M.length (M.length + 1) none none), M ++ [Ob.lst [], .lst [.int 0]]) := by
    simp [b_listed_0, b_listed_1, liL]
  refine ⟨M.length, M2, ?_, s.kp, Nat.le_refl _, by simpa using s.f⟩
  simp only [g_listed, ev_def1]
  rw [b_listed, seq2 e0, seq_step e2]
  simp [b_listed_3, liL]
/-- rising -/
def rise (ks : List Int) : Prop := ∀ (k : Nat) (a b : Int), ks[k]? = some a → ks[k + 1]? = some b → a < b
def keysW (B : List (Int × D)) (vs : List Tl) : List Int := (rowsW B vs).map keyOf
structure SoundP (B : List (Int × D)) (w : Int) (vs : List Tl) : Prop where
  ws : WS B w [⟨0, 0, none⟩] vs
  nd : (vs.map (·.n)).Nodup
  all : vs.length = B.length
  flat : (dist (depths B vs)).length = 1
  up : rise (keysW B vs)
theorem WS.det {B : List (Int × D)} {w : Int} {S vs vs' : List Tl} (h : WS B w S vs) (h' : WS B w S vs') : vs = vs' := by
  induction h generalizing vs' with
  | nil =>
    cases h'
    rfl
  | step ho hv ih =>
    obtain ⟨u, rfl, _, h2⟩ := h'.inv
    rw [ih h2]
theorem WS.ok {B : List (Int × D)} {w : Int} {S vs : List Tl} (h : WS B w S vs) : ∀ t ∈ vs, okT B w t = true := by
  induction h with
  | nil =>
    intro t ht
    cases ht
  | step ho hv ih =>
    intro t ht
    rcases List.mem_cons.mp ht with rfl | ht
    · exact ho
    · exact ih t ht
theorem rowsW_pair {B : List (Int × D)} {w : Int} {S vs : List Tl} (h : WS B w S vs) : ∀ p ∈ rowsW B vs, pairB true p = true := fun p hp => by
  unfold rowsW at hp
  obtain ⟨r, hr, hpr⟩ := List.mem_flatten.mp hp
  obtain ⟨t, ht, rfl⟩ := List.mem_map.mp hr
  obtain ⟨leaf, rows, _, hl, hq, hrow, _⟩ := okT_block (h.ok t ht)
  unfold rowsT at hpr
  split at hpr
  · rename_i hlf
    rw [hl] at hlf
    rw [hq] at hpr
    rw [hlf] at hrow
    exact ((rowB_iff true rows).mp hrow).1 p hpr
  · cases hpr
theorem rowsW_len {B : List (Int × D)} {w : Int} (hw : w ≤ 64) {S vs : List Tl} (h : WS B w S vs) : (rowsW B vs).length ≤ 64 * vs.length := by
  induction h with
  | nil => simp [rowsW]
  | @step t rest vs ho hv ih =>
    unfold rowsW at ih ⊢
    rw [List.map_cons, List.flatten_cons, List.length_append, List.length_cons]
    have : (rowsT B t).length ≤ 64 := by
      obtain ⟨leaf, rows, _, hl, hq, _, _, hge, _⟩ := okT_block ho
      unfold rowsT
      split
      · rw [hq]
        omega
      · simp
    omega
theorem p_sound {b : Nat} {w : Int} {B : List (Int × D)} (hb : M[b]? = some (.dct B)) (hL : ∀ M', Kp M M' → Look M' B) (hw : 3 ≤ w ∧ w ≤ 64) (hB : B.length ≤ 4000) :
    ∃ r M', g_sound [.ref b, .int w] M = some (.ok (.bl r) M') ∧ Kp M M' ∧ (r = true ↔ ∃ vs, SoundP B w vs) := by
  simp only [g_sound, b_sound, ev_def2]
  rcases p_leaves hb hL hw (by omega) with ⟨vs, dp, nm, M1, N, v1, v2, e, k1, d1, n1, lN⟩ | ⟨v1, M1, e, k1⟩
  · have e0 : b_sound_0 ([some (.ref b), some (.int w)] ++ List.replicate (6 - 2) none) M = some (.nx [some (.ref b), some (.int w), some (.tup [.ref dp, .ref nm]), none, none, none], M1) := by
      simp [b_sound_0, e]
    rw [seq_step e0]
    have j0 : ∀ M, oIx (.tup [.ref dp, .ref nm]) (.int 0) M = some (.ref dp, M) := fun M => ix0
    have j1 : ∀ M, oIx (.tup [.ref dp, .ref nm]) (.int 1) M = some (.ref nm, M) := fun M => ix1
    have q1 := len_dct n1
    have q2 := len_dct (k1.get hb)
    have uniq : ∀ vs', SoundP B w vs' → vs' = vs := fun vs' h => h.ws.det v1
    by_cases hl : N.length = B.length
    case neg =>
      refine ⟨false, M1, ?_, k1, ⟨fun h => (by cases h), fun ⟨vs', h⟩ => ?_⟩⟩
      · have hl' : ¬ ((N.length : Int) = (B.length : Int)) := by omega
        simp [b_sound_1, isNon, j1, q1, q2, hl']
      · have := uniq vs' h
        subst this
        exact absurd (lN.trans h.all) hl
    case pos =>
    have hl' : ((N.length : Int) = (B.length : Int)) := by omega
    have dlen : (depths B vs).length ≤ 4000 := by
      unfold depths
      rw [List.length_map]
      have := List.length_filter_le (fun t : Tl => leafB (blkOf B t.n)) vs
      omega
    have q3 : oLenSet (.ref dp) M1 = some (.int ((dist (depths B vs)).length : Int), M1) := by
      unfold oLenSet
      dsimp only
      rw [d1]
      dsimp only
      rw [intsOf_map]
      dsimp only
      exact if_pos dlen
    by_cases hd : (dist (depths B vs)).length = 1
    case neg =>
      refine ⟨false, M1, ?_, k1, ⟨fun h => (by cases h), fun ⟨vs', h⟩ => ?_⟩⟩
      · have hd' : ¬ (((dist (depths B vs)).length : Int) = 1) := by omega
        simp [b_sound_1, isNon, j0, j1, q1, q2, hl', q3, hd']
      · have := uniq vs' h
        subst this
        exact absurd h.flat hd
    case pos =>
    have e1 : b_sound_1 [some (.ref b), some (.int w), some (.tup [.ref dp, .ref nm]), none, none, none] M1 = some (.nx [some (.ref b), some (.int w), some (.tup [.ref dp, .ref nm]), none, none, none], M1) := by
      have hd' : (((dist (depths B vs)).length : Int) = 1) := by omega
      simp [b_sound_1, isNon, j0, j1, q1, q2, hl', q3, hd']
    rw [seq_step e1]
    obtain ⟨r, M2, e2, k2, _, r2⟩ := p_listed (k1.get hb) hw.2 v1 (by omega)
    have klen : (keysW B vs).length = (rowsW B vs).length := by unfold keysW; rw [List.length_map]
    have rlen := rowsW_len hw.2 v1
    have hi : mIter (mCall g_listed (mCons (mVar 0) mNil)) [some (.ref b), some (.int w), some (.tup [.ref dp, .ref nm]), none, none, none] M1 = some (.ok (Src.map (fun ds => ds) ⟨rowsW B vs, some (r, rowsW B vs)⟩) M2) := seq_at _ (by simp [e2]) (src_lst r2)
    have hlc0 := lcG_map (ok := Src.ok (Src.map (fun ds => ds) ⟨rowsW B vs, some (r, rowsW B vs)⟩)) (g := mName 5) (tt := mYes) (e := mBin oIx (mVar 5) (mC (.int 0))) (L := wipeL [some (.ref b), some (.int w), some (.tup [.ref dp, .ref nm]), none, none, none] [5]) (M := M2) (fun _ => true) (fun p => D.int (keyOf p)) r2 (rowsW B vs) (fun p hp => by
      obtain ⟨k, v, rfl⟩ := pair_of (rowsW_pair v1 p hp)
      refine ⟨_, rfl, rfl, fun _ => ?_⟩
      have i0 : ∀ M, oIx (.tup [.int k, v]) (.int 0) M = some (.int k, M) := fun M => ix0
      simp [wipeL, i0, keyOf])
    rw [List.filter_eq_self.mpr (fun _ _ => rfl), show (rowsW B vs).map (fun p => D.int (keyOf p)) = (keysW B vs).map .int by unfold keysW; rw [List.map_map]; rfl] at hlc0
    have hlc := lc_at hi hlc0 (by rw [List.length_map]; omega)
    have e3 : b_sound_2 [some (.ref b), some (.int w), some (.tup [.ref dp, .ref nm]), none, none, none] M1 = some (.nx [some (.ref b), some (.int w), some (.tup [.ref dp, .ref nm]), some (.ref M2.length), none, none], M2 ++ [.lst ((keysW B vs).map .int)]) := by
      rw [b_sound_2, ev_set, hlc]
      simp
    rw [seq_step e3]
    generalize hks : keysW B vs = ks at *
    have r3 : (M2 ++ [Ob.lst (ks.map .int)])[M2.length]? = some (.lst (ks.map .int)) := get_new
    have k3 : Kp M (M2 ++ [Ob.lst (ks.map .int)]) := (k1.trans k2).more _
    generalize hr3 : M2.length = q at *
    generalize M2 ++ [Ob.lst (ks.map .int)] = M3 at *
    have q4 := len_lst r3
    rw [List.length_map] at q4
    have hi2 : mRange2 (mC (.int 1)) (mCB oLen (mCons (mVar 3) mNil)) [some (.ref b), some (.int w), some (.tup [.ref dp, .ref nm]), some (.ref q), none, none] M3 = some (.ok ⟨rng 1 (ks.length - 1), none⟩ M3) := by
      rw [range2_int (i := 1) (j := (ks.length : Int)) (M1 := M3) (M2 := M3) (by simp) (by simp [q4]) ⟨by decide, by constructor <;> omega⟩]
      have : ((ks.length : Int) - 1).toNat = ks.length - 1 := by omega
      rw [this]
    obtain ⟨z, e4, hz⟩ := forG_gen (ok := Src.ok ⟨rng 1 (ks.length - 1), none⟩) (g := mName 4) (body := mIte (mT (mBin oLe (mBin oIx (mVar 3) (mVar 4)) (mBin oIx (mVar 3) (mBin oSub (mVar 4) (mC (.int 1)))))) (mRet (mC (.bl false))) mSkip)
      (fun z => (rise ks ∧ ∃ L, z = (.nx L, M3)) ∨ (¬ rise ks ∧ z = (.rt (.bl false), M3)))
      (fun k L M' => M' = M3 ∧ (∃ y, L = [some (.ref b), some (.int w), some (.tup [.ref dp, .ref nm]), some (.ref q), y, none]) ∧ ∀ (j : Nat) (a c : Int), j < k → ks[j]? = some a → ks[j + 1]? = some c → a < c) (rng 1 (ks.length - 1))
      (fun k L M' d hd ⟨hM, ⟨y, hLy⟩, hup⟩ => by
        subst hM hLy
        obtain ⟨rfl, hk⟩ := rng_get hd
        refine ⟨ok_non, _, rfl, ?_⟩
        have a1 : oIx (.ref q) (.int (1 + (k : Int))) M' = some (.int ks[k + 1], M') := ix_lst r3 (by
          rw [show (1 + (k : Int)) = ((k + 1 : Nat) : Int) by omega, atI_nat, List.getElem?_map, List.getElem?_eq_getElem (by omega)]
          rfl)
        have a2 : oIx (.ref q) (.int (1 + (k : Int) - 1)) M' = some (.int ks[k], M') := ix_lst r3 (by
          rw [show (1 + (k : Int) - 1) = ((k : Nat) : Int) by omega, atI_nat, List.getElem?_map, List.getElem?_eq_getElem (by omega)]
          rfl)
        have g1 : ks[k]? = some ks[k] := List.getElem?_eq_getElem (by omega)
        have g2 : ks[k + 1]? = some ks[k + 1] := List.getElem?_eq_getElem (by omega)
        by_cases hle : ks[k + 1] ≤ ks[k]
        · exact ⟨(.rt (.bl false), M'), by simp [a1, a2, hle], .inr ⟨fun h => absurd (h k _ _ g1 g2) (by omega), rfl⟩⟩
        · refine ⟨(.nx [some (.ref b), some (.int w), some (.tup [.ref dp, .ref nm]), some (.ref q), some (.int (1 + (k : Int))), none], M'), by simp [a1, a2, hle], rfl, ⟨_, rfl⟩, fun j a c hj ha hc => ?_⟩
          by_cases e : j = k
          · subst e
            rw [g1] at ha
            rw [g2] at hc
            cases ha
            cases hc
            omega
          · exact hup j a c (by omega) ha hc)
      (fun L M' ⟨hM, ⟨y, hLy⟩, hup⟩ => by
        subst hM hLy
        rw [rng_length] at hup
        refine ⟨ok_non, .inl ⟨fun j a c ha hc => hup j a c ?_ ha hc, _, rfl⟩⟩
        have := (List.getElem?_eq_some_iff.mp hc).1
        omega) (L := [some (.ref b), some (.int w), some (.tup [.ref dp, .ref nm]), some (.ref q), none, none]) (M := M3) ⟨rfl, ⟨_, rfl⟩, fun j a c hj => by omega⟩
    have e5 : b_sound_3 [some (.ref b), some (.int w), some (.tup [.ref dp, .ref nm]), some (.ref q), none, none] M3 = some z := by
      rw [b_sound_3, for_at hi2]
      exact e4
    rcases hz with ⟨hup, L, rfl⟩ | ⟨hup, rfl⟩
    · refine ⟨true, M3, ?_, k3, ⟨fun _ => ⟨vs, v1, v2, by omega, hd, by rw [hks]; exact hup⟩, fun _ => rfl⟩⟩
      rw [seq_step e5]
      simp [b_sound_4]
    · refine ⟨false, M3, ?_, k3, ⟨fun h => (by cases h), fun ⟨vs', h⟩ => ?_⟩⟩
      · rw [ev_seq, e5]
        rfl
      · have := uniq vs' h
        subst this
        rw [← hks] at hup
        exact absurd h.up hup
  · have e0 : b_sound_0 ([some (.ref b), some (.int w)] ++ List.replicate (6 - 2) none) M = some (.nx [some (.ref b), some (.int w), some .non, none, none, none], M1) := by
      simp [b_sound_0, e]
    rw [seq_step e0]
    refine ⟨false, M1, by simp [b_sound_1, isNon], k1, ⟨fun h => (by cases h), fun ⟨vs, h⟩ => absurd h.nd (v1 vs h.ws)⟩⟩
end BP
/-! BLMake: trees put together. -/
namespace BP
open BL
open PySem (Str)
variable {M : Mem}
theorem WS.append {B : List (Int × D)} {w : Int} {s1 v1 : List Tl} (h : WS B w s1 v1) {s2 v2 : List Tl} (h2 : WS B w s2 v2) : WS B w (s1 ++ s2) (v1 ++ v2) := by
  induction h with
  | nil => exact h2
  | step ho hv ih =>
    rw [List.append_assoc] at ih
    exact .step ho ih
theorem WS.split {B : List (Int × D)} {w : Int} {s v : List Tl} (h : WS B w s v) : ∀ {s1 s2 : List Tl}, s = s1 ++ s2 → ∃ v1 v2, v = v1 ++ v2 ∧ WS B w s1 v1 ∧ WS B w s2 v2 := by
  induction h with
  | nil =>
    intro s1 s2 e
    obtain ⟨rfl, rfl⟩ := List.append_eq_nil_iff.mp e.symm
    exact ⟨[], [], rfl, .nil, .nil⟩
  | @step t rest vs ho hv ih =>
    intro s1 s2 e
    cases s1 with
    | nil =>
      rw [List.nil_append] at e
      subst e
      exact ⟨[], _, rfl, .nil, .step ho hv⟩
    | cons a s1 =>
      rw [List.cons_append] at e
      obtain ⟨rfl, rfl⟩ := List.cons.inj e
      obtain ⟨v1, v2, rfl, h1, h2⟩ := ih (s1 := kids B t ++ s1) (s2 := s2) (by rw [List.append_assoc])
      exact ⟨t :: v1, v2, rfl, .step ho h1, h2⟩
/-- the same blocks at the numbers that are met -/
theorem WS.agree {B B' : List (Int × D)} {w : Int} {s v : List Tl} (h : WS B w s v) (e : ∀ t ∈ v, aget B' t.n = aget B t.n) : WS B' w s v := by
  induction h with
  | nil => exact .nil
  | @step t rest vs ho hv ih =>
    have et := e t List.mem_cons_self
    have eb : blkOf B' t.n = blkOf B t.n := by unfold blkOf; rw [et]
    refine .step ?_ ?_
    · unfold okT keyOk at ho ⊢
      rw [eb]
      exact ho
    · have : kids B' t = kids B t := by unfold kids; rw [eb]
      rw [this]
      exact ih fun u hu => e u (List.mem_cons_of_mem _ hu)
theorem rowsW_app {B : List (Int × D)} (a b : List Tl) : rowsW B (a ++ b) = rowsW B a ++ rowsW B b := by
  unfold rowsW
  rw [List.map_append, List.flatten_append]
theorem depths_app {B : List (Int × D)} (a b : List Tl) : depths B (a ++ b) = depths B a ++ depths B b := by
  unfold depths
  rw [List.filter_append, List.map_append]
theorem cut_mid {α : Type} (xs : List α) (a b : Nat) (h : a ≤ b) (hb : b ≤ xs.length) : cutD xs (some (a : Int)) (some (b : Int)) = (xs.drop a).take (b - a) := by
  unfold cutD
  rw [HT.sIx_nat, HT.sIx_nat, Nat.min_eq_left (show a ≤ xs.length by omega), Nat.min_eq_left hb]
/-! ### how many rows -/
theorem many_ok {n w a : Nat} (hw : 3 ≤ w) (h1 : n ≤ a * w) (h2 : (a - 1) * w < n) (ha : 2 ≤ a) : a * ((w + 1) / 2) ≤ n := by
  obtain ⟨c, rfl⟩ : ∃ c, a = c + 2 := ⟨a - 2, by omega⟩
  generalize hh : (w + 1) / 2 = h
  have h3 : 2 * h ≤ w + 1 := by omega
  have h4 : (c + 2) * (2 * h) ≤ (c + 2) * (w + 1) := Nat.mul_le_mul_left _ h3
  have h5 : (c + 2) * (2 * h) = 2 * ((c + 2) * h) := by rw [Nat.mul_left_comm]
  have h6 : (c + 2) * (w + 1) = c * w + c + 2 * w + 2 := by rw [Nat.add_mul, Nat.mul_add]; omega
  have h7 : (c + 2 - 1) * w = c * w + w := by rw [show c + 2 - 1 = c + 1 by omega, Nat.add_mul, Nat.one_mul]
  have h8 : c ≤ c * w := Nat.le_mul_of_pos_right c (by omega)
  omega
theorem ceil_of {n w : Nat} (hw : 0 < w) (hn : w < n) : ∃ a : Nat, -(-(n : Int) / (w : Int)) = (a : Int) ∧ 2 ≤ a ∧ n ≤ a * w ∧ (a - 1) * w < n := by
  generalize he : -(n : Int) / (w : Int) = e
  have h1 := Int.emod_nonneg (-(n : Int)) (show (w : Int) ≠ 0 by omega)
  have h2 := Int.emod_lt_of_pos (-(n : Int)) (show 0 < (w : Int) by omega)
  have h3 := Int.mul_ediv_add_emod (-(n : Int)) (w : Int)
  rw [he] at h3
  have hneg : e < 0 := by
    by_cases hh : 0 ≤ e
    · have := Int.mul_nonneg (show (0 : Int) ≤ (w : Int) by omega) hh
      omega
    · omega
  obtain ⟨a, ha⟩ := Int.eq_ofNat_of_zero_le (show 0 ≤ -e by omega)
  have hea : e = -(a : Int) := by omega
  subst hea
  rw [Int.mul_neg] at h3
  have hc : (w : Int) * (a : Int) = ((a * w : Nat) : Int) := by rw [Int.natCast_mul, Int.mul_comm]
  rw [hc] at h3
  have ha1 : 1 ≤ a := by omega
  have hpred : (a - 1) * w + w = a * w := by
    obtain ⟨c, rfl⟩ : ∃ c, a = c + 1 := ⟨a - 1, by omega⟩
    rw [Nat.add_sub_cancel, Nat.add_mul, Nat.one_mul]
  refine ⟨a, by omega, ?_, by omega, by omega⟩
  by_cases h4 : a = 1
  · subst h4
    omega
  · omega
/-- sizes as even as can be -/
theorem sizes_ok {n m w : Nat} (hm : 0 < m) (h1 : n ≤ m * w) (h2 : m * ((w + 1) / 2) ≤ n) (k : Nat) (hk : k < m) : (w + 1) / 2 ≤ n / m + (if k < n % m then 1 else 0) ∧ n / m + (if k < n % m then 1 else 0) ≤ w := by
  have h3 : (w + 1) / 2 ≤ n / m := (Nat.le_div_iff_mul_le hm).mpr (by rw [Nat.mul_comm]; exact h2)
  have h4 : n / m ≤ w := by
    have := Nat.div_le_div_right (c := m) h1
    rwa [Nat.mul_div_cancel_left w hm] at this
  refine ⟨by omega, ?_⟩
  split
  · rename_i hr
    have h5 : n / m < w := by
      have h6 := Nat.div_add_mod n m
      by_cases h7 : n / m = w
      · rw [h7] at h6
        omega
      · omega
    omega
  · omega
/-- a level cut into rows -/
theorem p_level {p : Nat} {ps : List D} {w : Nat} {c : Int} (hp : M[p]? = some (.lst ps)) (hw : 3 ≤ w ∧ w ≤ 64) (hn : w < ps.length ∧ ps.length ≤ 100000) :
    ∃ (r : Nat) (rows : List (List D)) (M' : Mem), g_law_level [.ref p, .int w, .int c] M = some (.ok (.ref r) M') ∧ Kp M M' ∧ M.length ≤ r ∧ M'[r]? = some (.lst (rows.map .tup)) ∧ rows.flatten = ps ∧ (∀ row ∈ rows, (w + 1) / 2 ≤ row.length ∧ row.length ≤ w) ∧ 2 ≤ rows.length ∧ rows.length < ps.length := by
  generalize hlen : ps.length = n at *
  obtain ⟨a, ea, ha2, ha, ha1⟩ := ceil_of (n := n) (w := w) (by omega) hn.1
  have hb := many_ok hw.1 ha ha1 ha2
  generalize hh : (w + 1) / 2 = h at *
  have hh2 : 2 ≤ h := by omega
  have hbd : a ≤ n / h := (Nat.le_div_iff_mul_le (by omega)).mpr hb
  have q1 := len_lst hp
  rw [hlen] at q1
  have hwi : (0 : Int) < (w : Int) := by omega
  have e0 : b_law_level_0 ([some (.ref p), some (.int w), some (.int c)] ++ List.replicate (10 - 3) none) M = some (.nx [some (.ref p), some (.int w), some (.int c), some (.int a), none, none, none, none, none, none], M) := by
    have hwl : (w : Int) < 1073741824 := by omega
    have hw0 : 0 < w := by omega
    simp [b_law_level_0, q1, hw0, hwl, ea]
  have e1 : b_law_level_1 [some (.ref p), some (.int w), some (.int c), some (.int a), none, none, none, none, none, none] M = some (.nx [some (.ref p), some (.int w), some (.int c), some (.int a), some (.int ((n / h : Nat) : Int)), none, none, none, none, none], M) := by
    have hhi : ((w : Int) + 1) / 2 = (h : Int) := by omega
    have hp1 : (0 : Int) < (h : Int) := by omega
    have hp2 : (h : Int) < 1073741824 := by omega
    have hdiv : (n : Int) / (h : Int) = ((n / h : Nat) : Int) := (Int.natCast_ediv n h).symm
    generalize n / h = b at *
    have hb1 : ¬ ((b : Int) > 1) ∨ (b : Int) > 1 := by omega
    have hmx : (if (b : Int) > 1 then (b : Int) else 1) = (b : Int) := by
      split
      · rfl
      · omega
    have hmx' : (if (1 : Int) < (b : Int) then (b : Int) else 1) = (b : Int) := hmx
    have hp0 : 0 < h := by omega
    simp [b_law_level_1, q1, hhi, hp0, hp2, hdiv]
    omega
  have hbn : n / h * h ≤ n := Nat.div_mul_le_self n h
  generalize n / h = b at *
  obtain ⟨m, hm1, hm2, e2⟩ : ∃ m : Nat, a ≤ m ∧ m ≤ b ∧ b_law_level_2 [some (.ref p), some (.int w), some (.int c), some (.int a), some (.int b), none, none, none, none, none] M = some (.nx [some (.ref p), some (.int w), some (.int c), some (.int a), some (.int b), some (.int m), none, none, none, none], M) := by
    have hp1 : (0 : Int) < (b : Int) - (a : Int) + 1 := by omega
    have c1 := Int.emod_nonneg c (show (b : Int) - (a : Int) + 1 ≠ 0 by omega)
    have c2 := Int.emod_lt_of_pos c hp1
    obtain ⟨m, hm⟩ := Int.eq_ofNat_of_zero_le (show 0 ≤ (a : Int) + c % ((b : Int) - (a : Int) + 1) by omega)
    exact ⟨m, by omega, by omega, by simp [b_law_level_2, hp1, hm]⟩
  have hmw : n ≤ m * w := Nat.le_trans ha (Nat.mul_le_mul_right _ hm1)
  have hmh : m * h ≤ n := Nat.le_trans (Nat.mul_le_mul_right _ hm2) hbn
  have hmpos : 0 < m := by omega
  have hmn : m < n := by
    have : m * 2 ≤ m * h := Nat.mul_le_mul_left _ hh2
    omega
  have hdm := Nat.div_add_mod n m
  have hml : n % m < m := Nat.mod_lt n hmpos
  have hsz := fun k hk => sizes_ok (n := n) (w := w) hmpos hmw (by rw [hh]; exact hmh) k hk
  have cdiv : (n : Int) / (m : Int) = ((n / m : Nat) : Int) := (Int.natCast_ediv n m).symm
  have cmod : (n : Int) % (m : Int) = ((n % m : Nat) : Int) := (Int.natCast_emod n m).symm
  generalize n / m = q at *
  generalize n % m = rr at *
  have hmi : (0 : Int) < (m : Int) := by omega
  have hmi2 : (m : Int) < 1073741824 := by omega
  have e34 : mSeq b_law_level_3 b_law_level_4 [some (.ref p), some (.int w), some (.int c), some (.int a), some (.int b), some (.int m), none, none, none, none] M = some (.nx [some (.ref p), some (.int w), some (.int c), some (.int a), some (.int b), some (.int m), some (.ref M.length), some (.int 0), none, none], M ++ [.lst []]) := by
    simp [b_law_level_3, b_law_level_4]
  have hi : mRange1 (mVar 5) [some (.ref p), some (.int w), some (.int c), some (.int a), some (.int b), some (.int m), some (.ref M.length), some (.int 0), none, none] (M ++ [.lst []]) = some (.ok ⟨rng 0 m, none⟩ (M ++ [.lst []])) := range1_int (j := (m : Int)) (by simp) (by constructor <;> omega)
  obtain ⟨L', M', e5, rows, y, z, rfl, k1, k2, k3, k4, k5⟩ := forG_run (ok := Src.ok ⟨rng 0 m, none⟩) (g := mName 8) (body := mSeq (mSet 9 (mBin oAdd (mBin oDiv (mCB oLen (mCons (mVar 0) mNil)) (mVar 5)) (mCB oInt (mCons (mBin oLt (mVar 8) (mBin oMod (mCB oLen (mCons (mVar 0) mNil)) (mVar 5))) mNil)))) (mSeq (mExpr (mMtL oAppend (mVar 6) (mCons (mCB oTuple (mCons (mSl (mVar 0) (mSome (mVar 7)) (mSome (mBin oAdd (mVar 7) (mVar 9)))) mNil)) mNil))) (mSet 7 (mBin oAdd (mVar 7) (mVar 9)))))
    (fun k L M' => ∃ (rows : List (List D)) (y z : Option D), L = [some (.ref p), some (.int w), some (.int c), some (.int a), some (.int b), some (.int m), some (.ref M.length), some (.int ((k * q + min k rr : Nat) : Int)), y, z] ∧ Kp M M' ∧ M'[M.length]? = some (.lst (rows.map .tup)) ∧ rows.flatten = ps.take (k * q + min k rr) ∧ rows.length = k ∧ ∀ row ∈ rows, h ≤ row.length ∧ row.length ≤ w) (rng 0 m)
    (fun k L M' d hd ⟨rows, y, z, hL, k1, k2, k3, k4, k5⟩ => by
      subst hL
      obtain ⟨rfl, hk⟩ := rng_get hd
      refine ⟨ok_non, _, rfl, ?_⟩
      have hs := hsz k hk
      generalize hsz2 : q + (if k < rr then 1 else 0) = sz at hs
      have hat : (k + 1) * q + min (k + 1) rr = k * q + min k rr + sz := by
        rw [Nat.add_mul, Nat.one_mul]
        split at hsz2 <;> omega
      have hle : k * q + min k rr + sz ≤ n := by
        rw [← hat]
        have : (k + 1) * q ≤ m * q := Nat.mul_le_mul_right _ hk
        omega
      generalize hA : k * q + min k rr = at_ at *
      have q1' := len_lst (k1.get hp)
      rw [hlen] at q1'
      have f1 : mSet 9 (mBin oAdd (mBin oDiv (mCB oLen (mCons (mVar 0) mNil)) (mVar 5)) (mCB oInt (mCons (mBin oLt (mVar 8) (mBin oMod (mCB oLen (mCons (mVar 0) mNil)) (mVar 5))) mNil))) ([some (.ref p), some (.int w), some (.int c), some (.int a), some (.int b), some (.int m), some (.ref M.length), some (.int at_), y, z].set 8 (some (.int (0 + (k : Int))))) M' = some (.nx [some (.ref p), some (.int w), some (.int c), some (.int a), some (.int b), some (.int m), some (.ref M.length), some (.int at_), some (.int k), some (.int sz)], M') := by
        have hm0 : 0 < m := hmpos
        by_cases hkr : k < rr
        · have hz : (q : Int) + 1 = (sz : Int) := by rw [if_pos hkr] at hsz2; omega
          simp [q1', hm0, hmi2, cdiv, cmod, hkr, hz]
        · have hz : (q : Int) = (sz : Int) := by rw [if_neg hkr] at hsz2; omega
          simp [q1', hm0, hmi2, cdiv, cmod, hkr, hz]
      have hs1 : ∀ L M, L[7]? = some (some (D.int (at_ : Int))) → mSome (mVar 7) L M = some (.ok (some (at_ : Int)) M) := fun L M h => ev_some (by simp [h])
      have hs2 : ∀ L M, L[7]? = some (some (D.int (at_ : Int))) → L[9]? = some (some (D.int (sz : Int))) → mSome (mBin oAdd (mVar 7) (mVar 9)) L M = some (.ok (some ((at_ + sz : Nat) : Int)) M) := fun L M h h' => ev_some (by simp [h, h'])
      have hsl : oSl (.ref p) (some (at_ : Int)) (some ((at_ + sz : Nat) : Int)) M' = some (.ref M'.length, M' ++ [.lst ((ps.drop at_).take sz)]) := by
        rw [sl_lst (k1.get hp), cut_mid _ _ _ (by omega) (by omega), Nat.add_sub_cancel_left]
      generalize hrow : (ps.drop at_).take sz = row at *
      have lrow : row.length = sz := by rw [← hrow, List.length_take, List.length_drop]; omega
      have htp : oTuple [.ref M'.length] (M' ++ [.lst row]) = _ := tuple_lst get_new
      have hap := append_lst (d := .tup row) (get_app (J := [Ob.lst row]) k2) (by simp; omega)
      refine ⟨[some (.ref p), some (.int w), some (.int c), some (.int a), some (.int b), some (.int m), some (.ref M.length), some (.int ((at_ + sz : Nat) : Int)), some (.int k), some (.int sz)], (M' ++ [Ob.lst row]).set M.length (Ob.lst (rows.map D.tup ++ [D.tup row])), ?_, rows ++ [row], some (.int k), some (.int sz), by rw [hat], (k1.more _).set (Nat.le_refl _) _, ?_, ?_, by simp [k4], fun x hx => ?_⟩
      · rw [seq_step f1]
        simp only [Int.natCast_add] at hs2 hsl
        simp [k2, hs1, hs2, hsl, htp, hap]
      · rw [List.map_append]
        exact get_set_eq (get_app k2)
      · rw [hat, List.flatten_append, k3, List.take_add, hrow]
        simp
      · rcases List.mem_append.mp hx with hx | hx
        · exact k5 x hx
        · rw [List.mem_singleton.mp hx, lrow]
          rw [hh] at hs
          exact hs)
    (fun L M' _ => ok_non) (L := [some (.ref p), some (.int w), some (.int c), some (.int a), some (.int b), some (.int m), some (.ref M.length), some (.int 0), none, none]) (M := M ++ [.lst []]) ⟨[], none, none, by simp, Kp.app _ _, get_new, by simp, rfl, fun x hx => by (cases hx)⟩
  rw [rng_length] at k3 k4
  have hall : m * q + min m rr = n := by rw [Nat.min_eq_right (by omega)]; exact hdm
  rw [hall, ← hlen, List.take_length] at k3
  refine ⟨M.length, rows, M', ?_, k1, Nat.le_refl _, k2, k3, k5, by omega, by omega⟩
  simp only [g_law_level, ev_def3]
  rw [b_law_level, seq_step e0, seq_step e1, seq_step e2, seq2 e34, ev_seq, b_law_level_5, for_at hi]
  rw [e5]
  simp [b_law_level_6]
end BP
/-! BLMade: a level's blocks laid. -/
namespace BP
open BL
open PySem (Str)
variable {M : Mem}
abbrev kindS (leaf : Bool) : Str := if leaf = true then leafS else branchS
def blkD (leaf : Bool) (row : List D) : D := .tup [.str (kindS leaf), .tup row]
/-- the key of a row's first pair -/
def headKey : List D → Int
  | [] => 0
  | p :: _ => keyOf p
/-- the rows laid as blocks from number nx on -/
def addRows (leaf : Bool) (s : Int) : List (Int × D) → Int → List (List D) → List (Int × D)
  | B, _, [] => B
  | B, nx, row :: rows => addRows leaf s (aput B nx (blkD leaf row)) (nx + s) rows
def above (s : Int) : Int → List (List D) → List D
  | _, [] => []
  | nx, row :: rows => .tup [.int (headKey row), .int nx] :: above s (nx + s) rows
def numAt (s : Int) : Int → List (List D) → Int
  | nx, [] => nx
  | nx, _ :: rows => numAt s (nx + s) rows
theorem above_len (s : Int) : ∀ (nx : Int) (rows : List (List D)), (above s nx rows).length = rows.length
  | _, [] => rfl
  | nx, row :: rows => by rw [above, List.length_cons, List.length_cons, above_len]
theorem addRows_len (leaf : Bool) (s : Int) : ∀ (rows : List (List D)) (B : List (Int × D)) (nx : Int), (addRows leaf s B nx rows).length ≤ B.length + rows.length
  | [], B, nx => by simp [addRows]
  | row :: rows, B, nx => by
    rw [addRows]
    have h1 := addRows_len leaf s rows (aput B nx (blkD leaf row)) (nx + s)
    have h2 := len_aput (kvs := B) (k := nx) (d := blkD leaf row)
    rw [List.length_cons]
    omega
noncomputable def tbB : GS := mSeq (mPut oPutA (mVar 3) (mVar 5) (mTup (mCons (mVar 4) (mCons (mVar 7) mNil)))) (mSeq (mExpr (mMtL oAppend (mVar 6) (mCons (mTup (mCons (mBin oIx (mBin oIx (mVar 7) (mC (.int 0))) (mC (.int 0))) (mCons (mVar 5) mNil))) mNil))) (mSet 5 (mBin oAdd (mBin oAdd (mVar 5) (mC (.int 1))) (mBin oMod (mBin oDiv (mVar 2) (mC (.int 5))) (mC (.int 2))))))
/-- the inner loop -/
theorem tb_rows {p bi ai q : Nat} {w c s : Int} {leaf : Bool} {whole : List D} (hs : 1 + c / 5 % 2 = s) : ∀ (rows : List (List D)) (B : List (Int × D)) (A : List D) (nx : Int) (M' : Mem) (x7 : Option D),
    M.length ≤ bi → M.length ≤ ai → q ≠ bi → q ≠ ai → bi ≠ ai → Kp M M' → M'[bi]? = some (.dct B) → M'[ai]? = some (.lst A) → M'[q]? = some (.lst whole) → (∀ row ∈ rows, 0 < row.length ∧ ∀ x ∈ row, ∃ (k : Int) (v : D), x = .tup [.int k, v]) → B.length + rows.length ≤ 100000 → A.length + rows.length ≤ 100000 →
    ∃ M'' y7, forG (Src.ok ⟨whole, some (q, whole)⟩) (mName 7) tbB (rows.map .tup) [some (.ref p), some (.int w), some (.int c), some (.ref bi), some (.str (kindS leaf)), some (.int nx), some (.ref ai), x7] M' = some (.nx [some (.ref p), some (.int w), some (.int c), some (.ref bi), some (.str (kindS leaf)), some (.int (numAt s nx rows)), some (.ref ai), y7], M'') ∧
      Kp M M'' ∧ M''[bi]? = some (.dct (addRows leaf s B nx rows)) ∧ M''[ai]? = some (.lst (A ++ above s nx rows)) ∧ M''[q]? = some (.lst whole)
  | [], B, A, nx, M', x7, _, _, _, _, _, hk, h1, h2, h3, _, _, _ => by
    refine ⟨M', x7, ?_, hk, h1, by simpa [above] using h2, h3⟩
    unfold forG
    exact if_pos h3
  | row :: rows, B, A, nx, M', x7, hbi, hai, hqb, hqa, hne, hk, h1, h2, h3, hr, hB, hA => by
    obtain ⟨hr0, hrp⟩ := hr row List.mem_cons_self
    rw [List.length_cons] at hB hA
    obtain ⟨x, r', hrow⟩ : ∃ x r', row = x :: r' := by
      cases row with
      | nil => simp at hr0
      | cons x r' => exact ⟨x, r', rfl⟩
    obtain ⟨k, v, hx⟩ := hrp x (by rw [hrow]; exact List.mem_cons_self)
    have i0 : ∀ M, oIx (.tup row) (.int 0) M = some (.tup [.int k, v], M) := fun M => by rw [hrow, hx]; exact ix0
    have i00 : ∀ M, oIx (.tup [.int k, v]) (.int 0) M = some (.int k, M) := fun M => ix0
    have hkey : headKey row = k := by rw [hrow, hx]; rfl
    have g1 := put_dct (k := nx) (d := blkD leaf row) h1 (by omega)
    generalize hM1 : M'.set bi (Ob.dct (aput B nx (blkD leaf row))) = M1 at g1
    have a1 : M1[ai]? = some (.lst A) := by rw [← hM1, get_set_ne hne]; exact h2
    have b1 : M1[bi]? = some (.dct (aput B nx (blkD leaf row))) := by rw [← hM1]; exact get_set_eq h1
    have c1 : M1[q]? = some (.lst whole) := by rw [← hM1, get_set_ne (Ne.symm hqb)]; exact h3
    have g2 := append_lst (d := .tup [.int k, .int nx]) a1 (by omega)
    generalize hM2 : M1.set ai (Ob.lst (A ++ [.tup [.int k, .int nx]])) = M2 at g2
    have a2 : M2[ai]? = some (.lst (A ++ [.tup [.int k, .int nx]])) := by rw [← hM2]; exact get_set_eq a1
    have b2 : M2[bi]? = some (.dct (aput B nx (blkD leaf row))) := by rw [← hM2, get_set_ne (Ne.symm hne)]; exact b1
    have c2 : M2[q]? = some (.lst whole) := by rw [← hM2, get_set_ne (Ne.symm hqa)]; exact c1
    have k2 : Kp M M2 := by rw [← hM2, ← hM1]; exact (hk.set hbi _).set hai _
    have step : tbB [some (.ref p), some (.int w), some (.int c), some (.ref bi), some (.str (kindS leaf)), some (.int nx), some (.ref ai), some (.tup row)] M' = some (.nx [some (.ref p), some (.int w), some (.int c), some (.ref bi), some (.str (kindS leaf)), some (.int (nx + s)), some (.ref ai), some (.tup row)], M2) := by
      have hns : nx + 1 + c / 5 % 2 = nx + s := by omega
      have g1' : oPutA (.ref bi) (.int nx) (.tup [.str (kindS leaf), .tup row]) M' = some M1 := g1
      simp [tbB, g1', i0, i00, a1, g2, hns]
    have hlen := len_aput (kvs := B) (k := nx) (d := blkD leaf row)
    obtain ⟨M3, y7, e, k3, b3, a3, c3⟩ := tb_rows hs rows (aput B nx (blkD leaf row)) (A ++ [.tup [.int k, .int nx]]) (nx + s) M2 (some (.tup row)) hbi hai hqb hqa hne k2 b2 a2 c2 (fun r hr2 => hr r (List.mem_cons_of_mem _ hr2)) (by omega) (by simp; omega)
    refine ⟨M3, y7, ?_, k3, b3, ?_, c3⟩
    · rw [List.map_cons]
      unfold forG
      rw [if_pos (show Src.ok ⟨whole, some (q, whole)⟩ M' from h3)]
      show (match tbB [some (.ref p), some (.int w), some (.int c), some (.ref bi), some (.str (kindS leaf)), some (.int nx), some (.ref ai), some (.tup row)] M' with
        | some (.nx L2, M2) => forG _ _ tbB _ L2 M2
        | some (.ct L2, M2) => forG _ _ tbB _ L2 M2
        | some (.bk L2, M2) => some (.nx L2, M2)
        | r => r) = _
      rw [step]
      exact e
    · rw [above, hkey]
      simpa using a3
noncomputable def toB : GS := mSeq (mSet 6 (mLst mNil)) (mSeq (mFor (mIter (mCall g_law_level (mCons (mVar 0) (mCons (mVar 1) (mCons (mBin oDiv (mVar 2) (mC (.int 3))) mNil))))) (mName 7) tbB) (mSeq (mSet 0 (mVar 6)) (mSet 4 (mC (.str "branch")))))
noncomputable def toT : GT := mT (mBin oGt (mCB oLen (mCons (mVar 0) mNil)) (mVar 1))
theorem to_eq : b_law_tree_by_3 = mWhile toT toB := rfl
/-- pairs, whose first things are whole numbers -/
def pairsD (ps : List D) : Prop := ∀ x ∈ ps, ∃ (k : Int) (v : D), x = .tup [.int k, v]
theorem above_pairs (s : Int) : ∀ (nx : Int) (rows : List (List D)), pairsD (above s nx rows)
  | _, [] => fun x hx => by cases hx
  | nx, row :: rows => fun x hx => by
    rw [above] at hx
    rcases List.mem_cons.mp hx with rfl | hx
    · exact ⟨_, _, rfl⟩
    · exact above_pairs s (nx + s) rows x hx
/-- what a level is cut into -/
structure Cut (w : Nat) (ps : List D) (rows : List (List D)) : Prop where
  flat : rows.flatten = ps
  size : ∀ row ∈ rows, (w + 1) / 2 ≤ row.length ∧ row.length ≤ w
  two : 2 ≤ rows.length
  less : rows.length < ps.length
theorem to_step {p bi : Nat} {w : Nat} {c s nx : Int} {leaf : Bool} {B : List (Int × D)} {ps : List D} {M' : Mem} {x6 x7 : Option D} (hs : 1 + c / 5 % 2 = s) (hw : 3 ≤ w ∧ w ≤ 64) (hbi : M.length ≤ bi) (hk : Kp M M') (h1 : M'[bi]? = some (.dct B)) (h2 : M'[p]? = some (.lst ps)) (hps : pairsD ps) (hn : w < ps.length ∧ ps.length ≤ 10000) (hB : B.length ≤ 50000) :
    ∃ rows p' y7 M'', toB [some (.ref p), some (.int w), some (.int c), some (.ref bi), some (.str (kindS leaf)), some (.int nx), x6, x7] M' = some (.nx [some (.ref p'), some (.int w), some (.int c), some (.ref bi), some (.str (kindS false)), some (.int (numAt s nx rows)), some (.ref p'), y7], M'') ∧
      Cut w ps rows ∧ Kp M M'' ∧ M''[bi]? = some (.dct (addRows leaf s B nx rows)) ∧ M''[p']? = some (.lst (above s nx rows)) := by
  have hbl := get_lt h1
  obtain ⟨r, rows, M2, e, k2, hr, r2, c1, c2, c3, c4⟩ := p_level (M := M' ++ [Ob.lst []]) (c := c / 3) (get_app h2) hw ⟨hn.1, by omega⟩
  have hlen1 : (M' ++ [Ob.lst []]).length = M'.length + 1 := by simp
  have a2 : M2[M'.length]? = some (.lst []) := k2.get get_new
  have b2 : M2[bi]? = some (.dct B) := k2.get (get_app h1)
  have hi : mIter (mCall g_law_level (mCons (mVar 0) (mCons (mVar 1) (mCons (mBin oDiv (mVar 2) (mC (.int 3))) mNil)))) [some (.ref p), some (.int w), some (.int c), some (.ref bi), some (.str (kindS leaf)), some (.int nx), some (.ref M'.length), x7] (M' ++ [Ob.lst []]) = some (.ok (Src.map (fun ds => ds) ⟨rows.map .tup, some (r, rows.map .tup)⟩) M2) := seq_at _ (by simp [e]) (src_lst r2)
  obtain ⟨M3, y7, e3, k3, b3, a3, _⟩ := tb_rows (M := M) (p := p) (bi := bi) (ai := M'.length) (q := r) (w := w) (leaf := leaf) hs rows B [] nx M2 x7 hbi hk.len (by omega) (by omega) (by omega) ((hk.more _).trans k2) b2 a2 r2 (fun row hrow => ⟨by have := (c2 row hrow).1; omega, fun x hx => hps x (by rw [← c1]; exact List.mem_flatten.mpr ⟨row, hrow, hx⟩)⟩) (by omega) (by simp; omega)
  refine ⟨rows, M'.length, y7, M3, ?_, ⟨c1, c2, c3, c4⟩, k3, b3, by simpa using a3⟩
  have f0 : mSet 6 (mLst mNil) [some (.ref p), some (.int w), some (.int c), some (.ref bi), some (.str (kindS leaf)), some (.int nx), x6, x7] M' = some (.nx [some (.ref p), some (.int w), some (.int c), some (.ref bi), some (.str (kindS leaf)), some (.int nx), some (.ref M'.length), x7], M' ++ [Ob.lst []]) := by simp
  have f1 : mFor (mIter (mCall g_law_level (mCons (mVar 0) (mCons (mVar 1) (mCons (mBin oDiv (mVar 2) (mC (.int 3))) mNil))))) (mName 7) tbB [some (.ref p), some (.int w), some (.int c), some (.ref bi), some (.str (kindS leaf)), some (.int nx), some (.ref M'.length), x7] (M' ++ [Ob.lst []]) = some (.nx [some (.ref p), some (.int w), some (.int c), some (.ref bi), some (.str (kindS leaf)), some (.int (numAt s nx rows)), some (.ref M'.length), y7], M3) := by
    rw [for_at hi]
    exact e3
  rw [toB, seq_step f0, seq_step f1]
  simp
  rfl
/-- the outer loop, by an invariant -/
theorem to_while {bi : Nat} {w : Nat} {c s : Int} (P : Bool → List (Int × D) → List D → Int → Prop) (hs : 1 + c / 5 % 2 = s) (hw : 3 ≤ w ∧ w ≤ 64) (hbi : M.length ≤ bi)
    (step : ∀ leaf B ps nx rows, P leaf B ps nx → Cut w ps rows → P false (addRows leaf s B nx rows) (above s nx rows) (numAt s nx rows)) : ∀ (m : Nat) (leaf : Bool) (B : List (Int × D)) (ps : List D) (nx : Int) (p : Nat) (M' : Mem) (x6 x7 : Option D),
    ps.length ≤ m → P leaf B ps nx → Kp M M' → M'[bi]? = some (.dct B) → M'[p]? = some (.lst ps) → pairsD ps → m ≤ 10000 → B.length + m * m ≤ 50000 + m * m → B.length + 2 * ps.length ≤ 40000 →
    ∃ n leaf' B' ps' nx' p' y6 y7 M'', whileF toT toB n [some (.ref p), some (.int w), some (.int c), some (.ref bi), some (.str (kindS leaf)), some (.int nx), x6, x7] M' = some (.nx [some (.ref p'), some (.int w), some (.int c), some (.ref bi), some (.str (kindS leaf')), some (.int nx'), y6, y7], M'') ∧
      P leaf' B' ps' nx' ∧ Kp M M'' ∧ M''[bi]? = some (.dct B') ∧ M''[p']? = some (.lst ps') ∧ pairsD ps' ∧ ps'.length ≤ w := by
  intro m
  induction m with
  | zero =>
    intro leaf B ps nx p M' x6 x7 hm hP hk h1 h2 hps _ _ _
    have ht : toT [some (.ref p), some (.int w), some (.int c), some (.ref bi), some (.str (kindS leaf)), some (.int nx), x6, x7] M' = some (.ok false M') := by
      have := len_lst h2
      have h3 : ¬ w < ps.length := by omega
      simp [toT, this, h3]
    refine ⟨1, leaf, B, ps, nx, p, x6, x7, M', ?_, hP, hk, h1, h2, hps, by omega⟩
    unfold whileF
    rw [ht]
    rfl
  | succ m ih =>
    intro leaf B ps nx p M' x6 x7 hm hP hk h1 h2 hps hm2 hz hB
    by_cases hwl : w < ps.length
    · have ht : toT [some (.ref p), some (.int w), some (.int c), some (.ref bi), some (.str (kindS leaf)), some (.int nx), x6, x7] M' = some (.ok true M') := by
        have := len_lst h2
        simp [toT, this, hwl]
      obtain ⟨rows, p', y7, M2, e, hc, k2, b2, a2⟩ := to_step (leaf := leaf) (nx := nx) (x6 := x6) (x7 := x7) hs hw hbi hk h1 h2 hps ⟨hwl, by omega⟩ (by omega)
      have hal := above_len s nx rows
      have hal2 := addRows_len leaf s rows B nx
      have hless := hc.less
      obtain ⟨n, leaf', B', ps', nx', p2, y6', y7', M3, e3, rest⟩ := ih false (addRows leaf s B nx rows) (above s nx rows) (numAt s nx rows) p' M2 (some (.ref p')) y7 (by omega) (step leaf B ps nx rows hP hc) k2 b2 a2 (above_pairs s nx rows) (by omega) (by omega) (by
        have h2' : 2 * rows.length ≤ ps.length + 1 := by
          have h3 : ∀ rs : List (List D), (∀ row ∈ rs, 2 ≤ row.length) → 2 * rs.length ≤ rs.flatten.length := by
            intro rs
            induction rs with
            | nil => intro _; simp
            | cons r rs ih2 =>
              intro hr
              have := ih2 fun row hrow => hr row (List.mem_cons_of_mem _ hrow)
              have := hr r List.mem_cons_self
              rw [List.flatten_cons, List.length_append, List.length_cons]
              omega
          have := h3 rows fun row hrow => by have := (hc.size row hrow).1; omega
          rw [hc.flat] at this
          omega
        omega)
      refine ⟨n + 1, leaf', B', ps', nx', p2, y6', y7', M3, ?_, rest⟩
      unfold whileF
      rw [ht]
      dsimp only [bndS]
      rw [if_pos rfl, e]
      exact e3
    · have ht : toT [some (.ref p), some (.int w), some (.int c), some (.ref bi), some (.str (kindS leaf)), some (.int nx), x6, x7] M' = some (.ok false M') := by
        have := len_lst h2
        simp [toT, this, hwl]
      refine ⟨1, leaf, B, ps, nx, p, x6, x7, M', ?_, hP, hk, h1, h2, hps, by omega⟩
      unfold whileF
      rw [ht]
      rfl
end BP
/-! BLUp: a level's blocks, as a walk. -/
namespace BP
open BL
open PySem (Str)
/-- what waits for a row of pairs -/
def told (d : Int) (ps : List D) : List Tl := ps.map fun p => ⟨numOf p, d, some (keyOf p)⟩
theorem rowB_pw {leaf : Bool} : ∀ ps : List D, rowB leaf ps = true ↔ (∀ x ∈ ps, pairB leaf x = true) ∧ ps.Pairwise (fun x y => keyOf x < keyOf y)
  | [] => by simp [rowB]
  | [d] => by simp [rowB]
  | d :: e :: r => by
    have ih := rowB_pw (leaf := leaf) (e :: r)
    rw [rowB, Bool.and_eq_true, Bool.and_eq_true, ih, decide_eq_true_eq]
    constructor
    · rintro ⟨h1, h2, h3, h4⟩
      refine ⟨fun x hx => ?_, ?_⟩
      · rcases List.mem_cons.mp hx with rfl | hx
        · exact h1
        · exact h3 x hx
      · rw [List.pairwise_cons]
        refine ⟨fun y hy => ?_, h4⟩
        rcases List.mem_cons.mp hy with rfl | hy
        · exact h2
        · exact Int.lt_trans h2 ((List.pairwise_cons.mp h4).1 y hy)
    · rintro ⟨h1, h2⟩
      rw [List.pairwise_cons] at h2
      exact ⟨h1 d List.mem_cons_self, h2.1 e List.mem_cons_self, fun x hx => h1 x (List.mem_cons_of_mem _ hx), h2.2⟩
/-- the rows' blocks stand there -/
def Has (B : List (Int × D)) (leaf : Bool) (s : Int) : Int → List (List D) → Prop
  | _, [] => True
  | nx, row :: rows => aget B nx = some (blkD leaf row) ∧ Has B leaf s (nx + s) rows
theorem addRows_low {leaf : Bool} {s : Int} (hs : 1 ≤ s) : ∀ (rows : List (List D)) (B : List (Int × D)) (nx n : Int), n < nx → aget (addRows leaf s B nx rows) n = aget B n
  | [], B, nx, n, h => rfl
  | row :: rows, B, nx, n, h => by
    rw [addRows, addRows_low hs rows _ _ _ (by omega), aget_aput, if_neg (by omega)]
theorem addRows_has {leaf : Bool} {s : Int} (hs : 1 ≤ s) : ∀ (rows : List (List D)) (B : List (Int × D)) (nx : Int), Has (addRows leaf s B nx rows) leaf s nx rows
  | [], B, nx => trivial
  | row :: rows, B, nx => by
    rw [addRows]
    refine ⟨?_, addRows_has hs rows _ _⟩
    rw [addRows_low hs rows _ _ _ (by omega), aget_aput, if_pos rfl]
theorem addRows_keys {leaf : Bool} {s : Int} (hs : 1 ≤ s) : ∀ (rows : List (List D)) (B : List (Int × D)) (nx : Int), (akeys B).Nodup → (∀ n ∈ akeys B, 0 < n ∧ n < nx) → 0 < nx →
    (akeys (addRows leaf s B nx rows)).Nodup ∧ (∀ n ∈ akeys (addRows leaf s B nx rows), 0 < n ∧ n < numAt s nx rows) ∧ 0 < numAt s nx rows ∧ (addRows leaf s B nx rows).length = B.length + rows.length
  | [], B, nx, h1, h2, h3 => ⟨h1, h2, h3, rfl⟩
  | row :: rows, B, nx, h1, h2, h3 => by
    have hnot : nx ∉ akeys B := fun z => by have := (h2 nx z).2; omega
    have hk : akeys (aput B nx (blkD leaf row)) = akeys B ++ [nx] := by rw [akeys_aput, if_neg hnot]
    obtain ⟨k1, k2, k3, k4⟩ := addRows_keys (leaf := leaf) hs rows (aput B nx (blkD leaf row)) (nx + s) (nodup_aput h1) (fun n hn => by
      rw [hk] at hn
      rcases List.mem_append.mp hn with hn | hn
      · have := h2 n hn
        omega
      · have : n = nx := by simpa using hn
        omega) (by omega)
    refine ⟨k1, k2, k3, ?_⟩
    have hl := congrArg List.length hk
    rw [akeys_len, List.length_append, akeys_len] at hl
    rw [addRows, k4, hl, List.length_cons]
    simp
    omega
theorem told_app (d : Int) (a b : List D) : told d (a ++ b) = told d a ++ told d b := by
  unfold told
  rw [List.map_append]
theorem block_of {leaf : Bool} {row : List D} {least most : Int} (h : rowB leaf row = true) (h1 : least ≤ row.length) (h2 : (row.length : Int) ≤ most) : blockB (blkD leaf row) least most = true := by
  have ne : ¬ branchS = leafS := by decide +kernel
  cases leaf
  · have e : blkD false row = .tup [.str branchS, .tup row] := rfl
    rw [e]
    simp [blockB, ne, h, h1, h2]
  · have e : blkD true row = .tup [.str leafS, .tup row] := rfl
    rw [e]
    simp [blockB, h, h1, h2]
theorem leafB_blk {leaf : Bool} {row : List D} : leafB (blkD leaf row) = leaf := by
  have ne : ¬ branchS = leafS := by decide +kernel
  unfold blkD kindS
  cases leaf
  · simp [leafB, ne]
  · simp [leafB]
/-- the walk over a new level -/
theorem made {B : List (Int × D)} {w : Nat} {leaf : Bool} {s : Int} (hw : 3 ≤ w) (hs : 1 ≤ s) : ∀ (rows : List (List D)) (nx d : Int) (U : List Tl), 0 < nx → Has B leaf s nx rows → rowB leaf rows.flatten = true → (∀ row ∈ rows, (w + 1) / 2 ≤ row.length ∧ row.length ≤ w) →
    (leaf = false → WS B w (told (d + 1) rows.flatten) U) → (leaf = true → U = []) →
    ∃ vs, WS B w (told d (above s nx rows)) vs ∧ vs.length = rows.length + U.length ∧ (∀ n ∈ vs.map (·.n), (nx ≤ n) ∨ n ∈ U.map (·.n)) ∧ ((∀ n ∈ U.map (·.n), n < nx) → (U.map (·.n)).Nodup → (vs.map (·.n)).Nodup) ∧
      rowsW B vs = (if leaf = true then rows.flatten else rowsW B U) ∧ (leaf = true → ∀ x ∈ depths B vs, x = d) ∧ (leaf = false → depths B vs = depths B U)
  | [], nx, d, U, _, _, _, _, hU, hU2 => by
    have : U = [] := by
      cases leaf with
      | true => exact hU2 rfl
      | false =>
        have := hU rfl
        cases this
        rfl
    subst this
    refine ⟨[], .nil, rfl, fun n hn => by (cases hn), fun _ _ => by simp, by cases leaf <;> rfl, fun _ x hx => by (cases hx), fun _ => rfl⟩
  | row :: rows, nx, d, U, hnx, hH, hrow, hsz, hU, hU2 => by
    obtain ⟨hg, hH2⟩ := hH
    rw [List.flatten_cons] at hrow
    obtain ⟨hp, hpw⟩ := (rowB_pw _).mp hrow
    rw [List.pairwise_append] at hpw
    have r1 : rowB leaf row = true := (rowB_pw _).mpr ⟨fun x hx => hp x (List.mem_append_left _ hx), hpw.1⟩
    have r2 : rowB leaf rows.flatten = true := (rowB_pw _).mpr ⟨fun x hx => hp x (List.mem_append_right _ hx), hpw.2.1⟩
    obtain ⟨z1, z2⟩ := hsz row List.mem_cons_self
    have hblk : blkOf B nx = blkD leaf row := by unfold blkOf; rw [hg]; rfl
    have hfk : firstKey (blkD leaf row) = headKey row := by
      show (match row with | p :: _ => keyOf p | [] => 0) = _
      cases row <;> rfl
    have ok : okT B w ⟨nx, d, some (headKey row)⟩ = true := by
      unfold okT keyOk
      rw [hblk, hfk, leafB_blk]
      have hl : leastOf (w : Int) nx ≤ row.length := by
        unfold leastOf
        rw [if_pos hnx]
        omega
      rw [block_of r1 hl (by omega)]
      have h2 : 2 ≤ (pairsOf (blkD leaf row)).length := by
        show 2 ≤ row.length
        omega
      simp [h2]
    have hkids : kids B ⟨nx, d, some (headKey row)⟩ = if leaf = true then [] else told (d + 1) row := by
      unfold kids
      rw [hblk, leafB_blk]
      rfl
    have hrt : rowsT B ⟨nx, d, some (headKey row)⟩ = if leaf = true then row else [] := by
      unfold rowsT
      rw [hblk, leafB_blk]
      rfl
    have htold : told d (above s nx (row :: rows)) = ⟨nx, d, some (headKey row)⟩ :: told d (above s (nx + s) rows) := rfl
    cases leaf with
    | true =>
      have hUn := hU2 rfl
      subst hUn
      obtain ⟨vs, w1, w2, w3, w4, w5, w6, w7⟩ := made hw hs rows (nx + s) d [] (by omega) hH2 r2 (fun r hr => hsz r (List.mem_cons_of_mem _ hr)) (fun z => by cases z) (fun _ => rfl)
      refine ⟨⟨nx, d, some (headKey row)⟩ :: vs, ?_, ?_, fun n hn => ?_, fun h1 h2 => ?_, ?_, fun _ x hx => ?_, (fun z => by cases z)⟩
      · rw [htold]
        refine .step ok ?_
        rw [hkids]
        exact w1
      · simp [w2]
      · rw [List.map_cons] at hn
        rcases List.mem_cons.mp hn with rfl | hn
        · exact .inl (Int.le_refl _)
        · rcases w3 n hn with h | h
          · exact .inl (by omega)
          · exact .inr h
      · rw [List.map_cons, List.nodup_cons]
        refine ⟨fun hn => ?_, w4 (fun n hn => by cases hn) h2⟩
        rcases w3 nx hn with h | h
        · omega
        · cases h
      · show (List.map (rowsT B) (_ :: vs)).flatten = _
        rw [List.map_cons, List.flatten_cons, hrt]
        have : (List.map (rowsT B) vs).flatten = rows.flatten := w5
        rw [this]
        rfl
      · unfold depths at hx
        rw [List.filter_cons_of_pos (by show leafB (blkOf B nx) = true; rw [hblk, leafB_blk]), List.map_cons] at hx
        rcases List.mem_cons.mp hx with rfl | hx
        · rfl
        · exact w6 rfl x hx
    | false =>
      have hUw := hU rfl
      rw [List.flatten_cons, told_app] at hUw
      obtain ⟨U1, U2, rfl, u1, u2⟩ := hUw.split rfl
      obtain ⟨vs, w1, w2, w3, w4, w5, w6, w7⟩ := made hw hs rows (nx + s) d U2 (by omega) hH2 r2 (fun r hr => hsz r (List.mem_cons_of_mem _ hr)) (fun _ => u2) (fun z => by cases z)
      refine ⟨⟨nx, d, some (headKey row)⟩ :: (U1 ++ vs), ?_, ?_, fun n hn => ?_, fun h1 h2 => ?_, ?_, (fun z => by cases z), fun _ => ?_⟩
      · rw [htold]
        refine .step ok ?_
        rw [hkids]
        exact u1.append w1
      · simp [w2]
        omega
      · rw [List.map_cons, List.map_append] at hn
        rcases List.mem_cons.mp hn with rfl | hn
        · exact .inl (Int.le_refl _)
        · rcases List.mem_append.mp hn with hn | hn
          · exact .inr (by rw [List.map_append]; exact List.mem_append_left _ hn)
          · rcases w3 n hn with h | h
            · exact .inl (by omega)
            · exact .inr (by rw [List.map_append]; exact List.mem_append_right _ h)
      · rw [List.map_append] at h1 h2
        rw [List.nodup_append] at h2
        have hv := w4 (fun n hn => by have := h1 n (List.mem_append_right _ hn); omega) h2.2.1
        rw [List.map_cons, List.map_append, List.nodup_cons, List.nodup_append]
        refine ⟨fun hn => ?_, h2.1, hv, fun a ha b hb => ?_⟩
        · rcases List.mem_append.mp hn with hn | hn
          · have := h1 nx (List.mem_append_left _ hn)
            omega
          · rcases w3 nx hn with h | h
            · omega
            · have := h1 nx (List.mem_append_right _ h)
              omega
        · rcases w3 b hb with h | h
          · have := h1 a (List.mem_append_left _ ha)
            omega
          · exact h2.2.2 a ha b h
      · show (List.map (rowsT B) (_ :: (U1 ++ vs))).flatten = rowsW B (U1 ++ U2)
        rw [List.map_cons, List.flatten_cons, hrt, rowsW_app]
        show [] ++ rowsW B (U1 ++ vs) = _
        rw [rowsW_app, List.nil_append]
        have : rowsW B vs = rowsW B U2 := w5
        rw [this]
      · have hh : depths B (⟨nx, d, some (headKey row)⟩ :: (U1 ++ vs)) = depths B (U1 ++ vs) := by
          unfold depths
          rw [List.filter_cons_of_neg (by show ¬ leafB (blkOf B nx) = true; rw [hblk, leafB_blk]; exact Bool.false_ne_true)]
        rw [hh, depths_app, depths_app, w7 rfl]
end BP
/-! BLRoot: the tree built is sound. -/
namespace BP
open BL
open PySem (Str)
open PyProof.Rows (firstMet firstMet_succ firstMet_zero firstMet_any step_dedup)
theorem range_getD (ns : List Int) : (List.range ns.length).map (fun i => ns.getD i 0) = ns := by
  apply List.ext_getElem?
  intro i
  by_cases h : i < ns.length
  · rw [List.getElem?_map, List.getElem?_range h, List.getElem?_eq_getElem h]
    simp [h]
  · rw [List.getElem?_eq_none (by simpa using h), List.getElem?_eq_none (by omega)]
theorem mem_dist {ns : List Int} {x : Int} : x ∈ dist ns ↔ x ∈ ns := by
  have h := firstMet_any (fun i => ns.getD i 0) ns.length x
  rw [range_getD] at h
  have h2 : ∀ l : List Int, l.any (· == x) = true ↔ x ∈ l := fun l => by simp
  unfold dist
  rw [← h2, ← h2, h]
theorem dist_two {ns : List Int} {x y : Int} (hx : x ∈ ns) (hy : y ∈ ns) (h : x ≠ y) : (dist ns).length ≠ 1 := fun e => by
  rw [List.length_eq_one_iff] at e
  obtain ⟨z, e⟩ := e
  have h1 := mem_dist.mpr hx
  have h2 := mem_dist.mpr hy
  rw [e] at h1 h2
  simp at h1 h2
  omega
theorem dist_one {ns : List Int} {d : Int} (h : ∀ x ∈ ns, x = d) (hne : ns ≠ []) : (dist ns).length = 1 := by
  have hv : ∀ i, i < ns.length → ns.getD i 0 = d := fun i hi => by
    have : ns.getD i 0 = ns[i] := by simp [hi]
    rw [this]
    exact h _ (List.getElem_mem hi)
  have key : ∀ i, i + 1 ≤ ns.length → firstMet (fun i => ns.getD i 0) (i + 1) = [d] := by
    intro i
    induction i with
    | zero =>
      intro hi
      rw [firstMet_succ, firstMet_zero]
      show step_dedup [] (ns.getD 0 0) = [d]
      rw [hv 0 (by omega)]
      rfl
    | succ i ih =>
      intro hi
      rw [firstMet_succ, ih (by omega)]
      show step_dedup [d] (ns.getD (i + 1) 0) = [d]
      rw [hv (i + 1) (by omega)]
      simp [step_dedup]
  unfold dist
  obtain ⟨n, hn⟩ : ∃ n, ns.length = n + 1 := ⟨ns.length - 1, by have := List.length_pos_iff.mpr hne; omega⟩
  rw [hn, key n (by omega)]
  rfl
/-- a walk over blocks that are the same elsewhere -/
theorem rowsW_agree {B B' : List (Int × D)} {vs : List Tl} (e : ∀ t ∈ vs, aget B' t.n = aget B t.n) : rowsW B' vs = rowsW B vs := by
  have : vs.map (rowsT B') = vs.map (rowsT B) := List.map_congr_left fun t ht => by
    unfold rowsT blkOf
    rw [e t ht]
  unfold rowsW
  rw [this]
theorem depths_agree {B B' : List (Int × D)} {vs : List Tl} (e : ∀ t ∈ vs, aget B' t.n = aget B t.n) : depths B' vs = depths B vs := by
  have : (vs.filter fun t => leafB (blkOf B' t.n)) = vs.filter fun t => leafB (blkOf B t.n) := List.filter_congr fun t ht => by
    unfold blkOf
    rw [e t ht]
  unfold depths
  rw [this]
theorem WS.key {B : List (Int × D)} {w : Int} {S vs : List Tl} (h : WS B w S vs) {t : Tl} (ht : t ∈ vs) : t.n ∈ akeys B := by
  obtain ⟨leaf, rows, hg, _⟩ := okT_block (h.ok t ht)
  rw [← aget_isSome, hg]
  rfl
/-- what holds between the levels -/
structure Lev (w : Nat) (row : List D) (leaf : Bool) (B : List (Int × D)) (ps : List D) (nx : Int) : Prop where
  nd : (akeys B).Nodup
  ks : ∀ n ∈ akeys B, 0 < n ∧ n < nx
  pos : 0 < nx
  good : rowB leaf ps = true
  low : leaf = true → B = [] ∧ ps = row
  high : leaf = false → 2 ≤ ps.length ∧ row ≠ [] ∧ ∃ hgt : Int, ∀ d, ∃ vs, WS B w (told d ps) vs ∧ (vs.map (·.n)).Nodup ∧ vs.length = B.length ∧ rowsW B vs = row ∧ ∀ x ∈ depths B vs, x = d + hgt
theorem head_mem {row : List D} (h : 0 < row.length) : ∃ x r, row = x :: r ∧ headKey row = keyOf x := by
  cases row with
  | nil => simp at h
  | cons x r => exact ⟨x, r, rfl, rfl⟩
theorem keyOf_pair {leaf : Bool} {x : D} (h : pairB leaf x = true) : keyB (.int (keyOf x)) = true := by
  unfold pairB at h
  split at h
  · rename_i a b
    rw [Bool.and_eq_true] at h
    have h1 := h.1
    unfold keyB at h1
    split at h1
    · rename_i k
      exact h1
    · cases h1
  · cases h
theorem above_good {leaf : Bool} {s : Int} (hs : 1 ≤ s) : ∀ (rows : List (List D)) (nx : Int), 0 < nx → (∀ row ∈ rows, 0 < row.length) → (∀ x ∈ rows.flatten, pairB leaf x = true) → rows.flatten.Pairwise (fun x y => keyOf x < keyOf y) →
    (∀ x ∈ above s nx rows, pairB false x = true) ∧ (above s nx rows).Pairwise (fun x y => keyOf x < keyOf y) ∧ ∀ x ∈ above s nx rows, ∃ y ∈ rows.flatten, keyOf x = keyOf y
  | [], nx, _, _, _, _ => ⟨fun x hx => by (cases hx), .nil, fun x hx => by (cases hx)⟩
  | row :: rows, nx, hn, h1, h2, h3 => by
    rw [List.flatten_cons] at h2 h3
    obtain ⟨x, r, hrow, hk⟩ := head_mem (h1 row List.mem_cons_self)
    have hxm : x ∈ row := by rw [hrow]; exact List.mem_cons_self
    obtain ⟨g1, g2, g3⟩ := above_good hs rows (nx + s) (by omega) (fun q hq => h1 q (List.mem_cons_of_mem _ hq)) (fun y hy => h2 y (List.mem_append_right _ hy)) (List.pairwise_append.mp h3).2.1
    have hkx : keyOf (.tup [.int (headKey row), .int nx]) = keyOf x := by rw [← hk]; rfl
    rw [above]
    refine ⟨fun y hy => ?_, ?_, fun y hy => ?_⟩
    · rcases List.mem_cons.mp hy with rfl | hy
      · have := keyOf_pair (h2 x (List.mem_append_left _ hxm))
        rw [← hk] at this
        show (keyB (.int (headKey row)) && posB (.int nx)) = true
        rw [this]
        simp [posB, hn]
      · exact g1 y hy
    · rw [List.pairwise_cons]
      refine ⟨fun y hy => ?_, g2⟩
      obtain ⟨z, hz, e⟩ := g3 y hy
      rw [hkx, e]
      exact (List.pairwise_append.mp h3).2.2 x hxm z hz
    · rcases List.mem_cons.mp hy with rfl | hy
      · exact ⟨x, by rw [List.flatten_cons]; exact List.mem_append_left _ hxm, hkx⟩
      · obtain ⟨z, hz, e⟩ := g3 y hy
        exact ⟨z, by rw [List.flatten_cons]; exact List.mem_append_right _ hz, e⟩
theorem lev_step {w : Nat} {row : List D} {s : Int} (hw : 3 ≤ w) (hs : 1 ≤ s) (leaf : Bool) (B : List (Int × D)) (ps : List D) (nx : Int) (rows : List (List D)) (h : Lev w row leaf B ps nx) (c : Cut w ps rows) : Lev w row false (addRows leaf s B nx rows) (above s nx rows) (numAt s nx rows) := by
  obtain ⟨k1, k2, k3, k4⟩ := addRows_keys (leaf := leaf) hs rows B nx h.nd h.ks h.pos
  have hgood : rowB leaf rows.flatten = true := by rw [c.flat]; exact h.good
  obtain ⟨q1, q2⟩ := (rowB_pw _).mp hgood
  obtain ⟨g1, g2, _⟩ := above_good (leaf := leaf) hs rows nx h.pos (fun r hr => by have := (c.size r hr).1; omega) q1 q2
  refine ⟨k1, k2, k3, (rowB_pw _).mpr ⟨g1, g2⟩, fun z => by (cases z), fun _ => ?_⟩
  refine ⟨by rw [above_len]; exact c.two, ?_, ?_⟩
  · cases leaf with
    | true =>
      obtain ⟨_, rfl⟩ := h.low rfl
      intro e
      have := c.less
      rw [e] at this
      simp at this
    | false => exact (h.high rfl).2.1
  · cases leaf with
    | true =>
      obtain ⟨rfl, rfl⟩ := h.low rfl
      refine ⟨0, fun d => ?_⟩
      obtain ⟨vs, w1, w2, w3, w4, w5, w6, w7⟩ := made (B := addRows true s [] nx rows) hw hs rows nx d [] h.pos (addRows_has hs rows [] nx) hgood c.size (fun z => by cases z) (fun _ => rfl)
      refine ⟨vs, w1, w4 (fun n hn => by cases hn) List.nodup_nil, ?_, ?_, fun x hx => ?_⟩
      · rw [w2, k4]
        simp
      · rw [w5, if_pos rfl, c.flat]
      · rw [w6 rfl x hx]
        omega
    | false =>
      obtain ⟨_, _, hgt, hh⟩ := h.high rfl
      refine ⟨hgt + 1, fun d => ?_⟩
      obtain ⟨U, u1, u2, u3, u4, u5⟩ := hh (d + 1)
      have ag : ∀ t ∈ U, aget (addRows false s B nx rows) t.n = aget B t.n := fun t ht => addRows_low hs rows B nx t.n (h.ks _ (u1.key ht)).2
      obtain ⟨vs, w1, w2, w3, w4, w5, w6, w7⟩ := made (B := addRows false s B nx rows) hw hs rows nx d U h.pos (addRows_has hs rows B nx) hgood c.size (fun _ => by rw [c.flat]; exact u1.agree ag) (fun z => by cases z)
      refine ⟨vs, w1, w4 (fun n hn => ?_) u2, ?_, ?_, fun x hx => ?_⟩
      · obtain ⟨t, ht, rfl⟩ := List.mem_map.mp hn
        exact (h.ks _ (u1.key ht)).2
      · rw [w2, k4, u3]
        omega
      · rw [w5, if_neg Bool.false_ne_true, rowsW_agree ag, u4]
      · rw [w7 rfl, depths_agree ag] at hx
        rw [u5 x hx]
        omega
theorem rise_of {ks : List Int} (h : ks.Pairwise (· < ·)) : rise ks := fun k a b ha hb => by
  rw [List.pairwise_iff_getElem] at h
  obtain ⟨h1, e1⟩ := List.getElem?_eq_some_iff.mp ha
  obtain ⟨h2, e2⟩ := List.getElem?_eq_some_iff.mp hb
  rw [← e1, ← e2]
  exact h k (k + 1) h1 h2 (by omega)
/-- the tree, its root put there -/
theorem lev_root {w : Nat} {row : List D} {leaf : Bool} {B : List (Int × D)} {ps : List D} {nx : Int} (hw : 3 ≤ w) (h : Lev w row leaf B ps nx) (hl : ps.length ≤ w) (hrow : rowB true row = true) : ∃ vs, SoundP (aput B 0 (blkD leaf ps)) w vs ∧ rowsW (aput B 0 (blkD leaf ps)) vs = row ∧ (akeys (aput B 0 (blkD leaf ps))).Nodup ∧ (aput B 0 (blkD leaf ps)).length = B.length + 1 := by
  have hnot : (0 : Int) ∉ akeys B := fun z => by have := (h.ks 0 z).1; omega
  have hlen : (aput B 0 (blkD leaf ps)).length = B.length + 1 := by
    have hk : akeys (aput B 0 (blkD leaf ps)) = akeys B ++ [0] := by rw [akeys_aput, if_neg hnot]
    have := congrArg List.length hk
    rw [akeys_len, List.length_append, akeys_len] at this
    exact this
  have hg : aget (aput B 0 (blkD leaf ps)) 0 = some (blkD leaf ps) := by rw [aget_aput, if_pos rfl]
  have hblk : blkOf (aput B 0 (blkD leaf ps)) 0 = blkD leaf ps := by unfold blkOf; rw [hg]; rfl
  have hup : ∀ vs, rowsW (aput B 0 (blkD leaf ps)) vs = row → rise (keysW (aput B 0 (blkD leaf ps)) vs) := fun vs e => by
    unfold keysW
    rw [e]
    exact rise_of (List.pairwise_map.mpr ((rowB_pw row).mp hrow).2)
  have hok : (leaf = false → 2 ≤ ps.length) → okT (aput B 0 (blkD leaf ps)) w ⟨0, 0, none⟩ = true := fun h2 => by
    unfold okT keyOk
    rw [hblk, leafB_blk, block_of (least := leastOf w 0) h.good (by unfold leastOf; simp) (by omega)]
    cases leaf with
    | true => rfl
    | false =>
      have h3 : 2 ≤ (pairsOf (blkD false ps)).length := h2 rfl
      simp [h3]
  cases leaf with
  | true =>
    obtain ⟨rfl, rfl⟩ := h.low rfl
    have hkids : kids (aput [] 0 (blkD true ps)) ⟨0, 0, none⟩ = [] := by
      unfold kids
      rw [hblk, leafB_blk]
      rfl
    have hr : rowsW (aput [] 0 (blkD true ps)) [⟨0, 0, none⟩] = ps := by
      unfold rowsW rowsT
      simp [hblk, leafB_blk]
      rfl
    refine ⟨[⟨0, 0, none⟩], ⟨.step (hok fun z => by cases z) (by rw [hkids]; exact .nil), by simp, by rw [hlen]; rfl, ?_, hup _ hr⟩, hr, nodup_aput h.nd, hlen⟩
    refine dist_one (d := 0) (fun x hx => ?_) ?_
    · unfold depths at hx
      obtain ⟨t, ht, rfl⟩ := List.mem_map.mp hx
      have := (List.mem_filter.mp ht).1
      simp at this
      rw [this]
    · unfold depths
      rw [List.filter_cons_of_pos (by show leafB (blkOf _ 0) = true; rw [hblk, leafB_blk])]
      simp
  | false =>
    obtain ⟨h2, hne, hgt, hh⟩ := h.high rfl
    obtain ⟨U, u1, u2, u3, u4, u5⟩ := hh 1
    have ag : ∀ t ∈ U, aget (aput B 0 (blkD false ps)) t.n = aget B t.n := fun t ht => by
      have := (h.ks _ (u1.key ht)).1
      rw [aget_aput, if_neg (by omega)]
    have hkids : kids (aput B 0 (blkD false ps)) ⟨0, 0, none⟩ = told 1 ps := by
      unfold kids
      rw [hblk, leafB_blk]
      rfl
    have hr0 : rowsT (aput B 0 (blkD false ps)) ⟨0, 0, none⟩ = [] := by
      unfold rowsT
      rw [hblk, leafB_blk]
      rfl
    have hr : rowsW (aput B 0 (blkD false ps)) (⟨0, 0, none⟩ :: U) = row := by
      have : rowsW (aput B 0 (blkD false ps)) (⟨0, 0, none⟩ :: U) = rowsT (aput B 0 (blkD false ps)) ⟨0, 0, none⟩ ++ rowsW (aput B 0 (blkD false ps)) U := by
        unfold rowsW
        rw [List.map_cons, List.flatten_cons]
      rw [this, hr0, rowsW_agree ag, u4]
      rfl
    have hd : depths (aput B 0 (blkD false ps)) (⟨0, 0, none⟩ :: U) = depths B U := by
      rw [← depths_agree ag]
      unfold depths
      rw [List.filter_cons_of_neg (by show ¬ leafB (blkOf _ 0) = true; rw [hblk, leafB_blk]; exact Bool.false_ne_true)]
    refine ⟨⟨0, 0, none⟩ :: U, ⟨.step (hok fun _ => h2) ?_, ?_, by rw [hlen, List.length_cons, u3], ?_, hup _ hr⟩, hr, nodup_aput h.nd, hlen⟩
    · rw [hkids, List.append_nil]
      exact u1.agree ag
    · rw [List.map_cons, List.nodup_cons]
      refine ⟨fun hn => ?_, u2⟩
      obtain ⟨t, ht, e⟩ := List.mem_map.mp hn
      have := (h.ks _ (u1.key ht)).1
      have e' : t.n = 0 := e
      omega
    · rw [hd]
      refine dist_one u5 fun e => hne ?_
      rw [← u4]
      unfold rowsW
      rw [List.flatten_eq_nil_iff]
      intro l hl2
      obtain ⟨t, ht, rfl⟩ := List.mem_map.mp hl2
      unfold rowsT
      rw [if_neg]
      intro hlf
      have : t.d ∈ depths B U := by
        unfold depths
        exact List.mem_map.mpr ⟨t, List.mem_filter.mpr ⟨ht, hlf⟩, rfl⟩
      rw [e] at this
      cases this
end BP
/-! BLBuiltTree: _law_tree_by. -/
namespace BP
open BL
open PySem (Str)
variable {M : Mem}
theorem rowB_pairsD {leaf : Bool} {ps : List D} (h : rowB leaf ps = true) : pairsD ps := fun x hx => by
  have h1 := ((rowB_pw _).mp h).1 x hx
  unfold pairB at h1
  split at h1
  · rename_i a b
    rw [Bool.and_eq_true] at h1
    have h2 := h1.1
    unfold keyB at h2
    split at h2
    · exact ⟨_, _, rfl⟩
    · cases h2
  · cases h1
/-- what the builder makes -/
structure Made (w : Nat) (row : List D) (B : List (Int × D)) : Prop where
  sound : ∃ vs, SoundP B w vs ∧ rowsW B vs = row
  nd : (akeys B).Nodup
  len : B.length ≤ row.length + 1
  ks : ∀ n ∈ akeys B, 0 ≤ n
theorem p_tree_by {p : Nat} {w : Nat} {c : Int} {row : List D} (h : M[p]? = some (.lst row)) (hw : 3 ≤ w ∧ w ≤ 64) (hc : 0 ≤ c) (hrow : rowB true row = true) (hl : row.length ≤ 10000) :
    ∃ b B M', g_law_tree_by [.ref p, .int w, .int c] M = some (.ok (.ref b) M') ∧ Kp M M' ∧ M.length ≤ b ∧ M'[b]? = some (.dct B) ∧ Made w row B := by
  have hs : (1 : Int) ≤ 1 + c / 5 % 2 := by omega
  have lev0 : Lev w row true [] row (1 + c % 3) := ⟨List.nodup_nil, fun n hn => by (cases hn), by omega, hrow, fun _ => ⟨rfl, rfl⟩, fun z => by (cases z)⟩
  obtain ⟨n, leaf', B', ps', nx', p', y6, y7, M2, e, ⟨hP, hPl⟩, k2, b2, a2, hps, hlw⟩ := to_while (M := M) (bi := M.length) (w := w) (c := c) (s := 1 + c / 5 % 2) (fun leaf B ps nx => Lev w row leaf B ps nx ∧ B.length + ps.length ≤ row.length) rfl hw (Nat.le_refl _)
    (fun leaf B ps nx rows hh hcut => ⟨lev_step hw.1 hs leaf B ps nx rows hh.1 hcut, by
      have h1 := addRows_len leaf (1 + c / 5 % 2) rows B nx
      rw [above_len]
      have h3 : ∀ rs : List (List D), (∀ row ∈ rs, 2 ≤ row.length) → 2 * rs.length ≤ rs.flatten.length := by
        intro rs
        induction rs with
        | nil => intro _; simp
        | cons r rs ih2 =>
          intro hr
          have := ih2 fun row hrow => hr row (List.mem_cons_of_mem _ hrow)
          have := hr r List.mem_cons_self
          rw [List.flatten_cons, List.length_append, List.length_cons]
          omega
      have h4 := h3 rows fun row hrow => by have := (hcut.size row hrow).1; omega
      rw [hcut.flat] at h4
      have := hh.2
      omega⟩) row.length true [] row (1 + c % 3) p (M ++ [Ob.dct []]) none none (Nat.le_refl _) ⟨lev0, by simp⟩ (Kp.app _ _) get_new (get_app h) (rowB_pairsD hrow) hl (by simp) (by simp; omega)
  obtain ⟨vs, sp, hr, hnd, hlen⟩ := lev_root hw.1 hP hlw hrow
  have e1 : mSeq b_law_tree_by_0 (mSeq b_law_tree_by_1 b_law_tree_by_2) ([some (.ref p), some (.int w), some (.int c)] ++ List.replicate (8 - 3) none) M = some (.nx [some (.ref p), some (.int w), some (.int c), some (.ref M.length), some (.str (kindS true)), some (.int (1 + c % 3)), none, none], M ++ [Ob.dct []]) := by
    simp [b_law_tree_by_0, b_law_tree_by_1, b_law_tree_by_2]
    rfl
  have e3 : b_law_tree_by_3 [some (.ref p), some (.int w), some (.int c), some (.ref M.length), some (.str (kindS true)), some (.int (1 + c % 3)), none, none] (M ++ [Ob.dct []]) = some (.nx [some (.ref p'), some (.int w), some (.int c), some (.ref M.length), some (.str (kindS leaf')), some (.int nx'), y6, y7], M2) := by rw [to_eq]; exact mWhile_of e
  have ht : oTuple [.ref p'] M2 = some (.tup ps', M2) := by simp [oTuple, seqOf, a2]
  have hput : oPutA (.ref M.length) (.int 0) (.tup [.str (kindS leaf'), .tup ps']) M2 = some (M2.set M.length (.dct (aput B' 0 (blkD leaf' ps')))) := put_dct (k := 0) (d := blkD leaf' ps') b2 (by omega)
  have e4 : b_law_tree_by_4 [some (.ref p'), some (.int w), some (.int c), some (.ref M.length), some (.str (kindS leaf')), some (.int nx'), y6, y7] M2 = some (.nx [some (.ref p'), some (.int w), some (.int c), some (.ref M.length), some (.str (kindS leaf')), some (.int nx'), y6, y7], M2.set M.length (.dct (aput B' 0 (blkD leaf' ps')))) := by
    simp [b_law_tree_by_4, ht, hput]
  refine ⟨M.length, aput B' 0 (blkD leaf' ps'), M2.set M.length (.dct (aput B' 0 (blkD leaf' ps'))), ?_, k2.set (Nat.le_refl _) _, Nat.le_refl _, get_set_eq b2, ⟨⟨vs, sp, hr⟩, hnd, by omega, fun n hn => ?_⟩⟩
  · simp only [g_law_tree_by, ev_def3]
    rw [b_law_tree_by, seq3 e1, seq_step e3, seq_step e4]
    simp [b_law_tree_by_5]
  · rw [akeys_aput] at hn
    split at hn
    · have := (hP.ks n hn).1
      omega
    · rcases List.mem_append.mp hn with hn | hn
      · have := (hP.ks n hn).1
        omega
      · have : n = 0 := by simpa using hn
        omega
end BP
/-! BLSpoil: what breaks a sound tree. -/
namespace BP
open BL
open PySem (Str)
variable {B B' : List (Int × D)} {w : Int} {vs vs' : List Tl}
theorem SoundP.there (h : SoundP B w vs) {n : Int} (hn : n ∈ akeys B) : ∃ t ∈ vs, t.n = n := by
  by_cases c : n ∈ vs.map (·.n)
  · obtain ⟨t, ht, e⟩ := List.mem_map.mp c
    exact ⟨t, ht, e⟩
  · have h1 : (n :: vs.map (·.n)).Nodup := List.nodup_cons.mpr ⟨c, h.nd⟩
    have h2 := nodup_len (ys := akeys B) h1 fun x hx => by
      rcases List.mem_cons.mp hx with rfl | hx
      · exact hn
      · obtain ⟨t, ht, rfl⟩ := List.mem_map.mp hx
        exact h.ws.key ht
    have h3 := h.all
    rw [akeys_len] at h2
    simp at h2
    omega
theorem SoundP.ok (h : SoundP B w vs) {n : Int} (hn : n ∈ akeys B) : ∃ t ∈ vs, t.n = n ∧ okT B w t = true := by
  obtain ⟨t, ht, e⟩ := h.there hn
  exact ⟨t, ht, e, h.ws.ok t ht⟩
theorem WS.sub {S : List Tl} (h : WS B w S vs) : (∀ t ∈ S, t ∈ vs) ∧ ∀ u ∈ vs, ∀ t ∈ kids B u, t ∈ vs := by
  induction h with
  | nil => exact ⟨fun t ht => by (cases ht), fun u hu => by (cases hu)⟩
  | @step t rest vs ho hv ih =>
    refine ⟨fun x hx => ?_, fun u hu x hx => ?_⟩
    · rcases List.mem_cons.mp hx with rfl | hx
      · exact List.mem_cons_self
      · exact List.mem_cons_of_mem _ (ih.1 x (List.mem_append_right _ hx))
    · rcases List.mem_cons.mp hu with rfl | hu
      · exact List.mem_cons_of_mem _ (ih.1 x (List.mem_append_left _ hx))
      · exact List.mem_cons_of_mem _ (ih.2 u hu x hx)
theorem WS.up {S : List Tl} (h : WS B w S vs) : ∀ t ∈ vs, t ∈ S ∨ ∃ u ∈ vs, t ∈ kids B u := by
  induction h with
  | nil => exact fun t ht => by (cases ht)
  | @step t rest vs ho hv ih =>
    intro x hx
    rcases List.mem_cons.mp hx with rfl | hx
    · exact .inl List.mem_cons_self
    · rcases ih x hx with hm | ⟨u, hu, hk⟩
      · rcases List.mem_append.mp hm with hm | hm
        · exact .inr ⟨t, List.mem_cons_self, hm⟩
        · exact .inl (List.mem_cons_of_mem _ hm)
      · exact .inr ⟨u, List.mem_cons_of_mem _ hu, hk⟩
theorem SoundP.kid (h : SoundP B w vs) {u t : Tl} (hu : u ∈ vs) (ht : t ∈ kids B u) : t ∈ vs := h.ws.sub.2 u hu t ht
theorem SoundP.root (h : SoundP B w vs) : (⟨0, 0, none⟩ : Tl) ∈ vs := h.ws.sub.1 _ List.mem_cons_self
theorem SoundP.parent (h : SoundP B w vs) {t : Tl} (ht : t ∈ vs) (hn : t.n ≠ 0) : ∃ u ∈ vs, t ∈ kids B u := by
  rcases h.ws.up t ht with hm | hm
  · have : t = ⟨0, 0, none⟩ := by simpa using hm
    rw [this] at hn
    exact absurd rfl hn
  · exact hm
theorem inj_of {α β : Type} (f : α → β) : ∀ {l : List α}, (l.map f).Nodup → ∀ {x y : α}, x ∈ l → y ∈ l → f x = f y → x = y
  | [], _, _, _, hx, _, _ => by cases hx
  | a :: l, h, x, y, hx, hy, e => by
    rw [List.map_cons, List.nodup_cons] at h
    rcases List.mem_cons.mp hx with rfl | hx1 <;> rcases List.mem_cons.mp hy with rfl | hy1
    · rfl
    · exact (h.1 (List.mem_map.mpr ⟨y, hy1, e.symm⟩)).elim
    · exact (h.1 (List.mem_map.mpr ⟨x, hx1, e⟩)).elim
    · exact inj_of f h.2 hx1 hy1 e
theorem SoundP.inj (h : SoundP B w vs) {t u : Tl} (ht : t ∈ vs) (hu : u ∈ vs) (e : t.n = u.n) : t = u := inj_of (·.n) h.nd ht hu e
theorem kid_depth {u t : Tl} (h : t ∈ kids B u) : t.d = u.d + 1 ∧ leafB (blkOf B u.n) = false ∧ ∃ p ∈ pairsOf (blkOf B u.n), t = ⟨numOf p, u.d + 1, some (keyOf p)⟩ := by
  unfold kids at h
  split at h
  · cases h
  · rename_i c
    obtain ⟨p, hp, rfl⟩ := List.mem_map.mp h
    exact ⟨rfl, by simpa using c, p, hp, rfl⟩
theorem SoundP.noSelf (h : SoundP B w vs) {u t : Tl} (hu : u ∈ vs) (ht : t ∈ kids B u) : u.n ≠ t.n := fun e => by
  have e2 := h.inj hu (h.kid hu ht) e
  have h1 := (kid_depth ht).1
  rw [← e2] at h1
  omega
theorem kids_same {u : Tl} (e : aget B' u.n = aget B u.n) : kids B' u = kids B u := by
  unfold kids blkOf
  rw [e]
theorem kids_num {u u' : Tl} (e : u'.n = u.n) {t : Tl} (h : t ∈ kids B u') : ∃ t2 ∈ kids B u, t2.n = t.n ∧ t2.k = t.k := by
  obtain ⟨_, hl, p, hp, rfl⟩ := kid_depth h
  rw [e] at hl hp
  refine ⟨⟨numOf p, u.d + 1, some (keyOf p)⟩, ?_, rfl, rfl⟩
  unfold kids
  rw [if_neg (by rw [hl]; exact Bool.false_ne_true)]
  exact List.mem_map.mpr ⟨p, hp, rfl⟩
/-- a block that is none -/
theorem not_ok {n : Int} (hn : n ∈ akeys B) (hb : blockB (blkOf B n) (leastOf w n) w = false ∨ (leafB (blkOf B n) = false ∧ (pairsOf (blkOf B n)).length < 2)) : ¬ ∃ vs, SoundP B w vs := fun ⟨vs, h⟩ => by
  obtain ⟨t, ht, rfl, ho⟩ := h.ok hn
  unfold okT at ho
  rw [Bool.and_eq_true, Bool.and_eq_true, Bool.or_eq_true, decide_eq_true_eq] at ho
  rcases hb with hb | ⟨h1, h2⟩
  · rw [hb] at ho
    cases ho.1
  · rcases ho.2.2 with h3 | h3
    · rw [h1] at h3
      cases h3
    · omega
/-- a child that is not there -/
theorem no_child (hB : SoundP B w vs) {n : Int} (hn : n ∈ akeys B) : ¬ ∃ vs', SoundP (adel B n) w vs' := fun ⟨vs', h⟩ => by
  have hno : n ∉ akeys (adel B n) := by
    rw [← aget_none, aget_adel, if_pos rfl]
  obtain ⟨t, ht, e⟩ := hB.there hn
  by_cases c : n = 0
  · subst c
    exact hno (h.ws.key h.root)
  · obtain ⟨u, hu, hk⟩ := hB.parent ht (by rw [e]; exact c)
    have hne := hB.noSelf hu hk
    have hg : aget (adel B n) u.n = aget B u.n := by rw [aget_adel, if_neg (by omega)]
    have hu2 : u.n ∈ akeys (adel B n) := by
      rw [← aget_isSome, hg, aget_isSome]
      exact hB.ws.key hu
    obtain ⟨u', hu', e'⟩ := h.there hu2
    rw [← kids_same hg] at hk
    obtain ⟨t2, ht2, e2, _⟩ := kids_num (B := adel B n) (u := u') (u' := u) e'.symm hk
    have := h.ws.key (h.kid hu' ht2)
    rw [e2, e] at this
    exact hno this
/-- a child of an old block is an old one -/
theorem old_kid (hB : SoundP B w vs) {u t : Tl} (hu : u.n ∈ akeys B) (e : aget B' u.n = aget B u.n) (ht : t ∈ kids B' u) : t.n ∈ akeys B ∧ ∃ k, t.k = some k ∧ firstKey (blkOf B t.n) = k := by
  rw [kids_same e] at ht
  obtain ⟨u2, hu2, e2⟩ := hB.there hu
  obtain ⟨t2, ht2, e3, e4⟩ := kids_num (B := B) (u := u2) (u' := u) e2.symm ht
  have hm := hB.kid hu2 ht2
  refine ⟨by rw [← e3]; exact hB.ws.key hm, ?_⟩
  obtain ⟨_, _, p, hp, rfl⟩ := kid_depth ht2
  have ho := hB.ws.ok _ hm
  unfold okT keyOk at ho
  rw [Bool.and_eq_true, Bool.and_eq_true, decide_eq_true_eq] at ho
  have e5 : numOf p = t.n := e3
  exact ⟨keyOf p, e4.symm, by rw [← e5]; exact ho.2.1⟩
/-- a number that no block leads to -/
theorem no_parent (hB : SoundP B w vs) {m : Int} {X : D} (hm : m ∉ akeys B) (h0 : m ≠ 0) : ¬ ∃ vs', SoundP (aput B m X) w vs' := fun ⟨vs', h⟩ => by
  have hmk : m ∈ akeys (aput B m X) := by rw [← aget_isSome, aget_aput, if_pos rfl]; rfl
  obtain ⟨t, ht, e⟩ := h.there hmk
  obtain ⟨u, hu, hk⟩ := h.parent ht (by omega)
  have hne := h.noSelf hu hk
  have hg : aget (aput B m X) u.n = aget B u.n := by rw [aget_aput, if_neg (by omega)]
  have hu2 : u.n ∈ akeys B := by
    rw [← aget_isSome, ← hg, aget_isSome]
    exact h.ws.key hu
  have := (old_kid hB hu2 hg hk).1
  rw [e] at this
  exact hm this
/-- a block whose first key is not the one that leads to it -/
theorem key_off (hB : SoundP B w vs) {n : Int} {X : D} (hn : n ∈ akeys B) (h0 : n ≠ 0) (hX : firstKey X ≠ firstKey (blkOf B n)) : ¬ ∃ vs', SoundP (aput B n X) w vs' := fun ⟨vs', h⟩ => by
  have hg0 : aget (aput B n X) n = some X := by rw [aget_aput, if_pos rfl]
  have hmk : n ∈ akeys (aput B n X) := by rw [← aget_isSome, hg0]; rfl
  obtain ⟨t, ht, e⟩ := h.there hmk
  obtain ⟨u, hu, hk⟩ := h.parent ht (by omega)
  have hne := h.noSelf hu hk
  have hg : aget (aput B n X) u.n = aget B u.n := by rw [aget_aput, if_neg (by omega)]
  have hu2 : u.n ∈ akeys B := by
    rw [← aget_isSome, ← hg, aget_isSome]
    exact h.ws.key hu
  obtain ⟨_, k, hk1, hk2⟩ := old_kid hB hu2 hg hk
  have ho := h.ws.ok t ht
  unfold okT keyOk at ho
  rw [hk1] at ho
  rw [Bool.and_eq_true, Bool.and_eq_true, decide_eq_true_eq] at ho
  have hb : blkOf (aput B n X) t.n = X := by
    unfold blkOf
    rw [e, hg0]
    rfl
  rw [hb] at ho
  rw [e] at hk2
  exact hX (by rw [hk2]; exact ho.2.1)
end BP
/-! BLSpoil2: what breaks a sound tree, second part. -/
namespace BP
open BL
open PySem (Str)
variable {B B' : List (Int × D)} {w : Int} {vs vs' : List Tl}
theorem kid_in {u : Tl} {p : D} (hl : leafB (blkOf B u.n) = false) (hp : p ∈ pairsOf (blkOf B u.n)) : (⟨numOf p, u.d + 1, some (keyOf p)⟩ : Tl) ∈ kids B u := by
  unfold kids
  rw [if_neg (by rw [hl]; exact Bool.false_ne_true)]
  exact List.mem_map.mpr ⟨p, hp, rfl⟩
theorem blk_put {n : Int} {X : D} : blkOf (aput B n X) n = X := by
  unfold blkOf
  rw [aget_aput, if_pos rfl]
  rfl
theorem key_put {n : Int} {X : D} : n ∈ akeys (aput B n X) := by rw [← aget_isSome, aget_aput, if_pos rfl]; rfl
/-- a pair of a branch that leads to a block of another first key -/
theorem lead_off (hB : SoundP B w vs) {n : Int} {X q p : D} (hn : n ∈ akeys B) (hl : leafB (blkOf B n) = false) (hp : p ∈ pairsOf (blkOf B n)) (hX : leafB X = false) (hq : q ∈ pairsOf X) (e : numOf q = numOf p) (hk : keyOf q ≠ keyOf p) : ¬ ∃ vs', SoundP (aput B n X) w vs' := fun ⟨vs', h⟩ => by
  obtain ⟨t, ht, rfl⟩ := hB.there hn
  have hk1 := kid_in hl hp
  have m1 := hB.kid ht hk1
  have hne := hB.noSelf ht hk1
  obtain ⟨t', ht', e'⟩ := h.there (key_put (B := B) (n := t.n) (X := X))
  have hk2 : (⟨numOf q, t'.d + 1, some (keyOf q)⟩ : Tl) ∈ kids (aput B t.n X) t' := kid_in (by rw [e', blk_put]; exact hX) (by rw [e', blk_put]; exact hq)
  have o1 := hB.ws.ok _ m1
  have o2 := h.ws.ok _ (h.kid ht' hk2)
  unfold okT keyOk at o1 o2
  rw [Bool.and_eq_true, Bool.and_eq_true, decide_eq_true_eq] at o1 o2
  have hg : blkOf (aput B t.n X) (numOf q) = blkOf B (numOf p) := by
    unfold blkOf
    rw [e, aget_aput, if_neg (by intro z; exact hne z.symm)]
  have h1 := o1.2.1
  have h2 := o2.2.1
  rw [hg] at h2
  exact hk (h2.symm.trans h1)
/-- a child twice -/
theorem twice {n : Int} {p q : D} (hn : n ∈ akeys B) (hl : leafB (blkOf B n) = false) (hp : p ∈ pairsOf (blkOf B n)) (hq : q ∈ pairsOf (blkOf B n)) (e : numOf p = numOf q) (hk : keyOf p ≠ keyOf q) : ¬ ∃ vs, SoundP B w vs := fun ⟨vs, h⟩ => by
  obtain ⟨t, ht, rfl⟩ := h.there hn
  have := h.inj (h.kid ht (kid_in hl hp)) (h.kid ht (kid_in hl hq)) e
  injection this with _ _ h3
  injection h3 with h3
  exact hk h3
/-- two that lead just to each other -/
theorem ringed (hB : SoundP B w vs) {m k : Int} (hm : m ∈ akeys B') (hk : k ∈ akeys B') (m0 : m ≠ 0) (k0 : k ≠ 0) (hmB : m ∉ akeys B) (hkB : k ∉ akeys B)
    (other : ∀ n, n ∈ akeys B' → n ≠ m → n ≠ k → aget B' n = aget B n ∧ n ∈ akeys B ∨ leafB (blkOf B' n) = true) : ¬ ∃ vs', SoundP B' w vs' := fun ⟨vs', h⟩ => by
  obtain ⟨t, ht, e⟩ := h.there hm
  obtain ⟨s, hs, e2⟩ := h.there hk
  have key : ∀ t : Tl, t ∈ vs' → t.n ≠ 0 → t.n ∉ akeys B → ∀ u ∈ vs', t ∈ kids B' u → u.n ≠ m → u.n ≠ k → False := fun t ht h0 hno u hu hk h1 h2 => by
    rcases other u.n (h.ws.key hu) h1 h2 with ⟨hg, hu2⟩ | hl
    · exact hno (old_kid hB hu2 hg hk).1
    · rw [(kid_depth hk).2.1] at hl
      cases hl
  obtain ⟨u, hu, hku⟩ := h.parent ht (by omega)
  obtain ⟨v, hv, hkv⟩ := h.parent hs (by omega)
  have n1 := h.noSelf hu hku
  have n2 := h.noSelf hv hkv
  have d1 := (kid_depth hku).1
  have d2 := (kid_depth hkv).1
  by_cases c1 : u.n = k
  · by_cases c2 : v.n = m
    · have i1 := h.inj hu hs (by omega)
      have i2 := h.inj hv ht (by omega)
      rw [i1] at d1
      rw [i2] at d2
      omega
    · exact key s hs (by omega) (by rw [e2]; exact hkB) v hv hkv c2 (by omega)
  · exact key t ht (by omega) (by rw [e]; exact hmB) u hu hku (by omega) c1
/-- every block of the walk has a leaf no less deep -/
theorem WS.deep {S : List Tl} (h : WS B w S vs) : ∀ t ∈ vs, ∃ l ∈ vs, leafB (blkOf B l.n) = true ∧ t.d ≤ l.d := by
  induction h with
  | nil => exact fun t ht => by (cases ht)
  | @step t rest vs ho hv ih =>
    intro x hx
    rcases List.mem_cons.mp hx with rfl | hx
    · obtain ⟨leaf, rows, _, hl, hp, _, _, _, _, h2⟩ := okT_block ho
      cases leaf with
      | true => exact ⟨x, List.mem_cons_self, hl, Int.le_refl _⟩
      | false =>
        have h3 := h2 rfl
        obtain ⟨p, r, e⟩ : ∃ p r, rows = p :: r := by
          cases rows with
          | nil => simp at h3
          | cons p r => exact ⟨p, r, rfl⟩
        have hk := kid_in (u := x) hl (p := p) (by rw [hp, e]; exact List.mem_cons_self)
        obtain ⟨l, hl2, h4, h5⟩ := ih _ (hv.sub.1 _ (List.mem_append_left _ hk))
        exact ⟨l, List.mem_cons_of_mem _ hl2, h4, by have : x.d + 1 ≤ l.d := h5; omega⟩
    · obtain ⟨l, hl2, h4, h5⟩ := ih x hx
      exact ⟨l, List.mem_cons_of_mem _ hl2, h4, h5⟩
theorem leaf_depth {t : Tl} (ht : t ∈ vs) (hl : leafB (blkOf B t.n) = true) : t.d ∈ depths B vs := by
  unfold depths
  exact List.mem_map.mpr ⟨t, List.mem_filter.mpr ⟨ht, hl⟩, rfl⟩
theorem SoundP.level (h : SoundP B w vs) {t u : Tl} (ht : t ∈ vs) (hu : u ∈ vs) (h1 : leafB (blkOf B t.n) = true) (h2 : leafB (blkOf B u.n) = true) : t.d = u.d := by
  by_cases c : t.d = u.d
  · exact c
  · exact absurd h.flat (dist_two (leaf_depth ht h1) (leaf_depth hu h2) c)
/-- another leaf than a leaf that is not the root -/
theorem SoundP.other (h : SoundP B w vs) {t : Tl} (ht : t ∈ vs) (h0 : t.n ≠ 0) (hl : leafB (blkOf B t.n) = true) : ∃ l ∈ vs, leafB (blkOf B l.n) = true ∧ l.n ≠ t.n := by
  obtain ⟨u, hu, hk⟩ := h.parent ht h0
  obtain ⟨hd, hul, p, hp, rfl⟩ := kid_depth hk
  obtain ⟨leaf, rows, _, hl2, hpr, hrow, _, _, _, h2⟩ := okT_block (h.ws.ok u hu)
  rw [hl2] at hul
  subst hul
  have h3 := h2 rfl
  have hpw := ((rowB_pw _).mp hrow).2
  rw [hpr] at hp
  obtain ⟨q, hq, hqk⟩ : ∃ q ∈ rows, keyOf q ≠ keyOf p := by
    match rows, h3 with
    | a :: b :: r, _ =>
      have := (List.pairwise_cons.mp hpw).1 b List.mem_cons_self
      by_cases c : keyOf a = keyOf p
      · exact ⟨b, List.mem_cons_of_mem _ List.mem_cons_self, by omega⟩
      · exact ⟨a, List.mem_cons_self, c⟩
  have hkq := kid_in (u := u) hl2 (p := q) (by rw [hpr]; exact hq)
  have mq := h.kid hu hkq
  obtain ⟨l, hl4, hl5, hl6⟩ := h.ws.deep _ mq
  have hlev := h.level hl4 ht hl5 hl
  cases hlq : leafB (blkOf B (numOf q)) with
  | true =>
    refine ⟨_, mq, hlq, fun e => ?_⟩
    have := h.inj mq ht e
    injection this with _ _ h7
    injection h7 with h7
    exact hqk h7
  | false =>
    obtain ⟨leaf2, rows2, _, hl7, hpr2, _, _, _, _, h8⟩ := okT_block (h.ws.ok _ mq)
    have hz : leaf2 = false := by rw [← hl7]; exact hlq
    have h9 := h8 hz
    obtain ⟨p2, r2, e2⟩ : ∃ p r, rows2 = p :: r := by
      cases rows2 with
      | nil => simp at h9
      | cons p r => exact ⟨p, r, rfl⟩
    have hk2 := kid_in (u := ⟨numOf q, u.d + 1, some (keyOf q)⟩) hlq (p := p2) (by rw [hpr2, e2]; exact List.mem_cons_self)
    obtain ⟨l2, hl8, hl9, hl10⟩ := h.ws.deep _ (h.kid mq hk2)
    have hlev2 := h.level hl8 ht hl9 hl
    have z1 : u.d + 1 + 1 ≤ l2.d := hl10
    have z2 : l2.d = u.d + 1 := hlev2
    omega
end BP
/-! BLSpoil3: what breaks a sound tree, third part. -/
namespace BP
open BL
open PySem (Str)
variable {B B' : List (Int × D)} {w : Int} {vs vs' : List Tl}
/-- the walk over B, as B' has it: all but the leaf n are there, as deep -/
theorem WS.same {S : List Tl} {n : Int} (hB : WS B w S vs) (h : SoundP B' w vs') (hl : leafB (blkOf B n) = true) (hg : ∀ j, j ≠ n → j ∈ akeys B → aget B' j = aget B j) : (∀ t ∈ S, ∃ t' ∈ vs', t'.n = t.n ∧ t'.d = t.d) → ∀ t ∈ vs, ∃ t' ∈ vs', t'.n = t.n ∧ t'.d = t.d := by
  induction hB with
  | nil => exact fun _ t ht => by (cases ht)
  | @step t rest vs ho hv ih =>
    intro hS
    have hall := ih fun x hx => by
      rcases List.mem_append.mp hx with hx | hx
      · obtain ⟨t', ht', e1, e2⟩ := hS t List.mem_cons_self
        obtain ⟨hd, hlf, p, hp, rfl⟩ := kid_depth hx
        have hne : t.n ≠ n := fun z => by
          rw [z, hl] at hlf
          cases hlf
        have hk : t.n ∈ akeys B := (WS.step ho hv).key List.mem_cons_self
        have hgt := hg t.n hne hk
        have hb : blkOf B' t'.n = blkOf B t.n := by unfold blkOf; rw [e1, hgt]
        have hkid := kid_in (B := B') (u := t') (p := p) (by rw [hb]; exact hlf) (by rw [hb]; exact hp)
        refine ⟨_, h.kid ht' hkid, rfl, ?_⟩
        show t'.d + 1 = t.d + 1
        omega
      · exact hS x (List.mem_cons_of_mem _ hx)
    intro x hx
    rcases List.mem_cons.mp hx with rfl | hx
    · exact hS x List.mem_cons_self
    · exact hall x hx
theorem SoundP.same {n : Int} (hB : SoundP B w vs) (h : SoundP B' w vs') (hl : leafB (blkOf B n) = true) (hg : ∀ j, j ≠ n → j ∈ akeys B → aget B' j = aget B j) : ∀ t ∈ vs, ∃ t' ∈ vs', t'.n = t.n ∧ t'.d = t.d :=
  hB.ws.same h hl hg fun t ht => by
    have : t = ⟨0, 0, none⟩ := by simpa using ht
    subst this
    exact ⟨_, h.root, rfl, rfl⟩
/-- a leaf that has become a branch -/
theorem deeper (hB : SoundP B w vs) {n : Int} (hn : n ∈ akeys B) (h0 : n ≠ 0) (hl : leafB (blkOf B n) = true) (hg : ∀ j, j ≠ n → j ∈ akeys B → aget B' j = aget B j) (hlX : leafB (blkOf B' n) = false) {p : D} (hp : p ∈ pairsOf (blkOf B' n)) (hpl : leafB (blkOf B' (numOf p)) = true) : ¬ ∃ vs', SoundP B' w vs' := fun ⟨vs', h⟩ => by
  obtain ⟨t, ht, rfl⟩ := hB.there hn
  obtain ⟨l, hl1, hl2, hl3⟩ := hB.other ht h0 hl
  have hlev := hB.level ht hl1 hl hl2
  obtain ⟨t', ht', e1, e2⟩ := hB.same h hl hg t ht
  obtain ⟨l', hl', e3, e4⟩ := hB.same h hl hg l hl1
  have hll : leafB (blkOf B' l'.n) = true := by
    unfold blkOf
    rw [e3, hg _ hl3 (hB.ws.key hl1)]
    exact hl2
  have hk := kid_in (B := B') (u := t') (p := p) (by rw [e1]; exact hlX) (by rw [e1]; exact hp)
  have := h.level (h.kid ht' hk) hl' hpl hll
  have z : t'.d + 1 = l'.d := this
  omega
theorem rise_pw : ∀ {ks : List Int}, rise ks → ks.Pairwise (· < ·)
  | [], _ => .nil
  | a :: r, h => by
    have hr : rise r := fun k x y hx hy => h (k + 1) x y (by simpa using hx) (by simpa using hy)
    have ih := rise_pw hr
    rw [List.pairwise_cons]
    refine ⟨fun y hy => ?_, ih⟩
    match r, ih with
    | b :: r2, ih =>
      have hab : a < b := h 0 a b rfl rfl
      rcases List.mem_cons.mp hy with rfl | hy
      · exact hab
      · have := (List.pairwise_cons.mp ih).1 y hy
        omega
theorem pw_flat {α : Type} {R : α → α → Prop} : ∀ {ls : List (List α)} {i j : Nat} {a b : List α} {x y : α}, ls.flatten.Pairwise R → ls[i]? = some a → ls[j]? = some b → i < j → x ∈ a → y ∈ b → R x y
  | [], i, j, a, b, x, y, h, hi, _, _, _, _ => by simp at hi
  | l :: ls, 0, j + 1, a, b, x, y, h, hi, hj, _, hx, hy => by
    rw [List.flatten_cons, List.pairwise_append] at h
    simp at hi hj
    subst hi
    exact h.2.2 x hx y (List.mem_flatten.mpr ⟨b, List.mem_of_getElem? hj, hy⟩)
  | l :: ls, i + 1, j + 1, a, b, x, y, h, hi, hj, hij, hx, hy => by
    rw [List.flatten_cons, List.pairwise_append] at h
    simp at hi hj
    exact pw_flat h.2.1 hi hj (by omega) hx hy
/-- one key in two leaves -/
theorem two_leaves {n m : Int} {x y : D} (hn : n ∈ akeys B) (hm : m ∈ akeys B) (h1 : leafB (blkOf B n) = true) (h2 : leafB (blkOf B m) = true) (hnm : n ≠ m) (hx : x ∈ pairsOf (blkOf B n)) (hy : y ∈ pairsOf (blkOf B m)) (e : keyOf x = keyOf y) : ¬ ∃ vs, SoundP B w vs := fun ⟨vs, h⟩ => by
  obtain ⟨t, ht, rfl⟩ := h.there hn
  obtain ⟨s, hs, rfl⟩ := h.there hm
  have hpw := rise_pw h.up
  unfold keysW rowsW at hpw
  rw [List.pairwise_map] at hpw
  obtain ⟨i, hi⟩ := List.mem_iff_getElem?.mp ht
  obtain ⟨j, hj⟩ := List.mem_iff_getElem?.mp hs
  have g1 : (vs.map (rowsT B))[i]? = some (pairsOf (blkOf B t.n)) := by
    rw [List.getElem?_map, hi]
    show some (rowsT B t) = _
    unfold rowsT
    rw [if_pos h1]
  have g2 : (vs.map (rowsT B))[j]? = some (pairsOf (blkOf B s.n)) := by
    rw [List.getElem?_map, hj]
    show some (rowsT B s) = _
    unfold rowsT
    rw [if_pos h2]
  rcases Nat.lt_trichotomy i j with c | c | c
  · have := pw_flat hpw g1 g2 c hx hy
    omega
  · subst c
    rw [hi] at hj
    injection hj with hj
    exact hnm (by rw [hj])
  · have := pw_flat hpw g2 g1 c hy hx
    omega
/-- a leaf's last pair for one with a key from another leaf -/
theorem key_twice (hB : SoundP B w vs) {n : Int} {x : D} {X : D} (hn : n ∈ akeys B) (hl : leafB (blkOf B n) = true) (hno : ∀ y ∈ pairsOf (blkOf B n), keyOf y ≠ keyOf x) (hX : leafB X = true) (hx : x ∈ pairsOf X) (hk : keyOf x ∈ keysW B vs) : ¬ ∃ vs', SoundP (aput B n X) w vs' := by
  unfold keysW rowsW at hk
  obtain ⟨y, hy, e⟩ := List.mem_map.mp hk
  obtain ⟨r, hr, hyr⟩ := List.mem_flatten.mp hy
  obtain ⟨t, ht, rfl⟩ := List.mem_map.mp hr
  have htl : leafB (blkOf B t.n) = true := by
    unfold rowsT at hyr
    split at hyr
    · assumption
    · cases hyr
  unfold rowsT at hyr
  rw [if_pos htl] at hyr
  have hne : t.n ≠ n := fun z => by
    rw [z] at hyr
    exact hno y hyr e
  have hb : blkOf (aput B n X) t.n = blkOf B t.n := by
    unfold blkOf
    rw [aget_aput, if_neg hne]
  have ha : t.n ∈ akeys (aput B n X) := by
    rw [← aget_isSome, aget_aput, if_neg hne, aget_isSome]
    exact hB.ws.key ht
  exact two_leaves key_put ha (by rw [blk_put]; exact hX) (by rw [hb]; exact htl) (fun z => hne z.symm) (by rw [blk_put]; exact hx) (by rw [hb]; exact hyr) e.symm
theorem blockB_wide {d : D} {least least' most : Int} (h : blockB d least most = true) (h2 : least' ≤ (pairsOf d).length) : blockB d least' (most + 1) = true := by
  obtain ⟨leaf, ds, rfl, hl, hp, hr, h3, h4⟩ := block_parts h
  rw [hp] at h2
  exact block_of (leaf := leaf) hr h2 (by omega)
/-- one wider -/
theorem wider (hB : SoundP B w vs) (hw : 0 < w) : (∃ vs', SoundP B (w + 1) vs') ↔ ∀ n ∈ akeys B, 0 < n → (w + 1 + 1) / 2 ≤ ((pairsOf (blkOf B n)).length : Int) := by
  constructor
  · rintro ⟨vs', h⟩ n hn h0
    obtain ⟨t, ht, rfl, ho⟩ := h.ok hn
    obtain ⟨leaf, rows, _, _, hp, _, h1, _⟩ := okT_block ho
    rw [hp]
    unfold leastOf at h1
    rw [if_pos h0] at h1
    exact h1
  · intro hall
    refine ⟨vs, ⟨?_, hB.nd, hB.all, hB.flat, hB.up⟩⟩
    have key : ∀ S vs2, WS B w S vs2 → WS B (w + 1) S vs2 := by
      intro S vs2 h
      induction h with
      | nil => exact .nil
      | @step t rest vs ho hv ih =>
        refine .step ?_ ih
        have hk : t.n ∈ akeys B := (WS.step ho hv).key List.mem_cons_self
        unfold okT at ho ⊢
        rw [Bool.and_eq_true] at ho ⊢
        refine ⟨blockB_wide ho.1 ?_, ho.2⟩
        unfold leastOf
        split
        · rename_i h0
          exact hall _ hk h0
        · omega
    exact key _ _ hB.ws
end BP
/-! BLSee: a sound tree's blocks may be looked at, and are plain. -/
namespace BP
open BL
open PySem (Str)
variable {M : Mem}
theorem pair_shape {leaf : Bool} {d : D} (h : pairB leaf d = true) : ∃ (k : Int) (v : D), d = .tup [.int k, v] ∧ keyB (.int k) = true ∧ (if leaf = true then valB v else posB v) = true := by
  unfold pairB at h
  split at h
  · rename_i a b
    rw [Bool.and_eq_true] at h
    obtain ⟨h1, h2⟩ := h
    cases a with
    | int k => exact ⟨k, b, rfl, h1, h2⟩
    | _ => cases h1
  · cases h
theorem val_seen {leaf : Bool} {v : D} (h : (if leaf = true then valB v else posB v) = true) : Kn M v ∧ shortD v ∧ Pl 40 v := by
  cases leaf with
  | true =>
    rw [if_pos rfl] at h
    cases v with
    | str s =>
      have hg : goodS s.cps.toList := of_decide_eq_true h
      refine ⟨kn_str, ?_, pl_str ?_⟩
      · show s.length < _
        have := hg.1
        have e : s.length = s.cps.toList.length := by simp [Str.length]
        omega
      · show (Array.all _ _) = true
        rw [← Array.all_toList, List.all_eq_true]
        intro x hx
        have := hg.2 x hx
        simp
        omega
    | _ => cases h
  | false =>
    rw [if_neg Bool.false_ne_true] at h
    cases v with
    | int i => exact ⟨kn_int, trivial, pl_int⟩
    | _ => cases h
theorem pair_seen {leaf : Bool} {d : D} (h : pairB leaf d = true) : SeenP M d ∧ Pl 41 d := by
  obtain ⟨k, v, rfl, h1, h2⟩ := pair_shape h
  obtain ⟨v1, v2, v3⟩ := val_seen (M := M) h2
  refine ⟨⟨kn_tup, fun a b e => ?_⟩, pl_tup fun x hx => ?_⟩
  · cases e
    exact ⟨kn_int, v1, v2⟩
  · rcases List.mem_cons.mp hx with rfl | hx
    · exact pl_int
    · have : x = v := by simpa using hx
      rw [this]
      exact v3
theorem kind_pl (leaf : Bool) : Pl 50 (.str (kindS leaf)) := by
  cases leaf
  · exact pl_str (by decide +kernel)
  · exact pl_str (by decide +kernel)
theorem pl_up {n : Nat} {d : D} (h : Pl n d) : ∀ k, Pl (n + k) d
  | 0 => h
  | k + 1 => (pl_up h k).mono
/-- a block of a kind that is plain, of pairs that may be looked at -/
theorem blk_seenB {a : D} {rows : List D} (ha : Pl 50 a) (h : ∀ x ∈ rows, SeenP M x) (hk : Kn M a) : SeenB M (.tup [a, .tup rows]) := ⟨kn_tup, fun a' b' e => by
  cases e
  refine ⟨kn_tup, fun s hs => ne_pl ha s hs, fun ds e2 x hx => ?_⟩
  cases e2
  exact h x hx⟩
theorem row_seen {leaf : Bool} {rows : List D} (h : rowB leaf rows = true) : (∀ x ∈ rows, SeenP M x) ∧ ∀ x ∈ rows, Pl 41 x :=
  ⟨fun x hx => (pair_seen (((rowB_pw _).mp h).1 x hx)).1, fun x hx => (pair_seen (M := M) (((rowB_pw _).mp h).1 x hx)).2⟩
theorem blk_pl {leaf : Bool} {rows : List D} (h : ∀ x ∈ rows, Pl 41 x) : Pl 50 (blkD leaf rows) := by
  refine pl_tup fun x hx => ?_
  rcases List.mem_cons.mp hx with rfl | hx
  · exact (by cases leaf <;> exact pl_str (by decide +kernel))
  · have : x = .tup rows := by simpa using hx
    rw [this]
    exact pl_up (pl_tup h) 7
/-- what stands in a sound tree -/
theorem SoundP.blk {B : List (Int × D)} {w : Int} {vs : List Tl} (h : SoundP B w vs) {n : Int} {d : D} (e : aget B n = some d) : ∃ (leaf : Bool) (rows : List D), d = blkD leaf rows ∧ rowB leaf rows = true ∧ leastOf w n ≤ rows.length ∧ (rows.length : Int) ≤ w ∧ (leaf = false → 2 ≤ rows.length) := by
  obtain ⟨t, ht, rfl, ho⟩ := h.ok (n := n) (by rw [← aget_isSome, e]; rfl)
  obtain ⟨leaf, rows, hg, _, _, hr, h1, h2, _, h3⟩ := okT_block ho
  rw [e] at hg
  injection hg with hg
  exact ⟨leaf, rows, hg, hr, h1, h2, h3⟩
theorem SoundP.look {B : List (Int × D)} {w : Int} {vs : List Tl} (h : SoundP B w vs) (hw : w ≤ 64) (M : Mem) : Look M B := ⟨fun n d e => by
  obtain ⟨leaf, rows, rfl, hr, _⟩ := h.blk e
  exact blk_seenB (kind_pl leaf) (row_seen hr).1 kn_str, fun n d a ds e e2 => by
  obtain ⟨leaf, rows, rfl, hr, _, h2, _⟩ := h.blk e
  have e3 : (D.tup [.str (kindS leaf), .tup rows]) = .tup [a, .tup ds] := e2
  injection e3 with e3
  injection e3 with _ e3
  injection e3 with e3 _
  injection e3 with e3
  subst e3
  omega⟩
theorem SoundP.plain {B : List (Int × D)} {w : Int} {vs : List Tl} (h : SoundP B w vs) (nd : (akeys B).Nodup) : plainD B := fun p hp => by
  obtain ⟨leaf, rows, e, hr, _⟩ := h.blk (mem_aget (k := p.1) (d := p.2) nd hp)
  rw [e]
  exact blk_pl (row_seen (M := []) hr).2
theorem Look.put {B : List (Int × D)} {n : Int} {X : D} (h : Look M B) (hX : SeenB M X) (hs : ∀ a ds, X = .tup [a, .tup ds] → ds.length < 1000000) : Look M (aput B n X) := ⟨fun j d e => by
  rw [aget_aput] at e
  split at e
  · injection e with e
    rw [← e]
    exact hX
  · exact h.seen j d e, fun j d a ds e e2 => by
  rw [aget_aput] at e
  split at e
  · injection e with e
    exact hs a ds (by rw [e, e2])
  · exact h.size j d a ds e e2⟩
theorem Look.del {B : List (Int × D)} {n : Int} (h : Look M B) : Look M (adel B n) := ⟨fun j d e => by
  rw [aget_adel] at e
  split at e
  · cases e
  · exact h.seen j d e, fun j d a ds e e2 => by
  rw [aget_adel] at e
  split at e
  · cases e
  · exact h.size j d a ds e e2⟩
end BP
namespace BK07
open PySem L2 BL
def topS (i : Nat) : Stmt := PySem.Challenge.pw_btreelog_k07_sound.main.body.getD i (.Pass ⟨0, 0, 0, 0⟩)
def d_law_width_by : He.DefD := ⟨("_law_width_by", none), "_law_width_by", "_law_width_by", defArgs (topS 15), defBody (topS 15), defScope (topS 15), [], []⟩
def d_law_level : He.DefD := ⟨("_law_level", none), "_law_level", "_law_level", defArgs (topS 16), defBody (topS 16), defScope (topS 16), [], []⟩
def d_law_tree_by : He.DefD := ⟨("_law_tree_by", none), "_law_tree_by", "_law_tree_by", defArgs (topS 17), defBody (topS 17), defScope (topS 17), [], []⟩
def d_law_pair_spoilt : He.DefD := ⟨("_law_pair_spoilt", none), "_law_pair_spoilt", "_law_pair_spoilt", defArgs (topS 18), defBody (topS 18), defScope (topS 18), [], []⟩
def d_law_block_spoilt : He.DefD := ⟨("_law_block_spoilt", none), "_law_block_spoilt", "_law_block_spoilt", defArgs (topS 19), defBody (topS 19), defScope (topS 19), [], []⟩
def d_law_ringed : He.DefD := ⟨("_law_ringed", none), "_law_ringed", "_law_ringed", defArgs (topS 21), defBody (topS 21), defScope (topS 21), [], []⟩
def d_law_deeper : He.DefD := ⟨("_law_deeper", none), "_law_deeper", "_law_deeper", defArgs (topS 20), defBody (topS 20), defScope (topS 20), [], []⟩
def d_law_tree_spoilt : He.DefD := ⟨("_law_tree_spoilt", none), "_law_tree_spoilt", "_law_tree_spoilt", defArgs (topS 22), defBody (topS 22), defScope (topS 22), [], []⟩
def d_law_spoilt : He.DefD := ⟨("_law_spoilt", none), "_law_spoilt", "_law_spoilt", defArgs (topS 25), defBody (topS 25), defScope (topS 25), [], []⟩
def d_law_cell_at : He.DefD := ⟨("_law_cell_at", none), "_law_cell_at", "_law_cell_at", defArgs (topS 14), defBody (topS 14), defScope (topS 14), [], []⟩
def d_law_says : He.DefD := ⟨("_law_says", none), "_law_says", "_law_says", defArgs (topS 23), defBody (topS 23), defScope (topS 23), [], []⟩
def d_half : He.DefD := ⟨("half", none), "half", "half", defArgs (topS 6), defBody (topS 6), defScope (topS 6), [], []⟩
def d_is_value : He.DefD := ⟨("is_value", none), "is_value", "is_value", defArgs (topS 5), defBody (topS 5), defScope (topS 5), [], []⟩
def d_is_whole : He.DefD := ⟨("is_whole", none), "is_whole", "is_whole", defArgs (topS 3), defBody (topS 3), defScope (topS 3), [], []⟩
def d_is_key : He.DefD := ⟨("is_key", none), "is_key", "is_key", defArgs (topS 4), defBody (topS 4), defScope (topS 4), [], []⟩
def d_is_pair : He.DefD := ⟨("is_pair", none), "is_pair", "is_pair", defArgs (topS 7), defBody (topS 7), defScope (topS 7), [], []⟩
def d_is_block : He.DefD := ⟨("is_block", none), "is_block", "is_block", defArgs (topS 8), defBody (topS 8), defScope (topS 8), [], []⟩
def d_leaves_of : He.DefD := ⟨("leaves_of", none), "leaves_of", "leaves_of", defArgs (topS 11), defBody (topS 11), defScope (topS 11), [], []⟩
def d_listed : He.DefD := ⟨("listed", none), "listed", "listed", defArgs (topS 10), defBody (topS 10), defScope (topS 10), [], []⟩
def d_sound : He.DefD := ⟨("sound", none), "sound", "sound", defArgs (topS 12), defBody (topS 12), defScope (topS 12), [], []⟩
def d_law_as_wide : He.DefD := ⟨("_law_as_wide", none), "_law_as_wide", "_law_as_wide", defArgs (topS 24), defBody (topS 24), defScope (topS 24), [], []⟩
def d_law : He.DefD := ⟨("law", none), "law", "law", defArgs (topS 26), defBody (topS 26), defScope (topS 26), [], []⟩
def fn : List He.DefD := [d_law_width_by, d_law_level, d_law_tree_by, d_law_pair_spoilt, d_law_block_spoilt, d_law_ringed, d_law_deeper, d_law_tree_spoilt, d_law_spoilt, d_law_cell_at, d_law_says, d_half, d_is_value, d_is_whole, d_is_key, d_is_pair, d_is_block, d_leaves_of, d_listed, d_sound, d_law_as_wide, d_law]
def fa : List He.Fa := [.glo "_law_width_by", .free "len", .free "max", .free "range", .free "int", .free "tuple", .glo "_law_level", .glo "_law_tree_by", .free "str", .glo "_law_pair_spoilt", .free "list", .glo "_law_block_spoilt", .glo "_law_ringed", .free "min", .glo "_law_deeper", .free "dict", .glo "_law_tree_spoilt", .glo "_law_spoilt", .glo "_law_cell_at", .glo "_law_says", .glo "half", .free "isinstance", .int "VALUE_SIGNS" 60, .glo "is_value", .free "bool", .glo "is_whole", .int "KEY_LIMIT" 1000000000000000000000000000000000000000000000000000000000000, .glo "is_key", .glo "is_pair", .free "enumerate", .glo "is_block", .free "reversed", .glo "leaves_of", .glo "listed", .free "set", .glo "sound", .glo "_law_as_wide", .free "sorted", .glo "law"]
def tf : List (Str × List He.Dv) := []
section
variable {P : Program} {w : World} {K : PySem.W.Frag} {mg : Str → Option Value} {base : Heap} {C : Addr}
/-! _law_width_by -/
abbrev s_law_width_by : Stmt := topS 15
theorem sc_law_width_by : FnScope ["_law_cell"] ["_law_cell"] (defScope s_law_width_by) := ⟨rfl, rfl, rfl, by decide +kernel, rfl, by decide +kernel, by decide +kernel⟩
noncomputable def b_law_width_by_0 : GS := (mIte (mT (mBin oEq (mBin oMod (mVar 0) (mC (.int 8))) (mC (.int 7)))) (mRet (mBin oAdd (mC (.int 3)) (mBin oMod (mBin oDiv (mVar 0) (mC (.int 8))) (mC (.int 62))))) mSkip)
noncomputable def b_law_width_by_1 : GS := (mRet (mBin oAdd (mC (.int 3)) (mBin oMod (mBin oDiv (mVar 0) (mC (.int 8))) (mC (.int 4)))))
noncomputable def b_law_width_by : GS := (mSeq b_law_width_by_0 b_law_width_by_1)
noncomputable def g_law_width_by : Fn := mDef 1 1 b_law_width_by
theorem cal_law_width_by (T : Tx fa fn tf K mg) : Cal P w K mg base C 1 "_law_width_by" ["_law_cell"] g_law_width_by :=
  ok_calT (st := s_law_width_by) (N := ["_law_cell"]) (k := 0) (body := b_law_width_by) (T.def_ 0 0) sc_law_width_by (fun _ _ _ _ _ _ us hl => match us, hl with | [_], _ => rfl)
    (fun X W f cdv A outer s H E hX hW hr hp tk => by
      have hN := sc_law_width_by.nd
      have hu := room100 hr
      have hu1 := L2.hu_of hr
      have lx := lets_of tk
      refine sss_cons (show SS _ _ _ _ b_law_width_by_0 from (ss_if (st_cmp (or_eq hu) (se_bin or_mod (se_var (pv 0)) se_int) se_int (by first | rfl | exact nomark _ | decide)) (sss_one (ss_ret (se_bin or_add se_int (se_bin or_mod (se_bin or_div (se_var (pv 0)) se_int) se_int)))) sss_nil)) ?_
      exact sss_one (show SS _ _ _ _ b_law_width_by_1 from (ss_ret (se_bin or_add se_int (se_bin or_mod (se_bin or_div (se_var (pv 0)) se_int) se_int)))))
/-! _law_level -/
abbrev s_law_level : Stmt := topS 16
theorem sc_law_level : FnScope ["_law_pairs", "_law_width", "_law_cell", "_law_least", "_law_most", "_law_many", "_law_rows", "_law_at", "_law_k", "_law_size"] ["_law_pairs", "_law_width", "_law_cell"] (defScope s_law_level) := ⟨rfl, rfl, rfl, by decide +kernel, rfl, by decide +kernel, by decide +kernel⟩
noncomputable def b_law_level_0 : GS := (mSet 3 (mUn oNeg (mBin oDiv (mUn oNeg (mCB oLen (mCons (mVar 0) mNil))) (mVar 1))))
noncomputable def b_law_level_1 : GS := (mSet 4 (mCB oMax2 (mCons (mC (.int 1)) (mCons (mBin oDiv (mCB oLen (mCons (mVar 0) mNil)) (mBin oDiv (mBin oAdd (mVar 1) (mC (.int 1))) (mC (.int 2)))) mNil))))
noncomputable def b_law_level_2 : GS := (mSet 5 (mBin oAdd (mVar 3) (mBin oMod (mVar 2) (mBin oAdd (mBin oSub (mVar 4) (mVar 3)) (mC (.int 1))))))
noncomputable def b_law_level_3 : GS := (mSet 6 (mLst mNil))
noncomputable def b_law_level_4 : GS := (mSet 7 (mC (.int 0)))
noncomputable def b_law_level_5 : GS := (mFor (mRange1 (mVar 5)) (mName 8) (mSeq (mSet 9 (mBin oAdd (mBin oDiv (mCB oLen (mCons (mVar 0) mNil)) (mVar 5)) (mCB oInt (mCons (mBin oLt (mVar 8) (mBin oMod (mCB oLen (mCons (mVar 0) mNil)) (mVar 5))) mNil)))) (mSeq (mExpr (mMtL oAppend (mVar 6) (mCons (mCB oTuple (mCons (mSl (mVar 0) (mSome (mVar 7)) (mSome (mBin oAdd (mVar 7) (mVar 9)))) mNil)) mNil))) (mSet 7 (mBin oAdd (mVar 7) (mVar 9))))))
noncomputable def b_law_level_6 : GS := (mRet (mVar 6))
noncomputable def b_law_level : GS := (mSeq b_law_level_0 (mSeq b_law_level_1 (mSeq b_law_level_2 (mSeq b_law_level_3 (mSeq b_law_level_4 (mSeq b_law_level_5 b_law_level_6))))))
noncomputable def g_law_level : Fn := mDef 3 10 b_law_level
theorem cal_law_level (T : Tx fa fn tf K mg) : Cal P w K mg base C 1 "_law_level" ["_law_pairs", "_law_width", "_law_cell"] g_law_level :=
  ok_calT (st := s_law_level) (N := ["_law_pairs", "_law_width", "_law_cell", "_law_least", "_law_most", "_law_many", "_law_rows", "_law_at", "_law_k", "_law_size"]) (k := 0) (body := b_law_level) (T.def_ 1 6) sc_law_level (fun _ _ _ _ _ _ us hl => match us, hl with | [_, _, _], _ => rfl)
    (fun X W f cdv A outer s H E hX hW hr hp tk => by
      have hN := sc_law_level.nd
      have hu := room100 hr
      have hu1 := L2.hu_of hr
      have lx := lets_of tk
      refine sss_cons (show SS _ _ _ _ b_law_level_0 from (ss_set hN rfl (by first | exact Or.inl rfl | exact Or.inr rfl) (se_un ur_neg (se_bin or_div (se_un ur_neg (se_cb cl_len rfl (T.free 1) bv_len (sa_cons (se_var (pv 0)) sa_nil))) (se_var (pv 1)))))) ?_
      refine sss_cons (show SS _ _ _ _ b_law_level_1 from (ss_set hN rfl (by first | exact Or.inl rfl | exact Or.inr rfl) (se_cb (cl_max2 rfl) rfl (T.free 2) bv_max (sa_cons se_int (sa_cons (se_bin or_div (se_cb cl_len rfl (T.free 1) bv_len (sa_cons (se_var (pv 0)) sa_nil)) (se_bin or_div (se_bin or_add (se_var (pv 1)) se_int) se_int)) sa_nil))))) ?_
      refine sss_cons (show SS _ _ _ _ b_law_level_2 from (ss_set hN rfl (by first | exact Or.inl rfl | exact Or.inr rfl) (se_bin or_add (se_var (pv 3)) (se_bin or_mod (se_var (pv 2)) (se_bin or_add (se_bin or_sub (se_var (pv 4)) (se_var (pv 3))) se_int))))) ?_
      refine sss_cons (show SS _ _ _ _ b_law_level_3 from (ss_set hN rfl (by first | exact Or.inl rfl | exact Or.inr rfl) (se_lst sa_nil))) ?_
      refine sss_cons (show SS _ _ _ _ b_law_level_4 from (ss_set hN rfl (by first | exact Or.inl rfl | exact Or.inr rfl) se_int)) ?_
      refine sss_cons (show SS _ _ _ _ b_law_level_5 from (ss_for hp rfl (si_range1 rfl (T.free 3) (se_var (pv 5))) (stg_name hN rfl (by first | exact Or.inl rfl | exact Or.inr rfl)) (sss_cons (ss_set hN rfl (by first | exact Or.inl rfl | exact Or.inr rfl) (se_bin or_add (se_bin or_div (se_cb cl_len rfl (T.free 1) bv_len (sa_cons (se_var (pv 0)) sa_nil)) (se_var (pv 5))) (se_cty cl_int rfl (T.free 4) bv_int (sa_cons (se_cmp or_lt (se_var (pv 8)) (se_bin or_mod (se_cb cl_len rfl (T.free 1) bv_len (sa_cons (se_var (pv 0)) sa_nil)) (se_var (pv 5))) (by first | rfl | exact nomark _ | decide)) sa_nil)))) (sss_cons (ss_expr (se_mtL PySem.F.slot_list_append PySem.F.type_list_append rm_append (se_var (pv 6)) (sa_cons (se_cty cl_tuple rfl (T.free 5) bv_tuple (sa_cons (se_sl (se_var (pv 0)) (so_some (se_var (pv 7))) (so_some (se_bin or_add (se_var (pv 7)) (se_var (pv 9))))) sa_nil)) sa_nil))) (sss_one (ss_set hN rfl (by first | exact Or.inl rfl | exact Or.inr rfl) (se_bin or_add (se_var (pv 7)) (se_var (pv 9))))))))) ?_
      exact sss_one (show SS _ _ _ _ b_law_level_6 from (ss_ret (se_var (pv 6)))))
/-! _law_tree_by -/
abbrev s_law_tree_by : Stmt := topS 17
theorem sc_law_tree_by : FnScope ["_law_pairs", "_law_width", "_law_cell", "_law_blocks", "_law_kind", "_law_number", "_law_above", "_law_row"] ["_law_pairs", "_law_width", "_law_cell"] (defScope s_law_tree_by) := ⟨rfl, rfl, rfl, by decide +kernel, rfl, by decide +kernel, by decide +kernel⟩
noncomputable def b_law_tree_by_0 : GS := (mSet 3 mDnew)
noncomputable def b_law_tree_by_1 : GS := (mSet 4 (mC (.str "leaf")))
noncomputable def b_law_tree_by_2 : GS := (mSet 5 (mBin oAdd (mC (.int 1)) (mBin oMod (mVar 2) (mC (.int 3)))))
noncomputable def b_law_tree_by_3 : GS := (mWhile (mT (mBin oGt (mCB oLen (mCons (mVar 0) mNil)) (mVar 1))) (mSeq (mSet 6 (mLst mNil)) (mSeq (mFor (mIter (mCall g_law_level (mCons (mVar 0) (mCons (mVar 1) (mCons (mBin oDiv (mVar 2) (mC (.int 3))) mNil))))) (mName 7) (mSeq (mPut oPutA (mVar 3) (mVar 5) (mTup (mCons (mVar 4) (mCons (mVar 7) mNil)))) (mSeq (mExpr (mMtL oAppend (mVar 6) (mCons (mTup (mCons (mBin oIx (mBin oIx (mVar 7) (mC (.int 0))) (mC (.int 0))) (mCons (mVar 5) mNil))) mNil))) (mSet 5 (mBin oAdd (mBin oAdd (mVar 5) (mC (.int 1))) (mBin oMod (mBin oDiv (mVar 2) (mC (.int 5))) (mC (.int 2)))))))) (mSeq (mSet 0 (mVar 6)) (mSet 4 (mC (.str "branch")))))))
noncomputable def b_law_tree_by_4 : GS := (mPut oPutA (mVar 3) (mC (.int 0)) (mTup (mCons (mVar 4) (mCons (mCB oTuple (mCons (mVar 0) mNil)) mNil))))
noncomputable def b_law_tree_by_5 : GS := (mRet (mVar 3))
noncomputable def b_law_tree_by : GS := (mSeq b_law_tree_by_0 (mSeq b_law_tree_by_1 (mSeq b_law_tree_by_2 (mSeq b_law_tree_by_3 (mSeq b_law_tree_by_4 b_law_tree_by_5)))))
noncomputable def g_law_tree_by : Fn := mDef 3 8 b_law_tree_by
theorem cal_law_tree_by (T : Tx fa fn tf K mg) : Cal P w K mg base C 2 "_law_tree_by" ["_law_pairs", "_law_width", "_law_cell"] g_law_tree_by :=
  ok_calT (st := s_law_tree_by) (N := ["_law_pairs", "_law_width", "_law_cell", "_law_blocks", "_law_kind", "_law_number", "_law_above", "_law_row"]) (k := 1) (body := b_law_tree_by) (T.def_ 2 7) sc_law_tree_by (fun _ _ _ _ _ _ us hl => match us, hl with | [_, _, _], _ => rfl)
    (fun X W f cdv A outer s H E hX hW hr hp tk => by
      have hN := sc_law_tree_by.nd
      have hu := room100 hr
      have hu1 := L2.hu_of hr
      have lx := lets_of tk
      refine sss_cons (show SS _ _ _ _ b_law_tree_by_0 from (ss_set hN rfl (by first | exact Or.inl rfl | exact Or.inr rfl) se_dnew)) ?_
      refine sss_cons (show SS _ _ _ _ b_law_tree_by_1 from (ss_set hN rfl (by first | exact Or.inl rfl | exact Or.inr rfl) se_str)) ?_
      refine sss_cons (show SS _ _ _ _ b_law_tree_by_2 from (ss_set hN rfl (by first | exact Or.inl rfl | exact Or.inr rfl) (se_bin or_add se_int (se_bin or_mod (se_var (pv 2)) se_int)))) ?_
      refine sss_cons (show SS _ _ _ _ b_law_tree_by_3 from (ss_while hp (st_cmp or_gt (se_cb cl_len rfl (T.free 1) bv_len (sa_cons (se_var (pv 0)) sa_nil)) (se_var (pv 1)) (by first | rfl | exact nomark _ | decide)) (sss_cons (ss_set hN rfl (by first | exact Or.inl rfl | exact Or.inr rfl) (se_lst sa_nil)) (sss_cons (ss_for hp rfl (si_seq (se_cal (cal_law_level T) (hr.mono (by decide)) lx (sa_cons (se_var (pv 0)) (sa_cons (se_var (pv 1)) (sa_cons (se_bin or_div (se_var (pv 2)) se_int) sa_nil))))) (stg_name hN rfl (by first | exact Or.inl rfl | exact Or.inr rfl)) (sss_cons (ss_put (ps_putA hu1) (se_var (pv 3)) (se_var (pv 5)) (se_tup (sa_cons (se_var (pv 4)) (sa_cons (se_var (pv 7)) sa_nil)))) (sss_cons (ss_expr (se_mtL PySem.F.slot_list_append PySem.F.type_list_append rm_append (se_var (pv 6)) (sa_cons (se_tup (sa_cons (se_ix hu1 (se_ix hu1 (se_var (pv 7)) se_int (fun _ _ => rfl)) se_int (fun _ _ => rfl)) (sa_cons (se_var (pv 5)) sa_nil))) sa_nil))) (sss_one (ss_set hN rfl (by first | exact Or.inl rfl | exact Or.inr rfl) (se_bin or_add (se_bin or_add (se_var (pv 5)) se_int) (se_bin or_mod (se_bin or_div (se_var (pv 2)) se_int) se_int))))))) (sss_cons (ss_set hN rfl (by first | exact Or.inl rfl | exact Or.inr rfl) (se_var (pv 6))) (sss_one (ss_set hN rfl (by first | exact Or.inl rfl | exact Or.inr rfl) se_str))))))) ?_
      refine sss_cons (show SS _ _ _ _ b_law_tree_by_4 from (ss_put (ps_putA hu1) (se_var (pv 3)) se_int (se_tup (sa_cons (se_var (pv 4)) (sa_cons (se_cty cl_tuple rfl (T.free 5) bv_tuple (sa_cons (se_var (pv 0)) sa_nil)) sa_nil))))) ?_
      exact sss_one (show SS _ _ _ _ b_law_tree_by_5 from (ss_ret (se_var (pv 3)))))
/-! _law_pair_spoilt -/
abbrev s_law_pair_spoilt : Stmt := topS 18
theorem sc_law_pair_spoilt : FnScope ["_law_kind", "_law_pair", "_law_cell"] ["_law_kind", "_law_pair", "_law_cell"] (defScope s_law_pair_spoilt) := ⟨rfl, rfl, rfl, by decide +kernel, rfl, by decide +kernel, by decide +kernel⟩
noncomputable def b_law_pair_spoilt_0 : GS := (mIte (mT (mBin oEq (mBin oMod (mVar 2) (mC (.int 3))) (mC (.int 0)))) (mRet (mTup (mCons (mBin oIx (mLst (mCons (mC (.bl true)) (mCons (mBin oPow (mC (.int 10)) (mC (.int 60))) (mCons (mCB oStr (mCons (mBin oIx (mVar 1) (mC (.int 0))) mNil)) (mCons (mC .non) mNil))))) (mBin oMod (mBin oDiv (mVar 2) (mC (.int 3))) (mC (.int 4)))) (mCons (mBin oIx (mVar 1) (mC (.int 1))) mNil)))) mSkip)
noncomputable def b_law_pair_spoilt_1 : GS := (mIte (mT (mBin oEq (mVar 0) (mC (.str "leaf")))) (mRet (mTup (mCons (mBin oIx (mVar 1) (mC (.int 0))) (mCons (mBin oIx (mLst (mCons (mBin oMul (mC (.str "v")) (mC (.int 61))) (mCons (mC (.str "a\tb")) (mCons (mC .non) (mCons (mC (.int 7)) mNil))))) (mBin oMod (mBin oDiv (mVar 2) (mC (.int 3))) (mC (.int 4)))) mNil)))) mSkip)
noncomputable def b_law_pair_spoilt_2 : GS := (mRet (mTup (mCons (mBin oIx (mVar 1) (mC (.int 0))) (mCons (mBin oIx (mLst (mCons (mC (.bl true)) (mCons (mC (.int 0)) (mCons (mUn oNeg (mC (.int 1))) (mCons (mC (.str "1")) mNil))))) (mBin oMod (mBin oDiv (mVar 2) (mC (.int 3))) (mC (.int 4)))) mNil))))
noncomputable def b_law_pair_spoilt : GS := (mSeq b_law_pair_spoilt_0 (mSeq b_law_pair_spoilt_1 b_law_pair_spoilt_2))
noncomputable def g_law_pair_spoilt : Fn := mDef 3 3 b_law_pair_spoilt
theorem cal_law_pair_spoilt (T : Tx fa fn tf K mg) : Cal P w K mg base C 1 "_law_pair_spoilt" ["_law_kind", "_law_pair", "_law_cell"] g_law_pair_spoilt :=
  ok_calT (st := s_law_pair_spoilt) (N := ["_law_kind", "_law_pair", "_law_cell"]) (k := 0) (body := b_law_pair_spoilt) (T.def_ 3 9) sc_law_pair_spoilt (fun _ _ _ _ _ _ us hl => match us, hl with | [_, _, _], _ => rfl)
    (fun X W f cdv A outer s H E hX hW hr hp tk => by
      have hN := sc_law_pair_spoilt.nd
      have hu := room100 hr
      have hu1 := L2.hu_of hr
      have lx := lets_of tk
      refine sss_cons (show SS _ _ _ _ b_law_pair_spoilt_0 from (ss_if (st_cmp (or_eq hu) (se_bin or_mod (se_var (pv 2)) se_int) se_int (by first | rfl | exact nomark _ | decide)) (sss_one (ss_ret (se_tup (sa_cons (se_ix hu1 (se_lst (sa_cons se_bl (sa_cons (se_bin or_pow se_int se_int) (sa_cons (se_cty cl_str rfl (T.free 8) bv_str (sa_cons (se_ix hu1 (se_var (pv 1)) se_int (fun _ _ => rfl)) sa_nil)) (sa_cons se_non sa_nil))))) (se_bin or_mod (se_bin or_div (se_var (pv 2)) se_int) se_int) (fun _ _ => rfl)) (sa_cons (se_ix hu1 (se_var (pv 1)) se_int (fun _ _ => rfl)) sa_nil))))) sss_nil)) ?_
      refine sss_cons (show SS _ _ _ _ b_law_pair_spoilt_1 from (ss_if (st_cmp (or_eq hu) (se_var (pv 0)) se_str (by first | rfl | exact nomark _ | decide)) (sss_one (ss_ret (se_tup (sa_cons (se_ix hu1 (se_var (pv 1)) se_int (fun _ _ => rfl)) (sa_cons (se_ix hu1 (se_lst (sa_cons (se_bin or_mul se_str se_int) (sa_cons se_str (sa_cons se_non (sa_cons se_int sa_nil))))) (se_bin or_mod (se_bin or_div (se_var (pv 2)) se_int) se_int) (fun _ _ => rfl)) sa_nil))))) sss_nil)) ?_
      exact sss_one (show SS _ _ _ _ b_law_pair_spoilt_2 from (ss_ret (se_tup (sa_cons (se_ix hu1 (se_var (pv 1)) se_int (fun _ _ => rfl)) (sa_cons (se_ix hu1 (se_lst (sa_cons se_bl (sa_cons se_int (sa_cons (se_un ur_neg se_int) (sa_cons se_str sa_nil))))) (se_bin or_mod (se_bin or_div (se_var (pv 2)) se_int) se_int) (fun _ _ => rfl)) sa_nil))))))
/-! _law_block_spoilt -/
abbrev s_law_block_spoilt : Stmt := topS 19
theorem sc_law_block_spoilt : FnScope ["_law_block", "_law_root", "_law_way", "_law_width", "_law_more", "_law_kind", "_law_pairs", "_law_at", "_law_k"] ["_law_block", "_law_root", "_law_way", "_law_width", "_law_more"] (defScope s_law_block_spoilt) := ⟨rfl, rfl, rfl, by decide +kernel, rfl, by decide +kernel, by decide +kernel⟩
noncomputable def b_law_block_spoilt_0 : GS := (mSet 5 (mBin oIx (mVar 0) (mC (.int 0))))
noncomputable def b_law_block_spoilt_1 : GS := (mSet 6 (mBin oIx (mVar 0) (mC (.int 1))))
noncomputable def b_law_block_spoilt_2 : GS := (mIte (mAnd (mT (mBin oEq (mVar 2) (mC (.int 0)))) (mT (mBin oGt (mCB oLen (mCons (mVar 6) mNil)) (mC (.int 1))))) (mRet (mTup (mCons (mVar 5) (mCons (mUn oRevL (mVar 6)) mNil)))) mSkip)
noncomputable def b_law_block_spoilt_3 : GS := (mIte (mAnd (mT (mBin oEq (mVar 2) (mC (.int 1)))) (mAnd (mT (mVar 1)) (mT (mBin oEq (mVar 5) (mC (.str "branch")))))) (mRet (mTup (mCons (mVar 5) (mCons (mSl (mVar 6) mNo (mSome (mC (.int 1)))) mNil)))) mSkip)
noncomputable def b_law_block_spoilt_4 : GS := (mIte (mAnd (mT (mBin oEq (mVar 2) (mC (.int 1)))) (mNot (mT (mVar 1)))) (mRet (mTup (mCons (mVar 5) (mCons (mSl (mVar 6) mNo (mSome (mBin oSub (mBin oDiv (mBin oAdd (mVar 3) (mC (.int 1))) (mC (.int 2))) (mC (.int 1))))) mNil)))) mSkip)
noncomputable def b_law_block_spoilt_5 : GS := (mIte (mAnd (mT (mBin oEq (mVar 2) (mC (.int 2)))) (mOr (mNot (mT (mVar 1))) (mT (mBin oEq (mVar 5) (mC (.str "branch")))))) (mRet (mTup (mCons (mVar 5) (mCons (mBin oAdd (mTup (mCons (mTup (mCons (mBin oSub (mBin oIx (mBin oIx (mVar 6) (mC (.int 0))) (mC (.int 0))) (mC (.int 1))) (mCons (mBin oIx (mBin oIx (mVar 6) (mC (.int 0))) (mC (.int 1))) mNil))) mNil)) (mSl (mVar 6) (mSome (mC (.int 1))) mNo)) mNil)))) mSkip)
noncomputable def b_law_block_spoilt_6 : GS := (mIte (mAnd (mT (mBin oEq (mVar 2) (mC (.int 3)))) (mT (mBin oEq (mVar 5) (mC (.str "branch"))))) (mRet (mTup (mCons (mVar 5) (mCons (mBin oAdd (mSl (mVar 6) mNo (mSome (mUn oNeg (mC (.int 1))))) (mTup (mCons (mTup (mCons (mBin oIx (mBin oIx (mVar 6) (mUn oNeg (mC (.int 1)))) (mC (.int 0))) (mCons (mBin oIx (mBin oIx (mVar 6) (mC (.int 0))) (mC (.int 1))) mNil))) mNil))) mNil)))) mSkip)
noncomputable def b_law_block_spoilt_7 : GS := (mIte (mAnd (mT (mBin oEq (mVar 2) (mC (.int 4)))) (mT (mBin oGt (mCB oLen (mCons (mVar 6) mNil)) (mC (.int 0))))) (mRet (mTup (mCons (mVar 5) (mCons (mBin oAdd (mVar 6) (mCB oTuple (mCons (mLc (mRange2 (mC (.int 1)) (mBin oSub (mBin oAdd (mVar 3) (mC (.int 2))) (mCB oLen (mCons (mVar 6) mNil)))) (mName 8) mYes (mTup (mCons (mBin oAdd (mBin oIx (mBin oIx (mVar 6) (mUn oNeg (mC (.int 1)))) (mC (.int 0))) (mVar 8)) (mCons (mBin oIx (mBin oIx (mVar 6) (mUn oNeg (mC (.int 1)))) (mC (.int 1))) mNil))) [8]) mNil))) mNil)))) mSkip)
noncomputable def b_law_block_spoilt_8 : GS := (mIte (mAnd (mT (mBin oEq (mVar 2) (mC (.int 5)))) (mT (mBin oGt (mCB oLen (mCons (mVar 6) mNil)) (mC (.int 0))))) (mSeq (mSet 7 (mBin oMod (mVar 4) (mCB oLen (mCons (mVar 6) mNil)))) (mRet (mTup (mCons (mVar 5) (mCons (mBin oAdd (mBin oAdd (mSl (mVar 6) mNo (mSome (mVar 7))) (mTup (mCons (mCall g_law_pair_spoilt (mCons (mVar 5) (mCons (mBin oIx (mVar 6) (mVar 7)) (mCons (mBin oDiv (mVar 4) (mC (.int 64))) mNil)))) mNil))) (mSl (mVar 6) (mSome (mBin oAdd (mVar 7) (mC (.int 1)))) mNo)) mNil))))) mSkip)
noncomputable def b_law_block_spoilt_9 : GS := (mRet (mBin oIx (mLst (mCons (mC .non) (mCons (mC .non) (mCons (mC .non) (mCons (mC .non) (mCons (mC .non) (mCons (mC .non) (mCons (mTup (mCons (mVar 5) (mCons (mCB oList (mCons (mVar 6) mNil)) mNil))) (mCons (mTup (mCons (mBin oAdd (mVar 5) (mC (.str "es"))) (mCons (mVar 6) mNil))) (mCons (mC (.int 7)) mNil)))))))))) (mVar 2)))
noncomputable def b_law_block_spoilt : GS := (mSeq b_law_block_spoilt_0 (mSeq b_law_block_spoilt_1 (mSeq b_law_block_spoilt_2 (mSeq b_law_block_spoilt_3 (mSeq b_law_block_spoilt_4 (mSeq b_law_block_spoilt_5 (mSeq b_law_block_spoilt_6 (mSeq b_law_block_spoilt_7 (mSeq b_law_block_spoilt_8 b_law_block_spoilt_9)))))))))
noncomputable def g_law_block_spoilt : Fn := mDef 5 9 b_law_block_spoilt
theorem cal_law_block_spoilt (T : Tx fa fn tf K mg) : Cal P w K mg base C 2 "_law_block_spoilt" ["_law_block", "_law_root", "_law_way", "_law_width", "_law_more"] g_law_block_spoilt :=
  ok_calT (st := s_law_block_spoilt) (N := ["_law_block", "_law_root", "_law_way", "_law_width", "_law_more", "_law_kind", "_law_pairs", "_law_at", "_law_k"]) (k := 1) (body := b_law_block_spoilt) (T.def_ 4 11) sc_law_block_spoilt (fun _ _ _ _ _ _ us hl => match us, hl with | [_, _, _, _, _], _ => rfl)
    (fun X W f cdv A outer s H E hX hW hr hp tk => by
      have hN := sc_law_block_spoilt.nd
      have hu := room100 hr
      have hu1 := L2.hu_of hr
      have lx := lets_of tk
      refine sss_cons (show SS _ _ _ _ b_law_block_spoilt_0 from (ss_set hN rfl (by first | exact Or.inl rfl | exact Or.inr rfl) (se_ix hu1 (se_var (pv 0)) se_int (fun _ _ => rfl)))) ?_
      refine sss_cons (show SS _ _ _ _ b_law_block_spoilt_1 from (ss_set hN rfl (by first | exact Or.inl rfl | exact Or.inr rfl) (se_ix hu1 (se_var (pv 0)) se_int (fun _ _ => rfl)))) ?_
      refine sss_cons (show SS _ _ _ _ b_law_block_spoilt_2 from (ss_if (SW.st (sw_and (st_cmp (or_eq hu) (se_var (pv 2)) se_int (by first | rfl | exact nomark _ | decide)) (sw_and1 (st_cmp or_gt (se_cb cl_len rfl (T.free 1) bv_len (sa_cons (se_var (pv 6)) sa_nil)) se_int (by first | rfl | exact nomark _ | decide))))) (sss_one (ss_ret (se_tup (sa_cons (se_var (pv 5)) (sa_cons (se_revl (se_var (pv 6))) sa_nil))))) sss_nil)) ?_
      refine sss_cons (show SS _ _ _ _ b_law_block_spoilt_3 from (ss_if (SW.st (sw_and (st_cmp (or_eq hu) (se_var (pv 2)) se_int (by first | rfl | exact nomark _ | decide)) (sw_and (st_val (se_var (pv 1))) (sw_and1 (st_cmp (or_eq hu) (se_var (pv 5)) se_str (by first | rfl | exact nomark _ | decide)))))) (sss_one (ss_ret (se_tup (sa_cons (se_var (pv 5)) (sa_cons (se_sl (se_var (pv 6)) so_no (so_some se_int)) sa_nil))))) sss_nil)) ?_
      refine sss_cons (show SS _ _ _ _ b_law_block_spoilt_4 from (ss_if (SW.st (sw_and (st_cmp (or_eq hu) (se_var (pv 2)) se_int (by first | rfl | exact nomark _ | decide)) (sw_and1 (st_not (st_val (se_var (pv 1))))))) (sss_one (ss_ret (se_tup (sa_cons (se_var (pv 5)) (sa_cons (se_sl (se_var (pv 6)) so_no (so_some (se_bin or_sub (se_bin or_div (se_bin or_add (se_var (pv 3)) se_int) se_int) se_int))) sa_nil))))) sss_nil)) ?_
      refine sss_cons (show SS _ _ _ _ b_law_block_spoilt_5 from (ss_if (SW.st (sw_and (st_cmp (or_eq hu) (se_var (pv 2)) se_int (by first | rfl | exact nomark _ | decide)) (sw_and1 (SW.st (sw_or (st_not (st_val (se_var (pv 1)))) (sw_or1 (st_cmp (or_eq hu) (se_var (pv 5)) se_str (by first | rfl | exact nomark _ | decide)))))))) (sss_one (ss_ret (se_tup (sa_cons (se_var (pv 5)) (sa_cons (se_bin or_add (se_tup (sa_cons (se_tup (sa_cons (se_bin or_sub (se_ix hu1 (se_ix hu1 (se_var (pv 6)) se_int (fun _ _ => rfl)) se_int (fun _ _ => rfl)) se_int) (sa_cons (se_ix hu1 (se_ix hu1 (se_var (pv 6)) se_int (fun _ _ => rfl)) se_int (fun _ _ => rfl)) sa_nil))) sa_nil)) (se_sl (se_var (pv 6)) (so_some se_int) so_no)) sa_nil))))) sss_nil)) ?_
      refine sss_cons (show SS _ _ _ _ b_law_block_spoilt_6 from (ss_if (SW.st (sw_and (st_cmp (or_eq hu) (se_var (pv 2)) se_int (by first | rfl | exact nomark _ | decide)) (sw_and1 (st_cmp (or_eq hu) (se_var (pv 5)) se_str (by first | rfl | exact nomark _ | decide))))) (sss_one (ss_ret (se_tup (sa_cons (se_var (pv 5)) (sa_cons (se_bin or_add (se_sl (se_var (pv 6)) so_no (so_some (se_un ur_neg se_int))) (se_tup (sa_cons (se_tup (sa_cons (se_ix hu1 (se_ix hu1 (se_var (pv 6)) (se_un ur_neg se_int) (fun _ _ => rfl)) se_int (fun _ _ => rfl)) (sa_cons (se_ix hu1 (se_ix hu1 (se_var (pv 6)) se_int (fun _ _ => rfl)) se_int (fun _ _ => rfl)) sa_nil))) sa_nil))) sa_nil))))) sss_nil)) ?_
      refine sss_cons (show SS _ _ _ _ b_law_block_spoilt_7 from (ss_if (SW.st (sw_and (st_cmp (or_eq hu) (se_var (pv 2)) se_int (by first | rfl | exact nomark _ | decide)) (sw_and1 (st_cmp or_gt (se_cb cl_len rfl (T.free 1) bv_len (sa_cons (se_var (pv 6)) sa_nil)) se_int (by first | rfl | exact nomark _ | decide))))) (sss_one (ss_ret (se_tup (sa_cons (se_var (pv 5)) (sa_cons (se_bin or_add (se_var (pv 6)) (se_cty cl_tuple rfl (T.free 5) bv_tuple (sa_cons (se_lc (own := [("_law_k", 8)]) rfl hN (si_range2 rfl (T.free 3) se_int (se_bin or_sub (se_bin or_add (se_var (pv 3)) se_int) (se_cb cl_len rfl (T.free 1) bv_len (sa_cons (se_var (pv 6)) sa_nil)))) (blkOk_by (own := [("_law_k", 8)]) (by kernel_rfl)) (fun _ _ _ _ _ => pg_name hN rfl (Or.inl rfl)) (sc_name 8) (fun _ _ _ _ _ => st_yes pts_nil) (fun _ _ _ _ _ => (se_tup (sa_cons (se_bin or_add (se_ix hu1 (se_ix hu1 (se_var (pv 6)) (se_un ur_neg se_int) (fun _ _ => rfl)) se_int (fun _ _ => rfl)) (se_var (pv 8))) (sa_cons (se_ix hu1 (se_ix hu1 (se_var (pv 6)) (se_un ur_neg se_int) (fun _ _ => rfl)) se_int (fun _ _ => rfl)) sa_nil))))) sa_nil))) sa_nil))))) sss_nil)) ?_
      refine sss_cons (show SS _ _ _ _ b_law_block_spoilt_8 from (ss_if (SW.st (sw_and (st_cmp (or_eq hu) (se_var (pv 2)) se_int (by first | rfl | exact nomark _ | decide)) (sw_and1 (st_cmp or_gt (se_cb cl_len rfl (T.free 1) bv_len (sa_cons (se_var (pv 6)) sa_nil)) se_int (by first | rfl | exact nomark _ | decide))))) (sss_cons (ss_set hN rfl (by first | exact Or.inl rfl | exact Or.inr rfl) (se_bin or_mod (se_var (pv 4)) (se_cb cl_len rfl (T.free 1) bv_len (sa_cons (se_var (pv 6)) sa_nil)))) (sss_one (ss_ret (se_tup (sa_cons (se_var (pv 5)) (sa_cons (se_bin or_add (se_bin or_add (se_sl (se_var (pv 6)) so_no (so_some (se_var (pv 7)))) (se_tup (sa_cons (se_cal (cal_law_pair_spoilt T) (hr.mono (by decide)) lx (sa_cons (se_var (pv 5)) (sa_cons (se_ix hu1 (se_var (pv 6)) (se_var (pv 7)) (fun _ _ => rfl)) (sa_cons (se_bin or_div (se_var (pv 4)) se_int) sa_nil)))) sa_nil))) (se_sl (se_var (pv 6)) (so_some (se_bin or_add (se_var (pv 7)) se_int)) so_no)) sa_nil)))))) sss_nil)) ?_
      exact sss_one (show SS _ _ _ _ b_law_block_spoilt_9 from (ss_ret (se_ix hu1 (se_lst (sa_cons se_non (sa_cons se_non (sa_cons se_non (sa_cons se_non (sa_cons se_non (sa_cons se_non (sa_cons (se_tup (sa_cons (se_var (pv 5)) (sa_cons (se_cty (cl_list rfl) rfl (T.free 10) bv_list (sa_cons (se_var (pv 6)) sa_nil)) sa_nil))) (sa_cons (se_tup (sa_cons (se_bin or_add (se_var (pv 5)) se_str) (sa_cons (se_var (pv 6)) sa_nil))) (sa_cons se_int sa_nil)))))))))) (se_var (pv 2)) (fun _ _ => rfl)))))
/-! _law_ringed -/
abbrev s_law_ringed : Stmt := topS 21
theorem sc_law_ringed : FnScope ["_law_found", "_law_top", "_law_more"] ["_law_found", "_law_top", "_law_more"] (defScope s_law_ringed) := ⟨rfl, rfl, rfl, by decide +kernel, rfl, by decide +kernel, by decide +kernel⟩
noncomputable def b_law_ringed_0 : GS := (mPut oPutA (mVar 0) (mVar 2) (mTup (mCons (mC (.str "branch")) (mCons (mTup (mCons (mTup (mCons (mBin oAdd (mVar 1) (mC (.int 1))) (mCons (mBin oAdd (mVar 2) (mC (.int 1))) mNil))) (mCons (mTup (mCons (mBin oAdd (mVar 1) (mC (.int 10))) (mCons (mBin oAdd (mVar 2) (mC (.int 2))) mNil))) mNil))) mNil))))
noncomputable def b_law_ringed_1 : GS := (mPut oPutA (mVar 0) (mBin oAdd (mVar 2) (mC (.int 1))) (mTup (mCons (mC (.str "branch")) (mCons (mTup (mCons (mTup (mCons (mBin oAdd (mVar 1) (mC (.int 1))) (mCons (mVar 2) mNil))) (mCons (mTup (mCons (mBin oAdd (mVar 1) (mC (.int 20))) (mCons (mBin oAdd (mVar 2) (mC (.int 3))) mNil))) mNil))) mNil))))
noncomputable def b_law_ringed_2 : GS := (mPut oPutA (mVar 0) (mBin oAdd (mVar 2) (mC (.int 2))) (mTup (mCons (mC (.str "leaf")) (mCons (mTup (mCons (mTup (mCons (mBin oAdd (mVar 1) (mC (.int 10))) (mCons (mC (.str "v")) mNil))) (mCons (mTup (mCons (mBin oAdd (mVar 1) (mC (.int 11))) (mCons (mC (.str "v")) mNil))) mNil))) mNil))))
noncomputable def b_law_ringed_3 : GS := (mPut oPutA (mVar 0) (mBin oAdd (mVar 2) (mC (.int 3))) (mTup (mCons (mC (.str "leaf")) (mCons (mTup (mCons (mTup (mCons (mBin oAdd (mVar 1) (mC (.int 20))) (mCons (mC (.str "v")) mNil))) (mCons (mTup (mCons (mBin oAdd (mVar 1) (mC (.int 21))) (mCons (mC (.str "v")) mNil))) mNil))) mNil))))
noncomputable def b_law_ringed_4 : GS := (mRet (mVar 0))
noncomputable def b_law_ringed : GS := (mSeq b_law_ringed_0 (mSeq b_law_ringed_1 (mSeq b_law_ringed_2 (mSeq b_law_ringed_3 b_law_ringed_4))))
noncomputable def g_law_ringed : Fn := mDef 3 3 b_law_ringed
theorem cal_law_ringed (T : Tx fa fn tf K mg) : Cal P w K mg base C 1 "_law_ringed" ["_law_found", "_law_top", "_law_more"] g_law_ringed :=
  ok_calT (st := s_law_ringed) (N := ["_law_found", "_law_top", "_law_more"]) (k := 0) (body := b_law_ringed) (T.def_ 5 12) sc_law_ringed (fun _ _ _ _ _ _ us hl => match us, hl with | [_, _, _], _ => rfl)
    (fun X W f cdv A outer s H E hX hW hr hp tk => by
      have hN := sc_law_ringed.nd
      have hu := room100 hr
      have hu1 := L2.hu_of hr
      have lx := lets_of tk
      refine sss_cons (show SS _ _ _ _ b_law_ringed_0 from (ss_put (ps_putA hu1) (se_var (pv 0)) (se_var (pv 2)) (se_tup (sa_cons se_str (sa_cons (se_tup (sa_cons (se_tup (sa_cons (se_bin or_add (se_var (pv 1)) se_int) (sa_cons (se_bin or_add (se_var (pv 2)) se_int) sa_nil))) (sa_cons (se_tup (sa_cons (se_bin or_add (se_var (pv 1)) se_int) (sa_cons (se_bin or_add (se_var (pv 2)) se_int) sa_nil))) sa_nil))) sa_nil))))) ?_
      refine sss_cons (show SS _ _ _ _ b_law_ringed_1 from (ss_put (ps_putA hu1) (se_var (pv 0)) (se_bin or_add (se_var (pv 2)) se_int) (se_tup (sa_cons se_str (sa_cons (se_tup (sa_cons (se_tup (sa_cons (se_bin or_add (se_var (pv 1)) se_int) (sa_cons (se_var (pv 2)) sa_nil))) (sa_cons (se_tup (sa_cons (se_bin or_add (se_var (pv 1)) se_int) (sa_cons (se_bin or_add (se_var (pv 2)) se_int) sa_nil))) sa_nil))) sa_nil))))) ?_
      refine sss_cons (show SS _ _ _ _ b_law_ringed_2 from (ss_put (ps_putA hu1) (se_var (pv 0)) (se_bin or_add (se_var (pv 2)) se_int) (se_tup (sa_cons se_str (sa_cons (se_tup (sa_cons (se_tup (sa_cons (se_bin or_add (se_var (pv 1)) se_int) (sa_cons se_str sa_nil))) (sa_cons (se_tup (sa_cons (se_bin or_add (se_var (pv 1)) se_int) (sa_cons se_str sa_nil))) sa_nil))) sa_nil))))) ?_
      refine sss_cons (show SS _ _ _ _ b_law_ringed_3 from (ss_put (ps_putA hu1) (se_var (pv 0)) (se_bin or_add (se_var (pv 2)) se_int) (se_tup (sa_cons se_str (sa_cons (se_tup (sa_cons (se_tup (sa_cons (se_bin or_add (se_var (pv 1)) se_int) (sa_cons se_str sa_nil))) (sa_cons (se_tup (sa_cons (se_bin or_add (se_var (pv 1)) se_int) (sa_cons se_str sa_nil))) sa_nil))) sa_nil))))) ?_
      exact sss_one (show SS _ _ _ _ b_law_ringed_4 from (ss_ret (se_var (pv 0)))))
/-! _law_deeper -/
abbrev s_law_deeper : Stmt := topS 20
theorem sc_law_deeper : FnScope ["_law_found", "_law_number", "_law_first", "_law_more", "_law_width", "_law_size", "_law_above", "_law_k", "_law_at", "_law_n"] ["_law_found", "_law_number", "_law_first", "_law_more", "_law_width"] (defScope s_law_deeper) := ⟨rfl, rfl, rfl, by decide +kernel, rfl, by decide +kernel, by decide +kernel⟩
noncomputable def b_law_deeper_0 : GS := (mSet 5 (mBin oDiv (mBin oAdd (mVar 4) (mC (.int 1))) (mC (.int 2))))
noncomputable def b_law_deeper_1 : GS := (mSet 6 (mLst mNil))
noncomputable def b_law_deeper_2 : GS := (mFor (mRange1 (mCB oMin2 (mCons (mC (.int 3)) (mCons (mVar 5) mNil)))) (mName 7) (mSeq (mSet 8 (mBin oAdd (mVar 2) (mBin oMul (mVar 7) (mVar 5)))) (mSeq (mPut oPutA (mVar 0) (mBin oAdd (mVar 3) (mVar 7)) (mTup (mCons (mC (.str "leaf")) (mCons (mCB oTuple (mCons (mLc (mRange1 (mVar 5)) (mName 9) mYes (mTup (mCons (mBin oAdd (mVar 8) (mVar 9)) (mCons (mC (.str "v")) mNil))) [9]) mNil)) mNil)))) (mExpr (mMtL oAppend (mVar 6) (mCons (mTup (mCons (mVar 8) (mCons (mBin oAdd (mVar 3) (mVar 7)) mNil))) mNil))))))
noncomputable def b_law_deeper_3 : GS := (mPut oPutA (mVar 0) (mVar 1) (mTup (mCons (mC (.str "branch")) (mCons (mCB oTuple (mCons (mVar 6) mNil)) mNil))))
noncomputable def b_law_deeper_4 : GS := (mRet (mVar 0))
noncomputable def b_law_deeper : GS := (mSeq b_law_deeper_0 (mSeq b_law_deeper_1 (mSeq b_law_deeper_2 (mSeq b_law_deeper_3 b_law_deeper_4))))
noncomputable def g_law_deeper : Fn := mDef 5 10 b_law_deeper
theorem cal_law_deeper (T : Tx fa fn tf K mg) : Cal P w K mg base C 1 "_law_deeper" ["_law_found", "_law_number", "_law_first", "_law_more", "_law_width"] g_law_deeper :=
  ok_calT (st := s_law_deeper) (N := ["_law_found", "_law_number", "_law_first", "_law_more", "_law_width", "_law_size", "_law_above", "_law_k", "_law_at", "_law_n"]) (k := 0) (body := b_law_deeper) (T.def_ 6 14) sc_law_deeper (fun _ _ _ _ _ _ us hl => match us, hl with | [_, _, _, _, _], _ => rfl)
    (fun X W f cdv A outer s H E hX hW hr hp tk => by
      have hN := sc_law_deeper.nd
      have hu := room100 hr
      have hu1 := L2.hu_of hr
      have lx := lets_of tk
      refine sss_cons (show SS _ _ _ _ b_law_deeper_0 from (ss_set hN rfl (by first | exact Or.inl rfl | exact Or.inr rfl) (se_bin or_div (se_bin or_add (se_var (pv 4)) se_int) se_int))) ?_
      refine sss_cons (show SS _ _ _ _ b_law_deeper_1 from (ss_set hN rfl (by first | exact Or.inl rfl | exact Or.inr rfl) (se_lst sa_nil))) ?_
      refine sss_cons (show SS _ _ _ _ b_law_deeper_2 from (ss_for hp rfl (si_range1 rfl (T.free 3) (se_cb (cl_min2 rfl) rfl (T.free 13) bv_min (sa_cons se_int (sa_cons (se_var (pv 5)) sa_nil)))) (stg_name hN rfl (by first | exact Or.inl rfl | exact Or.inr rfl)) (sss_cons (ss_set hN rfl (by first | exact Or.inl rfl | exact Or.inr rfl) (se_bin or_add (se_var (pv 2)) (se_bin or_mul (se_var (pv 7)) (se_var (pv 5))))) (sss_cons (ss_put (ps_putA hu1) (se_var (pv 0)) (se_bin or_add (se_var (pv 3)) (se_var (pv 7))) (se_tup (sa_cons se_str (sa_cons (se_cty cl_tuple rfl (T.free 5) bv_tuple (sa_cons (se_lc (own := [("_law_n", 9)]) rfl hN (si_range1 rfl (T.free 3) (se_var (pv 5))) (blkOk_by (own := [("_law_n", 9)]) (by kernel_rfl)) (fun _ _ _ _ _ => pg_name hN rfl (Or.inl rfl)) (sc_name 9) (fun _ _ _ _ _ => st_yes pts_nil) (fun _ _ _ _ _ => (se_tup (sa_cons (se_bin or_add (se_var (pv 8)) (se_var (pv 9))) (sa_cons se_str sa_nil))))) sa_nil)) sa_nil)))) (sss_one (ss_expr (se_mtL PySem.F.slot_list_append PySem.F.type_list_append rm_append (se_var (pv 6)) (sa_cons (se_tup (sa_cons (se_var (pv 8)) (sa_cons (se_bin or_add (se_var (pv 3)) (se_var (pv 7))) sa_nil))) sa_nil)))))))) ?_
      refine sss_cons (show SS _ _ _ _ b_law_deeper_3 from (ss_put (ps_putA hu1) (se_var (pv 0)) (se_var (pv 1)) (se_tup (sa_cons se_str (sa_cons (se_cty cl_tuple rfl (T.free 5) bv_tuple (sa_cons (se_var (pv 6)) sa_nil)) sa_nil))))) ?_
      exact sss_one (show SS _ _ _ _ b_law_deeper_4 from (ss_ret (se_var (pv 0)))))
/-! _law_tree_spoilt -/
abbrev s_law_tree_spoilt : Stmt := topS 22
theorem sc_law_tree_spoilt : FnScope ["_law_blocks", "_law_number", "_law_way", "_law_top", "_law_width", "_law_cell", "_law_found", "_law_kind", "_law_pairs", "_law_more", "_law_leaf"] ["_law_blocks", "_law_number", "_law_way", "_law_top", "_law_width", "_law_cell"] (defScope s_law_tree_spoilt) := ⟨rfl, rfl, rfl, by decide +kernel, rfl, by decide +kernel, by decide +kernel⟩
noncomputable def b_law_tree_spoilt_0 : GS := (mSet 6 (mCB oDict (mCons (mVar 0) mNil)))
noncomputable def b_law_tree_spoilt_1 : GS := (mSet 7 (mBin oIx (mBin oIx (mVar 0) (mVar 1)) (mC (.int 0))))
noncomputable def b_law_tree_spoilt_2 : GS := (mSet 8 (mBin oIx (mBin oIx (mVar 0) (mVar 1)) (mC (.int 1))))
noncomputable def b_law_tree_spoilt_3 : GS := (mSet 9 (mBin oAdd (mCB oMax1 (mCons (mCB oList (mCons (mVar 0) mNil)) mNil)) (mC (.int 1))))
noncomputable def b_law_tree_spoilt_4 : GS := (mIte (mT (mBin oEq (mVar 2) (mC (.int 9)))) (mSeq (mExpr (mMtD oPopD1 (mVar 6) (mVar 1))) (mRet (mVar 6))) mSkip)
noncomputable def b_law_tree_spoilt_5 : GS := (mIte (mT (mBin oEq (mVar 2) (mC (.int 10)))) (mSeq (mSet 10 (mTup (mCons (mC (.str "leaf")) (mCons (mTup (mCons (mTup (mCons (mBin oAdd (mVar 3) (mC (.int 1))) (mCons (mC (.str "v")) mNil))) (mCons (mTup (mCons (mBin oAdd (mVar 3) (mC (.int 2))) (mCons (mC (.str "v")) mNil))) (mCons (mTup (mCons (mBin oAdd (mVar 3) (mC (.int 3))) (mCons (mC (.str "v")) mNil))) mNil)))) mNil)))) (mSeq (mPut oPutA (mVar 6) (mBin oIx (mLst (mCons (mVar 9) (mCons (mUn oNeg (mC (.int 1))) (mCons (mBin oAdd (mVar 9) (mVar 5)) mNil)))) (mBin oMod (mVar 5) (mC (.int 3)))) (mBin oIx (mLst (mCons (mVar 10) (mCons (mC .non) (mCons (mC (.int 7)) (mCons (mTup (mCons (mC (.str "leaf")) (mCons (mTup mNil) mNil))) mNil))))) (mBin oMod (mBin oDiv (mVar 5) (mC (.int 3))) (mC (.int 4))))) (mRet (mVar 6)))) mSkip)
noncomputable def b_law_tree_spoilt_6 : GS := (mIte (mT (mBin oEq (mVar 2) (mC (.int 14)))) (mRet (mCall g_law_ringed (mCons (mVar 6) (mCons (mVar 3) (mCons (mVar 9) mNil))))) mSkip)
noncomputable def b_law_tree_spoilt_7 : GS := (mIte (mOr (mT (mBin oEq (mVar 7) (mC (.str "branch")))) (mT (mBin oEq (mVar 1) (mC (.int 0))))) (mRet (mC .non)) mSkip)
noncomputable def b_law_tree_spoilt_8 : GS := (mIte (mT (mBin oEq (mVar 2) (mC (.int 11)))) (mRet (mCall g_law_deeper (mCons (mVar 6) (mCons (mVar 1) (mCons (mBin oIx (mBin oIx (mVar 8) (mC (.int 0))) (mC (.int 0))) (mCons (mVar 9) (mCons (mVar 4) mNil))))))) mSkip)
noncomputable def b_law_tree_spoilt_9 : GS := (mIte (mT (mBin oEq (mBin oIx (mBin oIx (mVar 8) (mUn oNeg (mC (.int 1)))) (mC (.int 0))) (mVar 3))) (mRet (mC .non)) mSkip)
noncomputable def b_law_tree_spoilt_10 : GS := (mIte (mT (mBin oEq (mVar 2) (mC (.int 12)))) (mSet 3 (mBin oAdd (mBin oIx (mBin oIx (mVar 8) (mUn oNeg (mC (.int 1)))) (mC (.int 0))) (mC (.int 3)))) mSkip)
noncomputable def b_law_tree_spoilt_11 : GS := (mPut oPutA (mVar 6) (mVar 1) (mTup (mCons (mC (.str "leaf")) (mCons (mBin oAdd (mSl (mVar 8) mNo (mSome (mUn oNeg (mC (.int 1))))) (mTup (mCons (mTup (mCons (mVar 3) (mCons (mC (.str "v")) mNil))) mNil))) mNil))))
noncomputable def b_law_tree_spoilt_12 : GS := (mRet (mVar 6))
noncomputable def b_law_tree_spoilt : GS := (mSeq b_law_tree_spoilt_0 (mSeq b_law_tree_spoilt_1 (mSeq b_law_tree_spoilt_2 (mSeq b_law_tree_spoilt_3 (mSeq b_law_tree_spoilt_4 (mSeq b_law_tree_spoilt_5 (mSeq b_law_tree_spoilt_6 (mSeq b_law_tree_spoilt_7 (mSeq b_law_tree_spoilt_8 (mSeq b_law_tree_spoilt_9 (mSeq b_law_tree_spoilt_10 (mSeq b_law_tree_spoilt_11 b_law_tree_spoilt_12))))))))))))
noncomputable def g_law_tree_spoilt : Fn := mDef 6 11 b_law_tree_spoilt
theorem cal_law_tree_spoilt (T : Tx fa fn tf K mg) : Cal P w K mg base C 2 "_law_tree_spoilt" ["_law_blocks", "_law_number", "_law_way", "_law_top", "_law_width", "_law_cell"] g_law_tree_spoilt :=
  ok_calT (st := s_law_tree_spoilt) (N := ["_law_blocks", "_law_number", "_law_way", "_law_top", "_law_width", "_law_cell", "_law_found", "_law_kind", "_law_pairs", "_law_more", "_law_leaf"]) (k := 1) (body := b_law_tree_spoilt) (T.def_ 7 16) sc_law_tree_spoilt (fun _ _ _ _ _ _ us hl => match us, hl with | [_, _, _, _, _, _], _ => rfl)
    (fun X W f cdv A outer s H E hX hW hr hp tk => by
      have hN := sc_law_tree_spoilt.nd
      have hu := room100 hr
      have hu1 := L2.hu_of hr
      have lx := lets_of tk
      refine sss_cons (show SS _ _ _ _ b_law_tree_spoilt_0 from (ss_set hN rfl (by first | exact Or.inl rfl | exact Or.inr rfl) (se_cty cl_dict rfl (T.free 15) bv_dict (sa_cons (se_var (pv 0)) sa_nil)))) ?_
      refine sss_cons (show SS _ _ _ _ b_law_tree_spoilt_1 from (ss_set hN rfl (by first | exact Or.inl rfl | exact Or.inr rfl) (se_ix hu1 (se_ix hu1 (se_var (pv 0)) (se_var (pv 1)) (fun _ _ => rfl)) se_int (fun _ _ => rfl)))) ?_
      refine sss_cons (show SS _ _ _ _ b_law_tree_spoilt_2 from (ss_set hN rfl (by first | exact Or.inl rfl | exact Or.inr rfl) (se_ix hu1 (se_ix hu1 (se_var (pv 0)) (se_var (pv 1)) (fun _ _ => rfl)) se_int (fun _ _ => rfl)))) ?_
      refine sss_cons (show SS _ _ _ _ b_law_tree_spoilt_3 from (ss_set hN rfl (by first | exact Or.inl rfl | exact Or.inr rfl) (se_bin or_add (se_cb (cl_max1 rfl) rfl (T.free 2) bv_max (sa_cons (se_cty (cl_list rfl) rfl (T.free 10) bv_list (sa_cons (se_var (pv 0)) sa_nil)) sa_nil)) se_int))) ?_
      refine sss_cons (show SS _ _ _ _ b_law_tree_spoilt_4 from (ss_if (st_cmp (or_eq hu) (se_var (pv 2)) se_int (by first | rfl | exact nomark _ | decide)) (sss_cons (ss_expr (se_popD1 (se_var (pv 6)) (se_var (pv 1)))) (sss_one (ss_ret (se_var (pv 6))))) sss_nil)) ?_
      refine sss_cons (show SS _ _ _ _ b_law_tree_spoilt_5 from (ss_if (st_cmp (or_eq hu) (se_var (pv 2)) se_int (by first | rfl | exact nomark _ | decide)) (sss_cons (ss_set hN rfl (by first | exact Or.inl rfl | exact Or.inr rfl) (se_tup (sa_cons se_str (sa_cons (se_tup (sa_cons (se_tup (sa_cons (se_bin or_add (se_var (pv 3)) se_int) (sa_cons se_str sa_nil))) (sa_cons (se_tup (sa_cons (se_bin or_add (se_var (pv 3)) se_int) (sa_cons se_str sa_nil))) (sa_cons (se_tup (sa_cons (se_bin or_add (se_var (pv 3)) se_int) (sa_cons se_str sa_nil))) sa_nil)))) sa_nil)))) (sss_cons (ss_put (ps_putA hu1) (se_var (pv 6)) (se_ix hu1 (se_lst (sa_cons (se_var (pv 9)) (sa_cons (se_un ur_neg se_int) (sa_cons (se_bin or_add (se_var (pv 9)) (se_var (pv 5))) sa_nil)))) (se_bin or_mod (se_var (pv 5)) se_int) (fun _ _ => rfl)) (se_ix hu1 (se_lst (sa_cons (se_var (pv 10)) (sa_cons se_non (sa_cons se_int (sa_cons (se_tup (sa_cons se_str (sa_cons (se_tup sa_nil) sa_nil))) sa_nil))))) (se_bin or_mod (se_bin or_div (se_var (pv 5)) se_int) se_int) (fun _ _ => rfl))) (sss_one (ss_ret (se_var (pv 6)))))) sss_nil)) ?_
      refine sss_cons (show SS _ _ _ _ b_law_tree_spoilt_6 from (ss_if (st_cmp (or_eq hu) (se_var (pv 2)) se_int (by first | rfl | exact nomark _ | decide)) (sss_one (ss_ret (se_cal (cal_law_ringed T) (hr.mono (by decide)) lx (sa_cons (se_var (pv 6)) (sa_cons (se_var (pv 3)) (sa_cons (se_var (pv 9)) sa_nil)))))) sss_nil)) ?_
      refine sss_cons (show SS _ _ _ _ b_law_tree_spoilt_7 from (ss_if (SW.st (sw_or (st_cmp (or_eq hu) (se_var (pv 7)) se_str (by first | rfl | exact nomark _ | decide)) (sw_or1 (st_cmp (or_eq hu) (se_var (pv 1)) se_int (by first | rfl | exact nomark _ | decide))))) (sss_one (ss_ret se_non)) sss_nil)) ?_
      refine sss_cons (show SS _ _ _ _ b_law_tree_spoilt_8 from (ss_if (st_cmp (or_eq hu) (se_var (pv 2)) se_int (by first | rfl | exact nomark _ | decide)) (sss_one (ss_ret (se_cal (cal_law_deeper T) (hr.mono (by decide)) lx (sa_cons (se_var (pv 6)) (sa_cons (se_var (pv 1)) (sa_cons (se_ix hu1 (se_ix hu1 (se_var (pv 8)) se_int (fun _ _ => rfl)) se_int (fun _ _ => rfl)) (sa_cons (se_var (pv 9)) (sa_cons (se_var (pv 4)) sa_nil)))))))) sss_nil)) ?_
      refine sss_cons (show SS _ _ _ _ b_law_tree_spoilt_9 from (ss_if (st_cmp (or_eq hu) (se_ix hu1 (se_ix hu1 (se_var (pv 8)) (se_un ur_neg se_int) (fun _ _ => rfl)) se_int (fun _ _ => rfl)) (se_var (pv 3)) (by first | rfl | exact nomark _ | decide)) (sss_one (ss_ret se_non)) sss_nil)) ?_
      refine sss_cons (show SS _ _ _ _ b_law_tree_spoilt_10 from (ss_if (st_cmp (or_eq hu) (se_var (pv 2)) se_int (by first | rfl | exact nomark _ | decide)) (sss_one (ss_set hN rfl (by first | exact Or.inl rfl | exact Or.inr rfl) (se_bin or_add (se_ix hu1 (se_ix hu1 (se_var (pv 8)) (se_un ur_neg se_int) (fun _ _ => rfl)) se_int (fun _ _ => rfl)) se_int))) sss_nil)) ?_
      refine sss_cons (show SS _ _ _ _ b_law_tree_spoilt_11 from (ss_put (ps_putA hu1) (se_var (pv 6)) (se_var (pv 1)) (se_tup (sa_cons se_str (sa_cons (se_bin or_add (se_sl (se_var (pv 8)) so_no (so_some (se_un ur_neg se_int))) (se_tup (sa_cons (se_tup (sa_cons (se_var (pv 3)) (sa_cons se_str sa_nil))) sa_nil))) sa_nil))))) ?_
      exact sss_one (show SS _ _ _ _ b_law_tree_spoilt_12 from (ss_ret (se_var (pv 6)))))
/-! _law_spoilt -/
abbrev s_law_spoilt : Stmt := topS 25
theorem sc_law_spoilt : FnScope ["_law_blocks", "_law_number", "_law_way", "_law_width", "_law_top", "_law_more", "_law_block", "_law_found"] ["_law_blocks", "_law_number", "_law_way", "_law_width", "_law_top", "_law_more"] (defScope s_law_spoilt) := ⟨rfl, rfl, rfl, by decide +kernel, rfl, by decide +kernel, by decide +kernel⟩
noncomputable def b_law_spoilt_0 : GS := (mIte (mT (mBin oGt (mVar 2) (mC (.int 8)))) (mRet (mCall g_law_tree_spoilt (mCons (mVar 0) (mCons (mVar 1) (mCons (mVar 2) (mCons (mVar 4) (mCons (mVar 3) (mCons (mVar 5) mNil)))))))) mSkip)
noncomputable def b_law_spoilt_1 : GS := (mSet 6 (mCall g_law_block_spoilt (mCons (mBin oIx (mVar 0) (mVar 1)) (mCons (mBin oEq (mVar 1) (mC (.int 0))) (mCons (mVar 2) (mCons (mVar 3) (mCons (mVar 5) mNil)))))))
noncomputable def b_law_spoilt_2 : GS := (mIte (mT (mBin oIs (mVar 6) (mC .non))) (mRet (mC .non)) mSkip)
noncomputable def b_law_spoilt_3 : GS := (mSet 7 (mCB oDict (mCons (mVar 0) mNil)))
noncomputable def b_law_spoilt_4 : GS := (mPut oPutA (mVar 7) (mVar 1) (mVar 6))
noncomputable def b_law_spoilt_5 : GS := (mRet (mVar 7))
noncomputable def b_law_spoilt : GS := (mSeq b_law_spoilt_0 (mSeq b_law_spoilt_1 (mSeq b_law_spoilt_2 (mSeq b_law_spoilt_3 (mSeq b_law_spoilt_4 b_law_spoilt_5)))))
noncomputable def g_law_spoilt : Fn := mDef 6 8 b_law_spoilt
theorem cal_law_spoilt (T : Tx fa fn tf K mg) : Cal P w K mg base C 3 "_law_spoilt" ["_law_blocks", "_law_number", "_law_way", "_law_width", "_law_top", "_law_more"] g_law_spoilt :=
  ok_calT (st := s_law_spoilt) (N := ["_law_blocks", "_law_number", "_law_way", "_law_width", "_law_top", "_law_more", "_law_block", "_law_found"]) (k := 2) (body := b_law_spoilt) (T.def_ 8 17) sc_law_spoilt (fun _ _ _ _ _ _ us hl => match us, hl with | [_, _, _, _, _, _], _ => rfl)
    (fun X W f cdv A outer s H E hX hW hr hp tk => by
      have hN := sc_law_spoilt.nd
      have hu := room100 hr
      have hu1 := L2.hu_of hr
      have lx := lets_of tk
      refine sss_cons (show SS _ _ _ _ b_law_spoilt_0 from (ss_if (st_cmp or_gt (se_var (pv 2)) se_int (by first | rfl | exact nomark _ | decide)) (sss_one (ss_ret (se_cal (cal_law_tree_spoilt T) (hr.mono (by decide)) lx (sa_cons (se_var (pv 0)) (sa_cons (se_var (pv 1)) (sa_cons (se_var (pv 2)) (sa_cons (se_var (pv 4)) (sa_cons (se_var (pv 3)) (sa_cons (se_var (pv 5)) sa_nil))))))))) sss_nil)) ?_
      refine sss_cons (show SS _ _ _ _ b_law_spoilt_1 from (ss_set hN rfl (by first | exact Or.inl rfl | exact Or.inr rfl) (se_cal (cal_law_block_spoilt T) (hr.mono (by decide)) lx (sa_cons (se_ix hu1 (se_var (pv 0)) (se_var (pv 1)) (fun _ _ => rfl)) (sa_cons (se_cmp (or_eq hu) (se_var (pv 1)) se_int (by first | rfl | exact nomark _ | decide)) (sa_cons (se_var (pv 2)) (sa_cons (se_var (pv 3)) (sa_cons (se_var (pv 5)) sa_nil)))))))) ?_
      refine sss_cons (show SS _ _ _ _ b_law_spoilt_2 from (ss_if (st_cmp or_is (se_var (pv 6)) se_non (by first | rfl | exact nomark _ | decide)) (sss_one (ss_ret se_non)) sss_nil)) ?_
      refine sss_cons (show SS _ _ _ _ b_law_spoilt_3 from (ss_set hN rfl (by first | exact Or.inl rfl | exact Or.inr rfl) (se_cty cl_dict rfl (T.free 15) bv_dict (sa_cons (se_var (pv 0)) sa_nil)))) ?_
      refine sss_cons (show SS _ _ _ _ b_law_spoilt_4 from (ss_put (ps_putA hu1) (se_var (pv 7)) (se_var (pv 1)) (se_var (pv 6)))) ?_
      exact sss_one (show SS _ _ _ _ b_law_spoilt_5 from (ss_ret (se_var (pv 7)))))
/-! _law_cell_at -/
abbrev s_law_cell_at : Stmt := topS 14
theorem sc_law_cell_at : FnScope ["_law_script", "_law_k"] ["_law_script", "_law_k"] (defScope s_law_cell_at) := ⟨rfl, rfl, rfl, by decide +kernel, rfl, by decide +kernel, by decide +kernel⟩
noncomputable def b_law_cell_at_0 : GS := (mIte (mT (mBin oLt (mVar 1) (mCB oLen (mCons (mVar 0) mNil)))) (mRet (mBin oIx (mVar 0) (mVar 1))) mSkip)
noncomputable def b_law_cell_at_1 : GS := (mRet (mC (.int 0)))
noncomputable def b_law_cell_at : GS := (mSeq b_law_cell_at_0 b_law_cell_at_1)
noncomputable def g_law_cell_at : Fn := mDef 2 2 b_law_cell_at
theorem cal_law_cell_at (T : Tx fa fn tf K mg) : Cal P w K mg base C 1 "_law_cell_at" ["_law_script", "_law_k"] g_law_cell_at :=
  ok_calT (st := s_law_cell_at) (N := ["_law_script", "_law_k"]) (k := 0) (body := b_law_cell_at) (T.def_ 9 18) sc_law_cell_at (fun _ _ _ _ _ _ us hl => match us, hl with | [_, _], _ => rfl)
    (fun X W f cdv A outer s H E hX hW hr hp tk => by
      have hN := sc_law_cell_at.nd
      have hu := room100 hr
      have hu1 := L2.hu_of hr
      have lx := lets_of tk
      refine sss_cons (show SS _ _ _ _ b_law_cell_at_0 from (ss_if (st_cmp or_lt (se_var (pv 1)) (se_cb cl_len rfl (T.free 1) bv_len (sa_cons (se_var (pv 0)) sa_nil)) (by first | rfl | exact nomark _ | decide)) (sss_one (ss_ret (se_ix hu1 (se_var (pv 0)) (se_var (pv 1)) (fun _ _ => rfl)))) sss_nil)) ?_
      exact sss_one (show SS _ _ _ _ b_law_cell_at_1 from (ss_ret se_int)))
/-! _law_says -/
abbrev s_law_says : Stmt := topS 23
theorem sc_law_says : FnScope ["_law_found", "_law_due"] ["_law_found", "_law_due"] (defScope s_law_says) := ⟨rfl, rfl, rfl, by decide +kernel, rfl, by decide +kernel, by decide +kernel⟩
noncomputable def b_law_says_0 : GS := (mRet (mAndV (mOrV (mBin oIs (mVar 0) (mC (.bl true))) (mBin oIs (mVar 0) (mC (.bl false)))) (mBin oEq (mVar 0) (mVar 1))))
noncomputable def b_law_says : GS := b_law_says_0
noncomputable def g_law_says : Fn := mDef 2 2 b_law_says
theorem cal_law_says (T : Tx fa fn tf K mg) : Cal P w K mg base C 1 "_law_says" ["_law_found", "_law_due"] g_law_says :=
  ok_calT (st := s_law_says) (N := ["_law_found", "_law_due"]) (k := 0) (body := b_law_says) (T.def_ 10 19) sc_law_says (fun _ _ _ _ _ _ us hl => match us, hl with | [_, _], _ => rfl)
    (fun X W f cdv A outer s H E hX hW hr hp tk => by
      have hN := sc_law_says.nd
      have hu := room100 hr
      have hu1 := L2.hu_of hr
      have lx := lets_of tk
      exact sss_one (show SS _ _ _ _ b_law_says_0 from (ss_ret (se_and (se_or (se_cmp or_is (se_var (pv 0)) se_bl (by first | rfl | exact nomark _ | decide)) (se_one (se_cmp or_is (se_var (pv 0)) se_bl (by first | rfl | exact nomark _ | decide)))) (se_one (se_cmp (or_eq hu) (se_var (pv 0)) (se_var (pv 1)) (by first | rfl | exact nomark _ | decide)))))))
/-! half -/
abbrev s_half : Stmt := topS 6
theorem sc_half : FnScope ["width"] ["width"] (defScope s_half) := ⟨rfl, rfl, rfl, by decide +kernel, rfl, by decide +kernel, by decide +kernel⟩
noncomputable def b_half_0 : GS := (mRet (mBin oDiv (mBin oAdd (mVar 0) (mC (.int 1))) (mC (.int 2))))
noncomputable def b_half : GS := b_half_0
noncomputable def g_half : Fn := mDef 1 1 b_half
theorem cal_half (T : Tx fa fn tf K mg) : Cal P w K mg base C 1 "half" ["width"] g_half :=
  ok_calT (st := s_half) (N := ["width"]) (k := 0) (body := b_half) (T.def_ 11 20) sc_half (fun _ _ _ _ _ _ us hl => match us, hl with | [_], _ => rfl)
    (fun X W f cdv A outer s H E hX hW hr hp tk => by
      have hN := sc_half.nd
      have hu := room100 hr
      have hu1 := L2.hu_of hr
      have lx := lets_of tk
      exact sss_one (show SS _ _ _ _ b_half_0 from (ss_ret (se_bin or_div (se_bin or_add (se_var (pv 0)) se_int) se_int))))
/-! is_value -/
abbrev s_is_value : Stmt := topS 5
theorem sc_is_value : FnScope ["thing", "sign"] ["thing"] (defScope s_is_value) := ⟨rfl, rfl, rfl, by decide +kernel, rfl, by decide +kernel, by decide +kernel⟩
noncomputable def b_is_value_0 : GS := (mIte (mOr (mNot (mT (mUn (oIsi "str") (mVar 0)))) (mT (mBin oGt (mCB oLen (mCons (mVar 0) mNil)) (mC (.int 60))))) (mRet (mC (.bl false))) mSkip)
noncomputable def b_is_value_1 : GS := (mFor (mSigns (mVar 0)) (mName 1) (mIte (mNot (mT (mChain oLe oLe (mC (.str " ")) (mVar 1) (mC (.str "~"))))) (mRet (mC (.bl false))) mSkip))
noncomputable def b_is_value_2 : GS := (mRet (mC (.bl true)))
noncomputable def b_is_value : GS := (mSeq b_is_value_0 (mSeq b_is_value_1 b_is_value_2))
noncomputable def g_is_value : Fn := mDef 1 2 b_is_value
theorem cal_is_value (T : Tx fa fn tf K mg) : Cal P w K mg base C 1 "is_value" ["thing"] g_is_value :=
  ok_calT (st := s_is_value) (N := ["thing", "sign"]) (k := 0) (body := b_is_value) (T.def_ 12 23) sc_is_value (fun _ _ _ _ _ _ us hl => match us, hl with | [_], _ => rfl)
    (fun X W f cdv A outer s H E hX hW hr hp tk => by
      have hN := sc_is_value.nd
      have hu := room100 hr
      have hu1 := L2.hu_of hr
      have lx := lets_of tk
      refine sss_cons (show SS _ _ _ _ b_is_value_0 from (ss_if (SW.st (sw_or (st_not (st_val (se_isi rfl (T.free 21) (se_var (pv 0)) (pe_bltn (v := .ty "str") rfl (T.free 8) bv_str rfl)))) (sw_or1 (st_cmp or_gt (se_cb cl_len rfl (T.free 1) bv_len (sa_cons (se_var (pv 0)) sa_nil)) (se_globI (T.int 22)) (by first | rfl | exact nomark _ | decide))))) (sss_one (ss_ret se_bl)) sss_nil)) ?_
      refine sss_cons (show SS _ _ _ _ b_is_value_1 from (ss_for hp rfl (si_str (se_var (pv 0))) (stg_name hN rfl (by first | exact Or.inl rfl | exact Or.inr rfl)) (sss_one (ss_if (st_not (st_chain or_le or_le se_str (se_var (pv 1)) se_str)) (sss_one (ss_ret se_bl)) sss_nil)))) ?_
      exact sss_one (show SS _ _ _ _ b_is_value_2 from (ss_ret se_bl)))
/-! is_whole -/
abbrev s_is_whole : Stmt := topS 3
theorem sc_is_whole : FnScope ["thing"] ["thing"] (defScope s_is_whole) := ⟨rfl, rfl, rfl, by decide +kernel, rfl, by decide +kernel, by decide +kernel⟩
noncomputable def b_is_whole_0 : GS := (mRet (mAndV (mUn (oIsi "int") (mVar 0)) (mNotV (mUn (oIsi "bool") (mVar 0)))))
noncomputable def b_is_whole : GS := b_is_whole_0
noncomputable def g_is_whole : Fn := mDef 1 1 b_is_whole
theorem cal_is_whole (T : Tx fa fn tf K mg) : Cal P w K mg base C 1 "is_whole" ["thing"] g_is_whole :=
  ok_calT (st := s_is_whole) (N := ["thing"]) (k := 0) (body := b_is_whole) (T.def_ 13 25) sc_is_whole (fun _ _ _ _ _ _ us hl => match us, hl with | [_], _ => rfl)
    (fun X W f cdv A outer s H E hX hW hr hp tk => by
      have hN := sc_is_whole.nd
      have hu := room100 hr
      have hu1 := L2.hu_of hr
      have lx := lets_of tk
      exact sss_one (show SS _ _ _ _ b_is_whole_0 from (ss_ret (se_and (se_isi rfl (T.free 21) (se_var (pv 0)) (pe_bltn (v := .ty "int") rfl (T.free 4) bv_int rfl)) (se_one (se_not (se_isi rfl (T.free 21) (se_var (pv 0)) (pe_bltn (v := .ty "bool") rfl (T.free 24) bv_bool rfl))))))))
/-! is_key -/
abbrev s_is_key : Stmt := topS 4
theorem sc_is_key : FnScope ["thing"] ["thing"] (defScope s_is_key) := ⟨rfl, rfl, rfl, by decide +kernel, rfl, by decide +kernel, by decide +kernel⟩
noncomputable def b_is_key_0 : GS := (mRet (mAndV (mCall g_is_whole (mCons (mVar 0) mNil)) (mChain oLt oLt (mUn oNeg (mC (.int 1000000000000000000000000000000000000000000000000000000000000))) (mVar 0) (mC (.int 1000000000000000000000000000000000000000000000000000000000000)))))
noncomputable def b_is_key : GS := b_is_key_0
noncomputable def g_is_key : Fn := mDef 1 1 b_is_key
theorem cal_is_key (T : Tx fa fn tf K mg) : Cal P w K mg base C 2 "is_key" ["thing"] g_is_key :=
  ok_calT (st := s_is_key) (N := ["thing"]) (k := 1) (body := b_is_key) (T.def_ 14 27) sc_is_key (fun _ _ _ _ _ _ us hl => match us, hl with | [_], _ => rfl)
    (fun X W f cdv A outer s H E hX hW hr hp tk => by
      have hN := sc_is_key.nd
      have hu := room100 hr
      have hu1 := L2.hu_of hr
      have lx := lets_of tk
      exact sss_one (show SS _ _ _ _ b_is_key_0 from (ss_ret (se_and (se_cal (cal_is_whole T) (hr.mono (by decide)) lx (sa_cons (se_var (pv 0)) sa_nil)) (se_one (se_chain or_lt or_lt (se_un ur_neg (se_globI (T.int 26))) (se_var (pv 0)) (se_globI (T.int 26))))))))
/-! is_pair -/
abbrev s_is_pair : Stmt := topS 7
theorem sc_is_pair : FnScope ["thing", "kind"] ["thing", "kind"] (defScope s_is_pair) := ⟨rfl, rfl, rfl, by decide +kernel, rfl, by decide +kernel, by decide +kernel⟩
noncomputable def b_is_pair_0 : GS := (mIte (mOr (mNot (mT (mUn (oIsi "tuple") (mVar 0)))) (mOr (mT (mBin oNe (mCB oLen (mCons (mVar 0) mNil)) (mC (.int 2)))) (mNot (mT (mCall g_is_key (mCons (mBin oIx (mVar 0) (mC (.int 0))) mNil)))))) (mRet (mC (.bl false))) mSkip)
noncomputable def b_is_pair_1 : GS := (mIte (mT (mBin oEq (mVar 1) (mC (.str "leaf")))) (mRet (mCall g_is_value (mCons (mBin oIx (mVar 0) (mC (.int 1))) mNil))) mSkip)
noncomputable def b_is_pair_2 : GS := (mRet (mAndV (mCall g_is_whole (mCons (mBin oIx (mVar 0) (mC (.int 1))) mNil)) (mBin oGt (mBin oIx (mVar 0) (mC (.int 1))) (mC (.int 0)))))
noncomputable def b_is_pair : GS := (mSeq b_is_pair_0 (mSeq b_is_pair_1 b_is_pair_2))
noncomputable def g_is_pair : Fn := mDef 2 2 b_is_pair
theorem cal_is_pair (T : Tx fa fn tf K mg) : Cal P w K mg base C 3 "is_pair" ["thing", "kind"] g_is_pair :=
  ok_calT (st := s_is_pair) (N := ["thing", "kind"]) (k := 2) (body := b_is_pair) (T.def_ 15 28) sc_is_pair (fun _ _ _ _ _ _ us hl => match us, hl with | [_, _], _ => rfl)
    (fun X W f cdv A outer s H E hX hW hr hp tk => by
      have hN := sc_is_pair.nd
      have hu := room100 hr
      have hu1 := L2.hu_of hr
      have lx := lets_of tk
      refine sss_cons (show SS _ _ _ _ b_is_pair_0 from (ss_if (SW.st (sw_or (st_not (st_val (se_isi rfl (T.free 21) (se_var (pv 0)) (pe_bltn (v := .ty "tuple") rfl (T.free 5) bv_tuple rfl)))) (sw_or (st_cmp (or_ne hu) (se_cb cl_len rfl (T.free 1) bv_len (sa_cons (se_var (pv 0)) sa_nil)) se_int (by first | rfl | exact nomark _ | decide)) (sw_or1 (st_not (st_val (se_cal (cal_is_key T) (hr.mono (by decide)) lx (sa_cons (se_ix hu1 (se_var (pv 0)) se_int (fun _ _ => rfl)) sa_nil)))))))) (sss_one (ss_ret se_bl)) sss_nil)) ?_
      refine sss_cons (show SS _ _ _ _ b_is_pair_1 from (ss_if (st_cmp (or_eq hu) (se_var (pv 1)) se_str (by first | rfl | exact nomark _ | decide)) (sss_one (ss_ret (se_cal (cal_is_value T) (hr.mono (by decide)) lx (sa_cons (se_ix hu1 (se_var (pv 0)) se_int (fun _ _ => rfl)) sa_nil)))) sss_nil)) ?_
      exact sss_one (show SS _ _ _ _ b_is_pair_2 from (ss_ret (se_and (se_cal (cal_is_whole T) (hr.mono (by decide)) lx (sa_cons (se_ix hu1 (se_var (pv 0)) se_int (fun _ _ => rfl)) sa_nil)) (se_one (se_cmp or_gt (se_ix hu1 (se_var (pv 0)) se_int (fun _ _ => rfl)) se_int (by first | rfl | exact nomark _ | decide)))))))
/-! is_block -/
abbrev s_is_block : Stmt := topS 8
theorem sc_is_block : FnScope ["thing", "least", "most", "at", "pair"] ["thing", "least", "most"] (defScope s_is_block) := ⟨rfl, rfl, rfl, by decide +kernel, rfl, by decide +kernel, by decide +kernel⟩
noncomputable def b_is_block_0 : GS := (mIte (mOr (mNot (mT (mUn (oIsi "tuple") (mVar 0)))) (mOr (mT (mBin oNe (mCB oLen (mCons (mVar 0) mNil)) (mC (.int 2)))) (mNot (mT (mUn (oIsi "tuple") (mBin oIx (mVar 0) (mC (.int 1)))))))) (mRet (mC (.bl false))) mSkip)
noncomputable def b_is_block_1 : GS := (mIte (mAnd (mT (mBin oNe (mBin oIx (mVar 0) (mC (.int 0))) (mC (.str "leaf")))) (mT (mBin oNe (mBin oIx (mVar 0) (mC (.int 0))) (mC (.str "branch"))))) (mRet (mC (.bl false))) mSkip)
noncomputable def b_is_block_2 : GS := (mIte (mNot (mT (mChain oLe oLe (mVar 1) (mCB oLen (mCons (mBin oIx (mVar 0) (mC (.int 1))) mNil)) (mVar 2)))) (mRet (mC (.bl false))) mSkip)
noncomputable def b_is_block_3 : GS := (mFor (mEnum (mBin oIx (mVar 0) (mC (.int 1)))) (mName2 3 4) (mIte (mOr (mNot (mT (mCall g_is_pair (mCons (mVar 4) (mCons (mBin oIx (mVar 0) (mC (.int 0))) mNil))))) (mAnd (mT (mBin oGt (mVar 3) (mC (.int 0)))) (mT (mBin oLe (mBin oIx (mVar 4) (mC (.int 0))) (mBin oIx (mBin oIx (mBin oIx (mVar 0) (mC (.int 1))) (mBin oSub (mVar 3) (mC (.int 1)))) (mC (.int 0))))))) (mRet (mC (.bl false))) mSkip))
noncomputable def b_is_block_4 : GS := (mRet (mC (.bl true)))
noncomputable def b_is_block : GS := (mSeq b_is_block_0 (mSeq b_is_block_1 (mSeq b_is_block_2 (mSeq b_is_block_3 b_is_block_4))))
noncomputable def g_is_block : Fn := mDef 3 5 b_is_block
theorem cal_is_block (T : Tx fa fn tf K mg) : Cal P w K mg base C 4 "is_block" ["thing", "least", "most"] g_is_block :=
  ok_calT (st := s_is_block) (N := ["thing", "least", "most", "at", "pair"]) (k := 3) (body := b_is_block) (T.def_ 16 30) sc_is_block (fun _ _ _ _ _ _ us hl => match us, hl with | [_, _, _], _ => rfl)
    (fun X W f cdv A outer s H E hX hW hr hp tk => by
      have hN := sc_is_block.nd
      have hu := room100 hr
      have hu1 := L2.hu_of hr
      have lx := lets_of tk
      refine sss_cons (show SS _ _ _ _ b_is_block_0 from (ss_if (SW.st (sw_or (st_not (st_val (se_isi rfl (T.free 21) (se_var (pv 0)) (pe_bltn (v := .ty "tuple") rfl (T.free 5) bv_tuple rfl)))) (sw_or (st_cmp (or_ne hu) (se_cb cl_len rfl (T.free 1) bv_len (sa_cons (se_var (pv 0)) sa_nil)) se_int (by first | rfl | exact nomark _ | decide)) (sw_or1 (st_not (st_val (se_isi rfl (T.free 21) (se_ix hu1 (se_var (pv 0)) se_int (fun _ _ => rfl)) (pe_bltn (v := .ty "tuple") rfl (T.free 5) bv_tuple rfl)))))))) (sss_one (ss_ret se_bl)) sss_nil)) ?_
      refine sss_cons (show SS _ _ _ _ b_is_block_1 from (ss_if (SW.st (sw_and (st_cmp (or_ne hu) (se_ix hu1 (se_var (pv 0)) se_int (fun _ _ => rfl)) se_str (by first | rfl | exact nomark _ | decide)) (sw_and1 (st_cmp (or_ne hu) (se_ix hu1 (se_var (pv 0)) se_int (fun _ _ => rfl)) se_str (by first | rfl | exact nomark _ | decide))))) (sss_one (ss_ret se_bl)) sss_nil)) ?_
      refine sss_cons (show SS _ _ _ _ b_is_block_2 from (ss_if (st_not (st_chain or_le or_le (se_var (pv 1)) (se_cb cl_len rfl (T.free 1) bv_len (sa_cons (se_ix hu1 (se_var (pv 0)) se_int (fun _ _ => rfl)) sa_nil)) (se_var (pv 2)))) (sss_one (ss_ret se_bl)) sss_nil)) ?_
      refine sss_cons (show SS _ _ _ _ b_is_block_3 from (ss_for hp rfl (si_enum rfl (T.free 29) (se_ix hu1 (se_var (pv 0)) se_int (fun _ _ => rfl))) (stg_name2 rfl hN rfl (by first | exact Or.inl rfl | exact Or.inr rfl) rfl (by first | exact Or.inl rfl | exact Or.inr rfl)) (sss_one (ss_if (SW.st (sw_or (st_not (st_val (se_cal (cal_is_pair T) (hr.mono (by decide)) lx (sa_cons (se_var (pv 4)) (sa_cons (se_ix hu1 (se_var (pv 0)) se_int (fun _ _ => rfl)) sa_nil))))) (sw_or1 (SW.st (sw_and (st_cmp or_gt (se_var (pv 3)) se_int (by first | rfl | exact nomark _ | decide)) (sw_and1 (st_cmp or_le (se_ix hu1 (se_var (pv 4)) se_int (fun _ _ => rfl)) (se_ix hu1 (se_ix hu1 (se_ix hu1 (se_var (pv 0)) se_int (fun _ _ => rfl)) (se_bin or_sub (se_var (pv 3)) se_int) (fun _ _ => rfl)) se_int (fun _ _ => rfl)) (by first | rfl | exact nomark _ | decide)))))))) (sss_one (ss_ret se_bl)) sss_nil)))) ?_
      exact sss_one (show SS _ _ _ _ b_is_block_4 from (ss_ret se_bl)))
/-! leaves_of -/
abbrev s_leaves_of : Stmt := topS 11
theorem sc_leaves_of : FnScope ["blocks", "width", "depths", "numbers", "waiting", "told", "block", "least", "pair"] ["blocks", "width"] (defScope s_leaves_of) := ⟨rfl, rfl, rfl, by decide +kernel, rfl, by decide +kernel, by decide +kernel⟩
noncomputable def b_leaves_of_0 : GS := (mSet 2 (mLst mNil))
noncomputable def b_leaves_of_1 : GS := (mSet 3 mDnew)
noncomputable def b_leaves_of_2 : GS := (mSet 4 (mLst (mCons (mTup (mCons (mC (.int 0)) (mCons (mC (.int 0)) (mCons (mC .non) mNil)))) mNil)))
noncomputable def b_leaves_of_3 : GS := (mWhile (mT (mBin oGt (mCB oLen (mCons (mVar 4) mNil)) (mC (.int 0)))) (mSeq (mSet 5 (mMtL oPop0 (mVar 4) mNil)) (mSeq (mSet 6 (mMtD oGet1 (mVar 0) (mBin oIx (mVar 5) (mC (.int 0))))) (mSeq (mSet 7 (mIf (mT (mBin oGt (mBin oIx (mVar 5) (mC (.int 0))) (mC (.int 0)))) (mCall g_half (mCons (mVar 1) mNil)) (mC (.int 0)))) (mSeq (mIte (mOr (mT (mBin oIn (mBin oIx (mVar 5) (mC (.int 0))) (mVar 3))) (mNot (mT (mCall g_is_block (mCons (mVar 6) (mCons (mVar 7) (mCons (mVar 1) mNil))))))) (mRet (mC .non)) mSkip) (mSeq (mIte (mAnd (mT (mBin oIsNot (mBin oIx (mVar 5) (mC (.int 2))) (mC .non))) (mT (mBin oNe (mBin oIx (mBin oIx (mBin oIx (mVar 6) (mC (.int 1))) (mC (.int 0))) (mC (.int 0))) (mBin oIx (mVar 5) (mC (.int 2)))))) (mRet (mC .non)) mSkip) (mSeq (mPut oPutA (mVar 3) (mBin oIx (mVar 5) (mC (.int 0))) (mC (.bl true))) (mIte (mT (mBin oEq (mBin oIx (mVar 6) (mC (.int 0))) (mC (.str "leaf")))) (mExpr (mMtL oAppend (mVar 2) (mCons (mBin oIx (mVar 5) (mC (.int 1))) mNil))) (mIte (mT (mBin oLt (mCB oLen (mCons (mBin oIx (mVar 6) (mC (.int 1))) mNil)) (mC (.int 2)))) (mRet (mC .non)) (mExpr (mMtL oExtend (mVar 4) (mCons (mLc (mRev (mBin oIx (mVar 6) (mC (.int 1)))) (mName 8) mYes (mTup (mCons (mBin oIx (mVar 8) (mC (.int 1))) (mCons (mBin oAdd (mBin oIx (mVar 5) (mC (.int 1))) (mC (.int 1))) (mCons (mBin oIx (mVar 8) (mC (.int 0))) mNil)))) [8]) mNil))))))))))))
noncomputable def b_leaves_of_4 : GS := (mRet (mTup (mCons (mVar 2) (mCons (mVar 3) mNil))))
noncomputable def b_leaves_of : GS := (mSeq b_leaves_of_0 (mSeq b_leaves_of_1 (mSeq b_leaves_of_2 (mSeq b_leaves_of_3 b_leaves_of_4))))
noncomputable def g_leaves_of : Fn := mDef 2 9 b_leaves_of
theorem cal_leaves_of (T : Tx fa fn tf K mg) : Cal P w K mg base C 5 "leaves_of" ["blocks", "width"] g_leaves_of :=
  ok_calT (st := s_leaves_of) (N := ["blocks", "width", "depths", "numbers", "waiting", "told", "block", "least", "pair"]) (k := 4) (body := b_leaves_of) (T.def_ 17 32) sc_leaves_of (fun _ _ _ _ _ _ us hl => match us, hl with | [_, _], _ => rfl)
    (fun X W f cdv A outer s H E hX hW hr hp tk => by
      have hN := sc_leaves_of.nd
      have hu := room100 hr
      have hu1 := L2.hu_of hr
      have lx := lets_of tk
      refine sss_cons (show SS _ _ _ _ b_leaves_of_0 from (ss_set hN rfl (by first | exact Or.inl rfl | exact Or.inr rfl) (se_lst sa_nil))) ?_
      refine sss_cons (show SS _ _ _ _ b_leaves_of_1 from (ss_set hN rfl (by first | exact Or.inl rfl | exact Or.inr rfl) se_dnew)) ?_
      refine sss_cons (show SS _ _ _ _ b_leaves_of_2 from (ss_set hN rfl (by first | exact Or.inl rfl | exact Or.inr rfl) (se_lst (sa_cons (se_tup (sa_cons se_int (sa_cons se_int (sa_cons se_non sa_nil)))) sa_nil)))) ?_
      refine sss_cons (show SS _ _ _ _ b_leaves_of_3 from (ss_while hp (st_cmp or_gt (se_cb cl_len rfl (T.free 1) bv_len (sa_cons (se_var (pv 4)) sa_nil)) se_int (by first | rfl | exact nomark _ | decide)) (sss_cons (ss_set hN rfl (by first | exact Or.inl rfl | exact Or.inr rfl) (se_mtL0 PySem.F.slot_list_pop PySem.F.type_list_pop rm_pop0 (se_var (pv 4)))) (sss_cons (ss_set hN rfl (by first | exact Or.inl rfl | exact Or.inr rfl) (se_get1 hu1 (se_var (pv 0)) (se_ix hu1 (se_var (pv 5)) se_int (fun _ _ => rfl)))) (sss_cons (ss_set hN rfl (by first | exact Or.inl rfl | exact Or.inr rfl) (se_if (st_cmp or_gt (se_ix hu1 (se_var (pv 5)) se_int (fun _ _ => rfl)) se_int (by first | rfl | exact nomark _ | decide)) (se_cal (cal_half T) (hr.mono (by decide)) lx (sa_cons (se_var (pv 1)) sa_nil)) se_int)) (sss_cons (ss_if (SW.st (sw_or (st_cmp (or_in hu1) (se_ix hu1 (se_var (pv 5)) se_int (fun _ _ => rfl)) (se_var (pv 3)) (by first | rfl | exact nomark _ | decide)) (sw_or1 (st_not (st_val (se_cal (cal_is_block T) (hr.mono (by decide)) lx (sa_cons (se_var (pv 6)) (sa_cons (se_var (pv 7)) (sa_cons (se_var (pv 1)) sa_nil))))))))) (sss_one (ss_ret se_non)) sss_nil) (sss_cons (ss_if (SW.st (sw_and (st_cmp or_isNot (se_ix hu1 (se_var (pv 5)) se_int (fun _ _ => rfl)) se_non (by first | rfl | exact nomark _ | decide)) (sw_and1 (st_cmp (or_ne hu) (se_ix hu1 (se_ix hu1 (se_ix hu1 (se_var (pv 6)) se_int (fun _ _ => rfl)) se_int (fun _ _ => rfl)) se_int (fun _ _ => rfl)) (se_ix hu1 (se_var (pv 5)) se_int (fun _ _ => rfl)) (by first | rfl | exact nomark _ | decide))))) (sss_one (ss_ret se_non)) sss_nil) (sss_cons (ss_put (ps_putA hu1) (se_var (pv 3)) (se_ix hu1 (se_var (pv 5)) se_int (fun _ _ => rfl)) se_bl) (sss_one (ss_if (st_cmp (or_eq hu) (se_ix hu1 (se_var (pv 6)) se_int (fun _ _ => rfl)) se_str (by first | rfl | exact nomark _ | decide)) (sss_one (ss_expr (se_mtL PySem.F.slot_list_append PySem.F.type_list_append rm_append (se_var (pv 2)) (sa_cons (se_ix hu1 (se_var (pv 5)) se_int (fun _ _ => rfl)) sa_nil)))) (sss_one (ss_if (st_cmp or_lt (se_cb cl_len rfl (T.free 1) bv_len (sa_cons (se_ix hu1 (se_var (pv 6)) se_int (fun _ _ => rfl)) sa_nil)) se_int (by first | rfl | exact nomark _ | decide)) (sss_one (ss_ret se_non)) (sss_one (ss_expr (se_mtL PySem.F.slot_list_extend PySem.F.type_list_extend rm_extend (se_var (pv 4)) (sa_cons (se_lc (own := [("pair", 8)]) rfl hN (si_rev rfl (T.free 31) (se_ix hu1 (se_var (pv 6)) se_int (fun _ _ => rfl))) (blkOk_by (own := [("pair", 8)]) (by kernel_rfl)) (fun _ _ _ _ _ => pg_name hN rfl (Or.inl rfl)) (sc_name 8) (fun _ _ _ _ _ => st_yes pts_nil) (fun _ _ _ _ _ => (se_tup (sa_cons (se_ix hu1 (se_var (pv 8)) se_int (fun _ _ => rfl)) (sa_cons (se_bin or_add (se_ix hu1 (se_var (pv 5)) se_int (fun _ _ => rfl)) se_int) (sa_cons (se_ix hu1 (se_var (pv 8)) se_int (fun _ _ => rfl)) sa_nil)))))) sa_nil)))))))))))))))) ?_
      exact sss_one (show SS _ _ _ _ b_leaves_of_4 from (ss_ret (se_tup (sa_cons (se_var (pv 2)) (sa_cons (se_var (pv 3)) sa_nil))))))
/-! listed -/
abbrev s_listed : Stmt := topS 10
theorem sc_listed : FnScope ["blocks", "found", "waiting", "block", "pair"] ["blocks"] (defScope s_listed) := ⟨rfl, rfl, rfl, by decide +kernel, rfl, by decide +kernel, by decide +kernel⟩
noncomputable def b_listed_0 : GS := (mSet 1 (mLst mNil))
noncomputable def b_listed_1 : GS := (mSet 2 (mLst (mCons (mC (.int 0)) mNil)))
noncomputable def b_listed_2 : GS := (mWhile (mT (mBin oGt (mCB oLen (mCons (mVar 2) mNil)) (mC (.int 0)))) (mSeq (mSet 3 (mBin oIx (mVar 0) (mMtL oPop0 (mVar 2) mNil))) (mIte (mT (mBin oEq (mBin oIx (mVar 3) (mC (.int 0))) (mC (.str "leaf")))) (mExpr (mMtL oExtend (mVar 1) (mCons (mBin oIx (mVar 3) (mC (.int 1))) mNil))) (mExpr (mMtL oExtend (mVar 2) (mCons (mLc (mRev (mBin oIx (mVar 3) (mC (.int 1)))) (mName 4) mYes (mBin oIx (mVar 4) (mC (.int 1))) [4]) mNil))))))
noncomputable def b_listed_3 : GS := (mRet (mVar 1))
noncomputable def b_listed : GS := (mSeq b_listed_0 (mSeq b_listed_1 (mSeq b_listed_2 b_listed_3)))
noncomputable def g_listed : Fn := mDef 1 5 b_listed
theorem cal_listed (T : Tx fa fn tf K mg) : Cal P w K mg base C 1 "listed" ["blocks"] g_listed :=
  ok_calT (st := s_listed) (N := ["blocks", "found", "waiting", "block", "pair"]) (k := 0) (body := b_listed) (T.def_ 18 33) sc_listed (fun _ _ _ _ _ _ us hl => match us, hl with | [_], _ => rfl)
    (fun X W f cdv A outer s H E hX hW hr hp tk => by
      have hN := sc_listed.nd
      have hu := room100 hr
      have hu1 := L2.hu_of hr
      have lx := lets_of tk
      refine sss_cons (show SS _ _ _ _ b_listed_0 from (ss_set hN rfl (by first | exact Or.inl rfl | exact Or.inr rfl) (se_lst sa_nil))) ?_
      refine sss_cons (show SS _ _ _ _ b_listed_1 from (ss_set hN rfl (by first | exact Or.inl rfl | exact Or.inr rfl) (se_lst (sa_cons se_int sa_nil)))) ?_
      refine sss_cons (show SS _ _ _ _ b_listed_2 from (ss_while hp (st_cmp or_gt (se_cb cl_len rfl (T.free 1) bv_len (sa_cons (se_var (pv 2)) sa_nil)) se_int (by first | rfl | exact nomark _ | decide)) (sss_cons (ss_set hN rfl (by first | exact Or.inl rfl | exact Or.inr rfl) (se_ix hu1 (se_var (pv 0)) (se_mtL0 PySem.F.slot_list_pop PySem.F.type_list_pop rm_pop0 (se_var (pv 2))) (fun _ _ => rfl))) (sss_one (ss_if (st_cmp (or_eq hu) (se_ix hu1 (se_var (pv 3)) se_int (fun _ _ => rfl)) se_str (by first | rfl | exact nomark _ | decide)) (sss_one (ss_expr (se_mtL PySem.F.slot_list_extend PySem.F.type_list_extend rm_extend (se_var (pv 1)) (sa_cons (se_ix hu1 (se_var (pv 3)) se_int (fun _ _ => rfl)) sa_nil)))) (sss_one (ss_expr (se_mtL PySem.F.slot_list_extend PySem.F.type_list_extend rm_extend (se_var (pv 2)) (sa_cons (se_lc (own := [("pair", 4)]) rfl hN (si_rev rfl (T.free 31) (se_ix hu1 (se_var (pv 3)) se_int (fun _ _ => rfl))) (blkOk_by (own := [("pair", 4)]) (by kernel_rfl)) (fun _ _ _ _ _ => pg_name hN rfl (Or.inl rfl)) (sc_name 4) (fun _ _ _ _ _ => st_yes pts_nil) (fun _ _ _ _ _ => (se_ix hu1 (se_var (pv 4)) se_int (fun _ _ => rfl)))) sa_nil))))))))) ?_
      exact sss_one (show SS _ _ _ _ b_listed_3 from (ss_ret (se_var (pv 1)))))
/-! sound -/
abbrev s_sound : Stmt := topS 12
theorem sc_sound : FnScope ["blocks", "width", "found", "keys", "at", "pair"] ["blocks", "width"] (defScope s_sound) := ⟨rfl, rfl, rfl, by decide +kernel, rfl, by decide +kernel, by decide +kernel⟩
noncomputable def b_sound_0 : GS := (mSet 2 (mCall g_leaves_of (mCons (mVar 0) (mCons (mVar 1) mNil))))
noncomputable def b_sound_1 : GS := (mIte (mOr (mT (mBin oIs (mVar 2) (mC .non))) (mOr (mT (mBin oNe (mCB oLen (mCons (mBin oIx (mVar 2) (mC (.int 1))) mNil)) (mCB oLen (mCons (mVar 0) mNil)))) (mT (mBin oNe (mUn oLenSet (mBin oIx (mVar 2) (mC (.int 0)))) (mC (.int 1)))))) (mRet (mC (.bl false))) mSkip)
noncomputable def b_sound_2 : GS := (mSet 3 (mLc (mIter (mCall g_listed (mCons (mVar 0) mNil))) (mName 5) mYes (mBin oIx (mVar 5) (mC (.int 0))) [5]))
noncomputable def b_sound_3 : GS := (mFor (mRange2 (mC (.int 1)) (mCB oLen (mCons (mVar 3) mNil))) (mName 4) (mIte (mT (mBin oLe (mBin oIx (mVar 3) (mVar 4)) (mBin oIx (mVar 3) (mBin oSub (mVar 4) (mC (.int 1)))))) (mRet (mC (.bl false))) mSkip))
noncomputable def b_sound_4 : GS := (mRet (mC (.bl true)))
noncomputable def b_sound : GS := (mSeq b_sound_0 (mSeq b_sound_1 (mSeq b_sound_2 (mSeq b_sound_3 b_sound_4))))
noncomputable def g_sound : Fn := mDef 2 6 b_sound
theorem cal_sound (T : Tx fa fn tf K mg) : Cal P w K mg base C 6 "sound" ["blocks", "width"] g_sound :=
  ok_calT (st := s_sound) (N := ["blocks", "width", "found", "keys", "at", "pair"]) (k := 5) (body := b_sound) (T.def_ 19 35) sc_sound (fun _ _ _ _ _ _ us hl => match us, hl with | [_, _], _ => rfl)
    (fun X W f cdv A outer s H E hX hW hr hp tk => by
      have hN := sc_sound.nd
      have hu := room100 hr
      have hu1 := L2.hu_of hr
      have lx := lets_of tk
      refine sss_cons (show SS _ _ _ _ b_sound_0 from (ss_set hN rfl (by first | exact Or.inl rfl | exact Or.inr rfl) (se_cal (cal_leaves_of T) (hr.mono (by decide)) lx (sa_cons (se_var (pv 0)) (sa_cons (se_var (pv 1)) sa_nil))))) ?_
      refine sss_cons (show SS _ _ _ _ b_sound_1 from (ss_if (SW.st (sw_or (st_cmp or_is (se_var (pv 2)) se_non (by first | rfl | exact nomark _ | decide)) (sw_or (st_cmp (or_ne hu) (se_cb cl_len rfl (T.free 1) bv_len (sa_cons (se_ix hu1 (se_var (pv 2)) se_int (fun _ _ => rfl)) sa_nil)) (se_cb cl_len rfl (T.free 1) bv_len (sa_cons (se_var (pv 0)) sa_nil)) (by first | rfl | exact nomark _ | decide)) (sw_or1 (st_cmp (or_ne hu) (se_lenSet rfl (T.free 1) rfl (T.free 34) (se_ix hu1 (se_var (pv 2)) se_int (fun _ _ => rfl))) se_int (by first | rfl | exact nomark _ | decide)))))) (sss_one (ss_ret se_bl)) sss_nil)) ?_
      refine sss_cons (show SS _ _ _ _ b_sound_2 from (ss_setLc (own := [("pair", 5)]) rfl hN rfl rfl (sw_true rfl rfl rfl rfl) (si_seq (se_cal (cal_listed T) (hr.mono (by decide)) lx (sa_cons (se_var (pv 0)) sa_nil))) (blkOk_by (own := [("pair", 5)]) (by kernel_rfl)) (fun _ _ _ _ _ => pg_name hN rfl (Or.inl rfl)) (sc_name 5) (fun _ _ _ _ _ => st_yes pts_nil) (fun _ _ _ _ _ => (se_ix hu1 (se_var (pv 5)) se_int (fun _ _ => rfl))))) ?_
      refine sss_cons (show SS _ _ _ _ b_sound_3 from (ss_for hp rfl (si_range2 rfl (T.free 3) se_int (se_cb cl_len rfl (T.free 1) bv_len (sa_cons (se_var (pv 3)) sa_nil))) (stg_name hN rfl (by first | exact Or.inl rfl | exact Or.inr rfl)) (sss_one (ss_if (st_cmp or_le (se_ix hu1 (se_var (pv 3)) (se_var (pv 4)) (fun _ _ => rfl)) (se_ix hu1 (se_var (pv 3)) (se_bin or_sub (se_var (pv 4)) se_int) (fun _ _ => rfl)) (by first | rfl | exact nomark _ | decide)) (sss_one (ss_ret se_bl)) sss_nil)))) ?_
      exact sss_one (show SS _ _ _ _ b_sound_4 from (ss_ret se_bl)))
/-! _law_as_wide -/
abbrev s_law_as_wide : Stmt := topS 24
theorem sc_law_as_wide : FnScope ["_law_blocks", "_law_width", "_law_number"] ["_law_blocks", "_law_width"] (defScope s_law_as_wide) := ⟨rfl, rfl, rfl, by decide +kernel, rfl, by decide +kernel, by decide +kernel⟩
noncomputable def b_law_as_wide_0 : GS := (mFor (mIter (mCB oList (mCons (mVar 0) mNil))) (mName 2) (mIte (mAnd (mT (mBin oGt (mVar 2) (mC (.int 0)))) (mT (mBin oLt (mCB oLen (mCons (mBin oIx (mBin oIx (mVar 0) (mVar 2)) (mC (.int 1))) mNil)) (mBin oDiv (mBin oAdd (mVar 1) (mC (.int 1))) (mC (.int 2)))))) (mRet (mC (.bl false))) mSkip))
noncomputable def b_law_as_wide_1 : GS := (mRet (mC (.bl true)))
noncomputable def b_law_as_wide : GS := (mSeq b_law_as_wide_0 b_law_as_wide_1)
noncomputable def g_law_as_wide : Fn := mDef 2 3 b_law_as_wide
theorem cal_law_as_wide (T : Tx fa fn tf K mg) : Cal P w K mg base C 1 "_law_as_wide" ["_law_blocks", "_law_width"] g_law_as_wide :=
  ok_calT (st := s_law_as_wide) (N := ["_law_blocks", "_law_width", "_law_number"]) (k := 0) (body := b_law_as_wide) (T.def_ 20 36) sc_law_as_wide (fun _ _ _ _ _ _ us hl => match us, hl with | [_, _], _ => rfl)
    (fun X W f cdv A outer s H E hX hW hr hp tk => by
      have hN := sc_law_as_wide.nd
      have hu := room100 hr
      have hu1 := L2.hu_of hr
      have lx := lets_of tk
      refine sss_cons (show SS _ _ _ _ b_law_as_wide_0 from (ss_for hp rfl (si_seq (se_cty (cl_list rfl) rfl (T.free 10) bv_list (sa_cons (se_var (pv 0)) sa_nil))) (stg_name hN rfl (by first | exact Or.inl rfl | exact Or.inr rfl)) (sss_one (ss_if (SW.st (sw_and (st_cmp or_gt (se_var (pv 2)) se_int (by first | rfl | exact nomark _ | decide)) (sw_and1 (st_cmp or_lt (se_cb cl_len rfl (T.free 1) bv_len (sa_cons (se_ix hu1 (se_ix hu1 (se_var (pv 0)) (se_var (pv 2)) (fun _ _ => rfl)) se_int (fun _ _ => rfl)) sa_nil)) (se_bin or_div (se_bin or_add (se_var (pv 1)) se_int) se_int) (by first | rfl | exact nomark _ | decide))))) (sss_one (ss_ret se_bl)) sss_nil)))) ?_
      exact sss_one (show SS _ _ _ _ b_law_as_wide_1 from (ss_ret se_bl)))
/-! law -/
abbrev s_law : Stmt := topS 26
theorem sc_law : FnScope ["_law_script", "_law_width", "_law_size", "_law_first", "_law_row", "_law_blocks", "_law_handed", "_law_numbers", "_law_number", "_law_more", "_law_other", "_law_k"] ["_law_script"] (defScope s_law) := ⟨rfl, rfl, rfl, by decide +kernel, rfl, by decide +kernel, by decide +kernel⟩
noncomputable def b_law_0 : GS := (mSet 1 (mCall g_law_width_by (mCons (mCall g_law_cell_at (mCons (mVar 0) (mCons (mC (.int 0)) mNil))) mNil)))
noncomputable def b_law_1 : GS := (mSet 2 (mBin oMod (mCall g_law_cell_at (mCons (mVar 0) (mCons (mC (.int 1)) mNil))) (mC (.int 41))))
noncomputable def b_law_2 : GS := (mIte (mOr (mT (mBin oEq (mBin oMod (mBin oDiv (mCall g_law_cell_at (mCons (mVar 0) (mCons (mC (.int 1)) mNil))) (mC (.int 41))) (mC (.int 4))) (mC (.int 1)))) (mT (mBin oGt (mVar 1) (mC (.int 6))))) (mSet 2 (mBin oMod (mBin oMod (mBin oMul (mCall g_law_cell_at (mCons (mVar 0) (mCons (mC (.int 1)) mNil))) (mC (.int 48271))) (mC (.int 1009))) (mC (.int 201)))) mSkip)
noncomputable def b_law_3 : GS := (mSet 3 (mBin oSub (mBin oMod (mCall g_law_cell_at (mCons (mVar 0) (mCons (mC (.int 2)) mNil))) (mC (.int 2000))) (mC (.int 1000))))
noncomputable def b_law_4 : GS := (mSet 4 (mLc (mRange1 (mVar 2)) (mName 11) mYes (mTup (mCons (mBin oAdd (mVar 3) (mBin oMul (mC (.int 3)) (mVar 11))) (mCons (mBin oMul (mC (.str "v")) (mBin oMod (mVar 11) (mC (.int 3)))) mNil))) [11]))
noncomputable def b_law_5 : GS := (mSet 5 (mCall g_law_tree_by (mCons (mVar 4) (mCons (mVar 1) (mCons (mBin oMod (mCall g_law_cell_at (mCons (mVar 0) (mCons (mC (.int 3)) mNil))) (mC (.int 9000))) mNil)))))
noncomputable def b_law_6 : GS := (mSet 6 (mCB oDict (mCons (mVar 5) mNil)))
noncomputable def b_law_7 : GS := (mIte (mOr (mT (mBin oIsNot (mCall g_sound (mCons (mVar 6) (mCons (mVar 1) mNil))) (mC (.bl true)))) (mT (mBin oNe (mVar 6) (mVar 5)))) (mRet (mC (.bl false))) mSkip)
noncomputable def b_law_8 : GS := (mIte (mT (mBin oEq (mBin oMod (mCall g_law_cell_at (mCons (mVar 0) (mCons (mC (.int 4)) mNil))) (mC (.int 4))) (mC (.int 0)))) (mRet (mCall g_law_says (mCons (mCall g_sound (mCons (mVar 6) (mCons (mCB oMin2 (mCons (mC (.int 64)) (mCons (mBin oAdd (mVar 1) (mC (.int 1))) mNil))) mNil))) (mCons (mOrV (mBin oEq (mVar 1) (mC (.int 64))) (mCall g_law_as_wide (mCons (mVar 5) (mCons (mBin oAdd (mVar 1) (mC (.int 1))) mNil)))) mNil)))) mSkip)
noncomputable def b_law_9 : GS := (mSet 7 (mCB oSorted (mCons (mCB oList (mCons (mVar 5) mNil)) mNil)))
noncomputable def b_law_10 : GS := (mSet 8 (mBin oIx (mVar 7) (mBin oMod (mCall g_law_cell_at (mCons (mVar 0) (mCons (mC (.int 5)) mNil))) (mCB oLen (mCons (mVar 7) mNil)))))
noncomputable def b_law_11 : GS := (mSet 9 (mBin oMod (mCall g_law_cell_at (mCons (mVar 0) (mCons (mC (.int 6)) mNil))) (mC (.int 9000))))
noncomputable def b_law_12 : GS := (mSet 10 (mCall g_law_spoilt (mCons (mVar 5) (mCons (mVar 8) (mCons (mBin oMod (mBin oDiv (mCall g_law_cell_at (mCons (mVar 0) (mCons (mC (.int 4)) mNil))) (mC (.int 4))) (mC (.int 15))) (mCons (mVar 1) (mCons (mBin oSub (mBin oAdd (mVar 3) (mBin oMul (mC (.int 3)) (mVar 2))) (mC (.int 3))) (mCons (mVar 9) mNil))))))))
noncomputable def b_law_13 : GS := (mRet (mOrV (mBin oIs (mVar 10) (mC .non)) (mBin oIs (mCall g_sound (mCons (mVar 10) (mCons (mVar 1) mNil))) (mC (.bl false)))))
noncomputable def b_law : GS := (mSeq b_law_0 (mSeq b_law_1 (mSeq b_law_2 (mSeq b_law_3 (mSeq b_law_4 (mSeq b_law_5 (mSeq b_law_6 (mSeq b_law_7 (mSeq b_law_8 (mSeq b_law_9 (mSeq b_law_10 (mSeq b_law_11 (mSeq b_law_12 b_law_13)))))))))))))
noncomputable def g_law : Fn := mDef 1 12 b_law
theorem ok_law (T : Tx fa fn tf K mg) {f : Addr} {fd : FuncData} (F : Fun K "law" "law" s_law f fd) : FnOk P w K mg base (L2.CX P w) 7 f fd ["_law_script"] (spG K mg C g_law) :=
  ok_fnT (N := ["_law_script", "_law_width", "_law_size", "_law_first", "_law_row", "_law_blocks", "_law_handed", "_law_numbers", "_law_number", "_law_more", "_law_other", "_law_k"]) (ps := ["_law_script"]) (k := 6) (body := b_law) F sc_law
    (fun X W f cdv A outer s H E hX hW hr hp tk => by
      have hN := sc_law.nd
      have hu := room100 hr
      have hu1 := L2.hu_of hr
      have lx := lets_of tk
      refine sss_cons (show SS _ _ _ _ b_law_0 from (ss_set hN rfl (by first | exact Or.inl rfl | exact Or.inr rfl) (se_cal (cal_law_width_by T) (hr.mono (by decide)) lx (sa_cons (se_cal (cal_law_cell_at T) (hr.mono (by decide)) lx (sa_cons (se_var (pv 0)) (sa_cons se_int sa_nil))) sa_nil)))) ?_
      refine sss_cons (show SS _ _ _ _ b_law_1 from (ss_set hN rfl (by first | exact Or.inl rfl | exact Or.inr rfl) (se_bin or_mod (se_cal (cal_law_cell_at T) (hr.mono (by decide)) lx (sa_cons (se_var (pv 0)) (sa_cons se_int sa_nil))) se_int))) ?_
      refine sss_cons (show SS _ _ _ _ b_law_2 from (ss_if (SW.st (sw_or (st_cmp (or_eq hu) (se_bin or_mod (se_bin or_div (se_cal (cal_law_cell_at T) (hr.mono (by decide)) lx (sa_cons (se_var (pv 0)) (sa_cons se_int sa_nil))) se_int) se_int) se_int (by first | rfl | exact nomark _ | decide)) (sw_or1 (st_cmp or_gt (se_var (pv 1)) se_int (by first | rfl | exact nomark _ | decide))))) (sss_one (ss_set hN rfl (by first | exact Or.inl rfl | exact Or.inr rfl) (se_bin or_mod (se_bin or_mod (se_bin or_mul (se_cal (cal_law_cell_at T) (hr.mono (by decide)) lx (sa_cons (se_var (pv 0)) (sa_cons se_int sa_nil))) se_int) se_int) se_int))) sss_nil)) ?_
      refine sss_cons (show SS _ _ _ _ b_law_3 from (ss_set hN rfl (by first | exact Or.inl rfl | exact Or.inr rfl) (se_bin or_sub (se_bin or_mod (se_cal (cal_law_cell_at T) (hr.mono (by decide)) lx (sa_cons (se_var (pv 0)) (sa_cons se_int sa_nil))) se_int) se_int))) ?_
      refine sss_cons (show SS _ _ _ _ b_law_4 from (ss_setLc (own := [("_law_k", 11)]) rfl hN rfl rfl (sw_true rfl rfl rfl rfl) (si_range1 rfl (T.free 3) (se_var (pv 2))) (blkOk_by (own := [("_law_k", 11)]) (by kernel_rfl)) (fun _ _ _ _ _ => pg_name hN rfl (Or.inl rfl)) (sc_name 11) (fun _ _ _ _ _ => st_yes pts_nil) (fun _ _ _ _ _ => (se_tup (sa_cons (se_bin or_add (se_var (pv 3)) (se_bin or_mul se_int (se_var (pv 11)))) (sa_cons (se_bin or_mul se_str (se_bin or_mod (se_var (pv 11)) se_int)) sa_nil)))))) ?_
      refine sss_cons (show SS _ _ _ _ b_law_5 from (ss_set hN rfl (by first | exact Or.inl rfl | exact Or.inr rfl) (se_cal (cal_law_tree_by T) (hr.mono (by decide)) lx (sa_cons (se_var (pv 4)) (sa_cons (se_var (pv 1)) (sa_cons (se_bin or_mod (se_cal (cal_law_cell_at T) (hr.mono (by decide)) lx (sa_cons (se_var (pv 0)) (sa_cons se_int sa_nil))) se_int) sa_nil)))))) ?_
      refine sss_cons (show SS _ _ _ _ b_law_6 from (ss_set hN rfl (by first | exact Or.inl rfl | exact Or.inr rfl) (se_cty cl_dict rfl (T.free 15) bv_dict (sa_cons (se_var (pv 5)) sa_nil)))) ?_
      refine sss_cons (show SS _ _ _ _ b_law_7 from (ss_if (SW.st (sw_or (st_cmp or_isNot (se_cal (cal_sound T) (hr.mono (by decide)) lx (sa_cons (se_var (pv 6)) (sa_cons (se_var (pv 1)) sa_nil))) se_bl (by first | rfl | exact nomark _ | decide)) (sw_or1 (st_cmp (or_ne hu) (se_var (pv 6)) (se_var (pv 5)) (by first | rfl | exact nomark _ | decide))))) (sss_one (ss_ret se_bl)) sss_nil)) ?_
      refine sss_cons (show SS _ _ _ _ b_law_8 from (ss_if (st_cmp (or_eq hu) (se_bin or_mod (se_cal (cal_law_cell_at T) (hr.mono (by decide)) lx (sa_cons (se_var (pv 0)) (sa_cons se_int sa_nil))) se_int) se_int (by first | rfl | exact nomark _ | decide)) (sss_one (ss_ret (se_cal (cal_law_says T) (hr.mono (by decide)) lx (sa_cons (se_cal (cal_sound T) (hr.mono (by decide)) lx (sa_cons (se_var (pv 6)) (sa_cons (se_cb (cl_min2 rfl) rfl (T.free 13) bv_min (sa_cons se_int (sa_cons (se_bin or_add (se_var (pv 1)) se_int) sa_nil))) sa_nil))) (sa_cons (se_or (se_cmp (or_eq hu) (se_var (pv 1)) se_int (by first | rfl | exact nomark _ | decide)) (se_one (se_cal (cal_law_as_wide T) (hr.mono (by decide)) lx (sa_cons (se_var (pv 5)) (sa_cons (se_bin or_add (se_var (pv 1)) se_int) sa_nil))))) sa_nil))))) sss_nil)) ?_
      refine sss_cons (show SS _ _ _ _ b_law_9 from (ss_set hN rfl (by first | exact Or.inl rfl | exact Or.inr rfl) (se_cb cl_sorted rfl (T.free 37) bv_sorted (sa_cons (se_cty (cl_list rfl) rfl (T.free 10) bv_list (sa_cons (se_var (pv 5)) sa_nil)) sa_nil)))) ?_
      refine sss_cons (show SS _ _ _ _ b_law_10 from (ss_set hN rfl (by first | exact Or.inl rfl | exact Or.inr rfl) (se_ix hu1 (se_var (pv 7)) (se_bin or_mod (se_cal (cal_law_cell_at T) (hr.mono (by decide)) lx (sa_cons (se_var (pv 0)) (sa_cons se_int sa_nil))) (se_cb cl_len rfl (T.free 1) bv_len (sa_cons (se_var (pv 7)) sa_nil))) (fun _ _ => rfl)))) ?_
      refine sss_cons (show SS _ _ _ _ b_law_11 from (ss_set hN rfl (by first | exact Or.inl rfl | exact Or.inr rfl) (se_bin or_mod (se_cal (cal_law_cell_at T) (hr.mono (by decide)) lx (sa_cons (se_var (pv 0)) (sa_cons se_int sa_nil))) se_int))) ?_
      refine sss_cons (show SS _ _ _ _ b_law_12 from (ss_set hN rfl (by first | exact Or.inl rfl | exact Or.inr rfl) (se_cal (cal_law_spoilt T) (hr.mono (by decide)) lx (sa_cons (se_var (pv 5)) (sa_cons (se_var (pv 8)) (sa_cons (se_bin or_mod (se_bin or_div (se_cal (cal_law_cell_at T) (hr.mono (by decide)) lx (sa_cons (se_var (pv 0)) (sa_cons se_int sa_nil))) se_int) se_int) (sa_cons (se_var (pv 1)) (sa_cons (se_bin or_sub (se_bin or_add (se_var (pv 3)) (se_bin or_mul se_int (se_var (pv 2)))) se_int) (sa_cons (se_var (pv 9)) sa_nil))))))))) ?_
      exact sss_one (show SS _ _ _ _ b_law_13 from (ss_ret (se_or (se_cmp or_is (se_var (pv 10)) se_non (by first | rfl | exact nomark _ | decide)) (se_one (se_cmp or_is (se_cal (cal_sound T) (hr.mono (by decide)) lx (sa_cons (se_var (pv 10)) (sa_cons (se_var (pv 1)) sa_nil))) se_bl (by first | rfl | exact nomark _ | decide)))))))
end
abbrev R : PySem.W.OpenRow := PySem.W.OpenLaw.row PySem.Challenge.rw_btreelog_k07_sound
abbrev hk : PySem.W.Hook := hookB 4 fa fn tf
def ob (s : PySem.W.SharedT) : AlB := obsBG 4 fa fn tf (HandSHeadRun.getT s)
theorem ob_eq (s : PySem.W.SharedT) : ob s = hk.obs s.abs := obsBG_eq (HandSHeadRun.getT_eq s)
theorem run (w : World) : HandSHeadRun.RunEq R (PySem.W.view R.prog [26]) hk ob 4000 ["KEY_LIMIT", "VALUE_SIGNS", "is_whole", "is_key", "is_value", "half", "is_pair", "is_block", "listed", "leaves_of", "sound", "_law_cell_at", "_law_width_by", "_law_level", "_law_tree_by", "_law_pair_spoilt", "_law_block_spoilt", "_law_deeper", "_law_ringed", "_law_tree_spoilt", "_law_says", "_law_as_wide", "_law_spoilt"] w := by
  intro os
  kernel_rfl
open PySem.W PySem.Calls PyProof.Rows in
theorem holds_of (law : ∀ ns : List Int, ns.length ≤ 63 → (∀ z ∈ ns, Builtin.Int.intBits z ≤ 1048576) → ∃ M, g_law [.scr ns] [] = some (.ok (.bl true) M)) : PySem.Challenge.rw_btreelog_k07_sound.Holds := by
  w_on; o_law
  refine HandSHeadRun.head_any (r := OpenLaw.row PySem.Challenge.rw_btreelog_k07_sound) (q := view (OpenLaw.row PySem.Challenge.rw_btreelog_k07_sound).prog [26]) (H := hk) (ob := ob) (M := 4000) (loose := ["KEY_LIMIT", "VALUE_SIGNS", "is_whole", "is_key", "is_value", "half", "is_pair", "is_block", "listed", "leaves_of", "sound", "_law_cell_at", "_law_width_by", "_law_level", "_law_tree_by", "_law_pair_spoilt", "_law_block_spoilt", "_law_deeper", "_law_ringed", "_law_tree_spoilt", "_law_says", "_law_as_wide", "_law_spoilt"]) (d := HandSHeadRun.topDef (OpenLaw.row PySem.Challenge.rw_btreelog_k07_sound).prog 26) (kwd := []) ob_eq
    (by kernel_rfl) (fun s => by kernel_rfl) run (by kernel_rfl) (by kernel_rfl) (by kernel_rfl) (by rfl) (by first | assumption | decide +kernel) (by decide +kernel) ⟨rfl, rfl, rfl, rfl, rfl, by decide +kernel⟩ ?hw ?hc
  case hw => w_witness2
  case hc =>
    exact bl_walk (l := PySem.Challenge.rw_btreelog_k07_sound) (n := 63) (k := 7) (j := 38) (x := "_law_script") (y := "law") (st := s_law) (g := g_law) (fun _ => 0) 21 rfl (by decide) (by kernel_rfl) ⟨rfl, by decide, by decide⟩ (by kernel_rfl) rfl rfl
      (fun _ _ _ _ _ _ us hl => match us, hl with | [_], _ => rfl) (fun w K mg base f fd T F => ok_law T F) law
end BK07
/-! K07A: a block spoilt. -/
namespace BK07
open BL
open BP (blkD kindS leafS branchS rowB pairB SoundP Look SeenB SeenP blkOf leafB pairsOf leastOf keyOf numOf ix0 ix1 Kn keyB valB posB)
open PySem (Str)
variable {M : Mem}
abbrev LB (d : D) (root : Bool) (way w more : Int) (kind : D) (rows : List D) : Loc := [some d, some (.bl root), some (.int way), some (.int w), some (.int more), some kind, some (.tup rows), none, none]
theorem len_tup {ds : List D} : oLen [.tup ds] M = some (.int ds.length, M) := (rfl)
theorem k_br (leaf : Bool) : oEq (.str (kindS leaf)) (.str "branch") M = some (.bl (!leaf), M) := by
  cases leaf <;> exact oEq_strs (by decide +kernel) (by decide +kernel) (by decide +kernel)
theorem bs_01 {d : D} {root : Bool} {way w more : Int} {kind : D} {rows : List D} (h : d = .tup [kind, .tup rows]) : mSeq b_law_block_spoilt_0 b_law_block_spoilt_1 ([some d, some (.bl root), some (.int way), some (.int w), some (.int more)] ++ List.replicate (9 - 5) none) M = some (.nx (LB d root way w more kind rows), M) := by
  subst h
  have i0 : ∀ M, oIx (.tup [kind, .tup rows]) (.int 0) M = some (kind, M) := fun M => ix0
  have i1 : ∀ M, oIx (.tup [kind, .tup rows]) (.int 1) M = some (.tup rows, M) := fun M => ix1
  simp [b_law_block_spoilt_0, b_law_block_spoilt_1, i0, i1]
theorem bs_2n {d : D} {root leaf : Bool} {way w more : Int} {rows : List D} (h : way ≠ 0 ∨ rows.length ≤ 1) : b_law_block_spoilt_2 (LB d root way w more (.str (kindS leaf)) rows) M = some (.nx (LB d root way w more (.str (kindS leaf)) rows), M) := by
  rcases h with h | h
  · simp [b_law_block_spoilt_2, h]
  · by_cases c : way = 0
    · have : ¬ (1 : Int) < rows.length := by omega
      simp [b_law_block_spoilt_2, c, len_tup, this]
    · simp [b_law_block_spoilt_2, c]
theorem bs_3n {d : D} {root leaf : Bool} {way w more : Int} {rows : List D} (h : way ≠ 1 ∨ root = false ∨ leaf = true) : b_law_block_spoilt_3 (LB d root way w more (.str (kindS leaf)) rows) M = some (.nx (LB d root way w more (.str (kindS leaf)) rows), M) := by
  by_cases c : way = 1
  · rcases h with h | h | h
    · exact absurd c h
    · simp [b_law_block_spoilt_3, c, h]
    · cases root <;> simp [b_law_block_spoilt_3, c, h, k_br]
  · simp [b_law_block_spoilt_3, c]
theorem bs_4n {d : D} {root leaf : Bool} {way w more : Int} {rows : List D} (h : way ≠ 1 ∨ root = true) : b_law_block_spoilt_4 (LB d root way w more (.str (kindS leaf)) rows) M = some (.nx (LB d root way w more (.str (kindS leaf)) rows), M) := by
  by_cases c : way = 1
  · rcases h with h | h
    · exact absurd c h
    · simp [b_law_block_spoilt_4, c, h]
  · simp [b_law_block_spoilt_4, c]
theorem bs_5n {d : D} {root leaf : Bool} {way w more : Int} {rows : List D} (h : way ≠ 2 ∨ (root = true ∧ leaf = true)) : b_law_block_spoilt_5 (LB d root way w more (.str (kindS leaf)) rows) M = some (.nx (LB d root way w more (.str (kindS leaf)) rows), M) := by
  by_cases c : way = 2
  · rcases h with h | ⟨h, h2⟩
    · exact absurd c h
    · simp [b_law_block_spoilt_5, c, h, h2, k_br]
  · simp [b_law_block_spoilt_5, c]
theorem bs_6n {d : D} {root leaf : Bool} {way w more : Int} {rows : List D} (h : way ≠ 3 ∨ leaf = true) : b_law_block_spoilt_6 (LB d root way w more (.str (kindS leaf)) rows) M = some (.nx (LB d root way w more (.str (kindS leaf)) rows), M) := by
  by_cases c : way = 3
  · rcases h with h | h
    · exact absurd c h
    · simp [b_law_block_spoilt_6, c, h, k_br]
  · simp [b_law_block_spoilt_6, c]
theorem bs_7n {d : D} {root leaf : Bool} {way w more : Int} {rows : List D} (h : way ≠ 4 ∨ rows = []) : b_law_block_spoilt_7 (LB d root way w more (.str (kindS leaf)) rows) M = some (.nx (LB d root way w more (.str (kindS leaf)) rows), M) := by
  by_cases c : way = 4
  · rcases h with h | h
    · exact absurd c h
    · simp [b_law_block_spoilt_7, c, h, len_tup]
  · simp [b_law_block_spoilt_7, c]
theorem bs_8n {d : D} {root leaf : Bool} {way w more : Int} {rows : List D} (h : way ≠ 5 ∨ rows = []) : b_law_block_spoilt_8 (LB d root way w more (.str (kindS leaf)) rows) M = some (.nx (LB d root way w more (.str (kindS leaf)) rows), M) := by
  by_cases c : way = 5
  · rcases h with h | h
    · exact absurd c h
    · simp [b_law_block_spoilt_8, c, h, len_tup]
  · simp [b_law_block_spoilt_8, c]
end BK07
/-! K07B: the ways taken. -/
namespace BK07
open BL
open BP (blkD kindS leafS branchS rowB pairB SoundP Look SeenB SeenP blkOf leafB pairsOf leastOf keyOf numOf ix0 ix1 Kn keyB valB posB)
open PySem (Str)
variable {M : Mem}
theorem revl_tup {xs : List D} : oRevL (.tup xs) M = some (.tup xs.reverse, M) := (rfl)
theorem sl_tup {ds : List D} {lo hi : Option Int} : oSl (.tup ds) lo hi M = some (.tup (cutD ds lo hi), M) := (rfl)
theorem bs_2y {d : D} {root leaf : Bool} {w more : Int} {rows : List D} (h : 2 ≤ rows.length) : b_law_block_spoilt_2 (LB d root 0 w more (.str (kindS leaf)) rows) M = some (.rt (blkD leaf rows.reverse), M) := by
  have : (1 : Int) < rows.length := by omega
  simp [b_law_block_spoilt_2, len_tup, this, revl_tup]
  rfl
theorem bs_3y {d : D} {w more : Int} {rows : List D} : b_law_block_spoilt_3 (LB d true 1 w more (.str (kindS false)) rows) M = some (.rt (blkD false (cutD rows none (some 1))), M) := by
  simp [b_law_block_spoilt_3, sl_tup, k_br]
  rfl
theorem bs_4y {d : D} {leaf : Bool} {w more : Int} {rows : List D} : b_law_block_spoilt_4 (LB d false 1 w more (.str (kindS leaf)) rows) M = some (.rt (blkD leaf (cutD rows none (some ((w + 1) / 2 - 1)))), M) := by
  simp [b_law_block_spoilt_4, sl_tup]
  rfl
theorem bs_9 {d : D} {root leaf : Bool} {way w more : Int} {rows : List D} (h : 0 ≤ way ∧ way ≤ 8) : ∃ X M', b_law_block_spoilt_9 (LB d root way w more (.str (kindS leaf)) rows) M = some (.rt X, M') ∧ Kp M M' ∧ (way ≤ 5 → X = .non) ∧ (way = 6 → ∃ q, X = .tup [.str (kindS leaf), .ref q] ∧ M'[q]? = some (.lst rows)) ∧ (way = 7 → ∃ s, X = .tup [.str s, .tup rows] ∧ s ≠ leafS ∧ s ≠ branchS ∧ Pl 50 (.str s)) ∧ (way = 8 → X = .int 7) := by
  have ha : ∀ M, oAdd (.str (kindS leaf)) (.str "es") M = some (.str (kindS leaf ++ "es"), M) := fun M => by cases leaf <;> rfl
  have hl : oList [.tup rows] M = some (.ref M.length, M ++ [.lst rows]) := rfl
  obtain ⟨z, hz, hz2⟩ : ∃ z : Nat, way = z ∧ z ≤ 8 := ⟨way.toNat, by omega, by omega⟩
  subst hz
  have e : b_law_block_spoilt_9 (LB d root z w more (.str (kindS leaf)) rows) M = some (.rt (([.non, .non, .non, .non, .non, .non, .tup [.str (kindS leaf), .ref M.length], .tup [.str (kindS leaf ++ "es"), .tup rows], .int 7] : List D).getD z .non), M ++ [.lst rows] ++ [.lst [.non, .non, .non, .non, .non, .non, .tup [.str (kindS leaf), .ref M.length], .tup [.str (kindS leaf ++ "es"), .tup rows], .int 7]]) := by
    have hi : ∀ M : Mem, ∀ xs : List D, z < xs.length → oIx (.ref M.length) (.int z) (M ++ [.lst xs]) = some (xs.getD z .non, M ++ [.lst xs]) := fun M xs hx => by
      refine ix_lst get_new ?_
      rw [atI_nat]
      simp [hx]
    have hi2 := hi (M ++ [.lst rows]) [.non, .non, .non, .non, .non, .non, .tup [.str (kindS leaf), .ref M.length], .tup [.str (kindS leaf ++ "es"), .tup rows], .int 7] (by simp; omega)
    simp [b_law_block_spoilt_9, ha, hl] at hi2 ⊢
    simp [hi2]
  refine ⟨_, _, e, (Kp.app _ _).more _, fun h5 => ?_, fun h6 => ?_, fun h7 => ?_, fun h8 => ?_⟩
  · have : z = 0 ∨ z = 1 ∨ z = 2 ∨ z = 3 ∨ z = 4 ∨ z = 5 := by omega
    rcases this with rfl | rfl | rfl | rfl | rfl | rfl <;> rfl
  · have : z = 6 := by omega
    subst this
    exact ⟨M.length, rfl, get_app get_new⟩
  · have : z = 7 := by omega
    subst this
    exact ⟨_, rfl, by cases leaf <;> decide +kernel, by cases leaf <;> decide +kernel, by cases leaf <;> exact pl_str (by decide +kernel)⟩
  · have : z = 8 := by omega
    subst this
    rfl
end BK07
/-! K07C: the ways 2, 3, 4 taken. -/
namespace BK07
open BL
open BP (blkD kindS leafS branchS rowB pairB SoundP Look SeenB SeenP blkOf leafB pairsOf leastOf keyOf numOf ix0 ix1 Kn keyB valB posB)
open PySem (Str)
variable {M : Mem}
theorem ix_last {xs : List D} {x : D} : oIx (.tup (xs ++ [x])) (.int (-1)) M = some (x, M) := ix_tup (by
  have h : L2.ixN (xs ++ [x]).length (-1) = some xs.length := by
    rw [List.length_append, List.length_singleton]
    unfold L2.ixN
    first
      | (rw [if_pos (by omega)]; congr 1; omega)
      | (rw [if_neg (by omega), if_pos (by omega)]; congr 1; omega)
      | (simp <;> omega)
  unfold L2.atI
  rw [h]
  simp)
theorem cut_last {xs : List D} {x : D} : cutD (xs ++ [x]) none (some (-1)) = xs := by
  have h1 : HT.sIx (xs ++ [x]).length (xs ++ [x]).length (some (-1)) = xs.length := by
    show (if (-1 : Int) < 0 then ((-1 : Int) + ((xs ++ [x]).length : Int)).toNat else min (-1 : Int).toNat (xs ++ [x]).length) = _
    rw [if_pos (by decide), List.length_append, List.length_singleton]
    omega
  unfold cutD
  rw [h1, HT.sIx_none, List.drop_zero, Nat.sub_zero]
  simp
theorem cut_one {xs : List D} {x : D} : cutD (x :: xs) (some 1) none = xs := by
  rw [show (1 : Int) = ((1 : Nat) : Int) from rfl, cut_drop]
  rfl
theorem so1 {L : Loc} : mSome (mC (.int 1)) L M = some (.ok (some 1) M) := (rfl)
theorem so_1 {L : Loc} : mSome (mUn oNeg (mC (.int 1))) L M = some (.ok (some (-1)) M) := (rfl)
theorem bs_5y {d v : D} {root leaf : Bool} {w more k : Int} {rest : List D} (h : root = false ∨ leaf = false) (hl : rest.length ≤ 1000) : b_law_block_spoilt_5 (LB d root 2 w more (.str (kindS leaf)) (.tup [.int k, v] :: rest)) M = some (.rt (blkD leaf (.tup [.int (k - 1), v] :: rest)), M) := by
  have i0 : ∀ M, oIx (.tup (.tup [.int k, v] :: rest)) (.int 0) M = some (.tup [.int k, v], M) := fun M => ix0
  have i00 : ∀ M, oIx (.tup [.int k, v]) (.int 0) M = some (.int k, M) := fun M => ix0
  have i01 : ∀ M, oIx (.tup [.int k, v]) (.int 1) M = some (v, M) := fun M => ix1
  have hlen : 1 + rest.length < 16000000 := by omega
  have ha : oAdd (.tup [.tup [.int (k - 1), v]]) (.tup rest) M = some (.tup (.tup [.int (k - 1), v] :: rest), M) := by simp [hlen]
  rcases h with rfl | rfl
  · simp [b_law_block_spoilt_5, so1, i0, i00, i01, sl_tup, cut_one, ha, -add_tup]
    rfl
  · cases root <;> (simp [b_law_block_spoilt_5, so1, i0, i00, i01, sl_tup, cut_one, k_br, ha, -add_tup]; rfl)
theorem bs_6y {d v0 vl : D} {root : Bool} {w more k0 kl : Int} {mid : List D} (hl : mid.length ≤ 1000) : b_law_block_spoilt_6 (LB d root 3 w more (.str (kindS false)) (.tup [.int k0, v0] :: mid ++ [.tup [.int kl, vl]])) M = some (.rt (blkD false (.tup [.int k0, v0] :: mid ++ [.tup [.int kl, v0]])), M) := by
  have i0 : ∀ M, oIx (.tup (.tup [.int k0, v0] :: mid ++ [.tup [.int kl, vl]])) (.int 0) M = some (.tup [.int k0, v0], M) := fun M => ix0
  have il : ∀ M, oIx (.tup (.tup [.int k0, v0] :: mid ++ [.tup [.int kl, vl]])) (.int (-1)) M = some (.tup [.int kl, vl], M) := fun M => ix_last
  have i00 : ∀ M, oIx (.tup [.int kl, vl]) (.int 0) M = some (.int kl, M) := fun M => ix0
  have i01 : ∀ M, oIx (.tup [.int k0, v0]) (.int 1) M = some (v0, M) := fun M => ix1
  have ha : oAdd (.tup (.tup [.int k0, v0] :: mid)) (.tup [.tup [.int kl, v0]]) M = some (.tup (.tup [.int k0, v0] :: mid ++ [.tup [.int kl, v0]]), M) := by
    rw [add_tup, if_pos (by simp; omega)]
  have hs : oSl (.tup (.tup [.int k0, v0] :: mid ++ [.tup [.int kl, vl]])) none (some (-1)) M = some (.tup (.tup [.int k0, v0] :: mid), M) := by
    rw [sl_tup, cut_last]
  generalize (D.tup [.int k0, v0] :: mid ++ [.tup [.int kl, vl]]) = rows at i0 il hs
  simp [b_law_block_spoilt_6, so_1, i0, il, i00, i01, k_br, ha, hs, -add_tup]
  rfl
end BK07
/-! K07D: way 4 taken. -/
namespace BK07
open BL
open BP (blkD kindS leafS branchS rowB pairB SoundP Look SeenB SeenP blkOf leafB pairsOf leastOf keyOf numOf ix0 ix1 Kn keyB valB posB)
open PySem (Str)
variable {M : Mem}
theorem bs_7y {d vl : D} {root leaf : Bool} {w more kl : Int} {rows ini : List D} (hr : rows = ini ++ [.tup [.int kl, vl]]) (hl : (rows.length : Int) ≤ w) (hw : w ≤ 64) :
    ∃ extra M', b_law_block_spoilt_7 (LB d root 4 w more (.str (kindS leaf)) rows) M = some (.rt (blkD leaf (rows ++ extra)), M') ∧ Kp M M' ∧ (extra.length : Int) = w + 1 - rows.length ∧ ∀ x ∈ extra, ∃ k : Int, x = .tup [.int k, vl] := by
  have hpos : (0 : Int) < rows.length := by rw [hr]; simp
  have il : ∀ M, oIx (.tup rows) (.int (-1)) M = some (.tup [.int kl, vl], M) := fun M => by rw [hr]; exact ix_last
  have i0 : ∀ M, oIx (.tup [.int kl, vl]) (.int 0) M = some (.int kl, M) := fun M => ix0
  have i1 : ∀ M, oIx (.tup [.int kl, vl]) (.int 1) M = some (vl, M) := fun M => ix1
  obtain ⟨n, hn⟩ : ∃ n : Nat, (n : Int) = w + 1 - rows.length := ⟨(w + 1 - rows.length).toNat, by omega⟩
  have hn2 : (w + 2 - (rows.length : Int) - 1).toNat = n := by omega
  let f : D → D := fun d => match d with | .int k => .tup [.int (kl + k), vl] | _ => .non
  have hi : mRange2 (mC (.int 1)) (mBin oSub (mBin oAdd (mVar 3) (mC (.int 2))) (mCB oLen (mCons (mVar 6) mNil))) (LB d root 4 w more (.str (kindS leaf)) rows) M = some (.ok ⟨rng 1 n, none⟩ M) := by
    have := range2_int (a := mC (.int 1)) (b := mBin oSub (mBin oAdd (mVar 3) (mC (.int 2))) (mCB oLen (mCons (mVar 6) mNil))) (L := LB d root 4 w more (.str (kindS leaf)) rows) (M := M) (M1 := M) (M2 := M) (i := 1) (j := w + 2 - rows.length) (by simp) (by simp [len_tup]) (by constructor <;> constructor <;> omega)
    rw [this, hn2]
  have hc := lcG_map (ok := Src.ok ⟨rng 1 n, none⟩) (g := mName 8) (tt := mYes) (e := mTup (mCons (mBin oAdd (mBin oIx (mBin oIx (mVar 6) (mUn oNeg (mC (.int 1)))) (mC (.int 0))) (mVar 8)) (mCons (mBin oIx (mBin oIx (mVar 6) (mUn oNeg (mC (.int 1)))) (mC (.int 1))) mNil))) (L := wipeL (LB d root 4 w more (.str (kindS leaf)) rows) [8]) (M := M) (fun _ => true) f trivial (rng 1 n) (fun d hd => by
    obtain ⟨j, hj⟩ := List.mem_iff_getElem?.mp hd
    obtain ⟨rfl, hk⟩ := rng_get hj
    refine ⟨_, rfl, rfl, fun _ => ?_⟩
    simp [wipeL, il, i0, i1, f])
  rw [List.filter_eq_self.mpr (fun _ _ => rfl)] at hc
  have hlc := lc_at hi hc (by simp; omega)
  have hex : ((rng 1 n).map f).length = n := by simp
  refine ⟨(rng 1 n).map f, M ++ [.lst ((rng 1 n).map f)], ?_, Kp.app _ _, by rw [hex]; exact hn, fun x hx => ?_⟩
  · have ht : oTuple [.ref M.length] (M ++ [.lst ((rng 1 n).map f)]) = some (.tup ((rng 1 n).map f), M ++ [.lst ((rng 1 n).map f)]) := tuple_lst get_new
    have ha : ∀ M, oAdd (.tup rows) (.tup ((rng 1 n).map f)) M = some (.tup (rows ++ (rng 1 n).map f), M) := fun M => by rw [add_tup, if_pos (by rw [hex]; omega)]
    generalize (rng 1 n).map f = extra at *
    simp only [b_law_block_spoilt_7]
    simp [hlc, ht, ha, len_tup, -add_tup]
    rw [if_pos (by omega)]
    rfl
  · obtain ⟨y, hy, rfl⟩ := List.mem_map.mp hx
    obtain ⟨j, hj⟩ := List.mem_iff_getElem?.mp hy
    obtain ⟨rfl, _⟩ := rng_get hj
    exact ⟨_, rfl⟩
end BK07
/-! K07E: a pair spoilt; way 5 taken. -/
namespace BK07
open BL
open BP (blkD kindS leafS branchS rowB pairB SoundP Look SeenB SeenP blkOf leafB pairsOf leastOf keyOf numOf ix0 ix1 Kn keyB posB shortD)
open PySem (Str)
open PyProof
variable {M : Mem}
theorem four_ix {a b c d : D} {z : Int} (hz : 0 ≤ z ∧ z < 4) : ∃ x, (x = a ∨ x = b ∨ x = c ∨ x = d) ∧ ∀ M, oIx (.ref M.length) (.int z) (M ++ [.lst [a, b, c, d]]) = some (x, M ++ [.lst [a, b, c, d]]) := by
  obtain ⟨n, rfl, hn⟩ : ∃ n : Nat, z = n ∧ n < 4 := ⟨z.toNat, by omega, by omega⟩
  have hi : ∀ x, [a, b, c, d][n]? = some x → ∀ M : Mem, oIx (.ref M.length) (.int n) (M ++ [.lst [a, b, c, d]]) = some (x, M ++ [.lst [a, b, c, d]]) := fun x hx M => ix_lst get_new (by rw [atI_nat]; exact hx)
  have : n = 0 ∨ n = 1 ∨ n = 2 ∨ n = 3 := by omega
  rcases this with rfl | rfl | rfl | rfl
  · exact ⟨a, .inl rfl, hi a rfl⟩
  · exact ⟨b, .inr (.inl rfl), hi b rfl⟩
  · exact ⟨c, .inr (.inr (.inl rfl)), hi c rfl⟩
  · exact ⟨d, .inr (.inr (.inr rfl)), hi d rfl⟩
theorem k_lf (leaf : Bool) : oEq (.str (kindS leaf)) (.str "leaf") M = some (.bl leaf, M) := by
  cases leaf <;> exact oEq_strs (by decide +kernel) (by decide +kernel) (by decide +kernel)
theorem p_pair_spoilt {leaf : Bool} {c k : Int} {v : D} (hc : 0 ≤ c) (hv : ∀ M, Kn M v ∧ shortD v) (hk : keyB (.int k) = true) :
    ∃ q M', g_law_pair_spoilt [.str (kindS leaf), .tup [.int k, v], .int c] M = some (.ok q M') ∧ Kp M M' ∧ pairB leaf q = false ∧ ∀ M, SeenP M q := by
  have i0 : ∀ M, oIx (.tup [.int k, v]) (.int 0) M = some (.int k, M) := fun M => ix0
  have i1 : ∀ M, oIx (.tup [.int k, v]) (.int 1) M = some (v, M) := fun M => ix1
  have hkr : -(10 ^ 60) < k ∧ k < 10 ^ 60 := by
    unfold keyB at hk
    rw [Bool.and_eq_true, decide_eq_true_eq, decide_eq_true_eq] at hk
    exact hk
  have hstr : ∀ M, oStr [.int k] M = some (.str (toString k), M) := fun M => by
    show (if k.natAbs.log2 < 1920 then some (D.str (toString k), M) else none) = _
    refine if_pos ?_
    by_cases h0 : k.natAbs = 0
    · rw [h0]
      decide
    · exact (Nat.log2_lt h0).mpr (by omega)
  generalize hsk : (toString k : String) = sk at hstr
  have hz : 0 ≤ c / 3 % 4 ∧ c / 3 % 4 < 4 := by omega
  have seen : ∀ {a b : D}, (∀ M, Kn M a) → (∀ M, Kn M b ∧ shortD b) → ∀ M, SeenP M (.tup [a, b]) := fun ha hb M => ⟨BP.kn_tup, fun a' b' e => by
    cases e
    exact ⟨ha M, (hb M).1, (hb M).2⟩⟩
  simp only [g_law_pair_spoilt, b_law_pair_spoilt, ev_def3]
  by_cases h3 : c % 3 = 0
  · obtain ⟨x, hx, hi⟩ := four_ix (a := .bl true) (b := .int (10 ^ 60)) (c := .str sk) (d := .non) hz
    have hp : oPow (.int 10) (.int 60) M = some (.int (10 ^ 60), M) := by rw [pow_int, if_pos (by decide)]; rfl
    refine ⟨.tup [x, v], M ++ [.lst [.bl true, .int (10 ^ 60), .str sk, .non]], ?_, Kp.app _ _, ?_, seen (fun M => ?_) hv⟩
    · generalize (D.int (10 ^ 60)) = big at *
      simp [b_law_pair_spoilt_0, h3, i0, i1, hp, hstr, hi, -pow_int]
    · show (keyB x && _) = false
      rcases hx with rfl | rfl | rfl | rfl <;> simp [keyB]
    · rcases hx with rfl | rfl | rfl | rfl
      · exact BP.kn_bl
      · exact BP.kn_int
      · exact BP.kn_str
      · exact BP.kn_non
  · have e0 : b_law_pair_spoilt_0 ([some (.str (kindS leaf)), some (.tup [.int k, v]), some (.int c)] ++ List.replicate (3 - 3) none) M = some (.nx [some (.str (kindS leaf)), some (.tup [.int k, v]), some (.int c)], M) := by
      simp [b_law_pair_spoilt_0, h3]
    rw [seq_step e0]
    cases leaf with
    | true =>
      obtain ⟨x, hx, hi⟩ := four_ix (a := .str (PySem.Txt.mul "v" 61)) (b := .str "a\tb") (c := .non) (d := .int 7) hz
      have hm : oMul (.str "v") (.int 61) M = some (.str (PySem.Txt.mul "v" 61), M) := by
        show (if (PySem.Str.ofString "v").length ≤ 1000 ∧ -(2 ^ 63) ≤ (61 : Int) ∧ (61 : Int) ≤ 1000 then some (D.str (PySem.Txt.mul (PySem.Str.ofString "v") 61), M) else none) = _
        exact if_pos (by decide +kernel)
      refine ⟨.tup [.int k, x], M ++ [.lst [.str (PySem.Txt.mul "v" 61), .str "a\tb", .non, .int 7]], ?_, Kp.app _ _, ?_, seen (fun M => BP.kn_int) (fun M => ?_)⟩
      · generalize (D.str (PySem.Txt.mul "v" 61)) = big at *
        have hk := k_lf (M := M) true
        generalize (D.str (kindS true)) = kd at *
        simp [b_law_pair_spoilt_1, hk, i0, i1, hm, hi]
      · show (keyB (.int k) && BP.valB x) = false
        rcases hx with rfl | rfl | rfl | rfl
        · rw [show BP.valB (.str (PySem.Txt.mul "v" 61)) = false by decide +kernel, Bool.and_false]
        · rw [show BP.valB (.str "a\tb") = false by decide +kernel, Bool.and_false]
        · simp [BP.valB]
        · simp [BP.valB]
      · rcases hx with rfl | rfl | rfl | rfl
        · exact ⟨BP.kn_str, by show Str.length _ < _; decide +kernel⟩
        · exact ⟨BP.kn_str, by show Str.length _ < _; decide +kernel⟩
        · exact ⟨BP.kn_non, trivial⟩
        · exact ⟨BP.kn_int, trivial⟩
    | false =>
      obtain ⟨x, hx, hi⟩ := four_ix (a := .bl true) (b := .int 0) (c := .int (-1)) (d := .str "1") hz
      refine ⟨.tup [.int k, x], M ++ [.lst [.bl true, .int 0, .int (-1), .str "1"]], ?_, Kp.app _ _, ?_, seen (fun M => BP.kn_int) (fun M => ?_)⟩
      · have hk := k_lf (M := M) false
        generalize (D.str (kindS false)) = kd at *
        simp [b_law_pair_spoilt_1, b_law_pair_spoilt_2, hk, i0, i1, hi]
      · show (keyB (.int k) && posB x) = false
        rcases hx with rfl | rfl | rfl | rfl <;> simp [posB]
      · rcases hx with rfl | rfl | rfl | rfl
        · exact ⟨BP.kn_bl, trivial⟩
        · exact ⟨BP.kn_int, trivial⟩
        · exact ⟨BP.kn_int, trivial⟩
        · exact ⟨BP.kn_str, by show Str.length _ < _; decide +kernel⟩
end BK07
/-! K07F: way 5 taken. -/
namespace BK07
open BL
open BP (blkD kindS leafS branchS rowB pairB SoundP Look SeenB SeenP blkOf leafB pairsOf leastOf keyOf numOf ix0 ix1 Kn keyB posB shortD)
open PySem (Str)
variable {M : Mem}
theorem bs_8y {d : D} {root leaf : Bool} {w more : Int} {rows : List D} (hr : rowB leaf rows = true) (hne : 0 < rows.length) (hl : rows.length ≤ 64) (hm : 0 ≤ more) :
    ∃ xs M', b_law_block_spoilt_8 (LB d root 5 w more (.str (kindS leaf)) rows) M = some (.rt (blkD leaf xs), M') ∧ Kp M M' ∧ xs.length ≤ 64 ∧ rowB leaf xs = false ∧ ∀ M, ∀ x ∈ xs, SeenP M x := by
  have hpos : (0 : Int) < rows.length := by omega
  obtain ⟨n, hn, hnl⟩ : ∃ n : Nat, more % (rows.length : Int) = n ∧ n < rows.length := by
    have h1 := Int.emod_nonneg more (show (rows.length : Int) ≠ 0 by omega)
    have h2 := Int.emod_lt_of_pos more hpos
    exact ⟨(more % (rows.length : Int)).toNat, by omega, by omega⟩
  have hgood := ((BP.rowB_pw _).mp hr).1 rows[n] (List.getElem_mem hnl)
  obtain ⟨k, v, hp, hk, hv⟩ := BP.pair_shape hgood
  obtain ⟨q, M1, e1, k1, hq, hs⟩ := p_pair_spoilt (M := M) (leaf := leaf) (c := more / 64) (k := k) (v := v) (by omega) (fun M => ⟨(BP.val_seen hv).1, (BP.val_seen (M := M) hv).2.1⟩) hk
  have hx : ∀ M, oIx (.tup rows) (.int n) M = some (.tup [.int k, v], M) := fun M => ix_tup (by rw [atI_nat, List.getElem?_eq_getElem hnl, hp])
  refine ⟨rows.take n ++ [q] ++ rows.drop (n + 1), M1, ?_, k1, ?_, ?_, fun M x hx => ?_⟩
  · have s1 : ∀ M, oSl (.tup rows) none (some (n : Int)) M = some (.tup (rows.take n), M) := fun M => by rw [sl_tup, cut_take]
    have s2 : ∀ M, oSl (.tup rows) (some ((n : Int) + 1)) none M = some (.tup (rows.drop (n + 1)), M) := fun M => by rw [sl_tup, show ((n : Int) + 1) = ((n + 1 : Nat) : Int) by omega, cut_drop]
    have a1 : ∀ M, oAdd (.tup (rows.take n)) (.tup [q]) M = some (.tup (rows.take n ++ [q]), M) := fun M => by rw [add_tup, if_pos (by simp; omega)]
    have a2 : ∀ M, oAdd (.tup (rows.take n ++ [q])) (.tup (rows.drop (n + 1))) M = some (.tup (rows.take n ++ [q] ++ rows.drop (n + 1)), M) := fun M => by rw [add_tup, if_pos (by simp; omega)]
    have o1 : ∀ {L : Loc} {M : Mem}, L[7]? = some (some (.int n)) → mSome (mVar 7) L M = some (.ok (some (n : Int)) M) := fun h => ev_some (by simp [h])
    have o2 : ∀ {L : Loc} {M : Mem}, L[7]? = some (some (.int n)) → mSome (mBin oAdd (mVar 7) (mC (.int 1))) L M = some (.ok (some ((n : Int) + 1)) M) := fun h => ev_some (by simp [h])
    generalize rows.take n ++ [q] ++ rows.drop (n + 1) = out at *
    generalize rows.take n ++ [q] = o3 at *
    generalize rows.take n = o4 at *
    generalize rows.drop (n + 1) = o5 at *
    have hpn : 0 < rows.length := hne
    simp [b_law_block_spoilt_8, len_tup, hn, hx, e1, s1, s2, a1, a2, o1, o2, hpn, -add_tup]
    rfl
  · simp
    omega
  · cases hb : rowB leaf (rows.take n ++ [q] ++ rows.drop (n + 1)) with
    | false => rfl
    | true =>
      have := ((BP.rowB_pw _).mp hb).1 q (by simp)
      rw [hq] at this
      cases this
  · have hseen := (BP.row_seen (M := M) hr).1
    rcases List.mem_append.mp hx with hx | hx
    · rcases List.mem_append.mp hx with hx | hx
      · exact hseen x (List.mem_of_mem_take hx)
      · have : x = q := by simpa using hx
        rw [this]
        exact hs M
    · exact hseen x (List.mem_of_mem_drop hx)
end BK07
/-! K07G: _law_block_spoilt. -/
namespace BK07
open BL
open BP (blkD kindS leafS branchS rowB pairB SoundP Look SeenB SeenP blkOf leafB pairsOf leastOf keyOf numOf firstKey ix0 ix1 Kn keyB posB shortD blockB Tl)
open PySem (Str)
variable {M : Mem}
structure Spoilt (M' : Mem) (B : List (Int × D)) (w n : Int) (X : D) : Prop where
  non : isNon X = false
  seen : ∀ M'', Kp M' M'' → SeenB M'' X
  size : ∀ a ds, X = .tup [a, .tup ds] → ds.length < 1000000
  not : ¬ ∃ vs', SoundP (aput B n X) w vs'
/-- a block that may be looked at, of some kind -/
theorem spoilt_blk {M' : Mem} {B : List (Int × D)} {w n : Int} {a : Str} {xs : List D} (ha : Pl 50 (.str a)) (hx : ∀ M, ∀ x ∈ xs, SeenP M x) (hl : xs.length < 1000000) (h : ¬ ∃ vs', SoundP (aput B n (.tup [.str a, .tup xs])) w vs') : Spoilt M' B w n (.tup [.str a, .tup xs]) :=
  ⟨rfl, fun M'' _ => BP.blk_seenB ha (hx M'') BP.kn_str, fun a' ds e => by
    injection e with e
    injection e with _ e
    injection e with e _
    injection e with e
    rw [← e]
    exact hl, h⟩
theorem put_not {B : List (Int × D)} {w n : Int} {X : D} (h : blockB X (leastOf w n) w = false ∨ (leafB X = false ∧ (pairsOf X).length < 2)) : ¬ ∃ vs', SoundP (aput B n X) w vs' :=
  BP.not_ok BP.key_put (by rw [BP.blk_put]; exact h)
theorem blockB_row {leaf : Bool} {xs : List D} {least most : Int} (h : rowB leaf xs = false ∨ (xs.length : Int) < least ∨ most < (xs.length : Int)) : blockB (blkD leaf xs) least most = false := by
  cases hb : blockB (blkD leaf xs) least most with
  | false => rfl
  | true =>
    obtain ⟨leaf2, ds, e, hl, hp, hr, h1, h2⟩ := BP.block_parts hb
    have e1 : ds = xs := by rw [← hp]; rfl
    have e2 : leaf2 = leaf := by rw [← hl, BP.leafB_blk]
    subst e1 e2
    rcases h with h | h | h
    · rw [hr] at h
      cases h
    · omega
    · omega
theorem rev_bad {leaf : Bool} {rows : List D} (h : rowB leaf rows = true) (hl : 2 ≤ rows.length) : rowB leaf rows.reverse = false := by
  cases hb : rowB leaf rows.reverse with
  | false => rfl
  | true =>
    have h1 := ((BP.rowB_pw _).mp h).2
    have h2 := ((BP.rowB_pw _).mp hb).2
    rw [List.pairwise_reverse] at h2
    match rows, hl with
    | a :: b :: r, _ =>
      have := (List.pairwise_cons.mp h1).1 b List.mem_cons_self
      have := (List.pairwise_cons.mp h2).1 b List.mem_cons_self
      omega
end BK07
/-! K07H: _law_block_spoilt, all ways. -/
namespace BK07
open BL
open BP (blkD kindS leafS branchS rowB pairB SoundP Look SeenB SeenP blkOf leafB pairsOf leastOf keyOf numOf firstKey ix0 ix1 Kn keyB posB shortD blockB Tl)
open PySem (Str)
variable {M : Mem}
theorem seq_rt {a b : GS} {L : Loc} {M1 : Mem} {d : D} (h : a L M = some (.rt d, M1)) : mSeq a b L M = some (.rt d, M1) := by
  unfold mSeq
  rw [h]
  rfl
theorem end_rt {d : D} {M1 : Mem} : endS (some (.rt d, M1)) = some (.ok d M1) := (rfl)
theorem has_of {B : List (Int × D)} {n : Int} {d : D} (e : aget B n = some d) : n ∈ akeys B := by rw [← aget_isSome, e]; rfl
theorem blk_of {B : List (Int × D)} {n : Int} {d : D} (e : aget B n = some d) : blkOf B n = d := by unfold blkOf; rw [e]; rfl
theorem first_blk {leaf : Bool} {k : Int} {v : D} {r : List D} : firstKey (blkD leaf (.tup [.int k, v] :: r)) = k := (rfl)
theorem split_last {xs : List D} (h : xs ≠ []) : ∃ ini l, xs = ini ++ [l] := ⟨xs.dropLast, xs.getLast h, (List.dropLast_concat_getLast h).symm⟩
theorem seen_kv {k : Int} {v : D} (h : ∀ M, Kn M v ∧ shortD v) : ∀ M, SeenP M (.tup [.int k, v]) := fun M => ⟨BP.kn_tup, fun a b e => by
  cases e
  exact ⟨BP.kn_int, (h M).1, (h M).2⟩⟩
theorem p_block_spoilt {B : List (Int × D)} {w n way more : Int} {d : D} {vs : List Tl} (hs : SoundP B w vs) (hd : aget B n = some d) (hn : 0 ≤ n) (hway : 0 ≤ way ∧ way ≤ 8) (hm : 0 ≤ more) (hw : 3 ≤ w ∧ w ≤ 64) :
    ∃ X M', g_law_block_spoilt [d, .bl (decide (n = 0)), .int way, .int w, .int more] M = some (.ok X M') ∧ Kp M M' ∧ (X = .non ∨ Spoilt M' B w n X) := by
  have hin := has_of hd
  have hblk := blk_of hd
  obtain ⟨leaf, rows, rfl, hr, h1, h2, h3⟩ := hs.blk hd
  have hpw := (BP.rowB_pw _).mp hr
  have hrow : ∀ M, ∀ x ∈ rows, SeenP M x := fun M => (BP.row_seen (M := M) hr).1
  have hl64 : rows.length ≤ 64 := by omega
  have hbl : leafB (blkOf B n) = leaf := by rw [hblk, BP.leafB_blk]
  have hbp : pairsOf (blkOf B n) = rows := by rw [hblk]; rfl
  have hleast : n ≠ 0 → (w + 1) / 2 ≤ rows.length := fun h => by
    unfold leastOf at h1
    rw [if_pos (by omega)] at h1
    exact h1
  simp only [g_law_block_spoilt, b_law_block_spoilt, ev_def5]
  rw [seq2 (bs_01 (d := blkD leaf rows) (kind := .str (kindS leaf)) (rows := rows) rfl)]
  generalize hroot : decide (n = 0) = root
  have spoil : ∀ (M' : Mem) (xs : List D), (∀ M, ∀ x ∈ xs, SeenP M x) → xs.length < 1000000 → (¬ ∃ vs', SoundP (aput B n (blkD leaf xs)) w vs') → Spoilt M' B w n (blkD leaf xs) := fun M' xs h1 h2 h3 => spoilt_blk (BP.kind_pl leaf) h1 h2 h3
  by_cases c0 : way = 0 ∧ 2 ≤ rows.length
  · obtain ⟨rfl, c⟩ := c0
    rw [seq_rt (bs_2y c), end_rt]
    refine ⟨_, _, rfl, Kp.refl _, .inr (spoil _ _ (fun M x hx => hrow M x (List.mem_reverse.mp hx)) (by rw [List.length_reverse]; omega) (put_not (.inl (blockB_row (.inl (rev_bad hr c))))))⟩
  rw [seq_step (bs_2n (by omega))]
  by_cases c1 : way = 1 ∧ root = true ∧ leaf = false
  · obtain ⟨rfl, rfl, rfl⟩ := c1
    rw [seq_rt bs_3y, end_rt]
    rw [show (1 : Int) = ((1 : Nat) : Int) from rfl, cut_take]
    refine ⟨_, _, rfl, Kp.refl _, .inr (spoil _ _ (fun M x hx => hrow M x (List.mem_of_mem_take hx)) (by rw [List.length_take]; omega) (put_not (.inr ⟨by rw [BP.leafB_blk], ?_⟩)))⟩
    show (rows.take 1).length < 2
    rw [List.length_take]
    omega
  rw [seq_step (bs_3n (by
    by_cases z : way = 1
    · by_cases z2 : root = false
      · exact .inr (.inl z2)
      · by_cases z3 : leaf = true
        · exact .inr (.inr z3)
        · exact absurd ⟨z, by simpa using z2, by simpa using z3⟩ c1
    · exact .inl z))]
  by_cases c2 : way = 1 ∧ root = false
  · obtain ⟨rfl, rfl⟩ := c2
    have h0 : n ≠ 0 := by simpa using hroot
    rw [seq_rt bs_4y, end_rt]
    obtain ⟨k, hk⟩ : ∃ k : Nat, (w + 1) / 2 - 1 = k := ⟨((w + 1) / 2 - 1).toNat, by omega⟩
    rw [hk, cut_take]
    refine ⟨_, _, rfl, Kp.refl _, .inr (spoil _ _ (fun M x hx => hrow M x (List.mem_of_mem_take hx)) (by rw [List.length_take]; omega) (put_not (.inl (blockB_row (.inr (.inl ?_))))))⟩
    unfold leastOf
    rw [if_pos (by omega), List.length_take]
    have := hleast h0
    omega
  rw [seq_step (bs_4n (by
    by_cases z : way = 1
    · exact .inr (by cases root with | true => rfl | false => exact absurd ⟨z, rfl⟩ c2)
    · exact .inl z))]
  by_cases c3 : way = 2 ∧ (root = false ∨ leaf = false)
  · obtain ⟨rfl, c⟩ := c3
    have hpos : 0 < rows.length := by
      rcases c with rfl | rfl
      · have := hleast (by simpa using hroot)
        omega
      · have := h3 rfl
        omega
    cases rows with
    | nil => cases hpos
    | cons p rest =>
      obtain ⟨k, v, rfl, hk, hv⟩ := BP.pair_shape (hpw.1 p List.mem_cons_self)
      rw [seq_rt (bs_5y c (by simp at hl64; omega)), end_rt]
      refine ⟨_, _, rfl, Kp.refl _, .inr (spoil _ _ (fun M x hx => ?_) (by simp at hl64 ⊢; omega) ?_)⟩
      · rcases List.mem_cons.mp hx with rfl | hx
        · exact seen_kv (fun M => ⟨(BP.val_seen (M := M) hv).1, (BP.val_seen (M := M) hv).2.1⟩) M
        · exact hrow M x (List.mem_cons_of_mem _ hx)
      · by_cases h0 : n = 0
        · have hlf : leaf = false := by
            rcases c with rfl | rfl
            · exact absurd h0 (by simpa using hroot)
            · rfl
          subst hlf
          refine BP.lead_off hs hin hbl (p := .tup [.int k, v]) (q := .tup [.int (k - 1), v]) (by rw [hbp]; exact List.mem_cons_self) (BP.leafB_blk ..) (show _ ∈ _ :: _ from List.mem_cons_self) ?_ ?_
          · cases v <;> rfl
          · show k - 1 ≠ k
            omega
        · refine BP.key_off hs hin h0 ?_
          rw [hblk, first_blk, first_blk]
          omega
  rw [seq_step (bs_5n (by
    by_cases z : way = 2
    · refine .inr ⟨?_, ?_⟩
      · cases root with | true => rfl | false => exact absurd ⟨z, .inl rfl⟩ c3
      · cases leaf with | true => rfl | false => exact absurd ⟨z, .inr rfl⟩ c3
    · exact .inl z))]
  by_cases c4 : way = 3 ∧ leaf = false
  · obtain ⟨rfl, rfl⟩ := c4
    have h2r := h3 rfl
    cases rows with
    | nil => exact absurd h2r (by simp)
    | cons p rest =>
      have hne : rest ≠ [] := by
        intro z
        rw [z] at h2r
        simp at h2r
      obtain ⟨mid, l, rfl⟩ := split_last hne
      obtain ⟨k0, v0, rfl, hk, hv⟩ := BP.pair_shape (hpw.1 p List.mem_cons_self)
      obtain ⟨kl, vl, rfl, hkl, hvl⟩ := BP.pair_shape (hpw.1 l (by simp))
      have hlt : k0 < kl := (List.pairwise_cons.mp hpw.2).1 (.tup [.int kl, vl]) (by simp)
      rw [← List.cons_append]
      rw [seq_rt (bs_6y (by simp at hl64; omega)), end_rt]
      refine ⟨_, _, rfl, Kp.refl _, .inr (spoil _ _ (fun M x hx => ?_) (by simp at hl64 ⊢; omega) ?_)⟩
      · rcases List.mem_append.mp hx with hx | hx
        · exact hrow M x (by rw [← List.cons_append]; exact List.mem_append_left _ hx)
        · have : x = .tup [.int kl, v0] := by simpa using hx
          rw [this]
          exact seen_kv (fun M => ⟨(BP.val_seen (M := M) hv).1, (BP.val_seen (M := M) hv).2.1⟩) M
      · refine BP.twice (p := .tup [.int k0, v0]) (q := .tup [.int kl, v0]) BP.key_put (by rw [BP.blk_put, BP.leafB_blk]) (by rw [BP.blk_put]; show _ ∈ _ ++ _; simp) (by rw [BP.blk_put]; show _ ∈ _ ++ _; simp) ?_ ?_
        · cases v0 <;> rfl
        · show k0 ≠ kl
          omega
  rw [seq_step (bs_6n (by
    by_cases z : way = 3
    · exact .inr (by cases leaf with | true => rfl | false => exact absurd ⟨z, rfl⟩ c4)
    · exact .inl z))]
  by_cases c5 : way = 4 ∧ rows ≠ []
  · obtain ⟨rfl, c⟩ := c5
    obtain ⟨ini, l, e⟩ := split_last c
    obtain ⟨kl, vl, rfl, hkl, hvl⟩ := BP.pair_shape (hpw.1 l (by rw [e]; simp))
    obtain ⟨extra, M', e1, k1, hlen, hex⟩ := bs_7y (M := M) (d := blkD leaf rows) (root := root) (leaf := leaf) (w := w) (more := more) e h2 hw.2
    rw [seq_rt e1, end_rt]
    refine ⟨_, _, rfl, k1, .inr (spoil _ _ (fun M x hx => ?_) (by rw [List.length_append]; omega) (put_not (.inl (blockB_row (.inr (.inr (by rw [List.length_append]; omega)))))))⟩
    rcases List.mem_append.mp hx with hx | hx
    · exact hrow M x hx
    · obtain ⟨k, rfl⟩ := hex x hx
      exact seen_kv (fun M => ⟨(BP.val_seen (M := M) hvl).1, (BP.val_seen (M := M) hvl).2.1⟩) M
  rw [seq_step (bs_7n (by
    by_cases z : way = 4
    · by_cases z2 : rows = []
      · exact .inr z2
      · exact absurd ⟨z, z2⟩ c5
    · exact .inl z))]
  by_cases c6 : way = 5 ∧ rows ≠ []
  · obtain ⟨rfl, c⟩ := c6
    obtain ⟨xs, M', e1, k1, hlen, hbad, hx⟩ := bs_8y (M := M) (d := blkD leaf rows) (root := root) (w := w) hr (List.length_pos_iff.mpr c) hl64 hm
    rw [seq_rt e1, end_rt]
    exact ⟨_, _, rfl, k1, .inr (spoil _ _ hx (by omega) (put_not (.inl (blockB_row (.inl hbad)))))⟩
  rw [seq_step (bs_8n (by
    by_cases z : way = 5
    · by_cases z2 : rows = []
      · exact .inr z2
      · exact absurd ⟨z, z2⟩ c6
    · exact .inl z))]
  obtain ⟨X, M', e1, k1, w5, w6, w7, w8⟩ := bs_9 (M := M) (d := blkD leaf rows) (root := root) (leaf := leaf) (w := w) (more := more) (rows := rows) hway
  rw [e1, end_rt]
  refine ⟨_, _, rfl, k1, ?_⟩
  by_cases h5 : way ≤ 5
  · exact .inl (w5 h5)
  · refine .inr ?_
    have : way = 6 ∨ way = 7 ∨ way = 8 := by omega
    rcases this with z | z | z
    · obtain ⟨q, rfl, hq⟩ := w6 z
      refine ⟨rfl, fun M'' hk => ⟨BP.kn_tup, fun a b e => ?_⟩, fun a ds e => ?_, put_not (.inl rfl)⟩
      · injection e with e
        injection e with ea e
        injection e with eb _
        rw [← ea, ← eb]
        exact ⟨BP.kn_lst (hk.get hq), fun s hs => BP.ne_pl (BP.kind_pl leaf) s hs, fun ds e => by cases e⟩
      · injection e with e
        injection e with _ e
        injection e with e _
        cases e
    · obtain ⟨s, rfl, hs1, hs2, hp⟩ := w7 z
      refine spoilt_blk hp hrow (by omega) (put_not (.inl ?_))
      show ((decide (s = leafS) || decide (s = branchS)) && _) = false
      rw [decide_eq_false hs1, decide_eq_false hs2]
      rfl
    · rw [w8 z]
      refine ⟨rfl, fun M'' hk => ⟨BP.kn_int, fun a b e => by cases e⟩, fun a ds e => (by cases e), put_not (.inl rfl)⟩
end BK07
/-! K07I: _law_ringed, _law_deeper. -/
namespace BK07
open BL
open BP (blkD kindS leafS branchS rowB pairB SoundP Look SeenB SeenP blkOf leafB pairsOf leastOf keyOf numOf firstKey ix0 ix1 Kn keyB posB shortD blockB Tl)
open PySem (Str)
variable {M : Mem}
theorem fold_max : ∀ (r : List Int) (n : Int), n ≤ r.foldl (fun a b => if b > a then b else a) n ∧ ∀ y ∈ r, y ≤ r.foldl (fun a b => if b > a then b else a) n
  | [], n => ⟨Int.le_refl _, fun y hy => by cases hy⟩
  | x :: r, n => by
    obtain ⟨h1, h2⟩ := fold_max r (if x > n then x else n)
    have hx : x ≤ (if x > n then x else n) ∧ n ≤ (if x > n then x else n) := by split <;> omega
    refine ⟨Int.le_trans hx.2 h1, fun y hy => ?_⟩
    rcases List.mem_cons.mp hy with rfl | hy
    · exact Int.le_trans hx.1 h1
    · exact h2 y hy
theorem max1_lst {q : Nat} {ns : List Int} (h : M[q]? = some (.lst (ns.map .int))) (hne : ns ≠ []) : ∃ m, oMax1 [.ref q] M = some (.int m, M) ∧ ∀ y ∈ ns, y ≤ m := by
  cases ns with
  | nil => exact absurd rfl hne
  | cons n r =>
    refine ⟨r.foldl (fun a b => if b > a then b else a) n, ?_, fun y hy => ?_⟩
    · unfold oMax1
      dsimp only
      rw [h]
      dsimp only
      rw [BP.intsOf_map]
      rfl
    · rcases List.mem_cons.mp hy with rfl | hy
      · exact (fold_max r y).1
      · exact (fold_max r n).2 y hy
theorem sorted_lst {q : Nat} {ns : List Int} (h : M[q]? = some (.lst (ns.map .int))) : oSorted [.ref q] M = some (.ref M.length, M ++ [.lst ((ns.mergeSort (fun a b => decide (a ≤ b))).map .int)]) := by
  unfold oSorted
  dsimp only
  rw [h]
  dsimp only
  rw [BP.intsOf_map]
/-! ring -/
abbrev r0 (top more : Int) : D := .tup [.str "branch", .tup [.tup [.int (top + 1), .int (more + 1)], .tup [.int (top + 10), .int (more + 2)]]]
abbrev r1 (top more : Int) : D := .tup [.str "branch", .tup [.tup [.int (top + 1), .int more], .tup [.int (top + 20), .int (more + 3)]]]
abbrev r2 (top : Int) (i j : Int) : D := .tup [.str "leaf", .tup [.tup [.int (top + i), .str "v"], .tup [.int (top + j), .str "v"]]]
abbrev ringB (B : List (Int × D)) (top more : Int) : List (Int × D) := aput (aput (aput (aput B more (r0 top more)) (more + 1) (r1 top more)) (more + 2) (r2 top 10 11)) (more + 3) (r2 top 20 21)
theorem p_ringed {f : Nat} {B : List (Int × D)} {top more : Int} (hf : M[f]? = some (.dct B)) (hl : B.length ≤ 3000) : g_law_ringed [.ref f, .int top, .int more] M = some (.ok (.ref f) (M.set f (.dct (ringB B top more)))) := by
  unfold ringB
  have p0 : ∀ (k : Int) (d : D), oPutA (.ref f) (.int k) d M = some (M.set f (.dct (aput B k d))) := fun k d => put_dct hf (by omega)
  have p : ∀ (C : List (Int × D)) (k : Int) (d : D), C.length ≤ 10000 → oPutA (.ref f) (.int k) d (M.set f (.dct C)) = some (M.set f (.dct (aput C k d))) := fun C k d hC => by
    rw [put_dct (get_set_eq hf) (by omega), List.set_set]
  let L : Loc := [some (.ref f), some (.int top), some (.int more)]
  have e0 : b_law_ringed_0 L M = some (.nx L, M.set f (.dct (aput B more (r0 top more)))) := by
    simp [b_law_ringed_0, L, p0]
  have l1 := len_aput (kvs := B) (k := more) (d := r0 top more)
  have e1 : b_law_ringed_1 L (M.set f (.dct (aput B more (r0 top more)))) = some (.nx L, M.set f (.dct (aput (aput B more (r0 top more)) (more + 1) (r1 top more)))) := by
    have := p (aput B more (r0 top more)) (more + 1) (r1 top more) (by omega)
    simp [b_law_ringed_1, L, this]
  generalize aput B more (r0 top more) = B1 at *
  have l2 := len_aput (kvs := B1) (k := more + 1) (d := r1 top more)
  have e2 : b_law_ringed_2 L (M.set f (.dct (aput B1 (more + 1) (r1 top more)))) = some (.nx L, M.set f (.dct (aput (aput B1 (more + 1) (r1 top more)) (more + 2) (r2 top 10 11)))) := by
    have := p (aput B1 (more + 1) (r1 top more)) (more + 2) (r2 top 10 11) (by omega)
    simp [b_law_ringed_2, L, this]
  have l3 := len_aput (kvs := aput B1 (more + 1) (r1 top more)) (k := more + 2) (d := r2 top 10 11)
  have e3 : b_law_ringed_3 L (M.set f (.dct (aput (aput B1 (more + 1) (r1 top more)) (more + 2) (r2 top 10 11)))) = some (.nx L, M.set f (.dct (aput (aput (aput B1 (more + 1) (r1 top more)) (more + 2) (r2 top 10 11)) (more + 3) (r2 top 20 21)))) := by
    have := p (aput (aput B1 (more + 1) (r1 top more)) (more + 2) (r2 top 10 11)) (more + 3) (r2 top 20 21) (by omega)
    simp [b_law_ringed_3, L, this]
  simp only [g_law_ringed, b_law_ringed, ev_def3]
  show endS (mSeq b_law_ringed_0 _ L M) = _
  rw [seq_step e0, seq_step e1, seq_step e2, seq_step e3]
  simp [b_law_ringed_4, L]

theorem seen_r2 {top i j : Int} {M : Mem} : SeenB M (r2 top i j) := BP.blk_seenB (BP.kind_pl true) (fun x hx => by
  have hv : ∀ M, Kn M (.str "v") ∧ shortD (.str "v") := fun M => ⟨BP.kn_str, by show Str.length _ < _; decide +kernel⟩
  rcases List.mem_cons.mp hx with rfl | hx
  · exact seen_kv hv M
  · have : x = _ := List.mem_singleton.mp hx
    rw [this]
    exact seen_kv hv M) BP.kn_str
theorem seen_ints {a b c d : Int} {M : Mem} : SeenB M (.tup [.str "branch", .tup [.tup [.int a, .int b], .tup [.int c, .int d]]]) := BP.blk_seenB (BP.kind_pl false) (fun x hx => by
  have hv : ∀ (i : Int) M, Kn M (.int i) ∧ shortD (.int i) := fun i M => ⟨BP.kn_int, trivial⟩
  rcases List.mem_cons.mp hx with rfl | hx
  · exact seen_kv (hv b) M
  · have : x = _ := List.mem_singleton.mp hx
    rw [this]
    exact seen_kv (hv d) M) BP.kn_str
theorem small_blk {a : D} {xs : List D} (h : xs.length < 1000000) : ∀ a' ds, (D.tup [a, .tup xs]) = .tup [a', .tup ds] → ds.length < 1000000 := fun a' ds e => by
  injection e with e
  injection e with _ e
  injection e with e _
  injection e with e
  rw [← e]
  exact h
theorem ring_not {B : List (Int × D)} {w top more : Int} {vs : List Tl} (hs : SoundP B w vs) (h0 : 0 < more) (hm : ∀ j ∈ akeys B, j < more) : ¬ ∃ vs', SoundP (ringB B top more) w vs' := by
  have out : ∀ j, more ≤ j → j ∉ akeys B := fun j hj z => by
    have := hm j z
    omega
  have has : ∀ j, (aget (ringB B top more) j) = if j = more + 3 then some (r2 top 20 21) else if j = more + 2 then some (r2 top 10 11) else if j = more + 1 then some (r1 top more) else if j = more then some (r0 top more) else aget B j := fun j => by
    unfold ringB
    rw [aget_aput, aget_aput, aget_aput, aget_aput]
  refine BP.ringed hs (m := more) (k := more + 1) ?_ ?_ (by omega) (by omega) (out _ (by omega)) (out _ (by omega)) (fun n hn h1 h2 => ?_)
  · rw [← aget_isSome, has, if_neg (by omega), if_neg (by omega), if_neg (by omega), if_pos rfl]
    rfl
  · rw [← aget_isSome, has, if_neg (by omega), if_neg (by omega), if_pos rfl]
    rfl
  · by_cases c3 : n = more + 3
    · refine .inr ?_
      unfold blkOf
      rw [has, if_pos c3]
      exact (show decide (leafS = leafS) = true from decide_eq_true rfl)
    · by_cases c2 : n = more + 2
      · refine .inr ?_
        unfold blkOf
        rw [has, if_neg c3, if_pos c2]
        exact (show decide (leafS = leafS) = true from decide_eq_true rfl)
      · refine .inl ?_
        rw [← aget_isSome, has, if_neg c3, if_neg c2, if_neg h2, if_neg h1] at hn
        exact ⟨by rw [has, if_neg c3, if_neg c2, if_neg h2, if_neg h1], by rw [← aget_isSome]; exact hn⟩
theorem ring_look {B : List (Int × D)} {top more : Int} {M : Mem} (h : Look M B) : Look M (ringB B top more) :=
  (((h.put seen_ints (small_blk (by simp))).put seen_ints (small_blk (by simp))).put seen_r2 (small_blk (by simp))).put seen_r2 (small_blk (by simp))
theorem ring_len {B : List (Int × D)} {top more : Int} : (ringB B top more).length ≤ B.length + 4 := by
  have l1 := len_aput (kvs := B) (k := more) (d := r0 top more)
  have l2 := len_aput (kvs := aput B more (r0 top more)) (k := more + 1) (d := r1 top more)
  have l3 := len_aput (kvs := aput (aput B more (r0 top more)) (more + 1) (r1 top more)) (k := more + 2) (d := r2 top 10 11)
  have l4 := len_aput (kvs := aput (aput (aput B more (r0 top more)) (more + 1) (r1 top more)) (more + 2) (r2 top 10 11)) (k := more + 3) (d := r2 top 20 21)
  unfold ringB
  omega
end BK07
/-! K07J: _law_deeper. -/
namespace BK07
open BL
open BP (blkD kindS leafS branchS rowB pairB SoundP Look SeenB SeenP blkOf leafB pairsOf leastOf keyOf numOf firstKey ix0 ix1 Kn keyB posB shortD blockB Tl)
open PySem (Str)
variable {M : Mem}
abbrev LD (f : Nat) (n first more w h : Int) (ab : Nat) (x7 x8 x9 : Option D) : Loc := [some (.ref f), some (.int n), some (.int first), some (.int more), some (.int w), some (.int h), some (.ref ab), x7, x8, x9]
def abv (first more h : Int) (k : Nat) : List D := (List.range k).map fun (j : Nat) => D.tup [.int (first + j * h), .int (more + j)]
structure DpI (M0 M : Mem) (f ab : Nat) (B Bk : List (Int × D)) (first more h : Int) (k : Nat) : Prop where
  kp : Kp M0 M
  f : M[f]? = some (.dct Bk)
  ab : M[ab]? = some (.lst (abv first more h k))
  old : ∀ j ∈ akeys B, aget Bk j = aget B j
  new : ∀ i : Nat, i < k → leafB (blkOf Bk (more + i)) = true
  look : ∀ M'', Look M'' Bk
  len : Bk.length ≤ B.length + k
noncomputable def dpB : GS := mSeq (mSet 8 (mBin oAdd (mVar 2) (mBin oMul (mVar 7) (mVar 5)))) (mSeq (mPut oPutA (mVar 0) (mBin oAdd (mVar 3) (mVar 7)) (mTup (mCons (mC (.str "leaf")) (mCons (mCB oTuple (mCons (mLc (mRange1 (mVar 5)) (mName 9) mYes (mTup (mCons (mBin oAdd (mVar 8) (mVar 9)) (mCons (mC (.str "v")) mNil))) [9]) mNil)) mNil)))) (mExpr (mMtL oAppend (mVar 6) (mCons (mTup (mCons (mVar 8) (mCons (mBin oAdd (mVar 3) (mVar 7)) mNil))) mNil))))
theorem dp_step {M0 : Mem} {f ab : Nat} {B Bk : List (Int × D)} {n first more w h : Int} {k : Nat} {x8 x9 : Option D} (s : DpI M0 M f ab B Bk first more h k) (hf0 : M0.length ≤ f) (ha0 : M0.length ≤ ab) (hne : f ≠ ab) (hk : k < 3) (hh : 0 ≤ h ∧ h ≤ 64) (hmore : ∀ j ∈ akeys B, j < more) (hl : B.length ≤ 3000) (hsm : small first) :
    ∃ M' Bk', dpB (LD f n first more w h ab (some (.int k)) x8 x9) M = some (.nx (LD f n first more w h ab (some (.int k)) (some (.int (first + k * h))) x9), M') ∧ DpI M0 M' f ab B Bk' first more h (k + 1) := by
  obtain ⟨m, rfl, hm⟩ : ∃ m : Nat, h = m ∧ m ≤ 64 := ⟨h.toNat, by omega, by omega⟩
  let at_ : Int := first + k * m
  have hat : first + (k : Int) * m = at_ := rfl
  let g : D → D := fun d => match d with | .int i => .tup [.int (at_ + i), .str "v"] | _ => .non
  let items : List D := (rng 0 m).map g
  have hmul : ∀ M, oMul (.int k) (.int m) M = some (.int ((k : Int) * m), M) := fun M => mul_int (fits_small ⟨by omega, by omega⟩ ⟨by omega, by omega⟩)
  let L8 : Loc := LD f n first more w m ab (some (.int k)) (some (.int at_)) x9
  have s1 : mSet 8 (mBin oAdd (mVar 2) (mBin oMul (mVar 7) (mVar 5))) (LD f n first more w m ab (some (.int k)) x8 x9) M = some (.nx L8, M) := by
    simp [hmul, hat, L8]
  have hi : mRange1 (mVar 5) L8 M = some (.ok ⟨rng 0 m, none⟩ M) := by
    have := range1_int (e := mVar 5) (L := L8) (M := M) (M1 := M) (j := m) (by simp [L8]) (by constructor <;> omega)
    rw [this]
    rfl
  have hc := lcG_map (ok := Src.ok ⟨rng 0 m, none⟩) (g := mName 9) (tt := mYes) (e := mTup (mCons (mBin oAdd (mVar 8) (mVar 9)) (mCons (mC (.str "v")) mNil))) (L := wipeL L8 [9]) (M := M) (fun _ => true) g trivial (rng 0 m) (fun d hd => by
    obtain ⟨j, hj⟩ := List.mem_iff_getElem?.mp hd
    obtain ⟨rfl, hk⟩ := rng_get hj
    refine ⟨_, rfl, rfl, fun _ => ?_⟩
    simp [wipeL, L8, g])
  rw [List.filter_eq_self.mpr (fun _ _ => rfl)] at hc
  have hil : items.length = m := by simp [items]
  have hlc := lc_at hi hc (by show items.length < _; omega)
  have hitems : (rng 0 m).map g = items := rfl
  rw [hitems] at hlc
  have hlt : f < M.length := get_lt s.f
  have ht : oTuple [.ref M.length] (M ++ [.lst items]) = some (.tup items, M ++ [.lst items]) := tuple_lst get_new
  have hput : oPutA (.ref f) (.int (more + k)) (blkD true items) (M ++ [.lst items]) = some ((M ++ [Ob.lst items]).set f (.dct (aput Bk (more + k) (blkD true items)))) := put_dct (get_app s.f) (by have := s.len; omega)
  let M2 : Mem := (M ++ [Ob.lst items]).set f (.dct (aput Bk (more + k) (blkD true items)))
  have s2 : mPut oPutA (mVar 0) (mBin oAdd (mVar 3) (mVar 7)) (mTup (mCons (mC (.str "leaf")) (mCons (mCB oTuple (mCons (mLc (mRange1 (mVar 5)) (mName 9) mYes (mTup (mCons (mBin oAdd (mVar 8) (mVar 9)) (mCons (mC (.str "v")) mNil))) [9]) mNil)) mNil))) L8 M = some (.nx L8, M2) := by
    have e : blkD true items = .tup [.str "leaf", .tup items] := rfl
    rw [e] at hput
    simp [hlc, ht, hput, L8, M2, e]
  have ha2 : M2[ab]? = some (.lst (abv first more m k)) := by
    show ((M ++ [Ob.lst items]).set f _)[ab]? = _
    rw [get_set_ne hne]
    exact get_app s.ab
  have happ : oAppend (.ref ab) [.tup [.int at_, .int (more + k)]] M2 = some (.non, M2.set ab (.lst (abv first more m k ++ [.tup [.int at_, .int (more + k)]]))) := append_lst ha2 (by simp [abv]; omega)
  have s3 : mExpr (mMtL oAppend (mVar 6) (mCons (mTup (mCons (mVar 8) (mCons (mBin oAdd (mVar 3) (mVar 7)) mNil))) mNil)) L8 M2 = some (.nx L8, M2.set ab (.lst (abv first more m k ++ [.tup [.int at_, .int (more + k)]]))) := by
    simp [L8, happ, ha2]
  have hab : abv first more m k ++ [.tup [.int at_, .int (more + k)]] = abv first more m (k + 1) := by
    simp [abv, List.range_succ, at_]
  rw [hab] at s3
  refine ⟨M2.set ab (.lst (abv first more m (k + 1))), aput Bk (more + k) (blkD true items), ?_, ?_⟩
  · unfold dpB
    rw [seq_step s1, seq_step s2]
    exact s3
  · have hf2 : M2[f]? = some (.dct (aput Bk (more + k) (blkD true items))) := get_set_eq (get_app s.f)
    refine ⟨((s.kp.more _).set hf0 _).set ha0 _, ?_, get_set_eq ha2, fun j hj => ?_, fun i hi => ?_, fun M'' => (s.look M'').put ?_ (small_blk (by omega)), ?_⟩
    · rw [get_set_ne (by omega)]
      exact hf2
    · have := hmore j hj
      rw [aget_aput, if_neg (by omega)]
      exact s.old j hj
    · by_cases c : i = k
      · rw [c, BP.blk_put, BP.leafB_blk]
      · have : blkOf (aput Bk (more + k) (blkD true items)) (more + i) = blkOf Bk (more + i) := by
          unfold blkOf
          rw [aget_aput, if_neg (by omega)]
        rw [this]
        exact s.new i (by omega)
    · refine BP.blk_seenB (BP.kind_pl true) (fun x hx => ?_) BP.kn_str
      obtain ⟨y, hy, rfl⟩ := List.mem_map.mp hx
      obtain ⟨j, hj⟩ := List.mem_iff_getElem?.mp hy
      obtain ⟨rfl, _⟩ := rng_get hj
      exact seen_kv (fun M => ⟨BP.kn_str, by show Str.length _ < _; decide +kernel⟩) _
    · have := len_aput (kvs := Bk) (k := more + k) (d := blkD true items)
      have := s.len
      omega
theorem dp_eq : b_law_deeper_2 = mFor (mRange1 (mCB oMin2 (mCons (mC (.int 3)) (mCons (mVar 5) mNil)))) (mName 7) dpB := rfl
theorem p_deeper {M0 : Mem} {f : Nat} {B : List (Int × D)} {n first more w : Int} (hf : M[f]? = some (.dct B)) (hl : B.length ≤ 3000) (hw : 3 ≤ w ∧ w ≤ 64) (hmore : ∀ j ∈ akeys B, j < more) (hn : n ∈ akeys B) (h0 : Kp M0 M) (hf0 : M0.length ≤ f) (hlook : ∀ M'', Look M'' B) (hsm : small first) :
    ∃ M' B', g_law_deeper [.ref f, .int n, .int first, .int more, .int w] M = some (.ok (.ref f) M') ∧ Kp M0 M' ∧ M'[f]? = some (.dct B') ∧ (∀ M'', Look M'' B') ∧ B'.length ≤ B.length + 4 ∧ (∀ j, j ≠ n → j ∈ akeys B → aget B' j = aget B j) ∧ leafB (blkOf B' n) = false ∧ ∃ p, p ∈ pairsOf (blkOf B' n) ∧ leafB (blkOf B' (numOf p)) = true := by
  obtain ⟨h, hh⟩ : ∃ h, (w + 1) / 2 = h := ⟨_, rfl⟩
  have hh2 : 2 ≤ h ∧ h ≤ 64 := by omega
  have hlt : f < M.length := get_lt hf
  have e0 : b_law_deeper_0 ([some (.ref f), some (.int n), some (.int first), some (.int more), some (.int w)] ++ List.replicate (10 - 5) none) M = some (.nx [some (.ref f), some (.int n), some (.int first), some (.int more), some (.int w), some (.int h), none, none, none, none], M) := by
    simp [b_law_deeper_0, hh]
  have e1 : b_law_deeper_1 [some (.ref f), some (.int n), some (.int first), some (.int more), some (.int w), some (.int h), none, none, none, none] M = some (.nx (LD f n first more w h M.length none none none), M ++ [.lst []]) := by
    simp [b_law_deeper_1]
  obtain ⟨K, hK, hK2, hK3⟩ : ∃ K : Nat, (if h < 3 then h else 3) = (K : Int) ∧ 2 ≤ K ∧ K ≤ 3 := by
    by_cases c : h < 3
    · exact ⟨2, by rw [if_pos c]; omega, by omega, by omega⟩
    · exact ⟨3, by rw [if_neg c]; rfl, by omega, by omega⟩
  have hi : mRange1 (mCB oMin2 (mCons (mC (.int 3)) (mCons (mVar 5) mNil))) (LD f n first more w h M.length none none none) (M ++ [.lst []]) = some (.ok ⟨rng 0 K, none⟩ (M ++ [.lst []])) := by
    have := range1_int (e := mCB oMin2 (mCons (mC (.int 3)) (mCons (mVar 5) mNil))) (L := LD f n first more w h M.length none none none) (M := M ++ [.lst []]) (M1 := M ++ [.lst []]) (j := K) (by simp [hK]) (by constructor <;> omega)
    rw [this]
    rfl
  have hlen0 : M0.length ≤ M.length := h0.len
  have i0 : DpI M0 (M ++ [.lst []]) f M.length B B first more h 0 := ⟨h0.more _, get_app hf, (show _ = some (Ob.lst []) from get_new), fun _ _ => rfl, fun i hi => absurd hi (by omega), hlook, by omega⟩
  obtain ⟨L', M', e2, x7, x8, Bk, rfl, s⟩ := forG_run (ok := Src.ok ⟨rng 0 K, none⟩) (g := mName 7) (body := dpB) (fun k L M' => ∃ x7 x8 Bk, L = LD f n first more w h M.length x7 x8 none ∧ DpI M0 M' f M.length B Bk first more h k) (rng 0 K) (fun k L M' d hd ⟨x7, x8, Bk, hL, s⟩ => by
    subst hL
    obtain ⟨rfl, hk⟩ := rng_get hd
    obtain ⟨M2, Bk', e, s'⟩ := dp_step (n := n) (w := w) (x8 := x8) (x9 := none) s hf0 hlen0 (by omega) (by omega) (by omega) hmore hl hsm
    refine ⟨trivial, _, rfl, LD f n first more w h M.length (some (.int k)) (some (.int (first + k * h))) none, M2, ?_, _, _, _, rfl, s'⟩
    rw [Int.zero_add]
    exact e) (fun _ _ _ => trivial) (L := LD f n first more w h M.length none none none) (M := M ++ [.lst []]) ⟨none, none, B, rfl, i0⟩
  rw [rng_length] at s
  have e2' : b_law_deeper_2 (LD f n first more w h M.length none none none) (M ++ [.lst []]) = some (.nx (LD f n first more w h M.length x7 x8 none), M') := by
    rw [dp_eq, for_at hi]
    exact e2
  have ht : oTuple [.ref M.length] M' = some (.tup (abv first more h K), M') := tuple_lst s.ab
  have hput : oPutA (.ref f) (.int n) (blkD false (abv first more h K)) M' = some (M'.set f (.dct (aput Bk n (blkD false (abv first more h K))))) := put_dct s.f (by have := s.len; omega)
  have e3 : b_law_deeper_3 (LD f n first more w h M.length x7 x8 none) M' = some (.nx (LD f n first more w h M.length x7 x8 none), M'.set f (.dct (aput Bk n (blkD false (abv first more h K))))) := by
    have e : blkD false (abv first more h K) = .tup [.str "branch", .tup (abv first more h K)] := rfl
    rw [e] at hput ⊢
    simp [b_law_deeper_3, ht, hput]
  have hal : (abv first more h K).length = K := by simp [abv]
  refine ⟨_, aput Bk n (blkD false (abv first more h K)), ?_, s.kp.set hf0 _, get_set_eq s.f, fun M'' => (s.look M'').put ?_ (small_blk (by omega)), ?_, fun j hj hjB => ?_, ?_, .tup [.int (first + ((0 : Nat) : Int) * h), .int (more + ((0 : Nat) : Int))], ?_, ?_⟩
  · simp only [g_law_deeper, b_law_deeper, ev_def5]
    rw [seq_step e0, seq_step e1, seq_step e2', seq_step e3]
    simp [b_law_deeper_4]
  · refine BP.blk_seenB (BP.kind_pl false) (fun x hx => ?_) BP.kn_str
    obtain ⟨y, hy, rfl⟩ := List.mem_map.mp hx
    exact seen_kv (fun M => ⟨BP.kn_int, trivial⟩) _
  · have := len_aput (kvs := Bk) (k := n) (d := blkD false (abv first more h K))
    have := s.len
    omega
  · rw [aget_aput, if_neg hj]
    exact s.old j hjB
  · rw [BP.blk_put, BP.leafB_blk]
  · rw [BP.blk_put]
    exact List.mem_map.mpr ⟨0, List.mem_range.mpr (by omega), rfl⟩
  · have hnm := hmore n hn
    show leafB (blkOf _ (more + ((0 : Nat) : Int))) = true
    have : blkOf (aput Bk n (blkD false (abv first more h K))) (more + ((0 : Nat) : Int)) = blkOf Bk (more + ((0 : Nat) : Int)) := by
      unfold blkOf
      rw [aget_aput, if_neg (by omega)]
    rw [this]
    exact s.new 0 (by omega)
end BK07
/-! K07K: _law_tree_spoilt. -/
namespace BK07
open BL
open BP (blkD kindS leafS branchS rowB pairB SoundP Look SeenB SeenP blkOf leafB pairsOf leastOf keyOf numOf firstKey ix0 ix1 Kn keyB posB shortD blockB Tl keysW rowsW rowsT)
open PySem (Str)
variable {M : Mem}
theorem ev_def6 {n : Nat} {p : GS} {x y z w v u : D} : mDef 6 n p [x, y, z, w, v, u] M = endS (p ([some x, some y, some z, some w, some v, some u] ++ List.replicate (n - 6) none) M) := if_pos rfl
/-- nothing, or a dict that is no sound tree -/
def Bad (M' : Mem) (w : Int) (X : D) : Prop := X = .non ∨ ∃ f B', X = .ref f ∧ M'[f]? = some (.dct B') ∧ (∀ M'', Kp M' M'' → Look M'' B') ∧ B'.length ≤ 4000 ∧ ¬ ∃ vs', SoundP B' w vs'
abbrev LT (b : Nat) (n way top w cell : Int) (f : Nat) (leaf : Bool) (rows : List D) (more : Int) (x : Option D) : Loc := [some (.ref b), some (.int n), some (.int way), some (.int top), some (.int w), some (.int cell), some (.ref f), some (.str (kindS leaf)), some (.tup rows), some (.int more), x]
theorem ts_03 {b : Nat} {B : List (Int × D)} {n way top w cell : Int} {leaf : Bool} {rows : List D} (hb : M[b]? = some (.dct B)) (hd : aget B n = some (blkD leaf rows)) :
    ∃ more, (∀ j ∈ akeys B, j < more) ∧ mSeq b_law_tree_spoilt_0 (mSeq b_law_tree_spoilt_1 (mSeq b_law_tree_spoilt_2 b_law_tree_spoilt_3)) ([some (.ref b), some (.int n), some (.int way), some (.int top), some (.int w), some (.int cell)] ++ List.replicate (11 - 6) none) M = some (.nx (LT b n way top w cell M.length leaf rows more none), M ++ [.dct B] ++ [.lst ((akeys B).map .int)]) := by
  have h0 : oDict [.ref b] M = some (.ref M.length, M ++ [.dct B]) := dict_dct hb
  have hb1 : (M ++ [Ob.dct B])[b]? = some (.dct B) := get_app hb
  have h1 : oIx (.ref b) (.int n) (M ++ [.dct B]) = some (blkD leaf rows, M ++ [.dct B]) := ix_dct hb1 hd
  have i0 : ∀ M, oIx (blkD leaf rows) (.int 0) M = some (.str (kindS leaf), M) := fun M => ix0
  have i1 : ∀ M, oIx (blkD leaf rows) (.int 1) M = some (.tup rows, M) := fun M => ix1
  have h2 : oList [.ref b] (M ++ [.dct B]) = some (.ref (M ++ [Ob.dct B]).length, M ++ [.dct B] ++ [.lst ((akeys B).map .int)]) := list_dct hb1
  obtain ⟨m, h3, hm⟩ := max1_lst (M := M ++ [.dct B] ++ [.lst ((akeys B).map .int)]) (q := (M ++ [Ob.dct B]).length) get_new (by
    have := has_of hd
    intro z
    rw [z] at this
    cases this)
  refine ⟨m + 1, fun j hj => by have := hm j hj; omega, ?_⟩
  generalize blkD leaf rows = d at *
  have e0 : b_law_tree_spoilt_0 ([some (.ref b), some (.int n), some (.int way), some (.int top), some (.int w), some (.int cell)] ++ List.replicate (11 - 6) none) M = some (.nx [some (.ref b), some (.int n), some (.int way), some (.int top), some (.int w), some (.int cell), some (.ref M.length), none, none, none, none], M ++ [.dct B]) := by
    simp [b_law_tree_spoilt_0, h0]
  rw [seq_step e0]
  have e1 : b_law_tree_spoilt_1 [some (.ref b), some (.int n), some (.int way), some (.int top), some (.int w), some (.int cell), some (.ref M.length), none, none, none, none] (M ++ [.dct B]) = some (.nx [some (.ref b), some (.int n), some (.int way), some (.int top), some (.int w), some (.int cell), some (.ref M.length), some (.str (kindS leaf)), none, none, none], M ++ [.dct B]) := by
    simp [b_law_tree_spoilt_1, h1, i0]
  rw [seq_step e1]
  have e2 : b_law_tree_spoilt_2 [some (.ref b), some (.int n), some (.int way), some (.int top), some (.int w), some (.int cell), some (.ref M.length), some (.str (kindS leaf)), none, none, none] (M ++ [.dct B]) = some (.nx [some (.ref b), some (.int n), some (.int way), some (.int top), some (.int w), some (.int cell), some (.ref M.length), some (.str (kindS leaf)), some (.tup rows), none, none], M ++ [.dct B]) := by
    simp [b_law_tree_spoilt_2, h1, i1]
  rw [seq_step e2]
  generalize (M ++ [Ob.dct B]).length = q at *
  simp [b_law_tree_spoilt_3, h2, h3, -List.append_assoc]
section
variable {b f : Nat} {n way top w cell more : Int} {leaf : Bool} {rows : List D} {x : Option D} {B : List (Int × D)}
theorem ts_4n (h : way ≠ 9) : b_law_tree_spoilt_4 (LT b n way top w cell f leaf rows more x) M = some (.nx (LT b n way top w cell f leaf rows more x), M) := by
  simp [b_law_tree_spoilt_4, h]
theorem ts_5n (h : way ≠ 10) : b_law_tree_spoilt_5 (LT b n way top w cell f leaf rows more x) M = some (.nx (LT b n way top w cell f leaf rows more x), M) := by
  simp [b_law_tree_spoilt_5, h]
theorem ts_6n (h : way ≠ 14) : b_law_tree_spoilt_6 (LT b n way top w cell f leaf rows more x) M = some (.nx (LT b n way top w cell f leaf rows more x), M) := by
  simp [b_law_tree_spoilt_6, h]
theorem ts_7n (h : leaf = true ∧ n ≠ 0) : b_law_tree_spoilt_7 (LT b n way top w cell f leaf rows more x) M = some (.nx (LT b n way top w cell f leaf rows more x), M) := by
  obtain ⟨rfl, h⟩ := h
  have := k_br (M := M) true
  simp [b_law_tree_spoilt_7, h, this]
theorem ts_8n (h : way ≠ 11) : b_law_tree_spoilt_8 (LT b n way top w cell f leaf rows more x) M = some (.nx (LT b n way top w cell f leaf rows more x), M) := by
  simp [b_law_tree_spoilt_8, h]
theorem ts_4y {d : D} (hf : M[f]? = some (.dct B)) (hd : aget B n = some d) : b_law_tree_spoilt_4 (LT b n 9 top w cell f leaf rows more x) M = some (.rt (.ref f), M.set f (.dct (adel B n))) := by
  have hp : oPopD1 (.ref f) (.int n) M = some (d, M.set f (.dct (adel B n))) := pop1_dct hf hd
  simp [b_law_tree_spoilt_4, hf, hp]
theorem ts_6y (hf : M[f]? = some (.dct B)) (hl : B.length ≤ 3000) : b_law_tree_spoilt_6 (LT b n 14 top w cell f leaf rows more x) M = some (.rt (.ref f), M.set f (.dct (ringB B top more))) := by
  have := p_ringed (M := M) (top := top) (more := more) hf hl
  generalize ringB B top more = B' at *
  simp [b_law_tree_spoilt_6, this]
theorem ts_7y (h : leaf = false ∨ n = 0) : b_law_tree_spoilt_7 (LT b n way top w cell f leaf rows more x) M = some (.rt .non, M) := by
  have := k_br (M := M) leaf
  by_cases c : leaf = false
  · subst c
    simp [b_law_tree_spoilt_7, this]
  · have c : leaf = true := by simpa using c
    subst c
    rcases h with h | rfl
    · cases h
    · simp [b_law_tree_spoilt_7, this]
theorem ts_9 {kl : Int} {vl : D} {ini : List D} (hr : rows = ini ++ [.tup [.int kl, vl]]) : b_law_tree_spoilt_9 (LT b n way top w cell f leaf rows more x) M = if kl = top then some (.rt .non, M) else some (.nx (LT b n way top w cell f leaf rows more x), M) := by
  have il : ∀ M, oIx (.tup rows) (.int (-1)) M = some (.tup [.int kl, vl], M) := fun M => by rw [hr]; exact ix_last
  have i0 : ∀ M, oIx (.tup [.int kl, vl]) (.int 0) M = some (.int kl, M) := fun M => ix0
  clear hr
  by_cases c : kl = top
  · subst c
    simp [b_law_tree_spoilt_9, il, i0]
  · simp [b_law_tree_spoilt_9, il, i0, c]
theorem ts_10 {kl : Int} {vl : D} {ini : List D} (hr : rows = ini ++ [.tup [.int kl, vl]]) : b_law_tree_spoilt_10 (LT b n way top w cell f leaf rows more x) M = some (.nx (LT b n way (if way = 12 then kl + 3 else top) w cell f leaf rows more x), M) := by
  have il : ∀ M, oIx (.tup rows) (.int (-1)) M = some (.tup [.int kl, vl], M) := fun M => by rw [hr]; exact ix_last
  have i0 : ∀ M, oIx (.tup [.int kl, vl]) (.int 0) M = some (.int kl, M) := fun M => ix0
  clear hr
  by_cases c : way = 12
  · simp [b_law_tree_spoilt_10, il, i0, c]
  · simp [b_law_tree_spoilt_10, il, i0, c]
theorem ts_1112 {kl : Int} {vl : D} {ini : List D} (hr : rows = ini ++ [.tup [.int kl, vl]]) (hf : M[f]? = some (.dct B)) (hl : B.length ≤ 3000) (hi : ini.length ≤ 1000) : mSeq b_law_tree_spoilt_11 b_law_tree_spoilt_12 (LT b n way top w cell f leaf rows more x) M = some (.rt (.ref f), M.set f (.dct (aput B n (blkD true (ini ++ [.tup [.int top, .str "v"]]))))) := by
  have hs : ∀ M, oSl (.tup rows) none (some (-1)) M = some (.tup ini, M) := fun M => by rw [hr, sl_tup, cut_last]
  have ha : ∀ M, oAdd (.tup ini) (.tup [.tup [.int top, .str "v"]]) M = some (.tup (ini ++ [.tup [.int top, .str "v"]]), M) := fun M => by
    rw [add_tup, if_pos (by simp; omega)]
  have e : blkD true (ini ++ [.tup [.int top, .str "v"]]) = .tup [.str "leaf", .tup (ini ++ [.tup [.int top, .str "v"]])] := rfl
  have hp : oPutA (.ref f) (.int n) (blkD true (ini ++ [.tup [.int top, .str "v"]])) M = some (M.set f (.dct (aput B n (blkD true (ini ++ [.tup [.int top, .str "v"]]))))) := put_dct hf (by omega)
  rw [e] at hp ⊢
  clear hr
  generalize ini ++ [D.tup [.int top, .str "v"]] = out at *
  have s1 : b_law_tree_spoilt_11 (LT b n way top w cell f leaf rows more x) M = some (.nx (LT b n way top w cell f leaf rows more x), M.set f (.dct (aput B n (.tup [.str "leaf", .tup out])))) := by
    simp [b_law_tree_spoilt_11, so_1, hs, ha, hp, -add_tup]
  rw [seq_step s1]
  simp [b_law_tree_spoilt_12]
theorem three_ix {a b c : Int} {z : Int} (hz : 0 ≤ z ∧ z < 3) : ∃ i, (i = a ∨ i = b ∨ i = c) ∧ ∀ M, oIx (.ref M.length) (.int z) (M ++ [.lst [.int a, .int b, .int c]]) = some (.int i, M ++ [.lst [.int a, .int b, .int c]]) := by
  obtain ⟨n, rfl, hn⟩ : ∃ n : Nat, z = n ∧ n < 3 := ⟨z.toNat, by omega, by omega⟩
  have hi : ∀ x, [D.int a, .int b, .int c][n]? = some x → ∀ M : Mem, oIx (.ref M.length) (.int n) (M ++ [.lst [.int a, .int b, .int c]]) = some (x, M ++ [.lst [.int a, .int b, .int c]]) := fun x hx M => ix_lst get_new (by rw [atI_nat]; exact hx)
  have : n = 0 ∨ n = 1 ∨ n = 2 := by omega
  rcases this with rfl | rfl | rfl
  · exact ⟨a, .inl rfl, hi _ rfl⟩
  · exact ⟨b, .inr (.inl rfl), hi _ rfl⟩
  · exact ⟨c, .inr (.inr rfl), hi _ rfl⟩
theorem ts_5y (hf : M[f]? = some (.dct B)) (hl : B.length ≤ 3000) (hc : 0 ≤ cell) :
    ∃ i X M', b_law_tree_spoilt_5 (LT b n 10 top w cell f leaf rows more x) M = some (.rt (.ref f), M'.set f (.dct (aput B i X))) ∧ Kp M M' ∧ M'[f]? = some (.dct B) ∧ (i = more ∨ i = -1 ∨ i = more + cell) ∧ (∀ M, SeenB M X) ∧ ∀ a ds, X = .tup [a, .tup ds] → ds.length < 1000000 := by
  let lf : D := .tup [.str "leaf", .tup [.tup [.int (top + 1), .str "v"], .tup [.int (top + 2), .str "v"], .tup [.int (top + 3), .str "v"]]]
  obtain ⟨i, hi, h3⟩ := three_ix (a := more) (b := -1) (c := more + cell) (z := cell % 3) (by omega)
  obtain ⟨X, hX, h4⟩ := four_ix (a := lf) (b := .non) (c := .int 7) (d := .tup [.str "leaf", .tup []]) (z := cell / 3 % 4) (by omega)
  have hv : ∀ M, Kn M (.str "v") ∧ shortD (.str "v") := fun M => ⟨BP.kn_str, by show Str.length _ < _; decide +kernel⟩
  refine ⟨i, X, M ++ [.lst [lf, .non, .int 7, .tup [.str "leaf", .tup []]]] ++ [.lst [.int more, .int (-1), .int (more + cell)]], ?_, (Kp.app _ _).more _, get_app (get_app hf), hi, fun M => ?_, ?_⟩
  · have hf2 : (M ++ [Ob.lst [lf, .non, .int 7, .tup [.str "leaf", .tup []]]] ++ [Ob.lst [.int more, .int (-1), .int (more + cell)]])[f]? = some (.dct B) := get_app (get_app hf)
    have hp : oPutA (.ref f) (.int i) X (M ++ [.lst [lf, .non, .int 7, .tup [.str "leaf", .tup []]]] ++ [.lst [.int more, .int (-1), .int (more + cell)]]) = some ((M ++ [Ob.lst [lf, .non, .int 7, .tup [.str "leaf", .tup []]]] ++ [Ob.lst [.int more, .int (-1), .int (more + cell)]]).set f (.dct (aput B i X))) := put_dct hf2 (by omega)
    have h4 := h4 M
    have h3 := h3 (M ++ [.lst [lf, .non, .int 7, .tup [.str "leaf", .tup []]]])
    simp only [lf] at h3 h4 hp ⊢
    simp only [List.length_append, List.length_singleton] at h3
    simp only [b_law_tree_spoilt_5]
    simp [h3, h4, hp, -List.append_assoc]
  · rcases hX with rfl | rfl | rfl | rfl
    · refine BP.blk_seenB (BP.kind_pl true) (fun x hx => ?_) BP.kn_str
      rcases List.mem_cons.mp hx with rfl | hx
      · exact seen_kv hv M
      · rcases List.mem_cons.mp hx with rfl | hx
        · exact seen_kv hv M
        · have : x = _ := List.mem_singleton.mp hx
          rw [this]
          exact seen_kv hv M
    · exact ⟨BP.kn_non, fun a b e => by cases e⟩
    · exact ⟨BP.kn_int, fun a b e => by cases e⟩
    · exact BP.blk_seenB (BP.kind_pl true) (fun x hx => by cases hx) BP.kn_str
  · rcases hX with rfl | rfl | rfl | rfl
    · exact small_blk (by simp)
    · exact fun a ds e => by cases e
    · exact fun a ds e => by cases e
    · exact small_blk (by simp)
end
end BK07
/-! K07L: _law_tree_spoilt, _law_spoilt. -/
namespace BK07
open BL
open BP (blkD kindS leafS branchS rowB pairB SoundP Look SeenB SeenP blkOf leafB pairsOf leastOf keyOf numOf firstKey ix0 ix1 Kn keyB posB shortD blockB Tl keysW rowsW rowsT)
open PySem (Str)
variable {M : Mem}
theorem leaf_keys {B : List (Int × D)} {w n : Int} {vs : List Tl} (hs : SoundP B w vs) (hn : n ∈ akeys B) (hl : leafB (blkOf B n) = true) : ∀ y ∈ pairsOf (blkOf B n), keyOf y ∈ keysW B vs := fun y hy => by
  obtain ⟨t, ht, rfl⟩ := hs.there hn
  refine List.mem_map.mpr ⟨y, List.mem_flatten.mpr ⟨_, List.mem_map.mpr ⟨t, ht, rfl⟩, ?_⟩, rfl⟩
  unfold rowsT
  rw [if_pos hl]
  exact hy
theorem p_tree_spoilt {b : Nat} {B : List (Int × D)} {w n way top cell first : Int} {size : Nat} {d : D} {vs : List Tl} (hb : M[b]? = some (.dct B)) (hs : SoundP B w vs) (hd : aget B n = some d) (hpos : ∀ j ∈ akeys B, 0 ≤ j) (hway : 9 ≤ way ∧ way ≤ 14) (hc : 0 ≤ cell) (hw : 3 ≤ w ∧ w ≤ 64) (hl : B.length ≤ 3000)
    (hkeys : ∀ k, k ∈ keysW B vs ↔ ∃ i : Nat, i < size ∧ k = first + 3 * i) (htop : top = first + 3 * size - 3) :
    ∃ X M', g_law_tree_spoilt [.ref b, .int n, .int way, .int top, .int w, .int cell] M = some (.ok X M') ∧ Kp M M' ∧ Bad M' w X := by
  have hin := has_of hd
  have hblk := blk_of hd
  obtain ⟨leaf, rows, rfl, hr, h1, h2, h3⟩ := hs.blk hd
  have hpw := (BP.rowB_pw _).mp hr
  have hl64 : rows.length ≤ 64 := by omega
  have hbl : leafB (blkOf B n) = leaf := by rw [hblk, BP.leafB_blk]
  have hbp : pairsOf (blkOf B n) = rows := by rw [hblk]; rfl
  have hlook : ∀ M'', Look M'' B := fun M'' => hs.look hw.2 M''
  obtain ⟨more, hmore, e03⟩ := ts_03 (way := way) (top := top) (w := w) (cell := cell) hb hd
  have hm0 : 0 < more := by
    have := hmore n hin
    have := hpos n hin
    omega
  simp only [g_law_tree_spoilt, b_law_tree_spoilt, ev_def6]
  rw [seq4 e03]
  have hf : (M ++ [.dct B] ++ [.lst ((akeys B).map .int)])[M.length]? = some (.dct B) := get_app get_new
  have k3 : Kp M (M ++ [.dct B] ++ [.lst ((akeys B).map .int)]) := (Kp.app _ _).more _
  generalize M ++ [.dct B] ++ [.lst ((akeys B).map .int)] = M3 at *
  have hle : M.length ≤ M.length := Nat.le_refl _
  by_cases c9 : way = 9
  · subst c9
    rw [seq_rt (ts_4y hf hd), end_rt]
    refine ⟨_, _, rfl, k3.set hle _, .inr ⟨_, _, rfl, get_set_eq hf, fun M'' _ => (hlook M'').del, ?_, BP.no_child hs hin⟩⟩
    have : (adel B n).length ≤ B.length := (List.filter_sublist).length_le
    omega
  rw [seq_step (ts_4n c9)]
  by_cases c10 : way = 10
  · subst c10
    obtain ⟨i, X, M', e, k', hf', hi, hX, hXs⟩ := ts_5y (b := b) (n := n) (top := top) (w := w) (cell := cell) (more := more) (leaf := leaf) (rows := rows) (x := none) hf hl hc
    rw [seq_rt e, end_rt]
    refine ⟨_, _, rfl, (k3.trans k').set hle _, .inr ⟨_, _, rfl, get_set_eq hf', fun M'' _ => (hlook M'').put (hX M'') hXs, ?_, BP.no_parent hs ?_ ?_⟩⟩
    · have := len_aput (kvs := B) (k := i) (d := X)
      omega
    · intro z
      have := hmore _ z
      have := hpos _ z
      omega
    · omega
  rw [seq_step (ts_5n c10)]
  by_cases c14 : way = 14
  · subst c14
    rw [seq_rt (ts_6y hf hl), end_rt]
    refine ⟨_, _, rfl, k3.set hle _, .inr ⟨_, _, rfl, get_set_eq hf, fun M'' _ => ring_look (hlook M''), ?_, ring_not hs hm0 hmore⟩⟩
    have := ring_len (B := B) (top := top) (more := more)
    omega
  rw [seq_step (ts_6n c14)]
  by_cases c7 : leaf = false ∨ n = 0
  · rw [seq_rt (ts_7y c7), end_rt]
    exact ⟨_, _, rfl, k3, .inl rfl⟩
  have c7' : leaf = true ∧ n ≠ 0 := by
    refine ⟨?_, fun z => c7 (.inr z)⟩
    cases leaf with
    | true => rfl
    | false => exact absurd (.inl rfl) c7
  obtain ⟨rfl, hn0⟩ := c7'
  rw [seq_step (ts_7n ⟨rfl, hn0⟩)]
  have hn1 : 0 < n := by
    have := hpos n hin
    omega
  have hlen2 : 2 ≤ rows.length := by
    unfold leastOf at h1
    rw [if_pos hn1] at h1
    omega
  by_cases c11 : way = 11
  · subst c11
    cases rows with
    | nil => exact absurd hlen2 (by simp)
    | cons p rest =>
      obtain ⟨k, v, rfl, hk, hv⟩ := BP.pair_shape (hpw.1 p List.mem_cons_self)
      have hsm : small k := by
        unfold keyB at hk
        rw [Bool.and_eq_true, decide_eq_true_eq, decide_eq_true_eq] at hk
        unfold small
        have hk1 := hk.1
        have hk2 := hk.2
        have : (10 : Int) ^ 60 ≤ 10 ^ 80 := by decide
        omega
      obtain ⟨M', B', e, k', hf', hlk, hln, hg, hlX, p, hp1, hp2⟩ := p_deeper (M := M3) (M0 := M) (f := M.length) (first := k) (w := w) (more := more) hf hl hw hmore hin k3 hle hlook hsm
      have i0 : ∀ M, oIx (.tup (.tup [.int k, v] :: rest)) (.int 0) M = some (.tup [.int k, v], M) := fun M => ix0
      have i00 : ∀ M, oIx (.tup [.int k, v]) (.int 0) M = some (.int k, M) := fun M => ix0
      have s : b_law_tree_spoilt_8 (LT b n 11 top w cell M.length true (.tup [.int k, v] :: rest) more none) M3 = some (.rt (.ref M.length), M') := by
        simp [b_law_tree_spoilt_8, i0, i00, e]
      rw [seq_rt s, end_rt]
      exact ⟨_, _, rfl, k', .inr ⟨_, _, rfl, hf', fun M'' _ => hlk M'', by omega, BP.deeper hs hin hn0 hbl hg hlX hp1 hp2⟩⟩
  rw [seq_step (ts_8n c11)]
  obtain ⟨ini, l, e⟩ := split_last (xs := rows) (by intro z; rw [z] at hlen2; simp at hlen2)
  obtain ⟨kl, vl, rfl, hkl, hvl⟩ := BP.pair_shape (hpw.1 l (by rw [e]; simp))
  have hend : ∀ y ∈ rows, keyOf y ≤ kl := fun y hy => by
    have hp := hpw.2
    rw [e] at hp hy
    rcases List.mem_append.mp hy with hy | hy
    · exact Int.le_of_lt ((List.pairwise_append.mp hp).2.2 y hy (.tup [.int kl, vl]) (List.mem_singleton.mpr rfl))
    · have : y = _ := List.mem_singleton.mp hy
      rw [this]
      exact Int.le_refl _
  have hklin : kl ∈ keysW B vs := leaf_keys hs hin hbl (.tup [.int kl, vl]) (by rw [hbp, e]; simp)
  obtain ⟨i, hi, hki⟩ := (hkeys kl).mp hklin
  by_cases ct : kl = top
  · rw [seq_rt (by rw [ts_9 e, if_pos ct]), end_rt]
    exact ⟨_, _, rfl, k3, .inl rfl⟩
  rw [seq_step (by rw [ts_9 e, if_neg ct]), seq_step (ts_10 e)]
  obtain ⟨top', ht', hgt, htk⟩ : ∃ top', (if way = 12 then kl + 3 else top) = top' ∧ kl < top' ∧ top' ∈ keysW B vs := by
    refine ⟨_, rfl, ?_, ?_⟩
    · split <;> omega
    · rw [hkeys]
      split
      · exact ⟨i + 1, by omega, by omega⟩
      · exact ⟨size - 1, by omega, by omega⟩
  rw [ht', ts_1112 e hf hl (by have := congrArg List.length e; simp at this; omega), end_rt]
  refine ⟨_, _, rfl, k3.set hle _, .inr ⟨_, _, rfl, get_set_eq hf, fun M'' _ => (hlook M'').put ?_ (small_blk (by have := congrArg List.length e; simp at this ⊢; omega)), ?_, ?_⟩⟩
  · refine BP.blk_seenB (BP.kind_pl true) (fun x hx => ?_) BP.kn_str
    rcases List.mem_append.mp hx with hx | hx
    · exact (BP.row_seen hr).1 x (by rw [e]; exact List.mem_append_left _ hx)
    · have : x = _ := List.mem_singleton.mp hx
      rw [this]
      exact seen_kv (fun M => ⟨BP.kn_str, by show Str.length _ < _; decide +kernel⟩) _
  · have := len_aput (kvs := B) (k := n) (d := blkD true (ini ++ [.tup [.int top', .str "v"]]))
    omega
  · refine BP.key_twice hs (x := .tup [.int top', .str "v"]) hin hbl (fun y hy => ?_) (BP.leafB_blk ..) (show _ ∈ _ ++ _ by simp) htk
    rw [hbp] at hy
    have := hend y hy
    show keyOf y ≠ top'
    omega
theorem p_spoilt {b : Nat} {B : List (Int × D)} {w n way top cell first : Int} {size : Nat} {d : D} {vs : List Tl} (hb : M[b]? = some (.dct B)) (hs : SoundP B w vs) (hd : aget B n = some d) (hpos : ∀ j ∈ akeys B, 0 ≤ j) (hway : 0 ≤ way ∧ way ≤ 14) (hc : 0 ≤ cell) (hw : 3 ≤ w ∧ w ≤ 64) (hl : B.length ≤ 3000)
    (hkeys : ∀ k, k ∈ keysW B vs ↔ ∃ i : Nat, i < size ∧ k = first + 3 * i) (htop : top = first + 3 * size - 3) :
    ∃ X M', g_law_spoilt [.ref b, .int n, .int way, .int w, .int top, .int cell] M = some (.ok X M') ∧ Kp M M' ∧ Bad M' w X := by
  have hin := has_of hd
  simp only [g_law_spoilt, b_law_spoilt, ev_def6]
  let L : Loc := [some (.ref b), some (.int n), some (.int way), some (.int w), some (.int top), some (.int cell), none, none]
  show ∃ X M', endS (mSeq b_law_spoilt_0 _ L M) = _ ∧ _
  by_cases c : 8 < way
  · obtain ⟨X, M', e, k', hB⟩ := p_tree_spoilt hb hs hd hpos (show 9 ≤ way ∧ way ≤ 14 by omega) hc hw hl hkeys htop
    have s : b_law_spoilt_0 L M = some (.rt X, M') := by
      simp [b_law_spoilt_0, L, c, e]
    rw [seq_rt s, end_rt]
    exact ⟨_, _, rfl, k', hB⟩
  · have s : b_law_spoilt_0 L M = some (.nx L, M) := by
      simp [b_law_spoilt_0, L, c]
    rw [seq_step s]
    obtain ⟨X, M', e, k', hX⟩ := p_block_spoilt (M := M) hs hd (hpos n hin) (show 0 ≤ way ∧ way ≤ 8 by omega) hc hw
    have hi : oIx (.ref b) (.int n) M = some (d, M) := ix_dct hb hd
    have s1 : b_law_spoilt_1 L M = some (.nx [some (.ref b), some (.int n), some (.int way), some (.int w), some (.int top), some (.int cell), some X, none], M') := by
      simp [b_law_spoilt_1, L, hi, e]
    rw [seq_step s1]
    have hb' := k'.get hb
    by_cases hn : X = .non
    · subst hn
      have s2 : b_law_spoilt_2 [some (.ref b), some (.int n), some (.int way), some (.int w), some (.int top), some (.int cell), some .non, none] M' = some (.rt .non, M') := by
        simp [b_law_spoilt_2, isNon]
      rw [seq_rt s2, end_rt]
      exact ⟨_, _, rfl, k', .inl rfl⟩
    · have hX : Spoilt M' B w n X := hX.resolve_left hn
      have hnon := hX.non
      have s2 : b_law_spoilt_2 [some (.ref b), some (.int n), some (.int way), some (.int w), some (.int top), some (.int cell), some X, none] M' = some (.nx [some (.ref b), some (.int n), some (.int way), some (.int w), some (.int top), some (.int cell), some X, none], M') := by
        simp [b_law_spoilt_2, hnon]
      rw [seq_step s2]
      have hdict : oDict [.ref b] M' = some (.ref M'.length, M' ++ [.dct B]) := dict_dct hb'
      have hput : oPutA (.ref M'.length) (.int n) X (M' ++ [.dct B]) = some (M' ++ [.dct (aput B n X)]) := by
        rw [put_dct get_new (by omega), set_app]
      refine ⟨.ref M'.length, M' ++ [.dct (aput B n X)], ?_, k'.more _, .inr ⟨_, _, rfl, get_new, fun M'' k'' => (hs.look hw.2 M'').put (hX.seen M'' ((Kp.app _ _).trans k'')) hX.size, ?_, hX.not⟩⟩
      · simp [b_law_spoilt_3, b_law_spoilt_4, b_law_spoilt_5, hdict, hput]
      · have := len_aput (kvs := B) (k := n) (d := X)
        omega
end BK07
/-! K07M: _law_says, _law_as_wide. -/
namespace BK07
open BL
open BP (blkD kindS leafS branchS rowB pairB SoundP Look SeenB SeenP blkOf leafB pairsOf leastOf keyOf numOf firstKey ix0 ix1 Kn keyB posB shortD blockB Tl keysW rowsW rowsT)
open PySem (Str)
variable {M : Mem}
theorem is_bl {a b : Bool} : oIs (.bl a) (.bl b) M = some (.bl (a == b), M) := by cases a <;> cases b <;> rfl
theorem isNot_bl {a b : Bool} : oIsNot (.bl a) (.bl b) M = some (.bl (!(a == b)), M) := by cases a <;> cases b <;> rfl
theorem p_says {a b : Bool} : g_law_says [.bl a, .bl b] M = some (.ok (.bl (a == b)) M) := by
  simp only [g_law_says, b_law_says, ev_def2]
  cases a <;> cases b <;> simp [b_law_says_0, is_bl]
theorem p_as_wide {b : Nat} {B : List (Int × D)} {w : Int} (hb : M[b]? = some (.dct B)) (hblk : ∀ n d, aget B n = some d → ∃ leaf rows, d = blkD leaf rows) :
    ∃ r M', g_law_as_wide [.ref b, .int w] M = some (.ok (.bl r) M') ∧ Kp M M' ∧ (r = true ↔ ∀ n ∈ akeys B, 0 < n → (w + 1) / 2 ≤ ((pairsOf (blkOf B n)).length : Int)) := by
  have h1 : oList [.ref b] M = some (.ref M.length, M ++ [.lst ((akeys B).map .int)]) := list_dct hb
  have hb1 : (M ++ [Ob.lst ((akeys B).map .int)])[b]? = some (.dct B) := get_app hb
  have hl1 : (M ++ [Ob.lst ((akeys B).map .int)])[M.length]? = some (.lst ((akeys B).map .int)) := get_new
  generalize hM1 : M ++ [Ob.lst ((akeys B).map .int)] = M1 at *
  have hi : mIter (mCB oList (mCons (mVar 0) mNil)) [some (.ref b), some (.int w), none] M = some (.ok (Src.map (fun ds => ds) ⟨(akeys B).map .int, some (M.length, (akeys B).map .int)⟩) M1) := seq_at _ (by simp [h1]) (src_lst hl1)
  obtain ⟨r, e, hr⟩ := forG_gen (ok := Src.ok (Src.map (fun ds => ds) ⟨(akeys B).map .int, some (M.length, (akeys B).map .int)⟩)) (g := mName 2)
    (body := mIte (mAnd (mT (mBin oGt (mVar 2) (mC (.int 0)))) (mT (mBin oLt (mCB oLen (mCons (mBin oIx (mBin oIx (mVar 0) (mVar 2)) (mC (.int 1))) mNil)) (mBin oDiv (mBin oAdd (mVar 1) (mC (.int 1))) (mC (.int 2)))))) (mRet (mC (.bl false))) mSkip)
    (fun r => (r = (.rt (.bl false), M1) ∧ ¬ ∀ n ∈ akeys B, 0 < n → (w + 1) / 2 ≤ ((pairsOf (blkOf B n)).length : Int)) ∨ ∃ x, r = (.nx [some (.ref b), some (.int w), x], M1) ∧ ∀ n ∈ akeys B, 0 < n → (w + 1) / 2 ≤ ((pairsOf (blkOf B n)).length : Int))
    (fun k L M' => M' = M1 ∧ (∃ x, L = [some (.ref b), some (.int w), x]) ∧ ∀ j n, j < k → (akeys B)[j]? = some n → 0 < n → (w + 1) / 2 ≤ ((pairsOf (blkOf B n)).length : Int)) ((akeys B).map .int)
    (fun k L M' d hd ⟨hM, ⟨x, hL⟩, hI⟩ => by
      subst hM hL
      rw [List.getElem?_map] at hd
      obtain ⟨n, hn, rfl⟩ := Option.map_eq_some_iff.mp hd
      have hin : n ∈ akeys B := List.mem_of_getElem? hn
      refine ⟨hl1, _, rfl, ?_⟩
      obtain ⟨d, hd⟩ := Option.isSome_iff_exists.mp (aget_isSome.mpr hin)
      obtain ⟨leaf, rows, rfl⟩ := hblk n d hd
      have hx : oIx (.ref b) (.int n) M' = some (blkD leaf rows, M') := ix_dct hb1 hd
      have hx1 : ∀ M, oIx (blkD leaf rows) (.int 1) M = some (.tup rows, M) := fun M => ix1
      have hp : pairsOf (blkOf B n) = rows := by rw [blk_of hd]; rfl
      generalize blkD leaf rows = blk at *
      by_cases c : 0 < n ∧ (rows.length : Int) < (w + 1) / 2
      · refine ⟨(.rt (.bl false), M'), by simp [c.1, c.2, hx, hx1], .inl ⟨rfl, fun z => ?_⟩⟩
        have := z n hin c.1
        rw [hp] at this
        omega
      · refine ⟨(.nx [some (.ref b), some (.int w), some (.int n)], M'), ?_, rfl, ⟨_, rfl⟩, fun j m hj hm h0 => ?_⟩
        · by_cases c1 : 0 < n
          · have c2 : ¬ (rows.length : Int) < (w + 1) / 2 := fun z => c ⟨c1, z⟩
            simp [c1, c2, hx, hx1]
          · simp [c1]
        · by_cases cj : j = k
          · subst cj
            rw [hn] at hm
            cases hm
            rw [hp]
            omega
          · exact hI j m (by omega) hm h0)
    (fun L M' ⟨hM, ⟨x, hL⟩, hI⟩ => by
      subst hM hL
      refine ⟨hl1, .inr ⟨x, rfl, fun n hn h0 => ?_⟩⟩
      obtain ⟨j, hj⟩ := List.mem_iff_getElem?.mp hn
      exact hI j n (by rw [List.length_map]; exact (List.getElem?_eq_some_iff.mp hj).1) hj h0)
    (L := [some (.ref b), some (.int w), none]) (M := M1) ⟨rfl, ⟨none, rfl⟩, fun j n hj => absurd hj (by omega)⟩
  have k1 : Kp M M1 := by rw [← hM1]; exact Kp.app _ _
  simp only [g_law_as_wide, b_law_as_wide, ev_def2]
  show ∃ r M', endS (mSeq b_law_as_wide_0 b_law_as_wide_1 [some (.ref b), some (.int w), none] M) = _ ∧ _
  have e0 : b_law_as_wide_0 [some (.ref b), some (.int w), none] M = some r := by
    unfold b_law_as_wide_0
    rw [for_at hi]
    exact e
  rcases hr with ⟨rfl, hr⟩ | ⟨x, rfl, hr⟩
  · rw [seq_rt e0, end_rt]
    exact ⟨_, _, rfl, k1, fun z => (by cases z), fun z => absurd z hr⟩
  · rw [seq_step e0]
    exact ⟨true, M1, by simp [b_law_as_wide_1], k1, fun _ => hr, fun _ => rfl⟩
end BK07
/-! K07N: the law. -/
namespace BK07
open BL
open BP (blkD kindS leafS branchS rowB pairB SoundP Look SeenB SeenP blkOf leafB pairsOf leastOf keyOf numOf firstKey ix0 ix1 Kn keyB posB shortD blockB Tl keysW rowsW rowsT Made)
open PySem (Str)
variable {M : Mem}
theorem p_cell0 (ns : List Int) (k : Int) (M : Mem) (h : 0 ≤ k) : g_law_cell_at [.scr ns, .int k] M = some (.ok (.int (cell ns k.toNat)) M) := p_gcell0 ns k M h
theorem p_sound {b : Nat} {w : Int} {B : List (Int × D)} (hb : M[b]? = some (.dct B)) (hL : ∀ M', Kp M M' → Look M' B) (hw : 3 ≤ w ∧ w ≤ 64) (hB : B.length ≤ 4000) :
    ∃ r M', g_sound [.ref b, .int w] M = some (.ok (.bl r) M') ∧ Kp M M' ∧ (r = true ↔ ∃ vs, SoundP B w vs) := BP.p_sound hb hL hw hB
theorem p_tree_by {p : Nat} {w : Nat} {c : Int} {row : List D} (h : M[p]? = some (.lst row)) (hw : 3 ≤ w ∧ w ≤ 64) (hc : 0 ≤ c) (hrow : rowB true row = true) (hl : row.length ≤ 10000) :
    ∃ b B M', g_law_tree_by [.ref p, .int w, .int c] M = some (.ok (.ref b) M') ∧ Kp M M' ∧ M.length ≤ b ∧ M'[b]? = some (.dct B) ∧ Made w row B := BP.p_tree_by h hw hc hrow hl
theorem p_width (c : Int) : ∃ w : Nat, (3 ≤ w ∧ w ≤ 64) ∧ g_law_width_by [.int c] M = some (.ok (.int w) M) := by
  simp only [g_law_width_by, b_law_width_by, ev_def1]
  by_cases h : c % 8 = 7
  · obtain ⟨w, hw⟩ : ∃ w : Nat, 3 + c / 8 % 62 = w := ⟨(3 + c / 8 % 62).toNat, by omega⟩
    exact ⟨w, by omega, by simp [b_law_width_by_0, b_law_width_by_1, h, hw]⟩
  · obtain ⟨w, hw⟩ : ∃ w : Nat, 3 + c / 8 % 4 = w := ⟨(3 + c / 8 % 4).toNat, by omega⟩
    exact ⟨w, by omega, by simp [b_law_width_by_0, b_law_width_by_1, h, hw]⟩
/-- the row -/
def rf (first : Int) : D → D
  | .int k => .tup [.int (first + 3 * k), .str (PySem.Txt.mul "v" (k % 3))]
  | _ => .non
def rowN (first : Int) (size : Nat) : List D := (rng 0 size).map (rf first)
theorem rowN_get {first : Int} {size k : Nat} {d : D} (h : (rowN first size)[k]? = some d) : d = .tup [.int (first + 3 * k), .str (PySem.Txt.mul "v" ((k : Int) % 3))] ∧ k < size := by
  unfold rowN at h
  rw [List.getElem?_map] at h
  obtain ⟨j, hj, rfl⟩ := Option.map_eq_some_iff.mp h
  obtain ⟨rfl, hk⟩ := rng_get hj
  exact ⟨by rw [Int.zero_add]; rfl, hk⟩
theorem rowN_len {first : Int} {size : Nat} : (rowN first size).length = size := by simp [rowN]
theorem rowN_good {first : Int} {size : Nat} (hf : -1000 ≤ first ∧ first < 1000) (hs : size ≤ 4000) : rowB true (rowN first size) = true := by
  refine (BP.rowB_iff _ _).mpr ⟨fun d hd => ?_, fun k d e hd he => ?_⟩
  · obtain ⟨k, hk⟩ := List.mem_iff_getElem?.mp hd
    obtain ⟨rfl, hk⟩ := rowN_get hk
    show (keyB (.int (first + 3 * (k : Int))) && BP.valB (.str (PySem.Txt.mul "v" ((k : Int) % 3)))) = true
    rw [Bool.and_eq_true]
    constructor
    · unfold keyB
      rw [Bool.and_eq_true, decide_eq_true_eq, decide_eq_true_eq]
      have : (100000 : Int) < 10 ^ 60 := by decide
      omega
    · have h3 : (k : Int) % 3 = 0 ∨ (k : Int) % 3 = 1 ∨ (k : Int) % 3 = 2 := by omega
      rcases h3 with h | h | h <;> (rw [h]; decide +kernel)
  · obtain ⟨rfl, _⟩ := rowN_get hd
    obtain ⟨rfl, _⟩ := rowN_get he
    show first + 3 * (k : Int) < first + 3 * ((k + 1 : Nat) : Int)
    omega
theorem rowN_keys {first : Int} {size : Nat} (k : Int) : k ∈ (rowN first size).map keyOf ↔ ∃ i : Nat, i < size ∧ k = first + 3 * i := by
  constructor
  · intro h
    obtain ⟨d, hd, rfl⟩ := List.mem_map.mp h
    obtain ⟨i, hi⟩ := List.mem_iff_getElem?.mp hd
    obtain ⟨rfl, hi2⟩ := rowN_get hi
    exact ⟨i, hi2, rfl⟩
  · rintro ⟨i, hi, rfl⟩
    have hg : (rowN first size)[i]? = some ((rowN first size)[i]'(by rw [rowN_len]; exact hi)) := List.getElem?_eq_getElem _
    refine List.mem_map.mpr ⟨_, List.getElem_mem (by rw [rowN_len]; exact hi), ?_⟩
    rw [(rowN_get hg).1]
    rfl
/-- the script's beginning -/
theorem l_02 (ns : List Int) (hb : ∀ z ∈ ns, PySem.Builtin.Int.intBits z ≤ 1048576) : ∃ w size : Nat, (3 ≤ w ∧ w ≤ 64) ∧ size ≤ 200 ∧ mSeq b_law_0 (mSeq b_law_1 b_law_2) ([some (.scr ns)] ++ List.replicate (12 - 1) none) [] = some (.nx [some (.scr ns), some (.int w), some (.int size), none, none, none, none, none, none, none, none, none], []) := by
  obtain ⟨w, hw, ew⟩ := p_width (M := []) (cell ns 0)
  have hm : ∀ M, oMul (.int (cell ns 1)) (.int 48271) M = some (.int (cell ns 1 * 48271), M) := fun M => mul_int (fits_cell (cell_bits hb 1) (by constructor <;> omega))
  have e0 : b_law_0 ([some (.scr ns)] ++ List.replicate (12 - 1) none) [] = some (.nx [some (.scr ns), some (.int w), none, none, none, none, none, none, none, none, none, none], []) := by
    simp [b_law_0, p_cell0, ew]
  have e1 : b_law_1 [some (.scr ns), some (.int w), none, none, none, none, none, none, none, none, none, none] [] = some (.nx [some (.scr ns), some (.int w), some (.int (cell ns 1 % 41)), none, none, none, none, none, none, none, none, none], []) := by
    simp [b_law_1, p_cell0]
  by_cases c : cell ns 1 / 41 % 4 = 1 ∨ (6 : Int) < w
  · obtain ⟨s, hs⟩ : ∃ s : Nat, cell ns 1 * 48271 % 1009 % 201 = s := ⟨(cell ns 1 * 48271 % 1009 % 201).toNat, by omega⟩
    refine ⟨w, s, hw, by omega, ?_⟩
    rw [seq_step e0, seq_step e1]
    by_cases c1 : cell ns 1 / 41 % 4 = 1
    · simp [b_law_2, p_cell0, c1, hm, hs]
    · have c2 : (6 : Int) < w := c.resolve_left c1
      simp [b_law_2, p_cell0, c1, c2, hm, hs]
  · obtain ⟨s, hs⟩ : ∃ s : Nat, cell ns 1 % 41 = s := ⟨(cell ns 1 % 41).toNat, by omega⟩
    refine ⟨w, s, hw, by omega, ?_⟩
    rw [seq_step e0, seq_step e1, hs]
    have c1 : ¬ cell ns 1 / 41 % 4 = 1 := fun z => c (.inl z)
    have c2 : ¬ (6 : Int) < w := fun z => c (.inr z)
    simp [b_law_2, p_cell0, c1, c2]
theorem l_4 (ns : List Int) (w : Int) (size : Nat) (first : Int) (hs : size ≤ 200) : b_law_4 [some (.scr ns), some (.int w), some (.int size), some (.int first), none, none, none, none, none, none, none, none] [] = some (.nx [some (.scr ns), some (.int w), some (.int size), some (.int first), some (.ref 0), none, none, none, none, none, none, none], [.lst (rowN first size)]) := by
  let L : Loc := [some (.scr ns), some (.int w), some (.int size), some (.int first), none, none, none, none, none, none, none, none]
  have hi : mRange1 (mVar 2) L [] = some (.ok ⟨rng 0 size, none⟩ []) := by
    have := range1_int (e := mVar 2) (L := L) (M := []) (M1 := []) (j := size) (by simp [L]) (by constructor <;> omega)
    rw [this]
    rfl
  have hv : ∀ (z : Int) M, 0 ≤ z ∧ z < 3 → oMul (.str "v") (.int z) M = some (.str (PySem.Txt.mul "v" z), M) := fun z M h => by
    show (if (PySem.Str.ofString "v").length ≤ 1000 ∧ -(2 ^ 63) ≤ z ∧ z ≤ 1000 then some (D.str (PySem.Txt.mul (PySem.Str.ofString "v") z), M) else none) = _
    exact if_pos ⟨by decide +kernel, by omega, by omega⟩
  have hc := lcG_map (ok := Src.ok ⟨rng 0 size, none⟩) (g := mName 11) (tt := mYes) (e := mTup (mCons (mBin oAdd (mVar 3) (mBin oMul (mC (.int 3)) (mVar 11))) (mCons (mBin oMul (mC (.str "v")) (mBin oMod (mVar 11) (mC (.int 3)))) mNil))) (L := wipeL L [11]) (M := []) (fun _ => true) (rf first) trivial (rng 0 size) (fun d hd => by
    obtain ⟨j, hj⟩ := List.mem_iff_getElem?.mp hd
    obtain ⟨rfl, hk⟩ := rng_get hj
    refine ⟨_, rfl, rfl, fun _ => ?_⟩
    rw [Int.zero_add]
    have m3 : ∀ M, oMul (.int 3) (.int (j : Int)) M = some (.int (3 * (j : Int)), M) := fun M => mul_int (fits_small (by constructor <;> omega) (by constructor <;> omega))
    have mv := hv ((j : Int) % 3) [] (by omega)
    have e : rf first (.int (j : Int)) = .tup [.int (first + 3 * (j : Int)), .str (PySem.Txt.mul "v" ((j : Int) % 3))] := rfl
    rw [e]
    generalize PySem.Txt.mul "v" ((j : Int) % 3) = tx at *
    simp [wipeL, L, m3, mv])
  rw [List.filter_eq_self.mpr (fun _ _ => rfl)] at hc
  have hlc := lc_at hi hc (by simp; omega)
  show b_law_4 L [] = _
  have e : (rng 0 size).map (rf first) = rowN first size := rfl
  rw [e] at hlc
  generalize rowN first size = row at *
  simp [b_law_4, hlc]
  simp [L]
theorem law (ns : List Int) (hl : ns.length ≤ 63) (hb : ∀ z ∈ ns, PySem.Builtin.Int.intBits z ≤ 1048576) : ∃ M, g_law [.scr ns] [] = some (.ok (.bl true) M) := by
  obtain ⟨w, size, hw, hsz, e02⟩ := l_02 ns hb
  simp only [g_law, b_law, ev_def1]
  rw [seq3 e02]
  obtain ⟨first, hfirst⟩ : ∃ f, cell ns 2 % 2000 - 1000 = f := ⟨_, rfl⟩
  have hf : -1000 ≤ first ∧ first < 1000 := by omega
  have e3 : b_law_3 [some (.scr ns), some (.int w), some (.int size), none, none, none, none, none, none, none, none, none] [] = some (.nx [some (.scr ns), some (.int w), some (.int size), some (.int first), none, none, none, none, none, none, none, none], []) := by
    simp [b_law_3, p_cell0, hfirst]
  rw [seq_step e3, seq_step (l_4 ns w size first hsz)]
  have hrow := rowN_good (size := size) hf (by omega)
  have hkeys := rowN_keys (first := first) (size := size)
  have hlen := rowN_len (first := first) (size := size)
  generalize rowN first size = row at *
  obtain ⟨b, B, M1, et, k1, hb0, hb1, mk⟩ := p_tree_by (M := [.lst row]) (p := 0) (c := cell ns 3 % 9000) rfl hw (by omega) hrow (by omega)
  obtain ⟨⟨vs, hs, hrows⟩, hnd, hBl, hpos⟩ := mk
  have hw3 : 3 ≤ (w : Int) ∧ (w : Int) ≤ 64 := by omega
  have e5 : b_law_5 [some (.scr ns), some (.int w), some (.int size), some (.int first), some (.ref 0), none, none, none, none, none, none, none] [.lst row] = some (.nx [some (.scr ns), some (.int w), some (.int size), some (.int first), some (.ref 0), some (.ref b), none, none, none, none, none, none], M1) := by
    simp [b_law_5, p_cell0, et]
  rw [seq_step e5]
  have hd : oDict [.ref b] M1 = some (.ref M1.length, M1 ++ [.dct B]) := dict_dct hb1
  have e6 : b_law_6 [some (.scr ns), some (.int w), some (.int size), some (.int first), some (.ref 0), some (.ref b), none, none, none, none, none, none] M1 = some (.nx [some (.scr ns), some (.int w), some (.int size), some (.int first), some (.ref 0), some (.ref b), some (.ref M1.length), none, none, none, none, none], M1 ++ [.dct B]) := by
    simp [b_law_6, hd]
  rw [seq_step e6]
  have hb2 : (M1 ++ [Ob.dct B])[b]? = some (.dct B) := get_app hb1
  have hh2 : (M1 ++ [Ob.dct B])[M1.length]? = some (.dct B) := get_new
  generalize M1 ++ [Ob.dct B] = M2 at *
  generalize M1.length = h at *
  have look : ∀ M'', Look M'' B := fun M'' => hs.look hw3.2 M''
  obtain ⟨r, M3, es, k3, hr⟩ := p_sound hh2 (fun M' _ => look M') hw3 (by omega)
  have hr : r = true := hr.mpr ⟨vs, hs⟩
  subst hr
  have pl := hs.plain hnd
  have hb3 := k3.get hb2
  have hh3 := k3.get hh2
  have e7 : b_law_7 [some (.scr ns), some (.int w), some (.int size), some (.int first), some (.ref 0), some (.ref b), some (.ref h), none, none, none, none, none] M2 = some (.nx [some (.scr ns), some (.int w), some (.int size), some (.int first), some (.ref 0), some (.ref b), some (.ref h), none, none, none, none, none], M3) := by
    have a1 := oNe_ofX (eqX_ext hh3 hb3 hnd hnd pl pl fun _ => rfl)
    simp [b_law_7, es, isNot_bl, a1]
  rw [seq_step e7]
  by_cases c4 : cell ns 4 % 4 = 0
  · -- one wider
    obtain ⟨w2, hw2, hw2e⟩ : ∃ w2 : Int, (if ((w : Int) + 1) < 64 then (w : Int) + 1 else 64) = w2 ∧ (w2 = w + 1 ∨ (w = 64 ∧ w2 = 64)) := by
      refine ⟨_, rfl, ?_⟩
      split <;> omega
    obtain ⟨r, M4, es4, k4, hr4⟩ := p_sound (w := w2) hh3 (fun M' _ => look M') (by omega) (by omega)
    obtain ⟨r5, M5, es5, k5, hr5⟩ := p_as_wide (w := (w : Int) + 1) (k4.get hb3) (fun n d hd => by
      obtain ⟨leaf, rows, e, _⟩ := hs.blk hd
      exact ⟨leaf, rows, e⟩)
    have hwide := BP.wider hs (by omega)
    have e8 : ∃ M6, b_law_8 [some (.scr ns), some (.int w), some (.int size), some (.int first), some (.ref 0), some (.ref b), some (.ref h), none, none, none, none, none] M3 = some (.rt (.bl true), M6) := by
      by_cases cw : (w : Int) = 64
      · have : r = true := hr4.mpr ⟨vs, by
          have : w2 = w := by omega
          rw [this]
          exact hs⟩
        subst this
        refine ⟨M4, ?_⟩
        rw [cw] at hw2 ⊢
        simp [b_law_8, p_cell0, c4] at hw2 ⊢
        subst hw2
        simp [es4, p_says]
      · have hw1 : w2 = w + 1 := by omega
        have hrr : r = r5 := by
          rw [Bool.eq_iff_iff, hr4, hr5, hw1]
          exact hwide
        subst hrr
        refine ⟨M5, ?_⟩
        have cw' : ¬ (w = 64) := by omega
        simp [b_law_8, p_cell0, c4, hw2, es4, es5, p_says, cw, cw']
    obtain ⟨M6, e8⟩ := e8
    rw [seq_rt e8]
    exact ⟨M6, rfl⟩
  have e8 : b_law_8 [some (.scr ns), some (.int w), some (.int size), some (.int first), some (.ref 0), some (.ref b), some (.ref h), none, none, none, none, none] M3 = some (.nx [some (.scr ns), some (.int w), some (.int size), some (.int first), some (.ref 0), some (.ref b), some (.ref h), none, none, none, none, none], M3) := by
    simp [b_law_8, p_cell0, c4]
  rw [seq_step e8]
  -- some block
  have hl9 : oList [.ref b] M3 = some (.ref M3.length, M3 ++ [.lst ((akeys B).map .int)]) := list_dct hb3
  have hs9 : oSorted [.ref M3.length] (M3 ++ [.lst ((akeys B).map .int)]) = some (.ref (M3 ++ [Ob.lst ((akeys B).map .int)]).length, M3 ++ [.lst ((akeys B).map .int)] ++ [.lst (((akeys B).mergeSort (fun a b => decide (a ≤ b))).map .int)]) := sorted_lst get_new
  have hperm := List.mergeSort_perm (akeys B) (fun a b => decide (a ≤ b))
  generalize (akeys B).mergeSort (fun a b => decide (a ≤ b)) = sk at *
  obtain ⟨q, hq⟩ : ∃ q, (M3 ++ [Ob.lst ((akeys B).map .int)]).length = q := ⟨_, rfl⟩
  rw [hq] at hs9
  have hq4 : (M3 ++ [Ob.lst ((akeys B).map .int)] ++ [Ob.lst (sk.map .int)])[q]? = some (.lst (sk.map .int)) := by rw [← hq]; exact get_new
  have e9 : b_law_9 [some (.scr ns), some (.int w), some (.int size), some (.int first), some (.ref 0), some (.ref b), some (.ref h), none, none, none, none, none] M3 = some (.nx [some (.scr ns), some (.int w), some (.int size), some (.int first), some (.ref 0), some (.ref b), some (.ref h), some (.ref q), none, none, none, none], M3 ++ [.lst ((akeys B).map .int)] ++ [.lst (sk.map .int)]) := by
    simp [b_law_9, hl9, hs9, -List.append_assoc]
  rw [seq_step e9]
  have k4 : Kp M3 (M3 ++ [.lst ((akeys B).map .int)] ++ [.lst (sk.map .int)]) := (Kp.app _ _).more _
  have hb4 := k4.get hb3
  clear hl9 hs9 e9
  generalize M3 ++ [Ob.lst ((akeys B).map .int)] ++ [Ob.lst (sk.map .int)] = M4 at *
  have hroot : (0 : Int) ∈ akeys B := hs.ws.key hs.root
  have hslen : 0 < sk.length := List.length_pos_of_mem (hperm.symm.mem_iff.mp hroot)
  obtain ⟨j, hj, hj2⟩ : ∃ j : Nat, cell ns 5 % (sk.length : Int) = j ∧ j < sk.length := by
    have h1 := Int.emod_nonneg (cell ns 5) (show (sk.length : Int) ≠ 0 by omega)
    have h2 := Int.emod_lt_of_pos (cell ns 5) (show (0 : Int) < sk.length by omega)
    exact ⟨(cell ns 5 % (sk.length : Int)).toNat, by omega, by omega⟩
  obtain ⟨n, hn⟩ : ∃ n, sk[j]? = some n := ⟨_, List.getElem?_eq_getElem hj2⟩
  have hnB : n ∈ akeys B := hperm.mem_iff.mp (List.mem_of_getElem? hn)
  obtain ⟨d, hdn⟩ := Option.isSome_iff_exists.mp (aget_isSome.mpr hnB)
  have hlq : oLen [.ref q] M4 = some (.int sk.length, M4) := by rw [len_lst hq4, List.length_map]
  have hxq : oIx (.ref q) (.int (j : Int)) M4 = some (.int n, M4) := ix_lst hq4 (by rw [atI_nat, List.getElem?_map, hn]; rfl)
  have hpos' : (0 : Int) < sk.length := by omega
  have e10 : b_law_10 [some (.scr ns), some (.int w), some (.int size), some (.int first), some (.ref 0), some (.ref b), some (.ref h), some (.ref q), none, none, none, none] M4 = some (.nx [some (.scr ns), some (.int w), some (.int size), some (.int first), some (.ref 0), some (.ref b), some (.ref h), some (.ref q), some (.int n), none, none, none], M4) := by
    simp [b_law_10, p_cell0, hlq, hpos', hslen, hj, hxq]
  rw [seq_step e10]
  have e11 : b_law_11 [some (.scr ns), some (.int w), some (.int size), some (.int first), some (.ref 0), some (.ref b), some (.ref h), some (.ref q), some (.int n), none, none, none] M4 = some (.nx [some (.scr ns), some (.int w), some (.int size), some (.int first), some (.ref 0), some (.ref b), some (.ref h), some (.ref q), some (.int n), some (.int (cell ns 6 % 9000)), none, none], M4) := by
    simp [b_law_11, p_cell0]
  rw [seq_step e11]
  obtain ⟨X, M5, esp, k5, hbad⟩ := p_spoilt (M := M4) (n := n) (way := cell ns 4 / 4 % 15) (cell := cell ns 6 % 9000) (size := size) (first := first) hb4 hs hdn hpos (by omega) (by omega) hw3 (by omega) (fun k => by unfold keysW; rw [hrows]; exact hkeys k) rfl
  have m3 : ∀ M, oMul (.int 3) (.int (size : Int)) M = some (.int (3 * (size : Int)), M) := fun M => mul_int (fits_small (by constructor <;> omega) (by constructor <;> omega))
  have e12 : b_law_12 [some (.scr ns), some (.int w), some (.int size), some (.int first), some (.ref 0), some (.ref b), some (.ref h), some (.ref q), some (.int n), some (.int (cell ns 6 % 9000)), none, none] M4 = some (.nx [some (.scr ns), some (.int w), some (.int size), some (.int first), some (.ref 0), some (.ref b), some (.ref h), some (.ref q), some (.int n), some (.int (cell ns 6 % 9000)), some X, none], M5) := by
    simp [b_law_12, p_cell0, m3, esp]
  rw [seq_step e12]
  rcases hbad with rfl | ⟨f, B', rfl, hf5, hlk, hl5, hno⟩
  · exact ⟨M5, by simp [b_law_13, isNon]⟩
  · obtain ⟨r, M6, e13, k6, hr6⟩ := p_sound hf5 hlk hw3 hl5
    have : r = false := by
      cases r with
      | false => rfl
      | true => exact absurd (hr6.mp rfl) hno
    subst this
    exact ⟨M6, by simp [b_law_13, isNon, e13, is_bl]⟩
theorem holds : PySem.Challenge.rw_btreelog_k07_sound.Holds := holds_of law
end BK07
theorem PySem.Challenge.cw_btreelog_k07_sound_holds : PySem.Challenge.rw_btreelog_k07_sound.Holds := by
  exact BK07.holds
