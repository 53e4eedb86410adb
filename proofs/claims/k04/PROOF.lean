import PyProof.Rows.All
import Wide.All
import OpenK.AllK
import Wide.FinOn
import HandS.ForMost
import HandS.ForExc
import HandS.CallSlots
import HandS.Rev
import KE.GoesMore
import HandS.IsInst
import HandS.Style
import HandS.TupAny
import HandS.SortInts
import HandS.More
import HandS.WideBits
import PyProof.StrBlock2
import KE.KEqDict
import HandS.Dict
import HandS.Defaults
import KE.KStateDown
import Lean
import HandS.Head0
import HandS.Head1
import HandS.Head2
import HandS.HeadEnd
import HandS.HeadHook1
import HandS.HeadHook2
import HandS.EndBits
import HandS.Text
import HandS.DictEq
import HandS.Finally
import HandS.Codes
import PySem.Challenge.RW_btreelog_k04_a_block
set_option Elab.async false
set_option autoImplicit false
set_option linter.all false
set_option maxRecDepth 100000
set_option maxHeartbeats 0
/-! BLSem: a small machine of values: data by value, lists, dicts and instances by number. -/
namespace BL
open PySem

inductive D where
  | non | bl (b : Bool) | int (i : Int) | str (s : Str) | tup (xs : List D) | scr (ns : List Int) | ref (n : Nat)

inductive Ob where
  | lst (xs : List D) | dct (kvs : List (Int × D)) | ins (fs : List (Str × D))

abbrev Mem := List Ob
abbrev Loc := List (Option D)

/-- how an expression ends -/
inductive Rz (α : Type) where
  | ok (a : α) (M : Mem) | ex (c : Str) (M : Mem)

def bnd {α β : Type} (r : Option (Rz α)) (f : α → Mem → Option (Rz β)) : Option (Rz β) := match r with
  | some (.ok a M) => f a M
  | some (.ex c M) => some (.ex c M)
  | none => none
@[simp] theorem bnd_ok {α β : Type} (a : α) (M : Mem) (f : α → Mem → Option (Rz β)) : bnd (some (.ok a M)) f = f a M := (rfl)
@[simp] theorem bnd_ex {α β : Type} (c : Str) (M : Mem) (f : α → Mem → Option (Rz β)) : bnd (some (.ex c M)) f = some (.ex c M) := (rfl)
@[simp] theorem bnd_none {α β : Type} (f : α → Mem → Option (Rz β)) : bnd none f = none := (rfl)
theorem bnd_some {α β : Type} {r : Option (Rz α)} {f : α → Mem → Option (Rz β)} {z : Rz β} (h : bnd r f = some z) :
    (∃ a M, r = some (.ok a M) ∧ f a M = some z) ∨ ∃ c M, r = some (.ex c M) ∧ z = .ex c M := by
  cases r with
  | none => cases h
  | some r =>
    cases r with
    | ok a M => exact .inl ⟨a, M, rfl, h⟩
    | ex c M => exact .inr ⟨c, M, rfl, (Option.some.inj h).symm⟩

/-- a step that raises nothing -/
def ret {α : Type} (r : Option (α × Mem)) : Option (Rz α) := match r with
  | some (a, M) => some (.ok a M)
  | none => none
@[simp] theorem ret_some {α : Type} (a : α) (M : Mem) : ret (some (a, M)) = some (.ok a M) := (rfl)
@[simp] theorem ret_none {α : Type} : ret (none : Option (α × Mem)) = none := (rfl)
theorem ret_eq {α : Type} {r : Option (α × Mem)} {z : Rz α} (h : ret r = some z) : ∃ a M, r = some (a, M) ∧ z = .ok a M := by
  cases r with
  | none => cases h
  | some p => exact ⟨p.1, p.2, rfl, (Option.some.inj h).symm⟩

abbrev GE := Loc → Mem → Option (Rz D)
abbrev GT := Loc → Mem → Option (Rz Bool)
abbrev GA := Loc → Mem → Option (Rz (List D))
inductive Fl where
  | nx (L : Loc) | bk (L : Loc) | ct (L : Loc) | rt (d : D) | ex (c : Str) (L : Loc)
abbrev GS := Loc → Mem → Option (Fl × Mem)
abbrev Fn := List D → Mem → Option (Rz D)

/-! ### expressions -/
def mVar (i : Nat) : GE := fun L M => match L[i]? with
  | some (some d) => some (.ok d M)
  | _ => none
def mC (d : D) : GE := fun _ M => some (.ok d M)
abbrev Op2 := D → D → Mem → Option (D × Mem)
abbrev Op1 := D → Mem → Option (D × Mem)
abbrev OpN := List D → Mem → Option (D × Mem)
abbrev OpM := D → List D → Mem → Option (D × Mem)
def mBin (op : Op2) (a b : GE) : GE := fun L M => bnd (a L M) fun x M1 => bnd (b L M1) fun y M2 => ret (op x y M2)
def mUn (op : Op1) (a : GE) : GE := fun L M => bnd (a L M) fun x M1 => ret (op x M1)
def mChain (op op2 : Op2) (a b c : GE) : GE := fun L M => bnd (a L M) fun x M1 => bnd (b L M1) fun y M2 => bnd (ret (op x y M2)) fun z M3 => match z with
  | .bl true => bnd (c L M3) fun w M4 => ret (op2 y w M4)
  | .bl false => some (.ok (.bl false) M3)
  | _ => none
def mNil : GA := fun _ M => some (.ok [] M)
def mCons (a : GE) (r : GA) : GA := fun L M => bnd (a L M) fun x M1 => bnd (r L M1) fun xs M2 => some (.ok (x :: xs) M2)
/-- a built-in called -/
def mCB (op : OpN) (as : GA) : GE := fun L M => bnd (as L M) fun xs M1 => ret (op xs M1)
/-- a def called -/
def mCall (f : Fn) (as : GA) : GE := fun L M => bnd (as L M) fun xs M1 => f xs M1
/-- a method of a built-in type -/
def mMt (op : OpM) (o : GE) (as : GA) : GE := fun L M => bnd (o L M) fun x M1 => bnd (as L M1) fun xs M2 => ret (op x xs M2)
/-- an own method -/
def mMeth (f : Fn) (o : GE) (as : GA) : GE := fun L M => bnd (o L M) fun x M1 => bnd (as L M1) fun xs M2 => f (x :: xs) M2
/-- a display's length -/
def oTup : OpN := fun xs M => if xs.length ≤ 1000 then some (.tup xs, M) else none
def oLst : OpN := fun xs M => if xs.length ≤ 1000 then some (.ref M.length, M ++ [.lst xs]) else none
def mTup (as : GA) : GE := mCB oTup as
def mLst (as : GA) : GE := mCB oLst as
def mDnew : GE := fun _ M => some (.ok (.ref M.length) (M ++ [.dct []]))

/-! ### tests -/
def mT (a : GE) : GT := fun L M => bnd (a L M) fun x M1 => match x with
  | .bl b => some (.ok b M1)
  | _ => none
def mAnd (a b : GT) : GT := fun L M => bnd (a L M) fun x M1 => if x = true then b L M1 else some (.ok false M1)
def mOr (a b : GT) : GT := fun L M => bnd (a L M) fun x M1 => if x = true then some (.ok true M1) else b L M1
def mNot (a : GT) : GT := fun L M => bnd (a L M) fun x M1 => some (.ok (!x) M1)
def mAndV (a b : GE) : GE := fun L M => bnd (a L M) fun x M1 => match x with
  | .bl true => b L M1
  | .bl false => some (.ok (.bl false) M1)
  | _ => none
def mOrV (a b : GE) : GE := fun L M => bnd (a L M) fun x M1 => match x with
  | .bl false => b L M1
  | .bl true => some (.ok (.bl true) M1)
  | _ => none
def mNotV (a : GE) : GE := fun L M => bnd (a L M) fun x M1 => match x with
  | .bl b => some (.ok (.bl (!b)) M1)
  | _ => none
def mIf (t : GT) (a b : GE) : GE := fun L M => bnd (t L M) fun c M1 => if c = true then a L M1 else b L M1

/-! ### statements -/
def bndS {α : Type} (L : Loc) (r : Option (Rz α)) (f : α → Mem → Option (Fl × Mem)) : Option (Fl × Mem) := match r with
  | some (.ok a M) => f a M
  | some (.ex c M) => some (.ex c L, M)
  | none => none
@[simp] theorem bndS_ok {α : Type} (L : Loc) (a : α) (M : Mem) (f : α → Mem → Option (Fl × Mem)) : bndS L (some (.ok a M)) f = f a M := (rfl)
@[simp] theorem bndS_ex {α : Type} (L : Loc) (c : Str) (M : Mem) (f : α → Mem → Option (Fl × Mem)) : bndS L (some (.ex c M)) f = some (.ex c L, M) := (rfl)
@[simp] theorem bndS_none {α : Type} (L : Loc) (f : α → Mem → Option (Fl × Mem)) : bndS L none f = none := (rfl)
theorem bndS_some {α : Type} {L : Loc} {r : Option (Rz α)} {f : α → Mem → Option (Fl × Mem)} {z : Fl × Mem} (h : bndS L r f = some z) :
    (∃ a M, r = some (.ok a M) ∧ f a M = some z) ∨ ∃ c M, r = some (.ex c M) ∧ z = (.ex c L, M) := by
  cases r with
  | none => cases h
  | some r =>
    cases r with
    | ok a M => exact .inl ⟨a, M, rfl, h⟩
    | ex c M => exact .inr ⟨c, M, rfl, (Option.some.inj h).symm⟩
def thenS (r : Option (Fl × Mem)) (f : Loc → Mem → Option (Fl × Mem)) : Option (Fl × Mem) := match r with
  | some (.nx L, M) => f L M
  | r => r
@[simp] theorem thenS_nx (L : Loc) (M : Mem) (f : Loc → Mem → Option (Fl × Mem)) : thenS (some (.nx L, M)) f = f L M := (rfl)
@[simp] theorem thenS_rt (d : D) (M : Mem) (f : Loc → Mem → Option (Fl × Mem)) : thenS (some (.rt d, M)) f = some (.rt d, M) := (rfl)
@[simp] theorem thenS_ex (c : Str) (L : Loc) (M : Mem) (f : Loc → Mem → Option (Fl × Mem)) : thenS (some (.ex c L, M)) f = some (.ex c L, M) := (rfl)
@[simp] theorem thenS_bk (L : Loc) (M : Mem) (f : Loc → Mem → Option (Fl × Mem)) : thenS (some (.bk L, M)) f = some (.bk L, M) := (rfl)
@[simp] theorem thenS_ct (L : Loc) (M : Mem) (f : Loc → Mem → Option (Fl × Mem)) : thenS (some (.ct L, M)) f = some (.ct L, M) := (rfl)
@[simp] theorem thenS_none (f : Loc → Mem → Option (Fl × Mem)) : thenS none f = none := (rfl)
def mSkip : GS := fun L M => some (.nx L, M)
def mSeq (a b : GS) : GS := fun L M => thenS (a L M) b
/-- a target's store -/
abbrev GG := D → Loc → Option Loc
def mName (i : Nat) : GG := fun d L => some (L.set i (some d))
def mName2 (i j : Nat) : GG := fun d L => match d with
  | .tup [x, y] => some ((L.set i (some x)).set j (some y))
  | _ => none
def mSet (i : Nat) (e : GE) : GS := fun L M => bndS L (e L M) fun d M1 => some (.nx (L.set i (some d)), M1)
def mRet (e : GE) : GS := fun L M => bndS L (e L M) fun d M1 => some (.rt d, M1)
def mRetN : GS := fun _ M => some (.rt .non, M)
def mExpr (e : GE) : GS := fun L M => bndS L (e L M) fun _ M1 => some (.nx L, M1)
def mIte (t : GT) (a b : GS) : GS := fun L M => bndS L (t L M) fun c M1 => if c = true then a L M1 else b L M1
/-- o[i] = e: e first, then o, then i -/
def mPut (op : D → D → D → Mem → Option Mem) (o i e : GE) : GS := fun L M => bndS L (e L M) fun v M1 => bndS L (o L M1) fun x M2 => bndS L (i L M2) fun k M3 =>
  match op x k v M3 with
  | some M4 => some (.nx L, M4)
  | none => none
/-- o.f = e -/
def mFldPut (op : D → D → Mem → Option Mem) (o e : GE) : GS := fun L M => bndS L (e L M) fun v M1 => bndS L (o L M1) fun x M2 =>
  match op x v M2 with
  | some M3 => some (.nx L, M3)
  | none => none
def mRaise (c : Str) : GS := fun L M => some (.ex c L, M)

/-! ### loops -/
/-- what is walked: its items; of a list in the memory: where it stands (it may not change meanwhile) -/
structure Src where
  items : List D
  guard : Option (Nat × List D) := none
def Src.ok (s : Src) (M : Mem) : Prop := match s.guard with
  | none => True
  | some (n, xs) => M[n]? = some (.lst xs)
abbrev GI := Loc → Mem → Option (Rz Src)
open Classical in
noncomputable def forG (ok : Mem → Prop) (g : GG) (body : GS) : List D → GS
  | [], L, M => if ok M then some (.nx L, M) else none
  | d :: ds, L, M => if ok M then (match g d L with
    | none => none
    | some L1 => match body L1 M with
      | some (.nx L2, M2) => forG ok g body ds L2 M2
      | some (.ct L2, M2) => forG ok g body ds L2 M2
      | some (.bk L2, M2) => some (.nx L2, M2)
      | r => r) else none
noncomputable def mFor (it : GI) (g : GG) (body : GS) : GS := fun L M => bndS L (it L M) fun s M1 => forG s.ok g body s.items L M1
def whileF (t : GT) (body : GS) : Nat → GS
  | 0, _, _ => none
  | n + 1, L, M => bndS L (t L M) fun c M1 => if c = true then (match body L M1 with
      | some (.nx L2, M2) => whileF t body n L2 M2
      | some (.ct L2, M2) => whileF t body n L2 M2
      | some (.bk L2, M2) => some (.nx L2, M2)
      | r => r) else some (.nx L, M1)
open Classical in
noncomputable def mWhile (t : GT) (body : GS) : GS := fun L M => if h : ∃ n, (whileF t body n L M).isSome = true then whileF t body (Classical.choose h) L M else none
/- the items that a comprehension makes: nothing may be raised in it -/
def okO {α : Type} (r : Option (Rz α)) : Option (α × Mem) := match r with
  | some (.ok a M) => some (a, M)
  | _ => none
@[simp] theorem okO_ok {α : Type} (a : α) (M : Mem) : okO (some (.ok a M)) = some (a, M) := (rfl)
@[simp] theorem okO_ex {α : Type} (c : Str) (M : Mem) : okO (some (.ex c M) : Option (Rz α)) = none := (rfl)
@[simp] theorem okO_none {α : Type} : okO (none : Option (Rz α)) = none := (rfl)
theorem okO_some {α : Type} {r : Option (Rz α)} {p : α × Mem} (h : okO r = some p) : r = some (.ok p.1 p.2) := by
  cases r with
  | none => cases h
  | some r =>
    cases r with
    | ok a M =>
      have e := Option.some.inj h
      subst e
      rfl
    | ex c M => cases h
def wipeL (L : Loc) : List Nat → Loc
  | [] => L
  | v :: vs => (wipeL L vs).set v none
open Classical in
noncomputable def lcG (ok : Mem → Prop) (g : GG) (tt : GT) (e : GE) (L : Loc) : List D → Mem → Option (List D × Mem)
  | [], M => if ok M then some ([], M) else none
  | d :: ds, M => if ok M then (g d L).bind fun L1 => (okO (tt L1 M)).bind fun p => if p.1 = true then
      (okO (e L1 p.2)).bind fun q => (lcG ok g tt e L ds q.2).bind fun z => some (q.1 :: z.1, z.2)
    else lcG ok g tt e L ds p.2
    else none
def oLstBig : OpN := fun xs M => if xs.length < 16000000 then some (.ref M.length, M ++ [.lst xs]) else none
noncomputable def mLc (it : GI) (g : GG) (tt : GT) (e : GE) (vs : List Nat) : GE := fun L M => bnd (it L M) fun s M1 => ret ((lcG s.ok g tt e (wipeL L vs) s.items M1).bind fun p => oLstBig p.1 p.2)
def mYes : GT := fun _ M => some (.ok true M)

/-! ### defs -/
def Fl.end : Fl → Mem → Option (Rz D)
  | .nx _, M => some (.ok .non M)
  | .rt d, M => some (.ok d M)
  | .ex c _, M => some (.ex c M)
  | _, _ => none
@[simp] theorem Fl.end_nx (L : Loc) (M : Mem) : Fl.end (.nx L) M = some (.ok .non M) := (rfl)
@[simp] theorem Fl.end_rt (d : D) (M : Mem) : Fl.end (.rt d) M = some (.ok d M) := (rfl)
@[simp] theorem Fl.end_ex (c : Str) (L : Loc) (M : Mem) : Fl.end (.ex c L) M = some (.ex c M) := (rfl)
def endS (r : Option (Fl × Mem)) : Option (Rz D) := match r with
  | some (f, M) => f.end M
  | none => none
@[simp] theorem endS_some (f : Fl) (M : Mem) : endS (some (f, M)) = f.end M := (rfl)
/-- a def of k parameters and n names -/
def mDef (k n : Nat) (body : GS) : Fn := fun ds M => if ds.length = k then endS (body (ds.map some ++ List.replicate (n - k) none) M) else none
end BL
/-! BLRel: what of the heap a memory tells; the rules of the machine over the layer's. -/
namespace BL
open PySem L2

/-- a tuple that stands for ever -/
def TupAt (K : PySem.W.Frag) (H : Hp) (a : Addr) (xs : List V) : Prop :=
  H a = some (.tup xs) ∨
    ∃ (o : Obj) (its : Array Value) (n : Nat), K.lookup a = some o ∧ o.cls = .type "tuple" ∧ o.data = .seq its n ∧ its.size ≤ sizeLine ∧ Vals xs its.toList
/-- the script -/
def ScrAt (K : PySem.W.Frag) (H : Hp) (a : Addr) (ns : List Int) : Prop :=
  (∃ o, H a = some (.frz o (.lst (ns.map V.int)))) ∨
    ∃ (o : Obj) (its : Array Value) (n : Nat), K.lookup a = some o ∧ o.cls = .type "list" ∧ o.dict = none ∧ o.data = .seq its n ∧ its.size ≤ sizeLine ∧ Vals (ns.map V.int) its.toList
theorem TupAt.seq {K : PySem.W.Frag} {H : Hp} {a : Addr} {xs : List V} (h : TupAt K H a xs) : SqT K H a xs := by
  rcases h with h | h
  · exact .inl (.inl h)
  · exact .inr h
theorem ScrAt.seq {K : PySem.W.Frag} {H : Hp} {a : Addr} {ns : List Int} (h : ScrAt K H a ns) : SqL K H a (ns.map V.int) := by
  rcases h with ⟨o, h⟩ | h
  · exact .inl (.inr ⟨o, h⟩)
  · exact .inr h

mutual
/-- the value v is the datum d -/
def DV (K : PySem.W.Frag) (i : List Addr) (H : Hp) : D → V → Prop
  | .non, v => v = .non
  | .bl b, v => v = .bl b
  | .int k, v => v = .int k
  | .str s, v => v = .str s
  | .tup ds, v => ∃ a vs, v = .ref a ∧ TupAt K H a vs ∧ DLs K i H ds vs
  | .scr ns, v => ∃ a, v = .ref a ∧ ScrAt K H a ns
  | .ref n, v => ∃ a, i[n]? = some a ∧ v = .ref a
def DLs (K : PySem.W.Frag) (i : List Addr) (H : Hp) : List D → List V → Prop
  | [], vs => vs = []
  | d :: ds, vs => ∃ v r, vs = v :: r ∧ DV K i H d v ∧ DLs K i H ds r
end
/-- a dict's entries -/
def DKs (K : PySem.W.Frag) (i : List Addr) (H : Hp) : List (Int × D) → List (Key × V) → Prop
  | [], vs => vs = []
  | (k, d) :: ds, vs => ∃ v r, vs = (.inl k, v) :: r ∧ DV K i H d v ∧ DKs K i H ds r
/-- an instance's fields -/
def DFs (K : PySem.W.Frag) (i : List Addr) (H : Hp) : List (Str × D) → List (Str × V) → Prop
  | [], vs => vs = []
  | (k, d) :: ds, vs => ∃ v r, vs = (k, v) :: r ∧ DV K i H d v ∧ DFs K i H ds r
def ObR (K : PySem.W.Frag) (C : Addr) (i : List Addr) (H : Hp) (a : Addr) : Ob → Prop
  | .lst ds => ∃ vs, H a = some (.lst vs) ∧ DLs K i H ds vs
  | .dct kvs => ∃ vs, H a = some (.dK vs) ∧ DKs K i H kvs vs
  | .ins fs => ∃ dx vs, H a = some (.ins C dx vs) ∧ DFs K i H fs vs
structure MemR (K : PySem.W.Frag) (C : Addr) (i : List Addr) (M : Mem) (H : Hp) : Prop where
  len : i.length = M.length
  nd : i.Nodup
  ob : ∀ (n : Nat) o a, M[n]? = some o → i[n]? = some a → ObR K C i H a o
/-- the locals -/
structure LocR (K : PySem.W.Frag) (i : List Addr) (H : Hp) (L : Loc) (σ : L2.St) : Prop where
  len : L.length = σ.length
  at_ : ∀ (n : Nat) d, L[n]? = some (some d) → ∃ v, σ[n]? = some (some v) ∧ DV K i H d v
/-- how the heap may go on -/
structure Gro (i : List Addr) (H : Hp) (i' : List Addr) (H' : Hp) : Prop where
  pre : ∃ l, i' = i ++ l
  new : ∀ a ∈ i', a ∈ i ∨ H a = none
  fr : ∀ a o, H a = some o → a ∉ i → H' a = some o
  tups : ∀ a xs, H a = some (.tup xs) → H' a = some (.tup xs)
  frzs : ∀ a o u, H a = some (.frz o u) → H' a = some (.frz o u)

/-- what the data lean on -/
structure Mon (i : List Addr) (H : Hp) (i' : List Addr) (H' : Hp) : Prop where
  pre : ∃ l, i' = i ++ l
  tups : ∀ a xs, H a = some (.tup xs) → H' a = some (.tup xs)
  frzs : ∀ a o u, H a = some (.frz o u) → H' a = some (.frz o u)
theorem Gro.mon {i i' : List Addr} {H H' : Hp} (e : Gro i H i' H') : Mon i H i' H' := ⟨e.pre, e.tups, e.frzs⟩
section
variable {K : PySem.W.Frag} {C : Addr} {i i' i'' : List Addr} {H H' H'' : Hp} {M M' : Mem}
theorem Gro.refl : Gro i H i H := ⟨⟨[], by simp⟩, fun a h => .inl h, fun _ _ h _ => h, fun _ _ h => h, fun _ _ _ h => h⟩
theorem Gro.trans (a : Gro i H i' H') (b : Gro i' H' i'' H'') : Gro i H i'' H'' := by
  obtain ⟨l, e⟩ := a.pre
  obtain ⟨l2, e2⟩ := b.pre
  refine ⟨⟨l ++ l2, by rw [e2, e, List.append_assoc]⟩, fun x hx => ?_, fun x o h hn => ?_, fun x xs h => b.tups x xs (a.tups x xs h), fun x o u h => b.frzs x o u (a.frzs x o u h)⟩
  · rcases b.new x hx with h | h
    · exact a.new x h
    · by_cases hi : x ∈ i
      · exact .inl hi
      · refine .inr ?_
        cases q : H x with
        | none => rfl
        | some o =>
          rw [a.fr x o q hi] at h
          cases h
  · refine b.fr x o (a.fr x o h hn) fun hx => ?_
    rcases a.new x hx with z | z
    · exact hn z
    · rw [z] at h
      cases h
theorem TupAt.mono {a : Addr} {xs : List V} (e : Mon i H i' H') (h : TupAt K H a xs) : TupAt K H' a xs := by
  rcases h with h | h
  · exact .inl (e.tups _ _ h)
  · exact .inr h
theorem ScrAt.mono {a : Addr} {xs : List Int} (e : Mon i H i' H') (h : ScrAt K H a xs) : ScrAt K H' a xs := by
  rcases h with ⟨o, h⟩ | h
  · exact .inl ⟨o, e.frzs _ _ _ h⟩
  · exact .inr h
theorem Mon.ix (e : Mon i H i' H') {n : Nat} {a : Addr} (h : i[n]? = some a) : i'[n]? = some a := by
  obtain ⟨l, el⟩ := e.pre
  rw [el, List.getElem?_append_left (List.getElem?_eq_some_iff.mp h).1]
  exact h
mutual
theorem dv_mono (e : Mon i H i' H') : ∀ (d : D) (v : V), DV K i H d v → DV K i' H' d v
  | .non, v, h => by simpa only [DV] using h
  | .bl _, v, h => by simpa only [DV] using h
  | .int _, v, h => by simpa only [DV] using h
  | .str _, v, h => by simpa only [DV] using h
  | .tup ds, v, h => by
    simp only [DV] at h ⊢
    obtain ⟨a, vs, h1, h2, h3⟩ := h
    exact ⟨a, vs, h1, h2.mono e, dl_mono e ds vs h3⟩
  | .scr _, v, h => by
    simp only [DV] at h ⊢
    obtain ⟨a, h1, h2⟩ := h
    exact ⟨a, h1, h2.mono e⟩
  | .ref _, v, h => by
    simp only [DV] at h ⊢
    obtain ⟨a, h1, h2⟩ := h
    exact ⟨a, e.ix h1, h2⟩
theorem dl_mono (e : Mon i H i' H') : ∀ (ds : List D) (vs : List V), DLs K i H ds vs → DLs K i' H' ds vs
  | [], vs, h => by simpa only [DLs] using h
  | d :: ds, vs, h => by
    simp only [DLs] at h ⊢
    obtain ⟨v, r, h1, h2, h3⟩ := h
    exact ⟨v, r, h1, dv_mono e d v h2, dl_mono e ds r h3⟩
end
theorem DV.mono {d : D} {v : V} (h : DV K i H d v) (e : Gro i H i' H') : DV K i' H' d v := dv_mono e.mon d v h
theorem DLs.mono {d : List D} {v : List V} (h : DLs K i H d v) (e : Gro i H i' H') : DLs K i' H' d v := dl_mono e.mon d v h
theorem dk_mono (e : Mon i H i' H') : ∀ {ds : List (Int × D)} {vs : List (Key × V)}, DKs K i H ds vs → DKs K i' H' ds vs
  | [], vs, h => by simpa only [DKs] using h
  | (k, d) :: ds, vs, h => by
    simp only [DKs] at h ⊢
    obtain ⟨v, r, h1, h2, h3⟩ := h
    exact ⟨v, r, h1, dv_mono e d v h2, dk_mono e h3⟩
theorem df_mono (e : Mon i H i' H') : ∀ {ds : List (Str × D)} {vs : List (Str × V)}, DFs K i H ds vs → DFs K i' H' ds vs
  | [], vs, h => by simpa only [DFs] using h
  | (k, d) :: ds, vs, h => by
    simp only [DFs] at h ⊢
    obtain ⟨v, r, h1, h2, h3⟩ := h
    exact ⟨v, r, h1, dv_mono e d v h2, df_mono e h3⟩
theorem DKs.mono {d : List (Int × D)} {v : List (Key × V)} (h : DKs K i H d v) (e : Gro i H i' H') : DKs K i' H' d v := dk_mono e.mon h
theorem DFs.mono {d : List (Str × D)} {v : List (Str × V)} (h : DFs K i H d v) (e : Gro i H i' H') : DFs K i' H' d v := df_mono e.mon h
theorem loc_mono {L : Loc} {σ : L2.St} (e : Mon i H i' H') (h : LocR K i H L σ) : LocR K i' H' L σ := ⟨h.len, fun n d hn => by
  obtain ⟨v, h1, h2⟩ := h.at_ n d hn
  exact ⟨v, h1, dv_mono e d v h2⟩⟩
theorem LocR.mono {L : Loc} {σ : L2.St} (e : Gro i H i' H') (h : LocR K i H L σ) : LocR K i' H' L σ := loc_mono e.mon h
theorem LocR.set {L : Loc} {σ : L2.St} (h : LocR K i H L σ) (n : Nat) {d : D} {v : V} (r : DV K i H d v) : LocR K i H (L.set n (some d)) (σ.set n (some v)) := by
  refine ⟨by simp [h.len], fun m d' hm => ?_⟩
  by_cases e : n = m
  · subst e
    have hl : n < L.length := by
      have := (List.getElem?_eq_some_iff.mp hm).1
      simpa using this
    rw [List.getElem?_set_self hl] at hm
    have e1 : d = d' := Option.some.inj (Option.some.inj hm)
    subst e1
    exact ⟨v, by rw [List.getElem?_set_self (by rw [← h.len]; exact hl)], r⟩
  · rw [List.getElem?_set_ne e] at hm
    obtain ⟨v', h1, h2⟩ := h.at_ m d' hm
    exact ⟨v', by rw [List.getElem?_set_ne e]; exact h1, h2⟩
theorem LocR.forget {L : Loc} {σ : L2.St} (h : LocR K i H L σ) (n : Nat) : LocR K i H (L.set n none) (σ.set n none) := by
  refine ⟨by simp [h.len], fun m d' hm => ?_⟩
  by_cases e : n = m
  · subst e
    have hl : n < L.length := by
      have := (List.getElem?_eq_some_iff.mp hm).1
      simpa using this
    rw [List.getElem?_set_self hl] at hm
    cases hm
  · rw [List.getElem?_set_ne e] at hm
    obtain ⟨v', h1, h2⟩ := h.at_ m d' hm
    exact ⟨v', by rw [List.getElem?_set_ne e]; exact h1, h2⟩
/-- the objects stay where nothing of them changes -/
theorem ob_mono (e : Mon i H i' H') {a : Addr} {o : Ob} (k : ∀ u, H a = some u → H' a = some u) (h : ObR K C i H a o) : ObR K C i' H' a o := by
  cases o with
  | lst ds =>
    obtain ⟨vs, h1, h2⟩ := h
    exact ⟨vs, k _ h1, dl_mono e ds vs h2⟩
  | dct kvs =>
    obtain ⟨vs, h1, h2⟩ := h
    exact ⟨vs, k _ h1, dk_mono e h2⟩
  | ins fs =>
    obtain ⟨dx, vs, h1, h2⟩ := h
    exact ⟨dx, vs, k _ h1, df_mono e h2⟩
theorem ObR.mono (e : Gro i H i' H') {a : Addr} {o : Ob} (k : ∀ u, H a = some u → H' a = some u) (h : ObR K C i H a o) : ObR K C i' H' a o := ob_mono e.mon k h
theorem MemR.there (h : MemR K C i M H) {a : Addr} (ha : a ∈ i) : ∃ (n : Nat) (o : Ob), M[n]? = some o ∧ i[n]? = some a ∧ ObR K C i H a o := by
  obtain ⟨n, hn, e⟩ := List.getElem_of_mem ha
  have h1 : i[n]? = some a := by rw [List.getElem?_eq_getElem hn, e]
  have h2 : n < M.length := by rw [← h.len]; exact hn
  exact ⟨n, M[n], List.getElem?_eq_getElem h2, h1, h.ob n _ a (List.getElem?_eq_getElem h2) h1⟩
def MutO : HO → Prop
  | .lst _ => True
  | .dK _ => True
  | .ins _ _ _ => True
  | _ => False
theorem ObR.mut {a : Addr} {o : Ob} (h : ObR K C i H a o) : ∃ u, H a = some u ∧ MutO u := by
  cases o with
  | lst ds =>
    obtain ⟨vs, h1, h2⟩ := h
    exact ⟨_, h1, trivial⟩
  | dct kvs =>
    obtain ⟨vs, h1, h2⟩ := h
    exact ⟨_, h1, trivial⟩
  | ins fs =>
    obtain ⟨dx, vs, h1, h2⟩ := h
    exact ⟨_, h1, trivial⟩
theorem MemR.not_tup (h : MemR K C i M H) {a : Addr} {xs : List V} (e : H a = some (.tup xs)) : a ∉ i := fun ha => by
  obtain ⟨n, o, _, _, q⟩ := h.there ha
  obtain ⟨u, h1, h2⟩ := q.mut
  rw [e] at h1
  cases h1
  exact h2
theorem MemR.not_frz (h : MemR K C i M H) {a : Addr} {ob : Obj} {u : HO} (e : H a = some (.frz ob u)) : a ∉ i := fun ha => by
  obtain ⟨n, o, _, _, q⟩ := h.there ha
  obtain ⟨u, h1, h2⟩ := q.mut
  rw [e] at h1
  cases h1
  exact h2
/-- something new that is not told in the memory -/
theorem ext_new {p : Addr} {o : HO} (h : H p = none) : Gro i H i (upd H p o) :=
  ⟨⟨[], by simp⟩, fun _ h => .inl h, fun a u e _ => by rw [upd_ne (ne_of_none e h)]; exact e, fun a u e => by rw [upd_ne (ne_of_none e h)]; exact e, fun a o u e => by rw [upd_ne (ne_of_none e h)]; exact e⟩
theorem MemR.ne (h : MemR K C i M H) {p : Addr} (hp : H p = none) : p ∉ i := fun ha => by
  obtain ⟨n, o, _, _, q⟩ := h.there ha
  obtain ⟨u, h1, h2⟩ := q.mut
  rw [hp] at h1
  cases h1
theorem MemR.keep (h : MemR K C i M H) (e : Gro i H i H') (k : ∀ a u, a ∈ i → H a = some u → H' a = some u) : MemR K C i M H' :=
  ⟨h.len, h.nd, fun n o a h1 h2 => (h.ob n o a h1 h2).mono e fun u => k a u (List.mem_of_getElem? h2)⟩
theorem MemR.new (h : MemR K C i M H) {p : Addr} {o : HO} (hp : H p = none) : MemR K C i M (upd H p o) :=
  h.keep (ext_new hp) fun a u _ e => by rw [upd_ne (ne_of_none e hp)]; exact e
/-- a new object, told -/
theorem ext_laid {p : Addr} {o : HO} (h : H p = none) : Gro i H (i ++ [p]) (upd H p o) :=
  ⟨⟨[p], rfl⟩, fun a ha => by
    rcases List.mem_append.mp ha with z | z
    · exact .inl z
    · have : a = p := by simpa using z
      subst this
      exact .inr h, fun a u e _ => by rw [upd_ne (ne_of_none e h)]; exact e, fun a u e => by rw [upd_ne (ne_of_none e h)]; exact e, fun a o u e => by rw [upd_ne (ne_of_none e h)]; exact e⟩
theorem MemR.laid (h : MemR K C i M H) {p : Addr} {o : HO} {ob : Ob} (hp : H p = none) (r : ObR K C (i ++ [p]) (upd H p o) p ob) : MemR K C (i ++ [p]) (M ++ [ob]) (upd H p o) := by
  refine ⟨by simp [h.len], ?_, fun n o' a h1 h2 => ?_⟩
  · rw [List.nodup_append]
    refine ⟨h.nd, by simp, fun a ha b hb => ?_⟩
    have : b = p := by simpa using hb
    subst this
    intro e
    subst e
    exact h.ne hp ha
  · by_cases hn : n < M.length
    · rw [List.getElem?_append_left hn] at h1
      rw [List.getElem?_append_left (by rw [h.len]; exact hn)] at h2
      exact (h.ob n o' a h1 h2).mono (ext_laid hp) fun u e => by rw [upd_ne (ne_of_none e hp)]; exact e
    · have e1 : n = M.length := by
        have := (List.getElem?_eq_some_iff.mp h1).1
        simp at this
        omega
      subst e1
      rw [List.getElem?_append_right (Nat.le_refl _), Nat.sub_self] at h1
      rw [List.getElem?_append_right (by rw [h.len]; exact Nat.le_refl _), h.len, Nat.sub_self] at h2
      have e2 : ob = o' := Option.some.inj h1
      have e3 : p = a := Option.some.inj h2
      subst e2 e3
      exact r
/-- an object written -/
theorem ext_write (h : MemR K C i M H) {n : Nat} {a : Addr} {o : HO} (ha : i[n]? = some a) : Gro i H i (upd H a o) := by
  have hm : a ∈ i := List.mem_of_getElem? ha
  refine ⟨⟨[], by simp⟩, fun _ h => .inl h, fun b u e hb => ?_, fun b xs e => ?_, fun b ob u e => ?_⟩
  · rw [upd_ne fun z => hb (by rw [z]; exact hm)]
    exact e
  · rw [upd_ne fun z => h.not_tup e (by rw [z]; exact hm)]
    exact e
  · rw [upd_ne fun z => h.not_frz e (by rw [z]; exact hm)]
    exact e
theorem MemR.write (h : MemR K C i M H) {n : Nat} {a : Addr} {o : HO} {ob : Ob} (ha : i[n]? = some a) (r : ObR K C i (upd H a o) a ob) : MemR K C i (M.set n ob) (upd H a o) := by
  refine ⟨by simp [h.len], h.nd, fun m o' b h1 h2 => ?_⟩
  by_cases e : n = m
  · subst e
    have hl : n < M.length := by rw [← h.len]; exact (List.getElem?_eq_some_iff.mp ha).1
    rw [List.getElem?_set_self hl] at h1
    have e1 : ob = o' := Option.some.inj h1
    have e2 : a = b := Option.some.inj (ha.symm.trans h2)
    subst e1 e2
    exact r
  · rw [List.getElem?_set_ne e] at h1
    have hb : b ≠ a := fun z => by
      subst z
      exact e (nd_ix h.nd ha h2)
    exact (h.ob m o' b h1 h2).mono (ext_write h ha) fun u q => by rw [upd_ne hb]; exact q
end
end BL
/-! BLRule: the machine's steps are the layer's. -/
namespace BL
open PySem L2

section
variable (K : PySem.W.Frag) (mg : Str → Option Value) (C : Addr) (W : WX)
/-- how an end is met: the value b is told by a -/
def EndG {α β : Type} (R : List Addr → Hp → α → β → Prop) (i : List Addr) (H : Hp) (σ : L2.St) (Q : β → Hp → Prop) : Rz α → Prop
  | .ok a M' => ∀ i' H' b, Gro i H i' H' → MemR K C i' M' H' → R i' H' a b → Q b H'
  | .ex c M' => ∀ i' H' cc, mg c = some (.ref cc) → Gro i H i' H' → MemR K C i' M' H' → W (.ref cc) none σ H'
def SndG {α β : Type} (R : List Addr → Hp → α → β → Prop) (t : L2.St → Hp → (β → Hp → Prop) → Prop) (g : Loc → Mem → Option (Rz α)) : Prop :=
  ∀ i L M σ H r Q, MemR K C i M H → LocR K i H L σ → g L M = some r → EndG K mg C W R i H σ Q r → t σ H Q
/-- what the value is, what the truth is -/
abbrev RB : List Addr → Hp → Bool → Bool → Prop := fun _ _ b c => c = b
def EndS (i : List Addr) (H : Hp) (D : Ends) : Fl × Mem → Prop
  | (.nx L', M') => ∀ i' H' σ', Gro i H i' H' → MemR K C i' M' H' → LocR K i' H' L' σ' → D.nx σ' H'
  | (.bk L', M') => ∀ i' H' σ', Gro i H i' H' → MemR K C i' M' H' → LocR K i' H' L' σ' → D.bk σ' H'
  | (.ct L', M') => ∀ i' H' σ', Gro i H i' H' → MemR K C i' M' H' → LocR K i' H' L' σ' → D.ct σ' H'
  | (.rt d, M') => ∀ i' H' v, Gro i H i' H' → MemR K C i' M' H' → DV K i' H' d v → D.rt v H'
  | (.ex c L', M') => ∀ i' H' σ' cc, mg c = some (.ref cc) → Gro i H i' H' → MemR K C i' M' H' → LocR K i' H' L' σ' → W (.ref cc) none σ' H'
def SndS (t : TS) (g : GS) : Prop := ∀ i L M σ H D r, MemR K C i M H → LocR K i H L σ → g L M = some r → EndS K mg C W i H D r → t D σ H
/-- what is walked -/
def JR (i0 : List Addr) (H0 : Hp) (s : Src) (J : It) : Prop := ∀ i H M (n : Nat), Gro i0 H0 i H → MemR K C i M H → s.ok M →
  (∀ d, s.items[n]? = some d → J.go n H ∧ ∀ x H', J.yld n H x H' → Gro i H i H' ∧ MemR K C i M H' ∧ DV K i H' d x) ∧ (s.items.length ≤ n → J.stop n H)
def SndT (tg : TG) (g : GG) : Prop := ∀ i L M σ H d v L1 Q, MemR K C i M H → LocR K i H L σ → DV K i H d v → g d L = some L1 →
  (∀ i' H' σ1, Gro i H i' H' → MemR K C i' M H' → LocR K i' H' L1 σ1 → Q σ1 H') → tg v σ H Q
/-- a target within a comprehension, whose own slots are vs -/
def SndC (vs : List Nat) (tg : TG) (g : GG) : Prop := ∀ i L M σ H d v L1 Q, MemR K C i M H → LocR K i H (wipeL L vs) (wipe σ vs) → DV K i H d v → g d (wipeL L vs) = some L1 →
  (∀ i' H' σ1, Gro i H i' H' → MemR K C i' M H' → LocR K i' H' L1 σ1 → wipe σ1 vs = wipe σ vs → Q σ1 H') → tg v (wipe σ vs) H Q
end
section
variable (X : Cx) (C : Addr) (W : WX)
structure SE (e : Expr) (g : GE) : Prop where
  ex : ∃ t, PE X e t ∧ SndG X.K X.mg C W (DV X.K) t g
structure ST (e : Expr) (g : GT) : Prop where
  ex : ∃ t, PT X e t ∧ SndG X.K X.mg C W RB t g
structure SW (e : Expr) (g : GT) : Prop where
  ex : ∃ t, PW X e t ∧ SndG X.K X.mg C W RB t g
structure SA (es : List Expr) (g : GA) : Prop where
  ex : ∃ t, PA X es t ∧ SndG X.K X.mg C W (DLs X.K) t g
structure SI (tg iter : Expr) (g : GI) : Prop where
  ex : ∃ t, PI X tg iter t ∧ SndG X.K X.mg C W (JR X.K C) t g
structure SS (st : Stmt) (g : GS) : Prop where
  ex : ∃ t, PS X st t ∧ SndS X.K X.mg C W t g
structure SSs (st : List Stmt) (g : GS) : Prop where
  ex : ∃ t, PSs X st t ∧ SndS X.K X.mg C W t g
structure STg (tg : Expr) (g : GG) : Prop where
  ex : ∃ t, PG X tg t ∧ SndT X.K C t g
end

section
variable {K : PySem.W.Frag} {mg : Str → Option Value} {C : Addr} {W : WX}
theorem EndG.go {α β : Type} {R : List Addr → Hp → α → β → Prop} {i i' : List Addr} {H H' : Hp} {σ : L2.St} {Q : β → Hp → Prop} {r : Rz α} (e : Gro i H i' H') (h : EndG K mg C W R i H σ Q r) : EndG K mg C W R i' H' σ Q r := by
  cases r with
  | ok a M => exact fun j G b g m r => h j G b (e.trans g) m r
  | ex c M => exact fun j G cc q g m => h j G cc q (e.trans g) m
theorem EndS.go {i i' : List Addr} {H H' : Hp} {D : Ends} {r : Fl × Mem} (e : Gro i H i' H') (h : EndS K mg C W i H D r) : EndS K mg C W i' H' D r := by
  obtain ⟨f, M⟩ := r
  cases f with
  | nx L => exact fun j G b g m r => h j G b (e.trans g) m r
  | bk L => exact fun j G b g m r => h j G b (e.trans g) m r
  | ct L => exact fun j G b g m r => h j G b (e.trans g) m r
  | rt L => exact fun j G b g m r => h j G b (e.trans g) m r
  | ex c L => exact fun j G b cc q g m r => h j G b cc q (e.trans g) m r
/-- one after another -/
theorem SndG.step {α β γ δ : Type} {R : List Addr → Hp → α → β → Prop} {R2 : List Addr → Hp → γ → δ → Prop} {t : L2.St → Hp → (β → Hp → Prop) → Prop} {g : Loc → Mem → Option (Rz α)} (h : SndG K mg C W R t g)
    {i : List Addr} {L : Loc} {M : Mem} {σ : L2.St} {H : Hp} {r : Rz γ} {Q : δ → Hp → Prop} {f : α → Mem → Option (Rz γ)} {P : β → Hp → Prop} (m : MemR K C i M H) (l : LocR K i H L σ) (e : bnd (g L M) f = some r) (q : EndG K mg C W R2 i H σ Q r)
    (k : ∀ a M1 i' H' b, Gro i H i' H' → MemR K C i' M1 H' → LocR K i' H' L σ → R i' H' a b → f a M1 = some r → EndG K mg C W R2 i' H' σ Q r → P b H') : t σ H P := by
  rcases bnd_some e with ⟨a, M1, e1, e2⟩ | ⟨c, M1, e1, rfl⟩
  · exact h i L M σ H _ _ m l e1 fun i' H' b g m' rb => k a M1 i' H' b g m' (l.mono g) rb e2 (q.go g)
  · exact h i L M σ H _ _ m l e1 q
/-- a statement behind an expression -/
theorem SndG.stepS {α β : Type} {R : List Addr → Hp → α → β → Prop} {t : L2.St → Hp → (β → Hp → Prop) → Prop} {g : Loc → Mem → Option (Rz α)} (h : SndG K mg C W R t g)
    {i : List Addr} {L : Loc} {M : Mem} {σ : L2.St} {H : Hp} {r : Fl × Mem} {D : Ends} {f : α → Mem → Option (Fl × Mem)} {P : β → Hp → Prop} (m : MemR K C i M H) (l : LocR K i H L σ) (e : bndS L (g L M) f = some r) (q : EndS K mg C W i H D r)
    (k : ∀ a M1 i' H' b, Gro i H i' H' → MemR K C i' M1 H' → LocR K i' H' L σ → R i' H' a b → f a M1 = some r → EndS K mg C W i' H' D r → P b H') : t σ H P := by
  rcases bndS_some e with ⟨a, M1, e1, e2⟩ | ⟨c, M1, e1, rfl⟩
  · exact h i L M σ H _ _ m l e1 fun i' H' b g m' rb => k a M1 i' H' b g m' (l.mono g) rb e2 (q.go g)
  · exact h i L M σ H _ _ m l e1 fun i' H' cc hc g m' => q i' H' σ cc hc g m' (l.mono g)
end

/-! ### operations by values -/
section
variable (K : PySem.W.Frag) (C : Addr)
def rO (op : Op2) : R2 := fun x y H Q => ∃ i M dx dy d M', MemR K C i M H ∧ DV K i H dx x ∧ DV K i H dy y ∧ op dx dy M = some (d, M') ∧ ∀ i' H' z, Gro i H i' H' → MemR K C i' M' H' → DV K i' H' d z → Q z H'
def rO1 (op : Op1) : V → Hp → VK → Prop := fun x H Q => ∃ i M dx d M', MemR K C i M H ∧ DV K i H dx x ∧ op dx M = some (d, M') ∧ ∀ i' H' z, Gro i H i' H' → MemR K C i' M' H' → DV K i' H' d z → Q z H'
def rON (op : OpN) : List V → Hp → VK → Prop := fun xs H Q => ∃ i M ds d M', MemR K C i M H ∧ DLs K i H ds xs ∧ op ds M = some (d, M') ∧ ∀ i' H' z, Gro i H i' H' → MemR K C i' M' H' → DV K i' H' d z → Q z H'
def rOM (op : OpM) : V → List V → Hp → VK → Prop := fun x xs H Q => ∃ i M dx ds d M', MemR K C i M H ∧ DV K i H dx x ∧ DLs K i H ds xs ∧ op dx ds M = some (d, M') ∧ ∀ i' H' z, Gro i H i' H' → MemR K C i' M' H' → DV K i' H' d z → Q z H'
end
section
variable {K : PySem.W.Frag} {mg : Str → Option Value} {C : Addr} {W : WX}
theorem snd_ret {i : List Addr} {H : Hp} {σ : L2.St} {Q : VK} {o : Option (D × Mem)} {r : Rz D} (e : ret o = some r) (q : EndG K mg C W (DV K) i H σ Q r) : ∃ d M', o = some (d, M') ∧ ∀ i' H' z, Gro i H i' H' → MemR K C i' M' H' → DV K i' H' d z → Q z H' := by
  obtain ⟨d, M', e1, rfl⟩ := ret_eq e
  exact ⟨d, M', e1, q⟩
end

section
variable {X : Cx} {C : Addr} {W : WX} {a b c : Expr} {ga gb gc : GE} {pos : Pos}
theorem se_var {n : Nat} {e : Expr} (h : PE X e (tVar n)) : SE X C W e (mVar n) := ⟨_, h, fun i L M σ H r Q m l e q => by
  unfold mVar at e
  split at e
  · rename_i d hd
    cases e
    obtain ⟨v, h1, h2⟩ := l.at_ n d hd
    exact ⟨v, h1, q i H v Gro.refl m h2⟩
  · cases e⟩
theorem se_const {e : Expr} {d : D} {v : V} (h : PE X e (tC v)) (r : ∀ i H, DV X.K i H d v) : SE X C W e (mC d) := ⟨_, h, fun i L M σ H r' Q m l e q => by
  cases e
  exact q i H v Gro.refl m (r i H)⟩
theorem se_int {k : Int} {j pos} : SE X C W (.Constant (.int k) j pos) (mC (.int k)) := se_const pe_int fun _ _ => by simp only [DV]
theorem se_bl {k : Bool} {j pos} : SE X C W (.Constant (.bool k) j pos) (mC (.bl k)) := se_const pe_bl fun _ _ => by simp only [DV]
theorem se_str {k : Str} {j pos} : SE X C W (.Constant (.str k) j pos) (mC (.str k)) := se_const pe_str fun _ _ => by simp only [DV]
theorem se_non {j pos} : SE X C W (.Constant .none j pos) (mC .non) := se_const pe_non fun _ _ => by simp only [DV]
theorem se_bin {op : Operator} {f : Op2} (ho : OpR X (binaryOp op) (rO X.K C f)) (ha : SE X C W a ga) (hb : SE X C W b gb) : SE X C W (.BinOp a op b pos) (mBin f ga gb) := by
  obtain ⟨ta, pa, sa⟩ := ha.ex
  obtain ⟨tb, pb, sb⟩ := hb.ex
  refine ⟨_, pe_op ho pa pb, fun i L M σ H r Q m l e q => ?_⟩
  refine sa.step m l e q fun dx M1 i1 H1 x g1 m1 l1 rx e1 q1 => ?_
  refine sb.step m1 l1 e1 q1 fun dy M2 i2 H2 y g2 m2 l2 ry e2 q2 => ?_
  obtain ⟨d, M', h1, h2⟩ := snd_ret e2 q2
  exact ⟨i2, M2, dx, dy, d, M', m2, rx.mono g2, ry, h1, h2⟩
theorem se_un {op : UnaryOp} {f : Op1} (ho : UnR X (unaryOp op) (rO1 X.K C f)) (ha : SE X C W a ga) : SE X C W (.UnaryOp op a pos) (mUn f ga) := by
  obtain ⟨ta, pa, sa⟩ := ha.ex
  refine ⟨_, pe_un ho pa, fun i L M σ H r Q m l e q => ?_⟩
  refine sa.step m l e q fun dx M1 i1 H1 x g1 m1 l1 rx e1 q1 => ?_
  obtain ⟨d, M', h1, h2⟩ := snd_ret e1 q1
  exact ⟨i1, M1, dx, d, M', m1, rx, h1, h2⟩
/-- behind two operands: the operation, then what follows -/
theorem snd_bin2 {ta tb : TE} {f : Op2} (sa : SndG X.K X.mg C W (DV X.K) ta ga) (sb : SndG X.K X.mg C W (DV X.K) tb gb) : SndG X.K X.mg C W (DV X.K) (tOp (rO X.K C f) ta tb) (mBin f ga gb) := fun i L M σ H r Q m l e q => by
  refine sa.step m l e q fun dx M1 i1 H1 x g1 m1 l1 rx e1 q1 => ?_
  refine sb.step m1 l1 e1 q1 fun dy M2 i2 H2 y g2 m2 l2 ry e2 q2 => ?_
  obtain ⟨d, M', h1, h2⟩ := snd_ret e2 q2
  exact ⟨i2, M2, dx, dy, d, M', m2, rx.mono g2, ry, h1, h2⟩
theorem se_cmp {op : CmpOp} {f : Op2} (ho : OpR X (compareOp op) (rO X.K C f)) (ha : SE X C W a ga) (hb : SE X C W b gb) (hm : behindInMarks op b = false) : SE X C W (.Compare a [op] [b] pos) (mBin f ga gb) := by
  obtain ⟨ta, pa, sa⟩ := ha.ex
  obtain ⟨tb, pb, sb⟩ := hb.ex
  exact ⟨_, pe_cmpR ho pa pb hm, snd_bin2 sa sb⟩
/-- a value that is a truth, as a test -/
theorem snd_test {t : TE} (h : SndG X.K X.mg C W (DV X.K) t ga) : SndG X.K X.mg C W RB (fun σ H Q => t σ H fun x H1 => ∃ k, x = .bl k ∧ Q k H1) (mT ga) := fun i L M σ H r Q m l e q => by
  refine h.step m l e q fun dx M1 i1 H1 x g1 m1 l1 rx e1 q1 => ?_
  cases dx <;> first
    | cases e1
      done
    | skip
  rename_i b
  cases e1
  simp only [DV] at rx
  exact ⟨b, rx, q1 i1 H1 b Gro.refl m1 rfl⟩
theorem st_cmp {op : CmpOp} {f : Op2} (ho : OpR X (compareOp op) (rO X.K C f)) (ha : SE X C W a ga) (hb : SE X C W b gb) (hm : behindInMarks op b = false) : ST X C W (.Compare a [op] [b] pos) (mT (mBin f ga gb)) := by
  obtain ⟨ta, pa, sa⟩ := ha.ex
  obtain ⟨tb, pb, sb⟩ := hb.ex
  exact ⟨_, pt_cmpR ho pa pb hm, snd_test (snd_bin2 sa sb)⟩
theorem snd_chain {ta tb tc : TE} {f f2 : Op2} (sa : SndG X.K X.mg C W (DV X.K) ta ga) (sb : SndG X.K X.mg C W (DV X.K) tb gb) (sc : SndG X.K X.mg C W (DV X.K) tc gc) :
    SndG X.K X.mg C W (DV X.K) (tChain (rO X.K C f) (rO X.K C f2) ta tb tc) (mChain f f2 ga gb gc) := fun i L M σ H r Q m l e q => by
  refine sa.step m l e q fun dx M1 i1 H1 x g1 m1 l1 rx e1 q1 => ?_
  refine sb.step m1 l1 e1 q1 fun dy M2 i2 H2 y g2 m2 l2 ry e2 q2 => ?_
  rcases bnd_some e2 with ⟨d, M3, e3, e4⟩ | ⟨c, M3, e3, rfl⟩
  · obtain ⟨d', M', h1, h2⟩ := ret_eq e3
    cases h2
    refine ⟨i2, M2, dx, dy, _, _, m2, rx.mono g2, ry, h1, fun i3 H3 z g3 m3 rz => ?_⟩
    have l3 := l2.mono g3
    have q3 := q2.go g3
    cases d <;> first
      | cases e4
        done
      | skip
    rename_i b
    cases b with
    | true =>
      simp only [DV] at rz
      refine ⟨true, rz, ?_⟩
      refine sc.step m3 l3 e4 q3 fun dw M4 i4 H4 w g4 m4 l4 rw' e5 q5 => ?_
      obtain ⟨d, M', k1, k2⟩ := snd_ret e5 q5
      exact ⟨i4, M4, dy, dw, d, M', m4, (ry.mono g3).mono g4, rw', k1, k2⟩
    | false =>
      simp only [DV] at rz
      refine ⟨false, rz, ?_⟩
      cases e4
      exact q3 i3 H3 _ Gro.refl m3 (by simp only [DV])
  · obtain ⟨_, _, _, h2⟩ := ret_eq e3
    cases h2
theorem se_chain {op op' : CmpOp} {f f2 : Op2} (ho : OpR X (compareOp op) (rO X.K C f)) (ho' : OpR X (compareOp op') (rO X.K C f2)) (ha : SE X C W a ga) (hb : SE X C W b gb) (hc : SE X C W c gc)
    (hm : lastMarks [op, op'] [b, c] = false := by with_unfolding_all rfl) : SE X C W (.Compare a [op, op'] [b, c] pos) (mChain f f2 ga gb gc) := by
  obtain ⟨ta, pa, sa⟩ := ha.ex
  obtain ⟨tb, pb, sb⟩ := hb.ex
  obtain ⟨tc, pc, sc⟩ := hc.ex
  exact ⟨_, pe_chain ho ho' pa pb pc hm, snd_chain sa sb sc⟩
theorem st_chain {op op' : CmpOp} {f f2 : Op2} (ho : OpR X (compareOp op) (rO X.K C f)) (ho' : OpR X (compareOp op') (rO X.K C f2)) (ha : SE X C W a ga) (hb : SE X C W b gb) (hc : SE X C W c gc)
    (hm : lastMarks [op, op'] [b, c] = false := by with_unfolding_all rfl) : ST X C W (.Compare a [op, op'] [b, c] pos) (mT (mChain f f2 ga gb gc)) := by
  obtain ⟨ta, pa, sa⟩ := ha.ex
  obtain ⟨tb, pb, sb⟩ := hb.ex
  obtain ⟨tc, pc, sc⟩ := hc.ex
  exact ⟨_, pt_chain ho ho' pa pb pc hm, snd_test (snd_chain sa sb sc)⟩
theorem st_val (ha : SE X C W a ga) (he : ∀ whole, isTrue a X.env whole = (do let v ← whole; standAt a.pos; holding [v] (truthy v)) := by intro _; rfl) : ST X C W a (mT ga) := by
  obtain ⟨ta, pa, sa⟩ := ha.ex
  exact ⟨_, pt_val pa he, snd_test sa⟩
variable {ta tb : GT} {rest : List Expr}
theorem snd_and {t u : TT} (sa : SndG X.K X.mg C W RB t ta) (sb : SndG X.K X.mg C W RB u tb) : SndG X.K X.mg C W RB (tAnd t u) (mAnd ta tb) := fun i L M σ H r Q m l e q => by
  refine sa.step m l e q fun b M1 i1 H1 x g1 m1 l1 rx e1 q1 => ?_
  cases rx
  cases b with
  | true => exact sb i1 L M1 σ H1 r _ m1 l1 e1 q1
  | false =>
    cases e1
    exact q1 i1 H1 false Gro.refl m1 rfl
theorem snd_or {t u : TT} (sa : SndG X.K X.mg C W RB t ta) (sb : SndG X.K X.mg C W RB u tb) : SndG X.K X.mg C W RB (tOr t u) (mOr ta tb) := fun i L M σ H r Q m l e q => by
  refine sa.step m l e q fun b M1 i1 H1 x g1 m1 l1 rx e1 q1 => ?_
  cases rx
  cases b with
  | false => exact sb i1 L M1 σ H1 r _ m1 l1 e1 q1
  | true =>
    cases e1
    exact q1 i1 H1 true Gro.refl m1 rfl
theorem sw_and1 (ha : ST X C W a ta) : SW X C W (.BoolOp .And [a] pos) ta := by
  obtain ⟨t, p, s⟩ := ha.ex
  exact ⟨_, pw_and1 p, s⟩
theorem sw_or1 (ha : ST X C W a ta) : SW X C W (.BoolOp .Or [a] pos) ta := by
  obtain ⟨t, p, s⟩ := ha.ex
  exact ⟨_, pw_or1 p, s⟩
theorem sw_and (ha : ST X C W a ta) (hb : SW X C W (.BoolOp .And (b :: rest) pos) tb) : SW X C W (.BoolOp .And (a :: b :: rest) pos) (mAnd ta tb) := by
  obtain ⟨t, p, s⟩ := ha.ex
  obtain ⟨u, p2, s2⟩ := hb.ex
  exact ⟨_, pw_and p p2, snd_and s s2⟩
theorem sw_or (ha : ST X C W a ta) (hb : SW X C W (.BoolOp .Or (b :: rest) pos) tb) : SW X C W (.BoolOp .Or (a :: b :: rest) pos) (mOr ta tb) := by
  obtain ⟨t, p, s⟩ := ha.ex
  obtain ⟨u, p2, s2⟩ := hb.ex
  exact ⟨_, pw_or p p2, snd_or s s2⟩
theorem SW.st (h : SW X C W a ta) : ST X C W a ta := by
  obtain ⟨t, p, s⟩ := h.ex
  exact ⟨_, p.pt, s⟩
theorem st_not (ha : ST X C W a ta) : ST X C W (.UnaryOp .Not a pos) (mNot ta) := by
  obtain ⟨t, p, s⟩ := ha.ex
  refine ⟨_, pt_not p, fun i L M σ H r Q m l e q => ?_⟩
  refine s.step m l e q fun b M1 i1 H1 x g1 m1 l1 rx e1 q1 => ?_
  cases rx
  cases e1
  exact q1 i1 H1 _ Gro.refl m1 rfl
theorem se_one {op} (ha : SE X C W a ga) : SE X C W (.BoolOp op [a] pos) ga := by
  obtain ⟨t, p, s⟩ := ha.ex
  exact ⟨_, pe_one p, s⟩
theorem se_and (ha : SE X C W a ga) (hb : SE X C W (.BoolOp .And (b :: rest) pos) gb) : SE X C W (.BoolOp .And (a :: b :: rest) pos) (mAndV ga gb) := by
  obtain ⟨t, p, s⟩ := ha.ex
  obtain ⟨u, p2, s2⟩ := hb.ex
  refine ⟨_, pe_and p p2, fun i L M σ H r Q m l e q => ?_⟩
  refine s.step m l e q fun dx M1 i1 H1 x g1 m1 l1 rx e1 q1 => ?_
  cases dx <;> first
    | cases e1
      done
    | skip
  rename_i b
  simp only [DV] at rx
  refine ⟨b, rx, ?_⟩
  cases b with
  | true => exact s2 i1 L M1 σ H1 r _ m1 l1 e1 q1
  | false =>
    cases e1
    exact q1 i1 H1 _ Gro.refl m1 (by simp only [DV])
theorem se_or (ha : SE X C W a ga) (hb : SE X C W (.BoolOp .Or (b :: rest) pos) gb) : SE X C W (.BoolOp .Or (a :: b :: rest) pos) (mOrV ga gb) := by
  obtain ⟨t, p, s⟩ := ha.ex
  obtain ⟨u, p2, s2⟩ := hb.ex
  refine ⟨_, pe_or p p2, fun i L M σ H r Q m l e q => ?_⟩
  refine s.step m l e q fun dx M1 i1 H1 x g1 m1 l1 rx e1 q1 => ?_
  cases dx <;> first
    | cases e1
      done
    | skip
  rename_i b
  simp only [DV] at rx
  refine ⟨b, rx, ?_⟩
  cases b with
  | false => exact s2 i1 L M1 σ H1 r _ m1 l1 e1 q1
  | true =>
    cases e1
    exact q1 i1 H1 _ Gro.refl m1 (by simp only [DV])
theorem se_not (ha : SE X C W a ga) : SE X C W (.UnaryOp .Not a pos) (mNotV ga) := by
  obtain ⟨t, p, s⟩ := ha.ex
  refine ⟨_, pe_not p, fun i L M σ H r Q m l e q => ?_⟩
  refine s.step m l e q fun dx M1 i1 H1 x g1 m1 l1 rx e1 q1 => ?_
  cases dx <;> first
    | cases e1
      done
    | skip
  rename_i b
  simp only [DV] at rx
  refine ⟨b, rx, ?_⟩
  cases e1
  exact q1 i1 H1 _ Gro.refl m1 (by simp only [DV])
theorem se_if (hc : ST X C W c ta) (ha : SE X C W a ga) (hb : SE X C W b gb) : SE X C W (.IfExp c a b pos) (mIf ta ga gb) := by
  obtain ⟨t, p, s⟩ := hc.ex
  obtain ⟨u, p2, s2⟩ := ha.ex
  obtain ⟨v, p3, s3⟩ := hb.ex
  refine ⟨_, pe_ifExp p p2 p3, fun i L M σ H r Q m l e q => ?_⟩
  refine s.step m l e q fun b M1 i1 H1 x g1 m1 l1 rx e1 q1 => ?_
  cases rx
  cases b with
  | true => exact s2 i1 L M1 σ H1 r _ m1 l1 e1 q1
  | false => exact s3 i1 L M1 σ H1 r _ m1 l1 e1 q1
/-! ### arguments, calls -/
variable {es : List Expr} {gs : GA} {e : Expr}
theorem sa_nil : SA X C W [] mNil := ⟨_, pa_nil, fun i L M σ H r Q m l e q => by
  cases e
  exact q i H [] Gro.refl m (by simp only [DLs])⟩
theorem sa_cons (ha : SE X C W e ga) (hr : SA X C W es gs) (hs : starEach (e :: es) X.env = (false, eval e X.env) :: starEach es X.env := by rfl) : SA X C W (e :: es) (mCons ga gs) := by
  obtain ⟨t, p, s⟩ := ha.ex
  obtain ⟨u, p2, s2⟩ := hr.ex
  refine ⟨_, pa_cons p p2 hs, fun i L M σ H r Q m l e q => ?_⟩
  refine s.step m l e q fun dx M1 i1 H1 x g1 m1 l1 rx e1 q1 => ?_
  refine s2.step m1 l1 e1 q1 fun ds M2 i2 H2 xs g2 m2 l2 rs e2 q2 => ?_
  cases e2
  refine q2 i2 H2 _ Gro.refl m2 ?_
  simp only [DLs]
  exact ⟨x, xs, rfl, rx.mono g2, rs⟩
/-- a built-in -/
theorem snd_cb {t : TA} {f : OpN} (s : SndG X.K X.mg C W (DLs X.K) t gs) : SndG X.K X.mg C W (DV X.K) (tCB (rON X.K C f) t) (mCB f gs) := fun i L M σ H r Q m l e q => by
  refine s.step m l e q fun ds M1 i1 H1 xs g1 m1 l1 rs e1 q1 => ?_
  obtain ⟨d, M', h1, h2⟩ := snd_ret e1 q1
  exact ⟨i1, M1, ds, d, M', m1, rs, h1, h2⟩
variable {x : Str} {p apos : Pos} {id : String}
theorem se_cb {f : OpN} (hc : CallR X (.builtin id) (rON X.K C f)) (hg : Gl X x) (hm : X.mg x = none) (hv : bootBuiltins x = some (.builtin id)) (ha : SA X C W (e :: es) gs) (hn : x ≠ "__name__" := by decide) (hdb : (x == ("__debug__" : Str)) = false := by decide)
    (hs : starEach (e :: es) X.env = (false, eval e X.env) :: starEach es X.env := by rfl) (hpl : (backTo pos (starEach es X.env)).any (·.1) = false := by rfl) : SE X C W (.Call (.Name x p) (e :: es) [] pos) (mCB f gs) := by
  obtain ⟨t, p, s⟩ := ha.ex
  exact ⟨_, pe_callB hc hg hm hv p hn hdb hs hpl, snd_cb s⟩
theorem se_cty {f : OpN} {T : String} (hc : CallR X (.type T) (rON X.K C f)) (hg : Gl X x) (hm : X.mg x = none) (hv : bootBuiltins x = some (.type T)) (ha : SA X C W (e :: es) gs) (hn : x ≠ "__name__" := by decide) (hdb : (x == ("__debug__" : Str)) = false := by decide)
    (hs : starEach (e :: es) X.env = (false, eval e X.env) :: starEach es X.env := by rfl) (hpl : (backTo pos (starEach es X.env)).any (·.1) = false := by rfl) : SE X C W (.Call (.Name x p) (e :: es) [] pos) (mCB f gs) := by
  obtain ⟨t, p, s⟩ := ha.ex
  exact ⟨_, pe_callTy hc hg hm hv p hn hdb hs hpl, snd_cb s⟩
/-! ### displays -/
theorem DLs.length {K : PySem.W.Frag} {i : List Addr} {H : Hp} : ∀ {ds : List D} {vs : List V}, DLs K i H ds vs → ds.length = vs.length
  | [], vs, h => by
    simp only [DLs] at h
    subst h
    rfl
  | d :: ds, vs, h => by
    simp only [DLs] at h
    obtain ⟨v, r, h1, h2, h3⟩ := h
    subst h1
    rw [List.length_cons, List.length_cons, h3.length]
theorem se_tup {k} (ha : SA X C W es gs) : SE X C W (.Tuple es k pos) (mTup gs) := by
  obtain ⟨t, p, s⟩ := ha.ex
  refine ⟨_, pe_tup p, fun i L M σ H r Q m l e q => ?_⟩
  refine s.step m l e q fun ds M1 i1 H1 xs g1 m1 l1 rs e1 q1 => ?_
  unfold oTup at e1
  split at e1
  · rename_i hl
    cases e1
    refine ⟨by rw [← rs.length]; exact Nat.le_of_lt (small1000 hl), fun p hp => ?_⟩
    refine q1 i1 _ _ (ext_new hp) (m1.new hp) ?_
    simp only [DV]
    exact ⟨p, xs, rfl, .inl upd_same, rs.mono (ext_new hp)⟩
  · cases e1
theorem se_lst (ha : SA X C W es gs) : SE X C W (.List es pos) (mLst gs) := by
  obtain ⟨t, p, s⟩ := ha.ex
  refine ⟨_, pe_lst p, fun i L M σ H r Q m l e q => ?_⟩
  refine s.step m l e q fun ds M1 i1 H1 xs g1 m1 l1 rs e1 q1 => ?_
  unfold oLst at e1
  split at e1
  · rename_i hl
    cases e1
    refine ⟨by rw [← rs.length]; exact Nat.le_of_lt (small1000 hl), fun p hp => ?_⟩
    refine q1 _ _ _ (ext_laid hp) (m1.laid hp ⟨xs, upd_same, rs.mono (ext_laid hp)⟩) ?_
    simp only [DV]
    exact ⟨p, by rw [← m1.len, List.getElem?_append_right (Nat.le_refl _), Nat.sub_self]; rfl, rfl⟩
  · cases e1
theorem se_dnew : SE X C W (.Dict [] [] pos) mDnew := ⟨_, pe_dnewK, fun i L M σ H r Q m l e q => by
  cases e
  intro p hp
  refine q _ _ _ (ext_laid hp) (m.laid hp ⟨[], upd_same, by simp only [DKs]⟩) ?_
  simp only [DV]
  exact ⟨p, by rw [← m.len, List.getElem?_append_right (Nat.le_refl _), Nat.sub_self]; rfl, rfl⟩⟩
end
end BL
/-! BLStmt: calls, statements, loops, comprehensions, defs. -/
namespace BL
open PySem L2

/-! ### a def's promise by its machine -/
def spG (K : PySem.W.Frag) (mg : Str → Option Value) (C : Addr) (g : Fn) : Sp := fun vs H Q E =>
  ∃ i M ds r, MemR K C i M H ∧ DLs K i H ds vs ∧ g ds M = some r ∧ EndG K mg C (fun c d _ H' => E c d H') (DV K) i H [] Q r
theorem mDef_len {k n : Nat} {body : GS} {ds : List D} {M : Mem} {r : Rz D} (h : mDef k n body ds M = some r) : ds.length = k := by
  unfold mDef at h
  split at h
  · assumption
  · cases h
section
variable {X : Cx} {C : Addr} {W : WX} {e o : Expr} {es : List Expr} {go : GE} {gs : GA} {x m : Str} {p pos apos : Pos} {k : Nat} {f : Addr} {fd : FuncData} {ps : List Str} {g : Fn}
/-- what a callee may let out, here -/
abbrev Lets (X : Cx) (W : WX) : Prop := ∀ σ, PassesAt (L2.CX X.prog X.w) X σ (WE W σ)
theorem EndG.call {i i' : List Addr} {H : Hp} {σ : L2.St} {Q : VK} {r : Rz D} (q : EndG X.K X.mg C W (DV X.K) i H σ Q r) : EndG X.K X.mg C (fun c d _ H' => WE W σ c d H') (DV X.K) i H [] Q r := by
  cases r with
  | ok d M => exact q
  | ex c M => exact q
theorem se_call (F : FnOk X.prog X.w X.K X.mg X.base (L2.CX X.prog X.w) k f fd ps (spG X.K X.mg C g)) (hr : Room k X.A) (hx : Lets X W) (hg : Gl X x) (hm : X.mg x = some (.ref f)) (hk : PySem.W.keepIn X.K (.ref f) = true) (hb : Binds X.K fd ps [])
    (ha : SA X C W (e :: es) gs) (hdb : (x == ("__debug__" : Str)) = false := by decide) (he : starEach (e :: es) X.env = (false, eval e X.env) :: starEach es X.env := by rfl) (hpl : (backTo pos (starEach es X.env)).any (·.1) = false := by rfl) :
    SE X C W (.Call (.Name x p) (e :: es) [] pos) (mCall g gs) := by
  obtain ⟨t, pt, s⟩ := ha.ex
  refine ⟨_, pe_callS F hr hg hm hk hb hx pt hdb he hpl, fun i L M σ H r Q m l e q => ?_⟩
  refine s.step m l e q fun ds M1 i1 H1 vs g1 m1 l1 rs e1 q1 => ?_
  exact ⟨i1, M1, ds, r, m1, rs, e1, q1.call (i' := i1)⟩
/-- o.m(e, ..), what is raised wished for at the caller's slots -/
def tMethS (C : Addr) (m : Str) (sp : Sp) (E : L2.St → XK) (ta : TE) (t : TA) : TE := fun σ H Q => ta σ H fun x H1 => ∃ a dx fs, x = .ref a ∧ H1 a = some (.ins C dx fs) ∧ fs.lookup m = none ∧ t σ H1 fun vs H2 => sp (x :: vs) H2 Q (E σ)
theorem pe_methS {pl : Sem Bool} {ta : TE} {t : TA} {sp : Sp} {E : L2.St → XK} {CX : CXT} (he : PE X o ta) (c : Cls X.K C) (hm : Meth X.K C m f) (F : FnOk X.prog X.w X.K X.mg X.base CX k f fd ps sp) (hr : Room k X.A) (hb : Binds X.K fd ps [])
    (hx : ∀ σ, PassesAt CX X σ (E σ)) (ha : PA X (e :: es) t)
    (hst : starEach (e :: es) X.env = (false, eval e X.env) :: starEach es X.env := by rfl) (hpl : (backTo pos (starEach es X.env)).any (·.1) = false := by rfl)
    (ht : eval (.Call (.Attribute o m apos) (e :: es) [] pos) X.env = (do
      let ov ← eval o X.env
      standAt apos.atName
      let (f, first) ← holding [ov] (getMethod ov m pl)
      callWith pos f first (backTo pos (starEach (e :: es) X.env)) (backToKw pos (keywordEach [] X.env))) := by rfl) :
    PE X (.Call (.Attribute o m apos) (e :: es) [] pos) (tMethS C m sp E ta t) := by
  refine ⟨fun pins s σ H Q I h => ?_⟩
  refine PySem.W.methodCall_KW (pl := pl) (thn (he.run pins s σ H _ I h) fun u s1 ⟨x, H1, I1, rx, a, dx, fs, ex, ea, l, q⟩ => ?_) ht
  subst ex
  obtain rfl : u = Value.ref a := rx
  refine getmeth_ok I1 ea c hm l ?_
  refine PySem.W.callWith_K (first := [.ref a]) (h₀ := X.base) I.ok.mod.kin hm.kp (thn (ha.run pos pins s1 σ H1 _ I1 q) fun us s2 ⟨vs, H2, I2, r, q2⟩ => ⟨I2.kIn, ?_⟩) hst hpl
  exact run_fnS (us := .ref a :: us) (vs := .ref a :: vs) F hr hb (hx σ) I2 (.cons rfl r) q2
theorem pe_methS0 {pl : Sem Bool} {ta : TE} {sp : Sp} {E : L2.St → XK} {CX : CXT} (he : PE X o ta) (c : Cls X.K C) (hm : Meth X.K C m f) (F : FnOk X.prog X.w X.K X.mg X.base CX k f fd ps sp) (hr : Room k X.A) (hb : Binds X.K fd ps [])
    (hx : ∀ σ, PassesAt CX X σ (E σ))
    (ht : eval (.Call (.Attribute o m apos) [] [] pos) X.env = (do
      let ov ← eval o X.env
      standAt apos.atName
      let (f, first) ← holding [ov] (getMethod ov m pl)
      callWith pos f first (backTo pos (starEach [] X.env)) (backToKw pos (keywordEach [] X.env))) := by rfl) :
    PE X (.Call (.Attribute o m apos) [] [] pos) (tMethS C m sp E ta tNil) := by
  refine ⟨fun pins s σ H Q I h => ?_⟩
  refine PySem.W.methodCall_KW (pl := pl) (thn (he.run pins s σ H _ I h) fun u s1 ⟨x, H1, I1, rx, a, dx, fs, ex, ea, l, q⟩ => ?_) ht
  subst ex
  obtain rfl : u = Value.ref a := rx
  refine getmeth_ok I1 ea c hm l ?_
  exact PySem.W.callWith_K0 (first := [.ref a]) I1.kIn hm.kp (run_fnS (us := [.ref a]) (vs := [.ref a]) F hr hb (hx σ) I1 (.cons rfl .nil) q)
theorem PEw {X : Cx} {e : Expr} {t t' : TE} (h : PE X e t) (i : ∀ σ H Q, t' σ H Q → t σ H Q) : PE X e t' := ⟨fun pins s σ H Q I hw => h.run pins s σ H Q I (i σ H Q hw)⟩
/-- an instance's fields hold no method's name -/
theorem DFs.look {K : PySem.W.Frag} {i : List Addr} {H : Hp} (f : Str) : ∀ {fs : List (Str × D)} {vs : List (Str × V)}, DFs K i H fs vs → (fs.lookup f = none → vs.lookup f = none) ∧ ∀ d, fs.lookup f = some d → ∃ v, vs.lookup f = some v ∧ DV K i H d v
  | [], vs, h => by
    simp only [DFs] at h
    subst h
    exact ⟨fun _ => rfl, fun d e => by cases e⟩
  | (k, d) :: fs, vs, h => by
    simp only [DFs] at h
    obtain ⟨v, r, h1, h2, h3⟩ := h
    subst h1
    obtain ⟨n1, n2⟩ := DFs.look f h3
    by_cases e : (f == k) = true
    · have e1 : List.lookup f ((k, d) :: fs) = some d := by rw [List.lookup, e]
      have e2 : List.lookup f ((k, v) :: r) = some v := by rw [List.lookup, e]
      rw [e1, e2]
      exact ⟨fun z => (by cases z), fun d' z => ⟨v, rfl, by cases z; exact h2⟩⟩
    · have e' : (f == k) = false := by simpa using e
      have e1 : List.lookup f ((k, d) :: fs) = List.lookup f fs := by rw [List.lookup, e']
      have e2 : List.lookup f ((k, v) :: r) = List.lookup f r := by rw [List.lookup, e']
      rw [e1, e2]
      exact ⟨n1, n2⟩
theorem DFs.length {K : PySem.W.Frag} {i : List Addr} {H : Hp} : ∀ {fs : List (Str × D)} {vs : List (Str × V)}, DFs K i H fs vs → fs.length = vs.length
  | [], vs, h => by
    simp only [DFs] at h
    subst h
    rfl
  | (k, d) :: fs, vs, h => by
    simp only [DFs] at h
    obtain ⟨v, r, h1, h2, h3⟩ := h
    subst h1
    rw [List.length_cons, List.length_cons, h3.length]
/-- an own method: its receiver an instance that has no such field -/
def mMethI (nm : Str) (f : Fn) (o : GE) (as : GA) : GE := fun L M => bnd (o L M) fun x M1 => match x with
  | .ref n => (match M1[n]? with
    | some (.ins fs) => if fs.lookup nm = none then bnd (as L M1) fun xs M2 => f (x :: xs) M2 else none
    | _ => none)
  | _ => none
theorem snd_meth {ta : TE} {t : TA} (s : SndG X.K X.mg C W (DV X.K) ta go) (s2 : SndG X.K X.mg C W (DLs X.K) t gs) : SndG X.K X.mg C W (DV X.K) (tMethS C m (spG X.K X.mg C g) (WE W) ta t) (mMethI m g go gs) := fun i L M σ H r Q mm l e q => by
  refine s.step mm l e q fun dx M1 i1 H1 x g1 m1 l1 rx e1 q1 => ?_
  cases dx <;> first
    | cases e1
      done
    | skip
  rename_i n
  dsimp only at e1
  split at e1
  · rename_i fs hn
    split at e1
    · rename_i hl
      have rx0 := rx
      simp only [DV] at rx
      obtain ⟨a, ha, rfl⟩ := rx
      obtain ⟨dx, vs, h1, h2⟩ := m1.ob n _ a hn ha
      refine ⟨a, dx, vs, rfl, h1, (DFs.look m h2).1 hl, ?_⟩
      refine s2.step m1 l1 e1 q1 fun ds M2 i2 H2 xs g2 m2 l2 rs e2 q2 => ?_
      refine ⟨i2, M2, .ref n :: ds, r, m2, ?_, e2, q2.call (i' := i1)⟩
      simp only [DLs]
      exact ⟨_, _, rfl, rx0.mono g2, rs⟩
    · cases e1
  · cases e1
theorem se_meth {pl : Sem Bool} (he : SE X C W o go) (c : Cls X.K C) (hm : Meth X.K C m f) (F : FnOk X.prog X.w X.K X.mg X.base (L2.CX X.prog X.w) k f fd ps (spG X.K X.mg C g)) (hr : Room k X.A) (hx : Lets X W) (hb : Binds X.K fd ps []) (ha : SA X C W (e :: es) gs)
    (hst : starEach (e :: es) X.env = (false, eval e X.env) :: starEach es X.env := by rfl) (hpl : (backTo pos (starEach es X.env)).any (·.1) = false := by rfl)
    (ht : eval (.Call (.Attribute o m apos) (e :: es) [] pos) X.env = (do
      let ov ← eval o X.env
      standAt apos.atName
      let (f, first) ← holding [ov] (getMethod ov m pl)
      callWith pos f first (backTo pos (starEach (e :: es) X.env)) (backToKw pos (keywordEach [] X.env))) := by rfl) :
    SE X C W (.Call (.Attribute o m apos) (e :: es) [] pos) (mMethI m g go gs) := by
  obtain ⟨ta, p, s⟩ := he.ex
  obtain ⟨t, p2, s2⟩ := ha.ex
  exact ⟨_, pe_methS p c hm F hr hb hx p2 hst hpl ht, snd_meth s s2⟩
theorem se_meth0 {pl : Sem Bool} (he : SE X C W o go) (c : Cls X.K C) (hm : Meth X.K C m f) (F : FnOk X.prog X.w X.K X.mg X.base (L2.CX X.prog X.w) k f fd ps (spG X.K X.mg C g)) (hr : Room k X.A) (hx : Lets X W) (hb : Binds X.K fd ps [])
    (ht : eval (.Call (.Attribute o m apos) [] [] pos) X.env = (do
      let ov ← eval o X.env
      standAt apos.atName
      let (f, first) ← holding [ov] (getMethod ov m pl)
      callWith pos f first (backTo pos (starEach [] X.env)) (backToKw pos (keywordEach [] X.env))) := by rfl) :
    SE X C W (.Call (.Attribute o m apos) [] [] pos) (mMethI m g go mNil) := by
  obtain ⟨ta, p, s⟩ := he.ex
  obtain ⟨t, p2, s2⟩ := (sa_nil (X := X) (C := C) (W := W)).ex
  exact ⟨_, pe_methS0 p c hm F hr hb hx ht, snd_meth s fun i L M σ H r Q m l e q => by
    cases e
    exact q i H [] Gro.refl m (by simp only [DLs])⟩
/-- C(e, ..) -/
def mMake (f : Fn) (as : GA) : GE := fun L M => bnd (as L M) fun xs M1 => bnd (f (.ref M1.length :: xs) (M1 ++ [.ins []])) fun v M2 => match v with
  | .non => some (.ok (.ref M1.length) M2)
  | _ => none
theorem se_make {WE' : XK} (hW : ∀ c d σ H, WE' c d H → W c d σ H) (hW2 : ∀ c d σ H, W c d σ H → WE' c d H) (Mk : Mk X.K C f) (F : FnOk X.prog X.w X.K X.mg X.base (L2.CX X.prog X.w) k f fd ps (spG X.K X.mg C g)) (hr : Room (k + 1) X.A) (hx : Passes (L2.CX X.prog X.w) X WE') (hg : Gl X x) (hm : X.mg x = some (.ref C)) (hb : Binds X.K fd ps [])
    (ha : SA X C W (e :: es) gs) (hdb : (x == ("__debug__" : Str)) = false := by decide) (he : starEach (e :: es) X.env = (false, eval e X.env) :: starEach es X.env := by rfl) (hpl : (backTo pos (starEach es X.env)).any (·.1) = false := by rfl) :
    SE X C W (.Call (.Name x p) (e :: es) [] pos) (mMake g gs) := by
  obtain ⟨t, pt, s⟩ := ha.ex
  refine ⟨_, pe_make Mk F hr hg hm hb .nil hx pt hdb he hpl, fun i L M σ H r Q m l e q => ?_⟩
  refine s.step m l e q fun ds M1 i1 H1 vs g1 m1 l1 rs e1 q1 => ?_
  intro x dx nx ndx ne
  have nx' : upd H1 dx (.own x) x = none := by rw [upd_ne (Ne.symm ne)]; exact nx
  have ga : Gro i1 H1 (i1 ++ [x]) (upd (upd H1 dx (.own x)) x (.ins C dx [])) := (ext_new ndx).trans (ext_laid nx')
  have ma : MemR X.K C (i1 ++ [x]) (M1 ++ [.ins []]) (upd (upd H1 dx (.own x)) x (.ins C dx [])) := (m1.new ndx).laid nx' ⟨dx, [], upd_same, by simp only [DFs]⟩
  have rself : DV X.K (i1 ++ [x]) (upd (upd H1 dx (.own x)) x (.ins C dx [])) (.ref M1.length) (.ref x) := by
    simp only [DV]
    exact ⟨x, by rw [← m1.len, List.getElem?_append_right (Nat.le_refl _), Nat.sub_self]; rfl, rfl⟩
  rcases bnd_some e1 with ⟨v, M2, e2, e3⟩ | ⟨c, M2, e2, rfl⟩
  · refine ⟨i1 ++ [x], M1 ++ [.ins []], .ref M1.length :: ds, _, ma, ?_, e2, ?_⟩
    · simp only [DLs]
      exact ⟨_, _, rfl, rself, by rw [List.append_nil]; exact rs.mono ga⟩
    · cases v <;> first
        | cases e3
          done
        | skip
      cases e3
      intro i' H' b g2 m2 rb
      simp only [DV] at rb
      exact ⟨rb, q1 i' H' _ (ga.trans g2) m2 (rself.mono g2)⟩
  · refine ⟨i1 ++ [x], M1 ++ [.ins []], .ref M1.length :: ds, _, ma, ?_, e2, ?_⟩
    · simp only [DLs]
      exact ⟨_, _, rfl, rself, by rw [List.append_nil]; exact rs.mono ga⟩
    · intro i' H' cc hc g2 m2
      exact hW2 _ _ _ _ (q1 i' H' cc hc (ga.trans g2) m2)
/-! ### fields -/
def oFld (nm : Str) : Op1 := fun x M => match x with
  | .ref n => (match M[n]? with
    | some (.ins fs) => (match fs.lookup nm with
      | some d => some (d, M)
      | none => none)
    | _ => none)
  | _ => none
theorem se_fld {nm : Str} (he : SE X C W e go) (c : Cls X.K C) (n : NoAttr X.K C nm) (hb : attributeBase e nm X.env (eval e X.env) = eval e X.env := by rfl) : SE X C W (.Attribute e nm pos) (mUn (oFld nm) go) := by
  obtain ⟨ta, p, s⟩ := he.ex
  refine ⟨_, pe_fld p hb, fun i L M σ H r Q mm l e q => ?_⟩
  refine s.step mm l e q fun dx M1 i1 H1 x g1 m1 l1 rx e1 q1 => ?_
  obtain ⟨d, M', h1, h2⟩ := snd_ret e1 q1
  unfold oFld at h1
  split at h1
  · rename_i n'
    split at h1
    · rename_i fs hn
      split at h1
      · rename_i d' hd
        cases h1
        simp only [DV] at rx
        obtain ⟨a, ha, rfl⟩ := rx
        obtain ⟨dx, vs, k1, k2⟩ := m1.ob _ _ a hn ha
        obtain ⟨v, k3, k4⟩ := (DFs.look nm k2).2 _ hd
        exact ⟨a, C, dx, vs, v, rfl, k1, c, n, k3, h2 i1 H1 v Gro.refl m1 k4⟩
      · cases h1
    · cases h1
  · cases h1
def fput (f : Str) (v : D) : List (Str × D) → List (Str × D)
  | [] => [(f, v)]
  | (g, x) :: r => if g = f then (g, v) :: r else (g, x) :: fput f v r
theorem DFs.put {K : PySem.W.Frag} {i : List Addr} {H : Hp} {f : Str} {d : D} {v : V} (r : DV K i H d v) : ∀ {fs : List (Str × D)} {vs : List (Str × V)}, DFs K i H fs vs → DFs K i H (fput f d fs) (putF f v vs)
  | [], vs, h => by
    simp only [DFs] at h
    subst h
    simp only [fput, putF, DFs]
    exact ⟨v, [], rfl, r, rfl⟩
  | (k, d') :: fs, vs, h => by
    simp only [DFs] at h
    obtain ⟨v', r', h1, h2, h3⟩ := h
    subst h1
    simp only [fput, putF]
    by_cases e : k = f
    · rw [if_pos e, if_pos e]
      simp only [DFs]
      exact ⟨_, _, rfl, r, h3⟩
    · rw [if_neg e, if_neg e]
      simp only [DFs]
      exact ⟨_, _, rfl, h2, DFs.put r h3⟩
def oFldPut (nm : Str) : D → D → Mem → Option Mem := fun x v M => match x with
  | .ref n => (match M[n]? with
    | some (.ins fs) => if fs.length < 1000 then some (M.set n (.ins (fput nm v fs))) else none
    | _ => none)
  | _ => none
theorem ss_fld {nm : Str} {value : Expr} {gv : GE} {pos' : Pos} (hv : SE X C W value gv) (he : SE X C W e go) (c : Cls X.K C) (n : NoAttr X.K C nm) (hs : swapsWith value (some (.Attribute e nm pos')) pos.line X.env = pure false := by rfl) :
    SS X C W (.Assign [.Attribute e nm pos'] value pos) (mFldPut (oFldPut nm) go gv) := by
  obtain ⟨ta, p, s⟩ := he.ex
  obtain ⟨tv, p2, s2⟩ := hv.ex
  refine ⟨_, ps_fld p p2 hs, fun i L M σ H D r mm l e q => ?_⟩
  refine s2.stepS mm l e q fun dv M1 i1 H1 v g1 m1 l1 rv e1 q1 => ?_
  refine s.stepS m1 l1 e1 q1 fun dx M2 i2 H2 x g2 m2 l2 rx e2 q2 => ?_
  unfold oFldPut at e2
  cases dx <;> first
    | cases e2
      done
    | skip
  rename_i n'
  dsimp only at e2
  cases hn : M2[n']? with
  | none => rw [hn] at e2; cases e2
  | some ob =>
    rw [hn] at e2
    cases ob <;> first
      | cases e2
        done
      | skip
    rename_i fs
    dsimp only at e2
    by_cases hl : fs.length < 1000
    · rw [if_pos hl] at e2
      cases e2
      simp only [DV] at rx
      obtain ⟨a, ha, rfl⟩ := rx
      obtain ⟨dx, vs, k1, k2⟩ := m2.ob _ _ a hn ha
      have gw := ext_write (o := .ins C dx (putF nm v vs)) m2 ha
      refine ⟨a, C, dx, vs, rfl, k1, c, n, by rw [← DFs.length k2]; exact hl, ?_⟩
      exact q2 i2 _ σ gw (m2.write ha ⟨dx, _, upd_same, ((rv.mono g2).mono gw |> fun z => DFs.put z (k2.mono gw))⟩) (l2.mono gw)
    · rw [if_neg hl] at e2
      cases e2
end
end BL
/-! BLLoop: statements, loops, comprehensions, defs. -/
namespace BL
open PySem L2

section
variable {X : Cx} {C : Addr} {W : WX} {e o i c : Expr} {es : List Expr} {ge go gi : GE} {gt : GT} {gs : GA} {x : Str} {pos pos' : Pos} {st : Stmt} {rest body : List Stmt} {ga gb : GS}
/-! ### blocks -/
theorem sss_nil : SSs X C W [] mSkip := ⟨_, pss_nil, fun i L M σ H D r m l e q => by
  cases e
  exact q i H σ Gro.refl m l⟩
theorem sss_cons (h1 : SS X C W st ga) (h2 : SSs X C W rest gb) : SSs X C W (st :: rest) (mSeq ga gb) := by
  obtain ⟨t, p, s⟩ := h1.ex
  obtain ⟨u, p2, s2⟩ := h2.ex
  refine ⟨_, pss_cons p p2, fun i L M σ H D r m l e q => ?_⟩
  show t { D with nx := u D } σ H
  unfold mSeq at e
  cases e1 : ga L M with
  | none => rw [e1] at e; cases e
  | some z =>
    obtain ⟨f, M1⟩ := z
    rw [e1] at e
    cases f with
    | nx L1 => exact s i L M σ H _ _ m l e1 fun i' H' σ' g m' l' => s2 i' L1 M1 σ' H' D r m' l' e (q.go g)
    | rt d =>
      cases e
      exact s i L M σ H _ _ m l e1 q
    | bk L1 =>
      cases e
      exact s i L M σ H _ _ m l e1 q
    | ct L1 =>
      cases e
      exact s i L M σ H _ _ m l e1 q
    | ex c L1 =>
      cases e
      exact s i L M σ H _ _ m l e1 q
theorem sss_one (h1 : SS X C W st ga) : SSs X C W [st] ga := by
  obtain ⟨t, p, s⟩ := h1.ex
  exact ⟨_, pss_one p, s⟩
theorem ss_expr (he : SE X C W e ge) (hs : swapsWith e none pos.line X.env = pure false := by rfl) : SS X C W (.Expr e pos) (mExpr ge) := by
  obtain ⟨t, p, s⟩ := he.ex
  refine ⟨_, ps_expr p hs, fun i L M σ H D r m l e q => ?_⟩
  refine s.stepS m l e q fun dx M1 i1 H1 x g1 m1 l1 rx e1 q1 => ?_
  cases e1
  exact q1 i1 H1 σ Gro.refl m1 l1
theorem ss_ret (he : SE X C W e ge) : SS X C W (.Return (some e) pos) (mRet ge) := by
  obtain ⟨t, p, s⟩ := he.ex
  refine ⟨_, ps_ret p, fun i L M σ H D r m l e q => ?_⟩
  refine s.stepS m l e q fun dx M1 i1 H1 x g1 m1 l1 rx e1 q1 => ?_
  cases e1
  exact q1 i1 H1 x Gro.refl m1 rx
theorem ss_retN : SS X C W (.Return none pos) mRetN := ⟨_, ps_retN, fun i L M σ H D r m l e q => by
  cases e
  exact q i H .non Gro.refl m (by simp only [DV])⟩
theorem ss_if (hc : ST X C W c gt) (ha : SSs X C W body ga) (hb : SSs X C W rest gb) : SS X C W (.If c body rest pos) (mIte gt ga gb) := by
  obtain ⟨t, p, s⟩ := hc.ex
  obtain ⟨u, p2, s2⟩ := ha.ex
  obtain ⟨v, p3, s3⟩ := hb.ex
  refine ⟨_, ps_if p p2 p3, fun i L M σ H D r m l e q => ?_⟩
  refine s.stepS m l e q fun b M1 i1 H1 x g1 m1 l1 rx e1 q1 => ?_
  cases rx
  cases b with
  | true => exact s2 i1 L M1 σ H1 D r m1 l1 e1 q1
  | false => exact s3 i1 L M1 σ H1 D r m1 l1 e1 q1
theorem ss_set {n : Nat} (hN : X.N.Nodup) (hi : X.N[n]? = some x) (hx : L2.Loc X.env.scope x) (he : SE X C W e ge) (hs : swapsWith e (some (.Name x pos')) pos.line X.env = pure false := by rfl) (hf : X.fn x = true ∨ X.env.scope.names.lookup x = some .local := by first | exact .inl rfl | exact .inr rfl | assumption) :
    SS X C W (.Assign [.Name x pos'] e pos) (mSet n ge) := by
  obtain ⟨t, p, s⟩ := he.ex
  refine ⟨_, ps_set hN hi hx p hs hf, fun i L M σ H D r m l e q => ?_⟩
  refine s.stepS m l e q fun dx M1 i1 H1 x g1 m1 l1 rx e1 q1 => ?_
  cases e1
  exact q1 i1 H1 _ Gro.refl m1 (l1.set n rx)
/-! ### o[i] = e -/
def rOS (K : PySem.W.Frag) (C : Addr) (op : D → D → D → Mem → Option Mem) : TSet := fun x k v H Q => ∃ i M dx dk dv M', MemR K C i M H ∧ DV K i H dx x ∧ DV K i H dk k ∧ DV K i H dv v ∧ op dx dk dv M = some M' ∧ ∀ i' H', Gro i H i' H' → MemR K C i' M' H' → Q H'
theorem ss_put {op : D → D → D → Mem → Option Mem} (hop : PSet X (rOS X.K C op)) (ho : SE X C W o go) (hi : SE X C W i gi) (he : SE X C W e ge)
    (ha : ∀ v, assign (.Subscript o i pos') X.env v = (do
      let ov ← holding [v] (eval o X.env)
      let iv ← holding [v, ov] (eval i X.env)
      standAt pos'
      holding [v, ov, iv] (setItem ov iv v)
      release [v, ov, iv] []) := by intro _; rfl)
    (hs : swapsWithSole [.Subscript o i pos'] e pos.line X.env = pure false := by rfl) (hw : swappedStores [.Subscript o i pos'] e X.env = pure none := by rfl)
    (h1 : (assignEach [.Subscript o i pos'] X.env).map (·.2) = [assign (.Subscript o i pos') X.env] := by rfl) : SS X C W (.Assign [.Subscript o i pos'] e pos) (mPut op go gi ge) := by
  obtain ⟨t, p, s⟩ := he.ex
  obtain ⟨t2, p2, s2⟩ := ho.ex
  obtain ⟨t3, p3, s3⟩ := hi.ex
  refine ⟨_, ps_asg p (pg_sub p2 p3 hop ha) hs hw h1, fun i L M σ H D r m l e q => ?_⟩
  refine s.stepS m l e q fun dv M1 i1 H1 v g1 m1 l1 rv e1 q1 => ?_
  refine s2.stepS m1 l1 e1 q1 fun dx M2 i2 H2 x g2 m2 l2 rx e2 q2 => ?_
  refine s3.stepS m2 l2 e2 q2 fun dk M3 i3 H3 k g3 m3 l3 rk e3 q3 => ?_
  cases h : op dx dk dv M3 with
  | none =>
    rw [h] at e3
    cases e3
  | some M4 =>
    rw [h] at e3
    cases e3
    exact ⟨i3, M3, dx, dk, dv, M4, m3, rx.mono g3, rk, (rv.mono g2).mono g3, h, fun i' H' g m' => q3 i' H' σ g m' (l3.mono g)⟩
/-! ### raise -/
theorem ss_raise {cn : Str} {cc : Addr} (hc : X.calm = true) (tk : Takes X W) (hm : X.mg cn = some (.ref cc)) (he : PMk X e (fun _ H Q => Q (.ref cc) none H)) : SS X C W (.Raise (some e) none pos) (mRaise cn) :=
  ⟨_, ps_raise hc tk he, fun i L M σ H D r m l e q => by
    cases e
    exact q i H σ cc hm Gro.refl m l⟩
/-! ### targets -/
theorem stg_name {n : Nat} (hN : X.N.Nodup) (hi : X.N[n]? = some x) (hx : L2.Loc X.env.scope x) (hf : X.fn x = true ∨ X.env.scope.names.lookup x = some .local := by first | exact .inl rfl | exact .inr rfl | assumption) : STg X C (.Name x pos) (mName n) :=
  ⟨_, pg_name hN hi hx hf, fun i L M σ H d v L1 Q m l r e q => by
    cases e
    exact q i H _ Gro.refl m (l.set n r)⟩
theorem DV.tup2 {K : PySem.W.Frag} {i : List Addr} {H : Hp} {x y : D} {v : V} (r : DV K i H (.tup [x, y]) v) : ∃ a u w, v = .ref a ∧ TupAt K H a [u, w] ∧ DV K i H x u ∧ DV K i H y w := by
  simp only [DV, DLs] at r
  obtain ⟨a, vs, h1, h2, u, r1, h3, h4, w, r2, h5, h6, h7⟩ := r
  subst h7 h5 h3
  exact ⟨a, u, w, h1, h2, h4, h6⟩
theorem stg_name2 {x y : Str} {n k j : Nat} {p1 p2 : Pos} (hc : X.calm = true) (hN : X.N.Nodup) (hi : X.N[n]? = some x) (hx : L2.Loc X.env.scope x) (hj : X.N[k]? = some y) (hy : L2.Loc X.env.scope y)
    (hf : X.fn x = true ∨ X.env.scope.names.lookup x = some .local := by first | exact .inl rfl | exact .inr rfl | assumption) (hf2 : X.fn y = true ∨ X.env.scope.names.lookup y = some .local := by first | exact .inl rfl | exact .inr rfl | assumption)
    (hn : (assignEach [.Name x p1, .Name y p2] X.env).length = 2 := by rfl) (hst : (assignEach [.Name x p1, .Name y p2] X.env).findIdx? (·.1) = none := by rfl) : STg X C (.Tuple [.Name x p1, .Name y p2] j pos) (mName2 n k) :=
  ⟨_, pg_tup hc (pgs_cons (pg_name hN hi hx hf) (pgs_cons (pg_name hN hj hy hf2) pgs_nil)) hn hst, fun i L M σ H d v L1 Q m l r e q => by
    unfold mName2 at e
    split at e
    · cases e
      obtain ⟨a, u, w, rfl, h2, h3, h4⟩ := r.tup2
      exact ⟨a, [u, w], rfl, h2.seq, rfl, u, [w], rfl, w, [], rfl, rfl, q i H _ Gro.refl m ((l.set n h3).set k h4)⟩
    · cases e⟩
/-! ### for -/
theorem forG_sound {K : PySem.W.Frag} {mg : Str → Option Value} {src : Src} {g : GG} {tg : TG} {tb : TS} {i0 : List Addr} {H0 : Hp} {D : Ends} {J : It} {r0 : Fl × Mem} (st : SndT K C tg g) (sb : SndS K mg C W tb gb) (j : JR K C i0 H0 src J) (q : EndS K mg C W i0 H0 D r0)
    {L : Loc} {M : Mem} {σ : L2.St} (m : MemR K C i0 M H0) (l : LocR K i0 H0 L σ) (e : forG src.ok g gb src.items L M = some r0) :
    ∃ W' : Nat → Nat → L2.St → Hp → Prop, (∃ m, W' 0 m σ H0) ∧ ∀ i m σ H, W' i m σ H →
      (J.stop i H ∧ D.nx σ H) ∨ (J.go i H ∧ ∃ N : L2.St → Hp → Prop, (∀ σ' H', N σ' H' → ∃ m', m' < m ∧ W' (i + 1) m' σ' H') ∧ ∀ x H', J.yld i H x H' → tg x σ H' fun σ2 H2 => tb { D with nx := N, ct := N, bk := D.nx } σ2 H2) := by
  refine ⟨fun n k σ H => k = src.items.length - n ∧ n ≤ src.items.length ∧ ∃ i L M, Gro i0 H0 i H ∧ MemR K C i M H ∧ LocR K i H L σ ∧ forG src.ok g gb (src.items.drop n) L M = some r0, ⟨_, rfl, Nat.zero_le _, i0, L, M, Gro.refl, m, l, by simpa using e⟩, ?_⟩
  rintro n k σ H ⟨rfl, hn, i, L, M, gr, m, l, e⟩
  by_cases hlt : n < src.items.length
  · rw [List.drop_eq_getElem_cons hlt] at e
    unfold forG at e
    split at e
    · rename_i hok
      obtain ⟨j1, j2⟩ := j i H M n gr m hok
      obtain ⟨jg, jy⟩ := j1 src.items[n] (List.getElem?_eq_getElem hlt)
      cases hg : g src.items[n] L with
      | none =>
        rw [hg] at e
        cases e
      | some L1 =>
        rw [hg] at e
        dsimp only at e
        refine .inr ⟨jg, fun σ' H' => ∃ i L M, Gro i0 H0 i H' ∧ MemR K C i M H' ∧ LocR K i H' L σ' ∧ forG src.ok g gb (src.items.drop (n + 1)) L M = some r0, fun σ' H' ⟨i', L', M', z⟩ => ⟨src.items.length - (n + 1), by omega, rfl, hlt, i', L', M', z⟩, fun x H1 y => ?_⟩
        obtain ⟨g1, m1, rx⟩ := jy x H1 y
        refine st i L M σ H1 _ x L1 _ m1 (l.mono g1) rx hg fun i2 H2 σ2 g2 m2 l2 => ?_
        cases hb : gb L1 M with
        | none =>
          rw [hb] at e
          cases e
        | some z =>
          obtain ⟨f, M2⟩ := z
          rw [hb] at e
          have gg := (gr.trans g1).trans g2
          refine sb i2 L1 M σ2 H2 _ _ m2 l2 hb ?_
          cases f with
          | nx L2 => exact fun i3 H3 σ3 g3 m3 l3 => ⟨i3, L2, M2, gg.trans g3, m3, l3, e⟩
          | ct L2 => exact fun i3 H3 σ3 g3 m3 l3 => ⟨i3, L2, M2, gg.trans g3, m3, l3, e⟩
          | bk L2 =>
            cases e
            exact fun i3 H3 σ3 g3 m3 l3 => q i3 H3 σ3 (gg.trans g3) m3 l3
          | rt d =>
            cases e
            exact fun i3 H3 v g3 m3 r3 => q i3 H3 v (gg.trans g3) m3 r3
          | ex c L2 =>
            cases e
            exact fun i3 H3 σ3 cc hc g3 m3 l3 => q i3 H3 σ3 cc hc (gg.trans g3) m3 l3
    · cases e
  · have en : n = src.items.length := by omega
    subst en
    rw [List.drop_length] at e
    unfold forG at e
    split at e
    · rename_i hok
      cases e
      obtain ⟨j1, j2⟩ := j i H M src.items.length gr m hok
      exact .inl ⟨j2 (Nat.le_refl _), q i H σ gr m l⟩
    · cases e
theorem ss_for {tg iter : Expr} {gi : GI} {g : GG} (hp : PassesOwn (model X.prog X.w) X.A X.env X.xe) (hc : X.calm = true) (hi : SI X C W tg iter gi) (hg : STg X C tg g) (hb : SSs X C W body gb) (hs : ∀ x, foldedSetIterable iter X.env x = pure x := by intro _; rfl) :
    SS X C W (.For tg iter body [] pos) (mFor gi g gb) := by
  obtain ⟨t, p, s⟩ := hi.ex
  obtain ⟨t2, p2, s2⟩ := hg.ex
  obtain ⟨t3, p3, s3⟩ := hb.ex
  refine ⟨_, ps_for hp hc p p2 p3 hs, fun i L M σ H D r m l e q => ?_⟩
  refine s.stepS m l e q fun src M1 i1 H1 J g1 m1 l1 j e1 q1 => ?_
  exact forG_sound s2 s3 j q1 m1 l1 e1
/-! ### while -/
theorem whileF_mono (t : GT) (b : GS) : ∀ (n k : Nat) (L : Loc) (M : Mem) (r : Fl × Mem), whileF t b n L M = some r → whileF t b (n + k) L M = some r
  | 0, _, _, _, _, h => by
    unfold whileF at h
    cases h
  | n + 1, k, L, M, r, h => by
    rw [show n + 1 + k = (n + k) + 1 by omega]
    unfold whileF at h ⊢
    rcases bndS_some h with ⟨c, M1, h1, h2⟩ | ⟨c, M1, h1, h2⟩
    · rw [h1]
      simp only [bndS_ok]
      cases c with
      | false => exact h2
      | true =>
        simp only [if_pos] at h2 ⊢
        cases hb : b L M1 with
        | none =>
          rw [hb] at h2
          cases h2
        | some z =>
          obtain ⟨f, M2⟩ := z
          rw [hb] at h2
          cases f with
          | nx L2 => exact whileF_mono t b n k _ _ _ h2
          | ct L2 => exact whileF_mono t b n k _ _ _ h2
          | bk L2 => exact h2
          | rt d => exact h2
          | ex c L2 => exact h2
    · rw [h1, h2]
      rfl
theorem whileF_det {t : GT} {b : GS} {n k : Nat} {L : Loc} {M : Mem} {r r' : Fl × Mem} (h : whileF t b n L M = some r) (h' : whileF t b k L M = some r') : r = r' := by
  have a := whileF_mono t b n k L M r h
  have b := whileF_mono t b k n L M r' h'
  rw [Nat.add_comm k n] at b
  exact Option.some.inj (a.symm.trans b)
theorem mWhile_of {t : GT} {b : GS} {n : Nat} {L : Loc} {M : Mem} {r : Fl × Mem} (h : whileF t b n L M = some r) : mWhile t b L M = some r := by
  have ex : ∃ n, (whileF t b n L M).isSome = true := ⟨n, by rw [h]; rfl⟩
  unfold mWhile
  rw [dif_pos ex]
  have h2 := Classical.choose_spec ex
  cases h3 : whileF t b (Classical.choose ex) L M with
  | none =>
    rw [h3] at h2
    cases h2
  | some z => rw [whileF_det h3 h]
theorem of_mWhile {t : GT} {b : GS} {L : Loc} {M : Mem} {r : Fl × Mem} (h : mWhile t b L M = some r) : ∃ n, whileF t b n L M = some r := by
  unfold mWhile at h
  split at h
  · exact ⟨_, h⟩
  · cases h
theorem ss_while {gt : GT} (hp : PassesOwn (model X.prog X.w) X.A X.env X.xe) (hc : ST X C W c gt) (hb : SSs X C W body gb) : SS X C W (.While c body [] pos) (mWhile gt gb) := by
  obtain ⟨t, p, s⟩ := hc.ex
  obtain ⟨u, p2, s2⟩ := hb.ex
  refine ⟨_, ps_while hp p p2, fun i0 L M σ H0 D r0 m l e q => ?_⟩
  obtain ⟨n0, e0⟩ := of_mWhile e
  refine ⟨fun n σ H => ∃ i L M, Gro i0 H0 i H ∧ MemR X.K C i M H ∧ LocR X.K i H L σ ∧ whileF gt gb n L M = some r0, ⟨n0, i0, L, M, Gro.refl, m, l, e0⟩, ?_⟩
  rintro n σ H ⟨i, L, M, gr, m, l, e⟩
  cases n with
  | zero =>
    unfold whileF at e
    cases e
  | succ n =>
    unfold whileF at e
    refine s.stepS m l e (q.go gr) fun b M1 i1 H1 x g1 m1 l1 rx e1 q1 => ?_
    cases rx
    cases b with
    | false =>
      cases e1
      exact q1 i1 H1 σ Gro.refl m1 l1
    | true =>
      simp only [if_pos] at e1
      refine ⟨fun σ' H' => ∃ i L M, Gro i0 H0 i H' ∧ MemR X.K C i M H' ∧ LocR X.K i H' L σ' ∧ whileF gt gb n L M = some r0, fun σ' H' z => ⟨n, Nat.lt_succ_self _, z⟩, ?_⟩
      cases hb : gb L M1 with
      | none =>
        rw [hb] at e1
        cases e1
      | some z =>
        obtain ⟨f, M2⟩ := z
        rw [hb] at e1
        have gg := gr.trans g1
        refine s2 i1 L M1 σ H1 _ _ m1 l1 hb ?_
        cases f with
        | nx L2 => exact fun i3 H3 σ3 g3 m3 l3 => ⟨i3, L2, M2, gg.trans g3, m3, l3, e1⟩
        | ct L2 => exact fun i3 H3 σ3 g3 m3 l3 => ⟨i3, L2, M2, gg.trans g3, m3, l3, e1⟩
        | bk L2 =>
          cases e1
          exact fun i3 H3 σ3 g3 m3 l3 => q i3 H3 σ3 (gg.trans g3) m3 l3
        | rt d =>
          cases e1
          exact fun i3 H3 v g3 m3 r3 => q i3 H3 v (gg.trans g3) m3 r3
        | ex c L2 =>
          cases e1
          exact fun i3 H3 σ3 cc hc g3 m3 l3 => q i3 H3 σ3 cc hc (gg.trans g3) m3 l3
end
end BL
/-! BLComp: comprehensions; a def's promise. -/
namespace BL
open PySem L2

abbrev W0 : WX := fun _ _ _ _ => False
/-- a reading made of the machine's step -/
def tG {α β : Type} (K : PySem.W.Frag) (mg : Str → Option Value) (C : Addr) (W : WX) (R : List Addr → Hp → α → β → Prop) (g : Loc → Mem → Option (Rz α)) : L2.St → Hp → (β → Hp → Prop) → Prop :=
  fun σ H Q => ∃ i L M r, MemR K C i M H ∧ LocR K i H L σ ∧ g L M = some r ∧ EndG K mg C W R i H σ Q r
section
variable {X : Cx} {C : Addr} {W : WX}
theorem SE.pe {e : Expr} {g : GE} (h : SE X C W e g) : PE X e (tG X.K X.mg C W (DV X.K) g) := by
  obtain ⟨t, p, s⟩ := h.ex
  exact ⟨fun pins sh σ H Q I ⟨i, L, M, r, m, l, e, q⟩ => p.run pins sh σ H Q I (s i L M σ H r Q m l e q)⟩
theorem ST.pt {e : Expr} {g : GT} (h : ST X C W e g) : PT X e (tG X.K X.mg C W RB g) := by
  obtain ⟨t, p, s⟩ := h.ex
  exact ⟨fun pins sh σ H Q I ⟨i, L, M, r, m, l, e, q⟩ => p.run pins sh σ H Q I (s i L M σ H r Q m l e q)⟩
theorem pts_imp {ifs : List Expr} {t t' : TT} (h : PTs X ifs t) (i : ∀ σ H Q, t' σ H Q → t σ H Q) : PTs X ifs t' := ⟨fun pins s σ H Q I hw => h.run pins s σ H Q I (i σ H Q hw)⟩
theorem MemR.app {K : PySem.W.Frag} {i : List Addr} {M : Mem} {H : Hp} (m : MemR K C i M H) {p : Addr} {ob : Ob} (hp : p ∉ i) (r : ObR K C (i ++ [p]) H p ob) : MemR K C (i ++ [p]) (M ++ [ob]) H := by
  have mo : Mon i H (i ++ [p]) H := ⟨⟨[p], rfl⟩, fun _ _ h => h, fun _ _ _ h => h⟩
  refine ⟨by simp [m.len], ?_, fun n o' a h1 h2 => ?_⟩
  · rw [List.nodup_append]
    refine ⟨m.nd, by simp, fun a ha b hb => ?_⟩
    have : b = p := by simpa using hb
    subst this
    intro e
    subst e
    exact hp ha
  · by_cases hn : n < M.length
    · rw [List.getElem?_append_left hn] at h1
      rw [List.getElem?_append_left (by rw [m.len]; exact hn)] at h2
      exact ob_mono mo (fun u e => e) (m.ob n o' a h1 h2)
    · have e1 : n = M.length := by
        have := (List.getElem?_eq_some_iff.mp h1).1
        simp at this
        omega
      subst e1
      rw [List.getElem?_append_right (Nat.le_refl _), Nat.sub_self] at h1
      rw [List.getElem?_append_right (by rw [m.len]; exact Nat.le_refl _), m.len, Nat.sub_self] at h2
      have e2 : ob = o' := Option.some.inj h1
      have e3 : p = a := Option.some.inj h2
      subst e2 e3
      exact r
theorem dl_append {K : PySem.W.Frag} {i : List Addr} {H : Hp} {d : D} {v : V} (r : DV K i H d v) : ∀ {ds : List D} {vs : List V}, DLs K i H ds vs → DLs K i H (ds ++ [d]) (vs ++ [v])
  | [], vs, h => by
    simp only [DLs] at h
    subst h
    simp only [List.nil_append, DLs]
    exact ⟨v, [], rfl, r, rfl⟩
  | x :: ds, vs, h => by
    simp only [DLs] at h
    obtain ⟨v', r', h1, h2, h3⟩ := h
    subst h1
    simp only [List.cons_append, DLs]
    exact ⟨v', _, rfl, h2, dl_append r h3⟩
theorem wipe_loc {K : PySem.W.Frag} {i : List Addr} {H : Hp} {L : Loc} {σ : L2.St} (l : LocR K i H L σ) : ∀ vs : List Nat, LocR K i H (wipeL L vs) (wipe σ vs)
  | [] => l
  | v :: vs => (wipe_loc l vs).forget v
theorem lcG_sound {K : PySem.W.Frag} {mg : Str → Option Value} {src : Src} {g : GG} {tg : TG} {tt : TT} {te : TE} {gt : GT} {ge : GE} {vs : List Nat} {i0 : List Addr} {H0 : Hp} {J : It} {ys : List D} {Mf : Mem} {Q : VK} {σ : L2.St} {L : Loc} {M : Mem}
    (st : SndC K C vs tg g) (sc : SndG K mg C W0 RB tt gt) (se : SndG K mg C W0 (DV K) te ge) (j : JR K C i0 H0 src J) (m : MemR K C i0 M H0) (l : LocR K i0 H0 L σ) (e : lcG src.ok g gt ge (wipeL L vs) src.items M = some (ys, Mf))
    (hy : ys.length < 16000000) (q : ∀ i' H' z, Gro i0 H0 i' H' → MemR K C i' (Mf ++ [.lst ys]) H' → DV K i' H' (.ref Mf.length) z → Q z H') (D : Addr) (hD : H0 D = none) :
    ∃ W' : Nat → Nat → Hp → Prop, (∃ m, W' 0 m (upd H0 D (.lst []))) ∧ ∀ i m H, W' i m H →
      (J.stop i H ∧ Q (.ref D) H) ∨ (J.go i H ∧ ∃ Nx : Hp → Prop, (∀ H', Nx H' → ∃ m', m' < m ∧ W' (i + 1) m' H') ∧ ∀ x H', J.yld i H x H' → tg x (wipe σ vs) H' fun σ2 H2 => wipe σ2 vs = wipe σ vs ∧ tt σ2 H2 fun b H3 =>
        if b = true then te σ2 H3 fun y H4 => ∃ acc, H4 D = some (.lst acc) ∧ acc.length < sizeLine ∧ Nx (upd H4 D (.lst (acc ++ [y]))) else Nx H3) := by
  refine ⟨fun n k H => k = src.items.length - n ∧ n ≤ src.items.length ∧ ∃ i M acc da ys2, Gro i0 H0 i H ∧ MemR K C i M H ∧ H D = some (.lst acc) ∧ D ∉ i ∧ DLs K i H da acc ∧ lcG src.ok g gt ge (wipeL L vs) (src.items.drop n) M = some (ys2, Mf) ∧ da ++ ys2 = ys,
    ⟨_, rfl, Nat.zero_le _, i0, M, [], [], ys, ext_new hD, m.new hD, upd_same, m.ne hD, by simp only [DLs], by simpa using e, rfl⟩, ?_⟩
  rintro n k H ⟨rfl, hn, i, M, acc, da, ys2, gr, m, eD, nD, ra, e, ey⟩
  by_cases hlt : n < src.items.length
  · rw [List.drop_eq_getElem_cons hlt] at e
    unfold lcG at e
    split at e
    · rename_i hok
      obtain ⟨j1, j2⟩ := j i H M n gr m hok
      obtain ⟨jg, jy⟩ := j1 src.items[n] (List.getElem?_eq_getElem hlt)
      refine .inr ⟨jg, fun H' => ∃ i M acc da ys2, Gro i0 H0 i H' ∧ MemR K C i M H' ∧ H' D = some (.lst acc) ∧ D ∉ i ∧ DLs K i H' da acc ∧ lcG src.ok g gt ge (wipeL L vs) (src.items.drop (n + 1)) M = some (ys2, Mf) ∧ da ++ ys2 = ys,
        fun H' z => ⟨src.items.length - (n + 1), by omega, rfl, hlt, z⟩, fun x H1 y => ?_⟩
      obtain ⟨g1, m1, rx⟩ := jy x H1 y
      cases hg : g src.items[n] (wipeL L vs) with
      | none =>
        rw [hg] at e
        cases e
      | some L1 =>
        rw [hg] at e
        dsimp only [Option.bind] at e
        have gr1 := gr.trans g1
        refine st i L M σ H1 _ x L1 _ m1 (wipe_loc (l.mono gr1) vs) rx hg fun i2 H2 σ2 g2 m2 l2 hw => ⟨hw, ?_⟩
        have gr2 := gr1.trans g2
        -- the list stands where it was
        have keepD : ∀ {i' : List Addr} {H' : Hp}, Gro i H i' H' → H' D = some (.lst acc) ∧ D ∉ i' := fun {i' H'} gg => ⟨gg.fr _ _ eD nD, fun z => by
          rcases gg.new D z with z | z
          · exact nD z
          · rw [eD] at z
            cases z⟩
        cases hc : okO (gt L1 M) with
        | none =>
          rw [hc] at e
          cases e
        | some pc =>
          obtain ⟨c, M1⟩ := pc
          have hc' := okO_some hc
          rw [hc] at e
          dsimp only at e
          refine sc i2 L1 M σ2 H2 _ _ m2 l2 hc' ?_
          intro i3 H3 b g3 m3 rb
          cases rb
          have gi3 : Gro i H i3 H3 := (g1.trans g2).trans g3
          have gr3 := gr.trans gi3
          cases c with
          | false =>
            rw [if_neg Bool.false_ne_true] at e
            show (if false = true then _ else _)
            rw [if_neg Bool.false_ne_true]
            obtain ⟨k1, k2⟩ := keepD gi3
            exact ⟨i3, M1, acc, da, ys2, gr3, m3, k1, k2, ra.mono gi3, e, ey⟩
          | true =>
            rw [if_pos rfl] at e
            show (if true = true then _ else _)
            rw [if_pos rfl]
            cases hq : okO (ge L1 M1) with
            | none =>
              rw [hq] at e
              cases e
            | some pq =>
              obtain ⟨d, M2⟩ := pq
              have hq' := okO_some hq
              rw [hq] at e
              dsimp only at e
              refine se i3 L1 M1 σ2 H3 _ _ m3 (l2.mono g3) hq' ?_
              intro i4 H4 v g4 m4 rv
              have gi4 := gi3.trans g4
              have gr4 := gr.trans gi4
              obtain ⟨k1, k2⟩ := keepD gi4
              cases hz : lcG src.ok g gt ge (wipeL L vs) (src.items.drop (n + 1)) M2 with
              | none =>
                rw [hz] at e
                cases e
              | some pz =>
                obtain ⟨zs, Mz⟩ := pz
                rw [hz] at e
                dsimp only at e
                have e' := Option.some.inj e
                cases e'
                have hlen : acc.length < sizeLine := by
                  have h1 := ra.length
                  have h2 : da.length ≤ ys.length := by rw [← ey, List.length_append]; omega
                  rw [PySem.sizeLine_eq]
                  omega
                refine ⟨acc, k1, hlen, i4, M2, acc ++ [v], da ++ [d], zs, ?_, ?_, upd_same, k2, ?_, hz, by rw [← ey]; simp⟩
                · refine ⟨gr4.pre, gr4.new, fun a o ha hi => ?_, fun a xs ha => ?_, fun a o u ha => ?_⟩
                  · rw [upd_ne (ne_of_none ha hD)]
                    exact gr4.fr a o ha hi
                  · rw [upd_ne (ne_of_none ha hD)]
                    exact gr4.tups a xs ha
                  · rw [upd_ne (ne_of_none ha hD)]
                    exact gr4.frzs a o u ha
                · refine ⟨m4.len, m4.nd, fun n' o' a h1 h2 => ?_⟩
                  refine ob_mono ⟨⟨[], by simp⟩, fun a xs ha => ?_, fun a o u ha => ?_⟩ (fun u hu => ?_) (m4.ob n' o' a h1 h2)
                  · rw [upd_ne (ne_of ha k1 (by intro z; cases z))]
                    exact ha
                  · rw [upd_ne (ne_of ha k1 (by intro z; cases z))]
                    exact ha
                  · rw [upd_ne fun z => k2 (by rw [← z]; exact List.mem_of_getElem? h2)]
                    exact hu
                · have mo : Mon i4 H4 i4 (upd H4 D (.lst (acc ++ [v]))) := ⟨⟨[], by simp⟩, fun a xs ha => by rw [upd_ne (ne_of ha k1 (by intro z; cases z))]; exact ha, fun a o u ha => by rw [upd_ne (ne_of ha k1 (by intro z; cases z))]; exact ha⟩
                  exact dl_mono mo _ _ (dl_append rv (ra.mono gi4))
    · cases e
  · have en : n = src.items.length := by omega
    subst en
    rw [List.drop_length] at e
    unfold lcG at e
    split at e
    · rename_i hok
      cases e
      obtain ⟨j1, j2⟩ := j i H Mf src.items.length gr m hok
      rw [List.append_nil] at ey
      subst ey
      refine .inl ⟨j2 (Nat.le_refl _), q (i ++ [D]) H _ ?_ (m.app nD ⟨acc, eD, ?_⟩) ?_⟩
      · obtain ⟨ll, el⟩ := gr.pre
        refine ⟨⟨ll ++ [D], by rw [el, List.append_assoc]⟩, fun a ha => ?_, gr.fr, gr.tups, gr.frzs⟩
        rcases List.mem_append.mp ha with z | z
        · exact gr.new a z
        · have : a = D := by simpa using z
          subst this
          exact .inr hD
      · exact dl_mono ⟨⟨[D], rfl⟩, fun _ _ h => h, fun _ _ _ h => h⟩ _ _ ra
      · simp only [DV]
        exact ⟨D, by rw [← m.len, List.getElem?_append_right (Nat.le_refl _), Nat.sub_self]; rfl, rfl⟩
    · cases e
variable {elt tgE iter : Expr} {ifs : List Expr} {scope : Scope} {own : List (Str × Nat)} {pos : Pos} {gi : GI} {g : GG} {tg : TG} {gt : GT} {ge : GE}
theorem lc_snd {wi : TI} {tt : TT} {te : TE} {vs : List Nat} (si : SndG X.K X.mg C W (JR X.K C) wi gi) (st : SndC X.K C vs tg g) (sc : SndG X.K X.mg C W0 RB tt gt) (se : SndG X.K X.mg C W0 (DV X.K) te ge) :
    SndG X.K X.mg C W (DV X.K) (tLc wi tg tt te vs) (mLc gi g gt ge vs) := fun i L M σ H r Q m l e q => by
  refine si.step m l e q fun src M1 i1 H1 J g1 m1 l1 j e1 q1 => ?_
  intro D hD
  obtain ⟨d, M', h1, h2⟩ := snd_ret e1 q1
  cases hl : lcG src.ok g gt ge (wipeL L vs) src.items M1 with
  | none =>
    rw [hl] at h1
    cases h1
  | some pz =>
    obtain ⟨ys, Mf⟩ := pz
    rw [hl] at h1
    dsimp only [Option.bind] at h1
    unfold oLstBig at h1
    split at h1
    · rename_i hy
      cases h1
      exact lcG_sound st sc se j m1 l1 hl hy h2 D hD
    · cases h1
theorem snd_tG {α β : Type} {K : PySem.W.Frag} {mg : Str → Option Value} {R : List Addr → Hp → α → β → Prop} {g : Loc → Mem → Option (Rz α)} : SndG K mg C W R (tG K mg C W R g) g := fun i L M σ H r Q m l e q => ⟨i, L, M, r, m, l, e, q⟩
theorem se_lc (hc : X.calm = true) (hN : X.N.Nodup) (hi : SI X C W tgE iter gi) (ok : BlkOk X.N X.env.scope scope own)
    (hg : ∀ (s : Shared) (H : Hp) (Cc : Addr) (cl : List (Str × Addr)) (fp : List Addr), PG (X.blk s H scope (PySem.compEnvC scope cl Cc X.env) fp) tgE tg) (sg : SndC X.K C (own.map (·.2)) tg g)
    (ht : ∀ (s : Shared) (H : Hp) (Cc : Addr) (cl : List (Str × Addr)) (fp : List Addr), PTs (X.blk s H scope (PySem.compEnvC scope cl Cc X.env) fp) ifs (tG X.K X.mg C W0 RB gt))
    (he : ∀ (s : Shared) (H : Hp) (Cc : Addr) (cl : List (Str × Addr)) (fp : List Addr), SE (X.blk s H scope (PySem.compEnvC scope cl Cc X.env) fp) C W0 elt ge) (hs : ∀ x, foldedSetIterable iter X.env x = pure x := by intro _; rfl) :
    SE X C W (.ListComp elt [⟨tgE, iter, ifs, 0⟩] scope pos) (mLc gi g gt ge (own.map (·.2))) := by
  obtain ⟨wi, pi, si⟩ := hi.ex
  have he' : ∀ (s : Shared) (H : Hp) (Cc : Addr) (cl : List (Str × Addr)) (fp : List Addr), PE (X.blk s H scope (PySem.compEnvC scope cl Cc X.env) fp) elt (tG X.K X.mg C W0 (DV X.K) ge) := fun s H Cc cl fp => (he s H Cc cl fp).pe
  exact ⟨_, pe_lc hc hN pi ok hg ht he' hs, lc_snd si sg snd_tG snd_tG⟩
theorem ss_setLc {n : Nat} {y : Str} {py spos : Pos} (hc : X.calm = true) (hN : X.N.Nodup) (hy : X.N[n]? = some y) (hyl : X.env.scope.names.lookup y = some .local)
    (hsw : swapsWith (.ListComp elt [⟨tgE, iter, ifs, 0⟩] scope pos) (some (.Name y py)) spos.line X.env = pure true) (hi : SI X C W tgE iter gi) (ok : BlkOk X.N X.env.scope scope own)
    (hg : ∀ (s : Shared) (H : Hp) (Cc : Addr) (cl : List (Str × Addr)) (fp : List Addr), PG (X.blk s H scope (PySem.compEnvC scope cl Cc X.env) fp) tgE tg) (sg : SndC X.K C (own.map (·.2)) tg g)
    (ht : ∀ (s : Shared) (H : Hp) (Cc : Addr) (cl : List (Str × Addr)) (fp : List Addr), PTs (X.blk s H scope (PySem.compEnvC scope cl Cc X.env) fp) ifs (tG X.K X.mg C W0 RB gt))
    (he : ∀ (s : Shared) (H : Hp) (Cc : Addr) (cl : List (Str × Addr)) (fp : List Addr), SE (X.blk s H scope (PySem.compEnvC scope cl Cc X.env) fp) C W0 elt ge) (hs : ∀ x, foldedSetIterable iter X.env x = pure x := by intro _; rfl) :
    SS X C W (.Assign [.Name y py] (.ListComp elt [⟨tgE, iter, ifs, 0⟩] scope pos) spos) (mSet n (mLc gi g gt ge (own.map (·.2)))) := by
  obtain ⟨wi, pi, si⟩ := hi.ex
  have he' : ∀ (s : Shared) (H : Hp) (Cc : Addr) (cl : List (Str × Addr)) (fp : List Addr), PE (X.blk s H scope (PySem.compEnvC scope cl Cc X.env) fp) elt (tG X.K X.mg C W0 (DV X.K) ge) := fun s H Cc cl fp => (he s H Cc cl fp).pe
  refine ⟨_, ps_setLc hc hN hy hyl hsw pi ok hg ht he' hs, fun i L M σ H D r m l e q => ?_⟩
  refine (lc_snd si sg snd_tG snd_tG).stepS m l e q fun dx M1 i1 H1 x g1 m1 l1 rx e1 q1 => ?_
  cases e1
  exact q1 i1 H1 _ Gro.refl m1 (l1.set n rx)
theorem sc_name {K : PySem.W.Frag} (n : Nat) : SndC K C [n] (L2.gName n) (mName n) := fun i L M σ H d v L1 Q m l r e q => by
  cases e
  refine q i H _ Gro.refl m (l.set n r) ?_
  show ((σ.set n none).set n (some v)).set n none = σ.set n none
  rw [List.set_set, List.set_set]
theorem sc_name2 {K : PySem.W.Frag} (n k : Nat) (hnk : n ≠ k) : SndC K C [n, k] (gTup K 2 (L2.gCons (L2.gName n) (L2.gCons (L2.gName k) L2.gNil))) (mName2 n k) := fun i L M σ H d v L1 Q m l r e q => by
  unfold mName2 at e
  split at e
  · cases e
    obtain ⟨a, u, w, rfl, h2, h3, h4⟩ := r.tup2
    refine ⟨a, [u, w], rfl, h2.seq, rfl, u, [w], rfl, w, [], rfl, rfl, q i H _ Gro.refl m ((l.set n h3).set k h4) ?_⟩
    show (((((σ.set k none).set n none).set n (some u)).set k (some w)).set k none).set n none = (σ.set k none).set n none
    rw [List.set_set, List.set_set, List.set_comm _ _ hnk, List.set_set, List.set_set]
  · cases e
theorem st_yes {ifs : List Expr} (h : PTs X ifs tYes) : PTs X ifs (tG X.K X.mg C W0 RB mYes) := pts_imp h fun σ H Q ⟨i, L, M, r, m, l, e, q⟩ => by
  cases e
  exact q i H true Gro.refl m rfl
theorem mYes_ok (L : Loc) (M : Mem) : mYes L M = some (.ok true M) := rfl
/-! ### a def -/
section
variable {P : Program} {w : World} {K : PySem.W.Frag} {mg : Str → Option Value} {base : Heap}
theorem start_loc {i : List Addr} {H : Hp} {N : List Str} {ds : List D} {vs : List V} (h : DLs K i H ds vs) : LocR K i H (ds.map some ++ List.replicate (N.length - ds.length) none) (L2.start N vs) := by
  refine ⟨by unfold L2.start; simp [h.length], fun n d hn => ?_⟩
  have key : ∀ (ds : List D) (vs : List V) (n : Nat) (d : D), DLs K i H ds vs → ds[n]? = some d → ∃ v, vs[n]? = some v ∧ DV K i H d v := by
    intro ds
    induction ds with
    | nil => intro vs n d _ h; simp at h
    | cons x ds ih =>
      intro vs n d h hn
      simp only [DLs] at h
      obtain ⟨v, r, h1, h2, h3⟩ := h
      subst h1
      cases n with
      | zero =>
        have e : x = d := by simpa using hn
        subst e
        exact ⟨v, rfl, h2⟩
      | succ n => exact ih r n d h3 (by simpa using hn)
  by_cases hl : n < ds.length
  · rw [List.getElem?_append_left (by simpa using hl), List.getElem?_map] at hn
    cases hd : ds[n]? with
    | none =>
      rw [hd] at hn
      cases hn
    | some d' =>
      rw [hd] at hn
      have e : d' = d := by simpa using hn
      subst e
      obtain ⟨v, h1, h2⟩ := key ds vs n d' h hd
      refine ⟨v, ?_, h2⟩
      unfold L2.start
      rw [List.getElem?_append_left (by simpa [← h.length] using hl), List.getElem?_map, h1]
      rfl
  · rw [List.getElem?_append_right (by simpa using hl)] at hn
    rw [List.getElem?_replicate] at hn
    split at hn <;> simp at hn
/-- THE RULE for a def -/
theorem ok_def {x qual : Str} {st : Stmt} {f : Addr} {fd : FuncData} {N ps : List Str} {k : Nat} {body : GS} (F : Fun K x qual st f fd) (S : FnScope N ps (defScope st)) 
    (hbody : ∀ (cdv : Value) (A : Around) (outer : List Env) (s : Shared) (H : Hp) (E : XK), Room k (A.deeper (PyProof.Rows.envOfC qual (defScope st) s.heap.objs.size f cdv)) →
      SSs (cxOf (L2.CX P w) P w K mg base N qual (defScope st) f cdv A outer s H E) C (fun c d _ H' => E c d H') (defBody st) body) : FnOk P w K mg base (L2.CX P w) (k + 1) f fd ps (spG K mg C (mDef ps.length N.length body)) := by
  refine F.okX S (fun vs H Q E h => ?_) (fun cdv A outer s H vs Q E hr h => ?_)
  · obtain ⟨i, M, ds, r, m, rl, e, q⟩ := h
    rw [← rl.length]
    exact mDef_len e
  · obtain ⟨i, M, ds, r, m, rl, e, q⟩ := h
    obtain ⟨t, p, sd⟩ := (hbody cdv A outer s H E hr).ex
    have hl := mDef_len e
    unfold mDef at e
    rw [if_pos hl] at e
    cases hb : body (ds.map some ++ List.replicate (N.length - ps.length) none) M with
    | none =>
      rw [hb] at e
      cases e
    | some z =>
      obtain ⟨fl, M1⟩ := z
      rw [hb] at e
      refine ⟨t, p, sd i _ M _ H _ _ m (start_loc rl) (by rw [← hl] at hb; exact hb) ?_⟩
      cases fl with
      | nx L1 =>
        cases e
        exact fun i' H' σ' g m' l' => q i' H' .non g m' (by simp only [DV])
      | rt d =>
        cases e
        exact fun i' H' v g m' rv => q i' H' v g m' rv
      | ex c L1 =>
        cases e
        exact fun i' H' σ' cc hc g m' l' => q i' H' cc hc g m'
      | bk L1 => cases e
      | ct L1 => cases e
end
end
end BL
/-! BLIter: what loops walk. -/
namespace PySem
open Sem (wp)
open AutoSeq1 (wpAny_loadPart')
theorem bl_meets_enumT {v : Value} {o : Obj} {H : Heap → Prop} (B : Begins v o H) :
    Meets (Builtin.«enumerate.__new__» ⟨[.type "enumerate", v], []⟩) (fun _ R s => H s.heap ∧
      R (.ok (.ret (.ref (s.heap.push o).objs.size))) { s with heap := (s.heap.push o).push { cls := .type "enumerate", data := .fields #[.none, .bool false, .ref s.heap.objs.size, rawInt 0, .none, .none] } }) :=
  .of_wp fun prog w A R s h => by
    obtain ⟨hp, g, d, tk, os⟩ := s; obtain ⟨h1, h⟩ := h
    have hsub := sub_enumerate
    have q1 : ∀ {A' : Around} {E : Value → Shared → Prop} {Q : Value → Shared → Prop}, Q (.ref hp.objs.size) ⟨hp.push o, g, d, tk, os⟩ → wpAny (model prog w) A' (pyIter v) Q E ⟨hp, g, d, tk, os⟩ :=
      fun q => B.iter prog w _ _ ⟨hp, g, d, tk, os⟩ _ h1 q
    wp_walk using q1
    refine wpAny_stack_any fun st => wpAny_pure ?_
    split
    · rename_i c _ _ _ _ _
      cases (c == Value.type "enumerate")
      · wp_walk using q1
        exact ⟨_, rfl, h⟩
      · wp_walk using q1
        exact ⟨_, rfl, h⟩
    · wp_walk using q1
      exact ⟨_, rfl, h⟩
theorem bl_call_enumT {prog : Program} {w : World} {A : Around} {E : Value → Shared → Prop} {s : Shared} {v : Value} {o : Obj} {H : Heap → Prop} {Q : Value → Shared → Prop} (B : Begins v o H) (h1 : H s.heap)
    (h : ∀ h', IsEnum h' (s.heap.objs.size + 1) s.heap.objs.size 0 .none → h'.get? s.heap.objs.size = some o → h'.objs.size = s.heap.objs.size + 2 →
      (∀ b o, s.heap.get? b = some o → h'.get? b = some o) → Q (.ref (s.heap.objs.size + 1)) { s with heap := h' }) :
    wpAny (model prog w) A (call (.type "enumerate") [v]) Q E s := by
  refine callType_new F.called_enumerate (by decide) (F.typeCall_enumerate_1 _) (F.newCall_enumerate_1 _) (fun obj => F.args_object_init_2 obj _) F.entry_enumerate_new (bl_meets_enumT B) ⟨h1, ?_⟩
  have hz : (s.heap.push o).objs.size = s.heap.objs.size + 1 := Heap.size_push ..
  show _ ∧ _
  rw [hz]
  have he : IsEnum ((s.heap.push o).push { cls := .type "enumerate", data := .fields #[.none, .bool false, .ref s.heap.objs.size, rawInt 0, .none, .none] }) (s.heap.objs.size + 1) s.heap.objs.size 0 .none := by
    have := Heap.get?_push_size (s.heap.push o) (o := { cls := .type "enumerate", data := .fields #[.none, .bool false, .ref s.heap.objs.size, rawInt 0, .none, .none] }) rfl
    rw [hz] at this; exact this
  refine ⟨⟨_, he, rfl⟩, h _ he (Heap.get?_push_of_some _ (Heap.get?_push_size _ B.free)) (by rw [Heap.size_push, hz]) fun b o x => Heap.get?_push_of_some _ (Heap.get?_push_of_some _ x)⟩
end PySem
namespace BL
open PySem L2

/-- a tuple's items in new pairs -/
def IteT (K : PySem.W.Frag) (a : Addr) : It :=
  ⟨fun i H => ∃ (xs : List V) (x : V), SqT K H a xs ∧ xs[i]? = some x, fun i H v H' => ∃ T x, v = .ref T ∧ H T = none ∧ H' = upd H T (.tup [.int (i : Nat), x]) ∧ ∀ xs, SqT K H a xs → xs[i]? = some x, fun i H => ∃ xs : List V, SqT K H a xs ∧ xs.length ≤ i⟩
theorem turn_enumT {P : Program} {w : World} {K : PySem.W.Frag} {elts : List Expr} {kk : Nat} {tpos : Pos} (a e it : Addr) :
    Turn P w K (.Tuple elts kk tpos) (IteT K a) [e, it] e (fun i h => (∃ old, IsEnum h e it ((i : Nat) : Int) old) ∧ h.IsTupleIter it a i ∧ e ≠ it ∧ a ≠ it ∧ a ≠ e) where
  mem := by simp
  obj := fun i h st b hb => by
    obtain ⟨⟨old, he⟩, ⟨o, ho, hc, hd⟩, _⟩ := st
    have e' : b = e ∨ b = it := by simpa using hb
    rcases e' with z | z
    · rw [z]; exact ⟨_, he, fun v q => nomatch q⟩
    · rw [z]; exact ⟨o, ho, fun v q => by rw [hd] at q; cases q⟩
  keep := fun i h h' st k => let ⟨⟨old, he⟩, hi, hne⟩ := st; ⟨⟨old, k e (by simp) _ he⟩, hi.at fun o q => k it (by simp) o q, hne⟩
  item := by
    intro X hP hw hK hc i pins s σ H E I hf st hg
    subst hP hw hK
    obtain ⟨⟨old, he⟩, hit, hne, hat, hae⟩ := st
    obtain ⟨xs, x, hq, hx⟩ := hg
    obtain ⟨its, rv, p, hz⟩ := I.tuple hq
    obtain ⟨u, hu, ru⟩ := rv.get hx
    have hel : e < s.heap.objs.size := Heap.lt_size he
    have hil : it < s.heap.objs.size := by obtain ⟨_, q, _⟩ := hit; exact Heap.lt_size q
    have hlt : i < its.toArray.size := by
      have := (List.getElem?_eq_some_iff.mp hx).1
      simp only [List.size_toArray, ← rv.length]
      exact this
    have D := Draws.tuple (prog := X.prog) (w := X.w) (A := X.A.in1) (show X.A.in1.handled = none from I.ok.hd hc) it a hat its.toArray
    refine wpAny_pyNext_enum_itemD D he ⟨hit, p⟩ hlt hne (by simp [hne, Ne.symm hae]) fun y h' tk hP ho hst hT hsz hk => ?_
    have ey : y = u := by
      have h2 : its.toArray[i]? = some u := by simpa using hu
      exact Option.some.inj (hP.symm.trans h2)
    subst ey
    refine ⟨_, rfl, wpAny_letOwnedTupleGo_enum (s := { s with heap := h', toks := tk + 1 }) ho fun h'' he' sb => ?_⟩
    have hT2 : h''.get? s.heap.objs.size = some { cls := .type "tuple", data := .seq #[.int i tk, y] } := (sb.2 _ (Nat.ne_of_gt hel)).trans hT
    have new : ObjOk X.prog X.w (upd H s.heap.objs.size (.tup [.int (i : Nat), x])) h'' s.heap.objs.size (.tup [.int (i : Nat), x]) :=
      ⟨by show 2 ≤ sizeLine; decide, [.int i tk, y], .cons ⟨_, rfl⟩ (.cons ru .nil), ⟨_, hT2, rfl, _, rfl⟩⟩
    have I1 : Inv X pins σ (upd H s.heap.objs.size (.tup [.int (i : Nat), x])) { s with heap := h'', toks := tk + 1 } :=
      I.turnedNew (ch := [e, it]) (fun b ob hb q => (sb.2 b (fun z => hb (by simp [z]))).trans (hk b ob (fun z => hb (by simp [z])) (fun z => hb (by simp [z])) q)) hf (Nat.le_refl _) new
    refine ⟨.ref s.heap.objs.size, _, I1, rfl, ⟨_, x, rfl, I.hok.fresh (Nat.le_refl _), rfl, fun ys hy => by rw [I.tuple_inj hy hq]; exact hx⟩, ⟨⟨y, ?_⟩, hst.1.at fun o q => (sb.2 it (Ne.symm hne)).trans q, hne, hat, hae⟩, fun b hb => ?_⟩
    · have e1 : ((i + 1 : Nat) : Int) = (i : Int) + 1 := by omega
      rw [e1]; exact he'
    · have hb' : b < s.heap.objs.size := by
        have e' : b = e ∨ b = it := by simpa using hb
        rcases e' with z | z
        · rw [z]; exact hel
        · rw [z]; exact hil
      rw [upd_ne (Nat.ne_of_lt hb')]
      exact (hf b hb).1
  done := by
    intro X hP hw hK hc i pins s σ H E I hf st hg
    subst hP hw hK
    obtain ⟨⟨old, he⟩, hit, hne, hat, hae⟩ := st
    obtain ⟨xs, hq, hx⟩ := hg
    obtain ⟨its, rv, p, hz⟩ := I.tuple hq
    obtain ⟨f0, f1, f2, f3, f4, f5⟩ := hf it (by simp)
    have hl := rv.length
    have hT : s.TypeIs (.ref e) "enumerate" := ⟨_, he, rfl⟩
    unfold pyNext
    refine wpAny_bind (wpAny_attempt (wpAny_callSpecial?_slot (name := Str.ofString "__next__") hT F.slot_enumerate_next
      (wpAny_call_entry F.slot_enumerate_next hT F.entry_enumerate_next ?_ (F.args_enumerate_next_1 _))))
    show wpAny _ _ (field (.ref e) 2 >>= _) _ _ _
    refine wpAny_bind (wpAny_field he rfl (x := .ref it) rfl ?_)
    refine wpAny_bind (wpAny_nextOf_tuple_end (show X.A.in1.handled = none from I.ok.hd hc) hit p (by simp; omega) fun h' x he' hx' => ?_)
    obtain ⟨o, ho, hc'⟩ := hx'
    refine wpAny_bind (wpAny_isInstance (T := "StopIteration") (b := true) ⟨o, ho, hc'⟩ isSubtype_stop ?_)
    exact wpAny_pure ⟨rfl, I.turned (t' := s.toks) (fun b o hb q => he' b o hb q) f0 f1 f3 f4 f5⟩
  self := fun A i s Q E st h => let ⟨⟨_, he⟩, _⟩ := st; wpAny_pyIter_enum he h
def iEnumA (K : PySem.W.Frag) (ta : TA) : TI := fun σ H R => ta σ H fun vs H1 => ∃ a xs, vs = [.ref a] ∧ ((SqL K H1 a xs ∧ R (Ite K a) H1) ∨ (SqT K H1 a xs ∧ R (IteT K a) H1))
theorem pi_enumA {X : Cx} {e : Expr} {ta : TA} {p pos tpos : Pos} {elts : List Expr} {kk : Nat} (hg : Gl X "enumerate") (hm : X.mg "enumerate" = none) (ha : PA X [e] ta) (hs : starEach [e] X.env = [(false, eval e X.env)] := by rfl) :
    PI X (.Tuple elts kk tpos) (.Call (.Name "enumerate" p) [e] [] pos) (iEnumA X.K ta) := by
  refine ⟨fun pins s σ H R I h => ?_⟩
  refine PyProof.Rows.Call_ (ld_blt I hg hm PyProof.Rows.boot_enumerate (PyProof.Rows.callWith_type1 (thn (ha.run pos pins s σ H _ I h) fun us s1 ⟨vs, H1, I1, r1, q1⟩ => ?_) hs rfl))
  obtain ⟨a, xs, ex, q⟩ := q1
  subst ex
  cases r1 with
  | cons r rr =>
    cases rr
    cases r
    rcases q with ⟨hq, q⟩ | ⟨hq, q⟩
    · obtain ⟨its, rv, p', hz⟩ := I1.list hq
      refine call_enumerate_list p'.isList fun h' he hit hsz hk => wpAny_pyIter_enum he ?_
      have I2 : Inv X pins σ H1 { s1 with heap := h' } := I1.kept (t' := s1.toks) hk
      refine ⟨s1.heap.objs.size + 1, [s1.heap.objs.size + 1, s1.heap.objs.size], _, _, H1, rfl, I2, turn_enum a (s1.heap.objs.size + 1) s1.heap.objs.size, ⟨⟨.none, he⟩, hit, Nat.succ_ne_self _⟩, fun b hb => ?_, q⟩
      have e' : b = s1.heap.objs.size + 1 ∨ b = s1.heap.objs.size := by simpa using hb
      have hle : s1.heap.objs.size ≤ b := by
        rcases e' with z | z
        · rw [z]; exact Nat.le_add_right _ _
        · rw [z]; exact Nat.le_refl _
      exact I1.fpOk hle (I1.hok.fresh hle)
    · obtain ⟨its, rv, p', hz⟩ := I1.tuple hq
      have hlt : a < s1.heap.objs.size := by obtain ⟨o, ho, _⟩ := id p'; exact Heap.lt_size ho
      refine bl_call_enumT (begins_tuple a its.toArray) (show s1.heap.IsTuple a its.toArray from p') fun h' he hit hsz hk => wpAny_pyIter_enum he ?_
      have I2 : Inv X pins σ H1 { s1 with heap := h' } := I1.kept (t' := s1.toks) hk
      refine ⟨s1.heap.objs.size + 1, [s1.heap.objs.size + 1, s1.heap.objs.size], _, _, H1, rfl, I2, turn_enumT a (s1.heap.objs.size + 1) s1.heap.objs.size, ⟨⟨.none, he⟩, ⟨_, hit, rfl, rfl⟩, Nat.succ_ne_self _, Nat.ne_of_lt hlt, Nat.ne_of_lt (Nat.lt_succ_of_lt hlt)⟩, fun b hb => ?_, q⟩
      have e' : b = s1.heap.objs.size + 1 ∨ b = s1.heap.objs.size := by simpa using hb
      have hle : s1.heap.objs.size ≤ b := by
        rcases e' with z | z
        · rw [z]; exact Nat.le_add_right _ _
        · rw [z]; exact Nat.le_refl _
      exact I1.fpOk hle (I1.hok.fresh hle)
/-- any sequence -/
def iSeq (K : PySem.W.Frag) (tl : TE) : TI := fun σ H R => tl σ H fun x H1 => ∃ a xs, x = .ref a ∧ ((SqL K H1 a xs ∧ R (Itl K a) H1) ∨ (SqT K H1 a xs ∧ R (Itt K a) H1))
theorem pi_seq {X : Cx} {tg l : Expr} {tl : TE} (hl : PE X l tl) : PI X tg l (iSeq X.K tl) := by
  refine ⟨fun pins s σ H R I h => ?_⟩
  refine thn (hl.run pins s σ H _ I h) fun v s1 ⟨x, H1, I1, r1, q1⟩ => ?_
  obtain ⟨a, xs, e, q⟩ := q1
  subst e
  cases r1
  rcases q with ⟨hq, q⟩ | ⟨hq, q⟩
  · obtain ⟨its, rv, p, hz⟩ := I1.list hq
    refine PySem.wpAny_pyIter_list p.isList ?_
    refine ⟨s1.heap.objs.size, [s1.heap.objs.size], _, _, H1, rfl, I1.kept (t' := s1.toks) fun b o e => Heap.get?_push_of_some _ e, turn_list a _, ⟨_, Heap.get?_push_size _ rfl, rfl, rfl⟩, fun b hb => ?_, q⟩
    have e : b = s1.heap.objs.size := by simpa using hb
    subst e
    exact I1.fpOk (Nat.le_refl _) (I1.hok.fresh (Nat.le_refl _))
  · obtain ⟨its, rv, p, hz⟩ := I1.tuple hq
    refine PySem.wpAny_pyIter_tuple (show s1.heap.IsTuple a its.toArray from p) ?_
    refine ⟨s1.heap.objs.size, [s1.heap.objs.size], _, _, H1, rfl, I1.kept (t' := s1.toks) fun b o e => Heap.get?_push_of_some _ e, turn_tuple a _, ⟨_, Heap.get?_push_size _ rfl, rfl, rfl⟩, fun b hb => ?_, q⟩
    have e : b = s1.heap.objs.size := by simpa using hb
    subst e
    exact I1.fpOk (Nat.le_refl _) (I1.hok.fresh (Nat.le_refl _))

/-! ### in the machine -/
def oSrc : D → Mem → Option Src := fun d M => match d with
  | .tup ds => some ⟨ds, none⟩
  | .scr ns => some ⟨ns.map D.int, none⟩
  | .ref n => (match M[n]? with
    | some (.lst ds) => some ⟨ds, some (n, ds)⟩
    | _ => none)
  | _ => none
def Src.map (f : List D → List D) (s : Src) : Src := ⟨f s.items, s.guard⟩
def mSeqI (f : List D → List D) (e : GE) : GI := fun L M => bnd (e L M) fun d M1 => match oSrc d M1 with
  | some s => some (.ok (s.map f) M1)
  | none => none
def pairUp (k : Nat) : List D → List D
  | [] => []
  | d :: ds => .tup [.int (k : Int), d] :: pairUp (k + 1) ds
theorem pairUp_get : ∀ (ds : List D) (k n : Nat), (pairUp k ds)[n]? = ds[n]?.map fun d => .tup [.int ((k + n : Nat) : Int), d]
  | [], k, n => by simp [pairUp]
  | d :: ds, k, 0 => by simp [pairUp]
  | d :: ds, k, n + 1 => by
    rw [pairUp, List.getElem?_cons_succ, List.getElem?_cons_succ, pairUp_get ds (k + 1) n, show k + 1 + n = k + (n + 1) by omega]
theorem pairUp_length : ∀ (ds : List D) (k : Nat), (pairUp k ds).length = ds.length
  | [], _ => rfl
  | d :: ds, k => by rw [pairUp, List.length_cons, List.length_cons, pairUp_length]
abbrev mIter (e : GE) : GI := mSeqI (fun ds => ds) e
abbrev mEnum (e : GE) : GI := mSeqI (pairUp 0) e
abbrev mRev (e : GE) : GI := mSeqI List.reverse e
section
variable {K : PySem.W.Frag} {C : Addr} {i0 i : List Addr} {H0 H : Hp} {M : Mem}
theorem DLs.get : ∀ {ds : List D} {vs : List V}, DLs K i H ds vs → ∀ {n : Nat} {d : D}, ds[n]? = some d → ∃ v, vs[n]? = some v ∧ DV K i H d v
  | [], vs, h, n, d, hn => by simp at hn
  | x :: ds, vs, h, n, d, hn => by
    simp only [DLs] at h
    obtain ⟨v, r, h1, h2, h3⟩ := h
    subst h1
    cases n with
    | zero =>
      have e : x = d := by simpa using hn
      subst e
      exact ⟨v, rfl, h2⟩
    | succ n => exact DLs.get h3 (by simpa using hn)
theorem dl_ints : ∀ (ns : List Int), DLs K i H (ns.map D.int) (ns.map V.int)
  | [] => by simp only [List.map, DLs]
  | n :: ns => by
    simp only [List.map, DLs]
    exact ⟨_, _, rfl, by simp only [DV], dl_ints ns⟩
/-- what stands behind a sequence: a list or a tuple at a, its values by the items, as long as the guard holds -/
def SeqAt' (K : PySem.W.Frag) (C : Addr) (i0 : List Addr) (H0 : Hp) (s : Src) (a : Addr) (b : Bool) : Prop :=
  ∀ i H M, Gro i0 H0 i H → MemR K C i M H → s.ok M → ∃ vs, DLs K i H s.items vs ∧ (if b = true then SqL K H a vs else SqT K H a vs)
theorem src_at {d : D} {x : V} {s : Src} (m : MemR K C i0 M H0) (r : DV K i0 H0 d x) (e : oSrc d M = some s) : ∃ a b, x = .ref a ∧ s.ok M ∧ SeqAt' K C i0 H0 s a b := by
  cases d <;> first
    | (cases e; done)
    | skip
  · rename_i ds
    cases e
    simp only [DV] at r
    obtain ⟨a, vs, rfl, h2, h3⟩ := r
    exact ⟨a, false, rfl, trivial, fun i H M g m' _ => ⟨vs, h3.mono g, (h2.mono g.mon).seq⟩⟩
  · rename_i ns
    cases e
    simp only [DV] at r
    obtain ⟨a, rfl, h2⟩ := r
    exact ⟨a, true, rfl, trivial, fun i H M g m' _ => ⟨_, dl_ints ns, (h2.mono g.mon).seq⟩⟩
  · rename_i n
    dsimp only [oSrc] at e
    split at e
    · rename_i ds hn
      cases e
      simp only [DV] at r
      obtain ⟨a, ha, rfl⟩ := r
      refine ⟨a, true, rfl, hn, fun i H M' g m' ok => ?_⟩
      obtain ⟨vs, h1, h2⟩ := m'.ob n _ a ok (g.mon.ix ha)
      exact ⟨vs, h2, SqL.of h1⟩
    · cases e
theorem jr_list {s : Src} {a : Addr} (h : SeqAt' K C i0 H0 s a true) : JR K C i0 H0 s (Itl K a) := fun i H M n g m ok => by
  obtain ⟨vs, h1, h2⟩ := h i H M g m ok
  refine ⟨fun d hd => ?_, fun hn => ⟨vs, h2, by rw [← h1.length]; exact hn⟩⟩
  obtain ⟨v, hv, rv⟩ := h1.get hd
  refine ⟨⟨vs, v, h2, hv⟩, fun x H' y => ?_⟩
  obtain ⟨rfl, y⟩ := y
  have e := Option.some.inj ((y vs h2).symm.trans hv)
  subst e
  exact ⟨Gro.refl, m, rv⟩
theorem jr_tup {s : Src} {a : Addr} (h : SeqAt' K C i0 H0 s a false) : JR K C i0 H0 s (Itt K a) := fun i H M n g m ok => by
  obtain ⟨vs, h1, h2⟩ := h i H M g m ok
  refine ⟨fun d hd => ?_, fun hn => ⟨vs, h2, by rw [← h1.length]; exact hn⟩⟩
  obtain ⟨v, hv, rv⟩ := h1.get hd
  refine ⟨⟨vs, v, h2, hv⟩, fun x H' y => ?_⟩
  obtain ⟨rfl, y⟩ := y
  have e := Option.some.inj ((y vs h2).symm.trans hv)
  subst e
  exact ⟨Gro.refl, m, rv⟩
theorem pair_end {n : Nat} {d : D} {v : V} {T : Addr} (m : MemR K C i M H) (rv : DV K i H d v) (hT : H T = none) : Gro i H i (upd H T (.tup [.int (n : Nat), v])) ∧ MemR K C i M (upd H T (.tup [.int (n : Nat), v])) ∧ DV K i (upd H T (.tup [.int (n : Nat), v])) (.tup [.int ((0 + n : Nat) : Int), d]) (.ref T) := by
  refine ⟨ext_new hT, m.new hT, ?_⟩
  simp only [DV, DLs]
  exact ⟨T, [.int (n : Nat), v], rfl, .inl upd_same, .int (n : Nat), [v], rfl, by rw [Nat.zero_add], v, [], rfl, rv.mono (ext_new hT), rfl⟩
theorem jr_enum {s : Src} {a : Addr} (h : SeqAt' K C i0 H0 s a true) : JR K C i0 H0 (s.map (pairUp 0)) (Ite K a) := fun i H M n g m ok => by
  obtain ⟨vs, h1, h2⟩ := h i H M g m ok
  refine ⟨fun d hd => ?_, fun hn => ⟨vs, h2, by rw [← h1.length]; simpa [Src.map, pairUp_length] using hn⟩⟩
  have hd' : (pairUp 0 s.items)[n]? = some d := hd
  rw [pairUp_get] at hd'
  obtain ⟨d0, hd0, rfl⟩ := Option.map_eq_some_iff.mp hd'
  obtain ⟨v, hv, rv⟩ := h1.get hd0
  refine ⟨⟨vs, v, h2, hv⟩, fun x H' y => ?_⟩
  obtain ⟨T, x', rfl, hT, rfl, y⟩ := y
  have e := Option.some.inj ((y vs h2).symm.trans hv)
  subst e
  exact pair_end m rv hT
theorem jr_enumT {s : Src} {a : Addr} (h : SeqAt' K C i0 H0 s a false) : JR K C i0 H0 (s.map (pairUp 0)) (IteT K a) := fun i H M n g m ok => by
  obtain ⟨vs, h1, h2⟩ := h i H M g m ok
  refine ⟨fun d hd => ?_, fun hn => ⟨vs, h2, by rw [← h1.length]; simpa [Src.map, pairUp_length] using hn⟩⟩
  have hd' : (pairUp 0 s.items)[n]? = some d := hd
  rw [pairUp_get] at hd'
  obtain ⟨d0, hd0, rfl⟩ := Option.map_eq_some_iff.mp hd'
  obtain ⟨v, hv, rv⟩ := h1.get hd0
  refine ⟨⟨vs, v, h2, hv⟩, fun x H' y => ?_⟩
  obtain ⟨T, x', rfl, hT, rfl, y⟩ := y
  have e := Option.some.inj ((y vs h2).symm.trans hv)
  subst e
  exact pair_end m rv hT
theorem rev_get {s : Src} {n : Nat} {d : D} (hd : (s.map List.reverse).items[n]? = some d) : n < s.items.length ∧ s.items[s.items.length - 1 - n]? = some d := by
  have hd' : s.items.reverse[n]? = some d := hd
  have hn : n < s.items.length := by
    have := (List.getElem?_eq_some_iff.mp hd').1
    simpa using this
  exact ⟨hn, by rw [List.getElem?_reverse hn] at hd'; exact hd'⟩
theorem jr_rev {s : Src} {a : Addr} (h : SeqAt' K C i0 H0 s a true) : JR K C i0 H0 (s.map List.reverse) (Itv K a s.items.length) := fun i H M n g m ok => by
  obtain ⟨vs, h1, h2⟩ := h i H M g m ok
  refine ⟨fun d hd => ?_, fun hn => (show s.items.length ≤ n by simpa [Src.map] using hn)⟩
  obtain ⟨hn, hd0⟩ := rev_get hd
  obtain ⟨v, hv, rv⟩ := h1.get hd0
  refine ⟨⟨hn, vs, v, h2, hv⟩, fun x H' y => ?_⟩
  obtain ⟨rfl, y⟩ := y
  have e := Option.some.inj ((y vs h2).symm.trans hv)
  subst e
  exact ⟨Gro.refl, m, rv⟩
theorem jr_revT {s : Src} {a : Addr} (h : SeqAt' K C i0 H0 s a false) : JR K C i0 H0 (s.map List.reverse) (RT.ItvT K a s.items.length) := fun i H M n g m ok => by
  obtain ⟨vs, h1, h2⟩ := h i H M g m ok
  refine ⟨fun d hd => ?_, fun hn => (show s.items.length ≤ n by simpa [Src.map] using hn)⟩
  obtain ⟨hn, hd0⟩ := rev_get hd
  obtain ⟨v, hv, rv⟩ := h1.get hd0
  refine ⟨⟨hn, vs, v, h2, hv⟩, fun x H' y => ?_⟩
  obtain ⟨rfl, y⟩ := y
  have e := Option.some.inj ((y vs h2).symm.trans hv)
  subst e
  exact ⟨Gro.refl, m, rv⟩
end
section
variable {X : Cx} {C : Addr} {W : WX} {e a b tg : Expr} {ge ga gb : GE} {p pos tpos : Pos} {elts : List Expr} {kk : Nat}
theorem seqI_some {f : List D → List D} {d : D} {M : Mem} {r : Rz Src} (e : (match oSrc d M with
  | some s => some (Rz.ok (s.map f) M)
  | none => none) = some r) : ∃ s, oSrc d M = some s ∧ r = .ok (s.map f) M := by
  split at e
  · rename_i s hs
    exact ⟨s, hs, (Option.some.inj e).symm⟩
  · cases e
theorem map_id (s : Src) : s.map (fun ds => ds) = s := rfl
theorem si_seq (he : SE X C W e ge) : SI X C W tg e (mIter ge) := by
  obtain ⟨t, p, s⟩ := he.ex
  refine ⟨_, pi_seq p, fun i L M σ H r Q m l e q => ?_⟩
  refine s.step m l e q fun dx M1 i1 H1 x g1 m1 l1 rx e1 q1 => ?_
  obtain ⟨sr, h1, rfl⟩ := seqI_some e1
  obtain ⟨a, b, rfl, ok, h⟩ := src_at m1 rx h1
  obtain ⟨vs, h2, h3⟩ := h i1 H1 M1 Gro.refl m1 ok
  cases b with
  | true => exact ⟨a, vs, rfl, .inl ⟨h3, q1 i1 H1 _ Gro.refl m1 (jr_list h)⟩⟩
  | false => exact ⟨a, vs, rfl, .inr ⟨h3, q1 i1 H1 _ Gro.refl m1 (jr_tup h)⟩⟩
theorem si_enum (hg : Gl X "enumerate") (hm : X.mg "enumerate" = none) (he : SE X C W e ge) (hs : starEach [e] X.env = [(false, eval e X.env)] := by rfl) (hs2 : starEach (e :: []) X.env = (false, eval e X.env) :: starEach [] X.env := by rfl) :
    SI X C W (.Tuple elts kk tpos) (.Call (.Name "enumerate" p) [e] [] pos) (mEnum ge) := by
  obtain ⟨t, p, s⟩ := he.ex
  refine ⟨_, pi_enumA hg hm (pa_cons p pa_nil hs2) hs, fun i L M σ H r Q m l e q => ?_⟩
  refine s.step m l e q fun dx M1 i1 H1 x g1 m1 l1 rx e1 q1 => ?_
  obtain ⟨sr, h1, rfl⟩ := seqI_some e1
  obtain ⟨a, b, rfl, ok, h⟩ := src_at m1 rx h1
  obtain ⟨vs, h2, h3⟩ := h i1 H1 M1 Gro.refl m1 ok
  cases b with
  | true => exact ⟨a, vs, rfl, .inl ⟨h3, q1 i1 H1 _ Gro.refl m1 (jr_enum h)⟩⟩
  | false => exact ⟨a, vs, rfl, .inr ⟨h3, q1 i1 H1 _ Gro.refl m1 (jr_enumT h)⟩⟩
theorem si_rev (hg : Gl X "reversed") (hm : X.mg "reversed" = none) (he : SE X C W e ge) (hs2 : starEach (e :: []) X.env = (false, eval e X.env) :: starEach [] X.env := by rfl) :
    SI X C W tg (.Call (.Name "reversed" p) [e] [] pos) (mRev ge) := by
  obtain ⟨t, p, s⟩ := he.ex
  refine ⟨_, RT.pi_revA hg hm p hs2, fun i L M σ H r Q m l e q => ?_⟩
  refine s.step m l e q fun dx M1 i1 H1 x g1 m1 l1 rx e1 q1 => ?_
  obtain ⟨sr, h1, rfl⟩ := seqI_some e1
  obtain ⟨a, b, rfl, ok, h⟩ := src_at m1 rx h1
  obtain ⟨vs, h2, h3⟩ := h i1 H1 M1 Gro.refl m1 ok
  have hl : vs.length = sr.items.length := h2.length.symm
  cases b with
  | true => exact ⟨a, vs, rfl, .inl ⟨h3, by rw [hl]; exact q1 i1 H1 _ Gro.refl m1 (jr_rev h)⟩⟩
  | false => exact ⟨a, vs, rfl, .inr ⟨h3, by rw [hl]; exact q1 i1 H1 _ Gro.refl m1 (jr_revT h)⟩⟩
/-! ### ranges -/
def fits62 (i : Int) : Prop := -(2 ^ 62) ≤ i ∧ i < 2 ^ 62
instance (i : Int) : Decidable (fits62 i) := inferInstanceAs (Decidable (_ ∧ _))
def rng (lo : Int) (n : Nat) : List D := (List.range n).map fun (k : Nat) => D.int (lo + (k : Int))
def mRange1 (e : GE) : GI := fun L M => bnd (e L M) fun d M1 => match d with
  | .int j => if fits62 j then some (.ok ⟨rng 0 j.toNat, none⟩ M1) else none
  | _ => none
def mRange2 (a b : GE) : GI := fun L M => bnd (a L M) fun d M1 => bnd (b L M1) fun d2 M2 => match d, d2 with
  | .int i, .int j => if fits62 i ∧ fits62 j then some (.ok ⟨rng i (j - i).toNat, none⟩ M2) else none
  | _, _ => none
theorem jr_rng {K : PySem.W.Frag} {i0 : List Addr} {H0 : Hp} (lo : Int) (n : Nat) : JR K C i0 H0 ⟨rng lo n, none⟩ (Itr lo n) := fun i H M k g m ok => by
  refine ⟨fun d hd => ?_, fun hn => (show n ≤ k by simpa [rng] using hn)⟩
  have hd' : (rng lo n)[k]? = some d := hd
  unfold rng at hd'
  rw [List.getElem?_map] at hd'
  obtain ⟨j, hj, rfl⟩ := Option.map_eq_some_iff.mp hd'
  have hk : k < n := by
    have := (List.getElem?_eq_some_iff.mp hj).1
    simpa using this
  rw [List.getElem?_range hk] at hj
  cases hj
  refine ⟨hk, fun x H' y => ?_⟩
  obtain ⟨rfl, rfl⟩ := y
  exact ⟨Gro.refl, m, by simp only [DV]⟩
theorem si_range1 (hg : Gl X "range") (hm : X.mg "range" = none) (he : SE X C W e ge) (hs : starEach [e] X.env = [(false, eval e X.env)] := by rfl) (hs2 : starEach (e :: []) X.env = (false, eval e X.env) :: starEach [] X.env := by rfl) :
    SI X C W tg (.Call (.Name "range" p) [e] [] pos) (mRange1 ge) := by
  obtain ⟨t, p, s⟩ := he.ex
  refine ⟨_, pi_range1 hg hm (pa_cons p pa_nil hs2) hs, fun i L M σ H r Q m l e q => ?_⟩
  refine s.step m l e q fun dx M1 i1 H1 x g1 m1 l1 rx e1 q1 => ?_
  cases dx <;> first
    | (cases e1; done)
    | skip
  rename_i j
  dsimp only at e1
  split at e1
  · rename_i hf
    cases e1
    simp only [DV] at rx
    subst rx
    exact ⟨j, rfl, hf.1, hf.2, q1 i1 H1 _ Gro.refl m1 (jr_rng 0 j.toNat)⟩
  · cases e1
theorem si_range2 (hg : Gl X "range") (hm : X.mg "range" = none) (ha : SE X C W a ga) (hb : SE X C W b gb) (hs : starEach [a, b] X.env = [(false, eval a X.env), (false, eval b X.env)] := by rfl) (hs1 : starEach [b] X.env = [(false, eval b X.env)] := by rfl)
    (hs2 : starEach (a :: [b]) X.env = (false, eval a X.env) :: starEach [b] X.env := by rfl) (hs3 : starEach (b :: []) X.env = (false, eval b X.env) :: starEach [] X.env := by rfl) :
    SI X C W tg (.Call (.Name "range" p) [a, b] [] pos) (mRange2 ga gb) := by
  obtain ⟨t, p, s⟩ := ha.ex
  obtain ⟨t2, p2, s2⟩ := hb.ex
  refine ⟨_, pi_range2 hg hm (pa_cons p (pa_cons p2 pa_nil hs3) hs2) hs hs1, fun i L M σ H r Q m l e q => ?_⟩
  refine s.step m l e q fun dx M1 i1 H1 x g1 m1 l1 rx e1 q1 => ?_
  refine s2.step m1 l1 e1 q1 fun dy M2 i2 H2 y g2 m2 l2 ry e2 q2 => ?_
  cases dx <;> first
    | (cases e2; done)
    | skip
  rename_i ji
  cases dy <;> first
    | (cases e2; done)
    | skip
  rename_i jj
  dsimp only at e2
  split at e2
  · rename_i hf
    cases e2
    simp only [DV] at rx ry
    subst rx ry
    exact ⟨ji, jj, rfl, ⟨hf.1.1, hf.1.2, hf.2.1, hf.2.2⟩, q2 i2 H2 _ Gro.refl m2 (jr_rng ji (jj - ji).toNat)⟩
  · cases e2
/-! ### signs -/
def mSigns (e : GE) : GI := fun L M => bnd (e L M) fun d M1 => match d with
  | .str x => some (.ok ⟨x.cps.toList.map fun c => .str ⟨#[c]⟩, none⟩ M1)
  | _ => none
theorem si_str (he : SE X C W e ge) : SI X C W tg e (mSigns ge) := by
  obtain ⟨t, p, s⟩ := he.ex
  refine ⟨_, pi_str p, fun i L M σ H r Q m l e q => ?_⟩
  refine s.step m l e q fun dx M1 i1 H1 x g1 m1 l1 rx e1 q1 => ?_
  cases dx <;> first
    | (cases e1; done)
    | skip
  rename_i z
  cases e1
  simp only [DV] at rx
  subst rx
  refine ⟨z, rfl, q1 i1 H1 _ Gro.refl m1 fun i H M k g m ok => ⟨fun d hd => ?_, fun hn => (show z.cps.size ≤ k by simpa using hn)⟩⟩
  have hd' : (z.cps.toList.map fun c => D.str ⟨#[c]⟩)[k]? = some d := hd
  rw [List.getElem?_map] at hd'
  obtain ⟨c, hc, rfl⟩ := Option.map_eq_some_iff.mp hd'
  have hk : k < z.cps.size := by
    have := (List.getElem?_eq_some_iff.mp hc).1
    simpa using this
  refine ⟨hk, fun x H' y => ?_⟩
  obtain ⟨rfl, c', hc', rfl⟩ := y
  have e : c = c' := by
    rw [Array.getElem?_toList] at hc
    exact Option.some.inj (hc.symm.trans hc')
  subst e
  exact ⟨Gro.refl, m, by simp only [DV]⟩
end
end BL
/-! BLOps: operators, comparisons, built-ins, methods by values. -/
namespace BL
open PySem L2

theorem small_line {n : Nat} (h : n < 16000000) : n < sizeLine := by rw [PySem.sizeLine_eq]; omega
/-! ### what an operation leaves -/
section
variable {K : PySem.W.Frag} {C : Addr} {i : List Addr} {M : Mem} {H : Hp} {d : D} {Q : VK}
abbrev Goes (K : PySem.W.Frag) (C : Addr) (i : List Addr) (H : Hp) (d : D) (M' : Mem) (Q : VK) : Prop := ∀ i' H' z, Gro i H i' H' → MemR K C i' M' H' → DV K i' H' d z → Q z H'
theorem goSame {v : V} (q : Goes K C i H d M Q) (m : MemR K C i M H) (r : DV K i H d v) : Q v H := q i H v Gro.refl m r
theorem goInt {k : Int} (q : Goes K C i H (.int k) M Q) (m : MemR K C i M H) : Q (.int k) H := goSame q m (by simp only [DV])
theorem goBl {k : Bool} (q : Goes K C i H (.bl k) M Q) (m : MemR K C i M H) : Q (.bl k) H := goSame q m (by simp only [DV])
theorem goStr {k : Str} (q : Goes K C i H (.str k) M Q) (m : MemR K C i M H) : Q (.str k) H := goSame q m (by simp only [DV])
theorem goNon (q : Goes K C i H .non M Q) (m : MemR K C i M H) : Q .non H := goSame q m (by simp only [DV])
theorem goTup {ds : List D} {vs : List V} (q : Goes K C i H (.tup ds) M Q) (m : MemR K C i M H) (r : DLs K i H ds vs) : ∀ p, H p = none → Q (.ref p) (upd H p (.tup vs)) := fun p hp => by
  refine q i _ _ (ext_new hp) (m.new hp) ?_
  simp only [DV]
  exact ⟨p, vs, rfl, .inl upd_same, r.mono (ext_new hp)⟩
theorem ref_last {p : Addr} (m : MemR K C i M H) {H' : Hp} : DV K (i ++ [p]) H' (.ref M.length) (.ref p) := by
  simp only [DV]
  exact ⟨p, by rw [← m.len, List.getElem?_append_right (Nat.le_refl _), Nat.sub_self]; rfl, rfl⟩
theorem goLst {ds : List D} {vs : List V} (q : Goes K C i H (.ref M.length) (M ++ [.lst ds]) Q) (m : MemR K C i M H) (r : DLs K i H ds vs) : ∀ p, H p = none → Q (.ref p) (upd H p (.lst vs)) := fun p hp =>
  q _ _ _ (ext_laid hp) (m.laid hp ⟨vs, upd_same, r.mono (ext_laid hp)⟩) (ref_last m)
theorem goDct {ds : List (Int × D)} {vs : List (Key × V)} (q : Goes K C i H (.ref M.length) (M ++ [.dct ds]) Q) (m : MemR K C i M H) (r : DKs K i H ds vs) : ∀ p, H p = none → Q (.ref p) (upd H p (.dK vs)) := fun p hp =>
  q _ _ _ (ext_laid hp) (m.laid hp ⟨vs, upd_same, r.mono (ext_laid hp)⟩) (ref_last m)
/-- an object changed: what it gives besides -/
theorem goWlst {n : Nat} {a : Addr} {ds : List D} {vs : List V} {v : V} (q : Goes K C i H d (M.set n (.lst ds)) Q) (m : MemR K C i M H) (ha : i[n]? = some a) (r : DLs K i H ds vs) (rd : DV K i H d v) : Q v (upd H a (.lst vs)) :=
  q i _ v (ext_write m ha) (m.write ha ⟨vs, upd_same, r.mono (ext_write m ha)⟩) (rd.mono (ext_write m ha))
theorem goWdct {n : Nat} {a : Addr} {ds : List (Int × D)} {vs : List (Key × V)} {v : V} (q : Goes K C i H d (M.set n (.dct ds)) Q) (m : MemR K C i M H) (ha : i[n]? = some a) (r : DKs K i H ds vs) (rd : DV K i H d v) : Q v (upd H a (.dK vs)) :=
  q i _ v (ext_write m ha) (m.write ha ⟨vs, upd_same, r.mono (ext_write m ha)⟩) (rd.mono (ext_write m ha))
/-- a list, a dict in the memory -/
theorem lst_at {n : Nat} {ds : List D} {x : V} (m : MemR K C i M H) (h : M[n]? = some (.lst ds)) (r : DV K i H (.ref n) x) : ∃ a vs, i[n]? = some a ∧ x = .ref a ∧ H a = some (.lst vs) ∧ DLs K i H ds vs := by
  simp only [DV] at r
  obtain ⟨a, ha, rfl⟩ := r
  obtain ⟨vs, h1, h2⟩ := m.ob n _ a h ha
  exact ⟨a, vs, ha, rfl, h1, h2⟩
theorem dct_at {n : Nat} {ds : List (Int × D)} {x : V} (m : MemR K C i M H) (h : M[n]? = some (.dct ds)) (r : DV K i H (.ref n) x) : ∃ a vs, i[n]? = some a ∧ x = .ref a ∧ H a = some (.dK vs) ∧ DKs K i H ds vs := by
  simp only [DV] at r
  obtain ⟨a, ha, rfl⟩ := r
  obtain ⟨vs, h1, h2⟩ := m.ob n _ a h ha
  exact ⟨a, vs, ha, rfl, h1, h2⟩
theorem tup_at {ds : List D} {x : V} (r : DV K i H (.tup ds) x) : ∃ a vs, x = .ref a ∧ TupAt K H a vs ∧ DLs K i H ds vs := by
  simpa only [DV] using r
theorem scr_at {ds : List Int} {x : V} (r : DV K i H (.scr ds) x) : ∃ a, x = .ref a ∧ ScrAt K H a ds := by
  simpa only [DV] using r
theorem dl_app : ∀ {ds es : List D} {vs ws : List V}, DLs K i H ds vs → DLs K i H es ws → DLs K i H (ds ++ es) (vs ++ ws)
  | [], es, vs, ws, h, h' => by
    simp only [DLs] at h
    subst h
    exact h'
  | x :: ds, es, vs, ws, h, h' => by
    simp only [DLs] at h
    obtain ⟨v', r', h1, h2, h3⟩ := h
    subst h1
    simp only [List.cons_append, DLs]
    exact ⟨v', _, rfl, h2, dl_app h3 h'⟩
theorem dl_take : ∀ {ds : List D} {vs : List V} (n : Nat), DLs K i H ds vs → DLs K i H (ds.take n) (vs.take n)
  | [], vs, n, h => by
    simp only [DLs] at h
    subst h
    simp only [List.take_nil, DLs]
  | x :: ds, vs, 0, h => by simp only [List.take_zero, DLs]
  | x :: ds, vs, n + 1, h => by
    simp only [DLs] at h
    obtain ⟨v', r', h1, h2, h3⟩ := h
    subst h1
    simp only [List.take_succ_cons, DLs]
    exact ⟨v', _, rfl, h2, dl_take n h3⟩
theorem dl_drop : ∀ {ds : List D} {vs : List V} (n : Nat), DLs K i H ds vs → DLs K i H (ds.drop n) (vs.drop n)
  | [], vs, n, h => by
    simp only [DLs] at h
    subst h
    simp only [List.drop_nil, DLs]
  | x :: ds, vs, 0, h => h
  | x :: ds, vs, n + 1, h => by
    simp only [DLs] at h
    obtain ⟨v', r', h1, h2, h3⟩ := h
    subst h1
    exact dl_drop n h3
theorem dl_one {d : D} {v : V} (h : DLs K i H [d] [v]) : DV K i H d v := by
  simp only [DLs] at h
  obtain ⟨v', r', h1, h2, h3⟩ := h
  cases h1
  exact h2
theorem dl1 {d : D} {vs : List V} (h : DLs K i H [d] vs) : ∃ v, vs = [v] ∧ DV K i H d v := by
  simp only [DLs] at h
  obtain ⟨v', r', h1, h2, h3⟩ := h
  exact ⟨v', by rw [h1, h3], h2⟩
theorem dl2 {d e : D} {vs : List V} (h : DLs K i H [d, e] vs) : ∃ v w, vs = [v, w] ∧ DV K i H d v ∧ DV K i H e w := by
  simp only [DLs] at h
  obtain ⟨v', r', h1, h2, w, r2, h3, h4, h5⟩ := h
  exact ⟨v', w, by rw [h1, h3, h5], h2, h4⟩
end

/-! ### a dict's value under a key -/
def aget (kvs : List (Int × D)) (k : Int) : Option D := match kvs with
  | [] => none
  | (j, d) :: r => if j = k then some d else aget r k
section
variable {K : PySem.W.Frag} {i : List Addr} {H : Hp}
theorem aval_none {k : Int} : ∀ {kvs : List (Int × D)} {vs : List (Key × V)}, DKs K i H kvs vs → aget kvs k = none → valV vs (Sum.inl k : Key) = none
  | [], vs, h, _ => by
    simp only [DKs] at h
    subst h
    rfl
  | (j, x) :: r, vs, h, e => by
    simp only [DKs] at h
    obtain ⟨v, r', h1, h2, h3⟩ := h
    subst h1
    unfold aget at e
    by_cases ej : j = k
    · rw [if_pos ej] at e
      cases e
    · rw [if_neg ej] at e
      rw [valV_neg (show ¬ ((Sum.inl j : Key), v).1 = Sum.inl k from fun z => ej (Sum.inl.inj z))]
      exact aval_none h3 e
theorem aval_some {k : Int} {d : D} : ∀ {kvs : List (Int × D)} {vs : List (Key × V)}, DKs K i H kvs vs → aget kvs k = some d → ∃ v, valV vs (Sum.inl k : Key) = some v ∧ DV K i H d v
  | [], vs, h, e => by cases e
  | (j, x) :: r, vs, h, e => by
    simp only [DKs] at h
    obtain ⟨v, r', h1, h2, h3⟩ := h
    subst h1
    unfold aget at e
    by_cases ej : j = k
    · rw [if_pos ej] at e
      cases e
      subst ej
      exact ⟨v, valV_pos rfl, h2⟩
    · rw [if_neg ej] at e
      rw [valV_neg (show ¬ ((Sum.inl j : Key), v).1 = Sum.inl k from fun z => ej (Sum.inl.inj z))]
      exact aval_some h3 e
theorem DKs.length' : ∀ {kvs : List (Int × D)} {vs : List (Key × V)}, DKs K i H kvs vs → kvs.length = vs.length
  | [], vs, h => by
    simp only [DKs] at h
    subst h
    rfl
  | (j, x) :: r, vs, h => by
    simp only [DKs] at h
    obtain ⟨v, r', h1, h2, h3⟩ := h
    subst h1
    rw [List.length_cons, List.length_cons, h3.length']
end
/-! ### operators -/
def strOk2 (s t : Str) : Prop := s.length + t.length ≤ sizeLine
def oAdd : Op2 := fun x y M => match x, y with
  | .int i, .int j => some (.int (i + j), M)
  | .str s, .str t => if s.length + t.length < 16000000 then some (.str (s ++ t), M) else none
  | .tup xs, .tup ys => if xs.length + ys.length < 16000000 then some (.tup (xs ++ ys), M) else none
  | .ref a, .ref b => (match M[a]?, M[b]? with
    | some (.lst xs), some (.lst ys) => if xs.length + ys.length < 16000000 then some (.ref M.length, M ++ [.lst (xs ++ ys)]) else none
    | _, _ => none)
  | _, _ => none
def oSub : Op2 := fun x y M => match x, y with
  | .int i, .int j => some (.int (i - j), M)
  | _, _ => none
abbrev mulFits (i j : Int) : Prop := CMulX i j
instance (i j : Int) : Decidable (mulFits i j) := inferInstanceAs (Decidable ((Builtin.Int.intBits i : Int) + (Builtin.Int.intBits j : Int) ≤ 134217728))
def strRep (s : Str) (k : Nat) : Str := ⟨(List.replicate k s.cps.toList).flatten.toArray⟩
def oMul : Op2 := fun x y M => match x, y with
  | .int i, .int j => if mulFits i j then some (.int (i * j), M) else none
  | .str s, .int k => if s.length ≤ 1000 ∧ -(2 ^ 63) ≤ k ∧ k ≤ 1000 then some (.str (Txt.mul s k), M) else none
  | .ref a, .int k => (match M[a]? with
    | some (.lst xs) => if -(2 ^ 63) ≤ k ∧ k ≤ 1000 ∧ xs.length ≤ 1000 then some (.ref M.length, M ++ [.lst (List.replicate k.toNat xs).flatten]) else none
    | _ => none)
  | _, _ => none
def oDiv : Op2 := fun x y M => match x, y with
  | .int i, .int j => if 0 < j ∧ j < 1073741824 then some (.int (i / j), M) else none
  | _, _ => none
def oMod : Op2 := fun x y M => match x, y with
  | .int i, .int j => if 0 < j then some (.int (i % j), M) else none
  | _, _ => none
def oPow : Op2 := fun x y M => match x, y with
  | .int i, .int j => if 0 ≤ j ∧ j ≤ 1000 ∧ i.natAbs < 2 ^ 64 then some (.int (i ^ j.toNat), M) else none
  | _, _ => none
def oNeg : Op1 := fun x M => match x with
  | .int i => some (.int (-i), M)
  | _ => none
section
variable {X : Cx} {C : Addr}
theorem dl_rep {K : PySem.W.Frag} {i : List Addr} {H : Hp} {ds : List D} {vs : List V} (h : DLs K i H ds vs) : ∀ k : Nat, DLs K i H (List.replicate k ds).flatten (List.replicate k vs).flatten
  | 0 => by simp only [List.replicate_zero, List.flatten_nil, DLs]
  | k + 1 => by
    simp only [List.replicate_succ, List.flatten_cons]
    exact dl_app h (dl_rep h k)
theorem or_add : OpR X (binaryOp .Add) (rO X.K C oAdd) := by
  intro pins s σ H x y v u Q I rv ru h
  obtain ⟨i, M, dx, dy, d, M', m, rx, ry, e, q⟩ := h
  unfold oAdd at e
  split at e
  · cases e
    simp only [DV] at rx ry
    subst rx ry
    exact op_add pins s σ H _ _ v u Q I rv ru ⟨_, _, rfl, rfl, goInt q m⟩
  · split at e
    · rename_i hl
      cases e
      simp only [DV] at rx ry
      subst rx ry
      exact op_add_str pins s σ H _ _ v u Q I rv ru ⟨_, _, rfl, rfl, Nat.le_of_lt (small_line hl), goStr q m⟩
    · cases e
  · rename_i xs ys
    obtain ⟨a, vs, rfl, h1, h2⟩ := tup_at rx
    obtain ⟨b, ws, rfl, h3, h4⟩ := tup_at ry
    have hl1 := h2.length
    have hl2 := h4.length
    split at e
    · rename_i hl
      cases e
      refine op_catA pins s σ H _ _ v u Q I rv ru ⟨a, b, vs, ws, rfl, rfl, h1.seq, h3.seq, by rw [← hl1, ← hl2]; exact Nat.le_of_lt (small_line hl), fun z => ?_, fun _ z => ?_, fun _ _ => goTup q m (dl_app h2 h4)⟩
      · subst z
        have : xs = [] := List.eq_nil_of_length_eq_zero hl1
        subst this
        exact goSame q m ry
      · subst z
        have : ys = [] := List.eq_nil_of_length_eq_zero hl2
        subst this
        refine goSame q m ?_
        rw [List.append_nil]
        exact rx
    · cases e
  · rename_i a b
    split at e
    · rename_i xs ys ha hb
      split at e
      · rename_i hl
        cases e
        obtain ⟨p, vs, hp, rfl, h1, h2⟩ := lst_at m ha rx
        obtain ⟨p', ws, hp', rfl, h3, h4⟩ := lst_at m hb ry
        refine op_cat pins s σ H _ _ v u Q I rv ru ⟨p, p', vs, ws, rfl, rfl, h1, h3, by rw [← h2.length, ← h4.length]; exact Nat.le_of_lt (small_line hl), goLst q m (dl_app h2 h4)⟩
      · cases e
    · cases e
  · cases e
theorem or_sub : OpR X (binaryOp .Sub) (rO X.K C oSub) := by
  intro pins s σ H x y v u Q I rv ru h
  obtain ⟨i, M, dx, dy, d, M', m, rx, ry, e, q⟩ := h
  unfold oSub at e
  split at e
  · cases e
    simp only [DV] at rx ry
    subst rx ry
    exact op_sub pins s σ H _ _ v u Q I rv ru ⟨_, _, rfl, rfl, goInt q m⟩
  · cases e
theorem or_mul : OpR X (binaryOp .Mult) (rO X.K C oMul) := by
  intro pins s σ H x y v u Q I rv ru h
  obtain ⟨i, M, dx, dy, d, M', m, rx, ry, e, q⟩ := h
  unfold oMul at e
  split at e
  · split at e
    · rename_i hf
      cases e
      simp only [DV] at rx ry
      subst rx ry
      exact op_mulX pins s σ H _ _ v u Q I rv ru ⟨_, _, rfl, rfl, hf, goInt q m⟩
    · cases e
  · rename_i st k
    split at e
    · rename_i hl
      cases e
      simp only [DV] at rx ry
      subst rx ry
      obtain ⟨t, rfl⟩ := rv
      obtain ⟨t', rfl⟩ := ru
      obtain ⟨h1, h2, h3⟩ := hl
      refine PySem.SB.mul (x := st) (n := k) ⟨?_, fun h4 _ => ?_, fun h4 _ => ?_⟩ fun t' tk => ⟨.str (Txt.mul st k), H, I.tok tk, ⟨_, rfl⟩, goStr q m⟩
      · rw [decide_eq_false (by omega), decide_eq_false (by omega)]
        rfl
      · have h5 : (0 : Int) < k := by omega
        have h6 : (1000 : Int) ≤ (2 ^ 63 - 1) / k := by
          rw [Int.le_ediv_iff_mul_le h5]
          omega
        omega
      · have h5 : st.length * k.toNat ≤ 1000 * 1000 := Nat.mul_le_mul h1 (by omega)
        unfold Builtin.Str.tooLong
        exact decide_eq_false (by rw [PySem.sizeLine_eq]; omega)
    · cases e
  · rename_i a k
    split at e
    · rename_i xs ha
      split at e
      · rename_i hl
        cases e
        obtain ⟨p, vs, hp, rfl, h1, h2⟩ := lst_at m ha rx
        simp only [DV] at ry
        subst ry
        have hk : xs.length * k.toNat ≤ 1000 * 1000 := Nat.mul_le_mul hl.2.2 (by omega)
        exact op_rep pins s σ H _ _ v u Q I rv ru ⟨p, k, vs, rfl, rfl, h1, hl.1, by omega, by rw [← h2.length, PySem.sizeLine_eq]; omega, goLst q m (dl_rep h2 _)⟩
      · cases e
    · cases e
  · cases e
theorem or_div : OpR X (binaryOp .FloorDiv) (rO X.K C oDiv) := by
  intro pins s σ H x y v u Q I rv ru h
  obtain ⟨i, M, dx, dy, d, M', m, rx, ry, e, q⟩ := h
  unfold oDiv at e
  split at e
  · split at e
    · rename_i hf
      cases e
      simp only [DV] at rx ry
      subst rx ry
      exact op_fdiv pins s σ H _ _ v u Q I rv ru ⟨_, _, rfl, rfl, hf, goInt q m⟩
    · cases e
  · cases e
theorem or_mod : OpR X (binaryOp .Mod) (rO X.K C oMod) := by
  intro pins s σ H x y v u Q I rv ru h
  obtain ⟨i, M, dx, dy, d, M', m, rx, ry, e, q⟩ := h
  unfold oMod at e
  split at e
  · split at e
    · rename_i hf
      cases e
      simp only [DV] at rx ry
      subst rx ry
      exact op_mod pins s σ H _ _ v u Q I rv ru ⟨_, _, rfl, rfl, hf, goInt q m⟩
    · cases e
  · cases e
theorem or_pow : OpR X (binaryOp .Pow) (rO X.K C oPow) := by
  intro pins s σ H x y v u Q I rv ru h
  obtain ⟨i, M, dx, dy, d, M', m, rx, ry, e, q⟩ := h
  unfold oPow at e
  split at e
  · split at e
    · rename_i hf
      cases e
      simp only [DV] at rx ry
      subst rx ry
      exact op_pow pins s σ H _ _ v u Q I rv ru ⟨_, _, rfl, rfl, ⟨hf.1, by omega, hf.2.2⟩, goInt q m⟩
    · cases e
  · cases e
theorem ur_neg : UnR X (unaryOp .USub) (rO1 X.K C oNeg) := by
  intro pins s σ H x v Q I rv h
  obtain ⟨i, M, dx, d, M', m, rx, e, q⟩ := h
  unfold oNeg at e
  split at e
  · cases e
    simp only [DV] at rx
    subst rx
    exact un_neg pins s σ H _ v Q I rv ⟨_, rfl, goInt q m⟩
  · cases e
end
/-! ### comparisons -/
mutual
def pyD (f : Nat → Option PyData) : D → Option PyData
  | .non => some .none
  | .bl b => some (.bool b)
  | .int i => some (.int i)
  | .str s => some (.str s)
  | .tup xs => (pyL f xs).map .tuple
  | .scr ns => some (.list (ns.map .int))
  | .ref n => f n
def pyL (f : Nat → Option PyData) : List D → Option (List PyData)
  | [] => some []
  | d :: ds => match pyD f d, pyL f ds with
    | some x, some xs => some (x :: xs)
    | _, _ => none
end
def pyM (M : Mem) : Nat → Nat → Option PyData
  | 0, _ => none
  | k + 1, n => match M[n]? with
    | some (.lst ds) => (pyL (pyM M k) ds).map .list
    | _ => none
/-- the datum that a value shows -/
def pyOf (M : Mem) (d : D) : Option PyData := match pyD (pyM M 4) d with
  | some p => if SeqAt.shaped p = true then some p else none
  | none => none
/-- are two dicts alike -/
def dictEq (M : Mem) (b : List (Int × D)) : List (Int × D) → Option Bool
  | [] => some true
  | (k, d) :: r => match aget b k with
    | none => some false
    | some d2 => match pyOf M d, pyOf M d2 with
      | some p, some p2 => (match dictEq M b r with
        | some z => some (PyData.eqv p p2 && z)
        | none => none)
      | _, _ => none
def eqD (x y : D) (M : Mem) : Option Bool := match pyOf M x, pyOf M y with
  | some p, some p2 => some (PyData.eqv p p2)
  | _, _ => none
/-- two dicts, or two data -/
def eqX (x y : D) (M : Mem) : Option Bool := match x, y with
  | .ref n, .ref m => (match M[n]?, M[m]? with
    | some (.dct ka), some (.dct kb) => if ka.length = kb.length then dictEq M kb ka else some false
    | _, _ => eqD x y M)
  | _, _ => eqD x y M
def oEq : Op2 := fun x y M => match eqX x y M with
  | some b => some (.bl b, M)
  | none => none
def oNe : Op2 := fun x y M => match eqX x y M with
  | some b => some (.bl (!b), M)
  | none => none
def oLt : Op2 := fun x y M => match x, y with
  | .int i, .int j => some (.bl (decide (i < j)), M)
  | _, _ => none
def oLe : Op2 := fun x y M => match x, y with
  | .int i, .int j => some (.bl (decide (i ≤ j)), M)
  | .str s, .str t => some (.bl (!decide (t.cps.toList < s.cps.toList)), M)
  | _, _ => none
def oGt : Op2 := fun x y M => match x, y with
  | .int i, .int j => some (.bl (decide (j < i)), M)
  | _, _ => none
def oGe : Op2 := fun x y M => match x, y with
  | .int i, .int j => some (.bl (decide (j ≤ i)), M)
  | _, _ => none
def isNon : D → Bool
  | .non => true
  | _ => false
def oIs : Op2 := fun x y M => match y with
  | .non => some (.bl (isNon x), M)
  | .bl b => (match x with
    | .bl a => some (.bl (decide (a = b)), M)
    | _ => none)
  | _ => none
def oIsNot : Op2 := fun x y M => match y with
  | .non => some (.bl (!isNon x), M)
  | .bl b => (match x with
    | .bl a => some (.bl (!decide (a = b)), M)
    | _ => none)
  | _ => none
section
variable {K : PySem.W.Frag} {C : Addr} {i : List Addr} {M : Mem} {H : Hp}
theorem dp_ints : ∀ ns : List Int, DpAll K H (ns.map V.int) (ns.map PyData.int)
  | [] => .nil
  | n :: ns => .cons (.int n) (dp_ints ns)
mutual
theorem dp_d {f : Nat → Option PyData} (hf : ∀ n p v, f n = some p → DV K i H (.ref n) v → Dp K H v p) : ∀ (d : D) (p : PyData) (v : V), pyD f d = some p → DV K i H d v → Dp K H v p
  | .non, p, v, e, r => by
    simp only [pyD, Option.some.injEq] at e
    simp only [DV] at r
    subst e r
    exact .non
  | .bl b, p, v, e, r => by
    simp only [pyD, Option.some.injEq] at e
    simp only [DV] at r
    subst e r
    exact .bl b
  | .int b, p, v, e, r => by
    simp only [pyD, Option.some.injEq] at e
    simp only [DV] at r
    subst e r
    exact .int b
  | .str b, p, v, e, r => by
    simp only [pyD, Option.some.injEq] at e
    simp only [DV] at r
    subst e r
    exact .str b
  | .tup xs, p, v, e, r => by
    simp only [pyD] at e
    simp only [DV] at r
    obtain ⟨a, vs, rfl, h1, h2⟩ := r
    obtain ⟨ps, hp, rfl⟩ := Option.map_eq_some_iff.mp e
    exact .tup h1.seq (dp_l hf xs ps vs hp h2)
  | .scr ns, p, v, e, r => by
    simp only [pyD, Option.some.injEq] at e
    simp only [DV] at r
    obtain ⟨a, rfl, h1⟩ := r
    subst e
    exact .lst h1.seq (dp_ints ns)
  | .ref n, p, v, e, r => by
    simp only [pyD] at e
    exact hf n p v e r
theorem dp_l {f : Nat → Option PyData} (hf : ∀ n p v, f n = some p → DV K i H (.ref n) v → Dp K H v p) : ∀ (ds : List D) (ps : List PyData) (vs : List V), pyL f ds = some ps → DLs K i H ds vs → DpAll K H vs ps
  | [], ps, vs, e, r => by
    simp only [pyL, Option.some.injEq] at e
    simp only [DLs] at r
    subst e r
    exact .nil
  | d :: ds, ps, vs, e, r => by
    simp only [pyL] at e
    simp only [DLs] at r
    obtain ⟨v, r', rfl, h1, h2⟩ := r
    split at e
    · rename_i x xs hx hxs
      cases e
      exact .cons (dp_d hf d x v hx h1) (dp_l hf ds xs r' hxs h2)
    · cases e
end
theorem dp_m (m : MemR K C i M H) : ∀ (k n : Nat) (p : PyData) (v : V), pyM M k n = some p → DV K i H (.ref n) v → Dp K H v p
  | 0, n, p, v, e, r => by
    unfold pyM at e
    cases e
  | k + 1, n, p, v, e, r => by
    unfold pyM at e
    split at e
    · rename_i ds hn
      obtain ⟨ps, hp, rfl⟩ := Option.map_eq_some_iff.mp e
      obtain ⟨a, vs, ha, rfl, h1, h2⟩ := lst_at m hn r
      exact .lst (SqL.of h1) (dp_l (dp_m m k) ds ps vs hp h2)
    · cases e
theorem dp_of (m : MemR K C i M H) {d : D} {p : PyData} {v : V} (e : pyOf M d = some p) (r : DV K i H d v) : Dp K H v p ∧ SeqAt.shaped p = true := by
  unfold pyOf at e
  split at e
  · rename_i p' hp
    split at e
    · rename_i hs
      cases e
      exact ⟨dp_d (dp_m m 4) d _ v hp r, hs⟩
    · cases e
  · cases e
end
section
variable {X : Cx} {C : Addr}
theorem room100 {A : Around} {k : Nat} (hr : Room k A) : A.units + 100 < cLine := by
  have := hr.un
  omega
theorem kv_uncons {k : Key} {v : V} {vs : List (Key × V)} {us : List (Key × Value)} (h : KV ((k, v) :: vs) us) : ∃ u r, us = (k, u) :: r ∧ RelV v u ∧ KV vs r := by
  unfold KV at h
  cases h with
  | @cons p q ps qs h1 t =>
    obtain ⟨k', u⟩ := q
    obtain ⟨h2, h3⟩ := h1
    cases (show k = k' from h2)
    exact ⟨u, qs, rfl, h3, t⟩
theorem hits_of {M : Mem} {i : List Addr} {H : Hp} {pins : List (Addr × Obj)} {σ : L2.St} {s : Shared} (hu : X.A.units + 100 < cLine) (I : Inv X pins σ H s) (m : MemR X.K C i M H) {kb : List (Int × D)} {vb : List (Key × V)} {ub : List (Key × Value)} (rb : DKs X.K i H kb vb) (hb : KV vb ub) :
    ∀ (ka : List (Int × D)) (va : List (Key × V)) (ua : List (Key × Value)) (b : Bool), DKs X.K i H ka va → KV va ua → dictEq M kb ka = some b → PySem.W.KeqHits X.A.in1 s ub ua b
  | [], va, ua, b, ra, ha, e => by
    simp only [DKs] at ra
    subst ra
    unfold KV at ha
    cases ha
    cases e
    exact .nil
  | (k, d) :: r, va, ua, b, ra, ha, e => by
    simp only [DKs] at ra
    obtain ⟨v, r', h1, h2, h3⟩ := ra
    subst h1
    obtain ⟨u, ur, rfl, ru, hr⟩ := kv_uncons ha
    unfold dictEq at e
    cases hg : aget kb k with
    | none =>
      rw [hg] at e
      cases e
      have hn := aval_none rb hg
      have := hb.val (Sum.inl k : Key)
      rw [hn] at this
      refine .miss ?_
      cases hv : valueAt ub (Sum.inl k : Key) with
      | none => rfl
      | some y =>
        rw [hv] at this
        exact this.elim
    | some d2 =>
      rw [hg] at e
      dsimp only at e
      split at e
      · rename_i p p2 hp hp2
        split at e
        · rename_i z hz
          cases e
          obtain ⟨v2, hv2, r2⟩ := aval_some rb hg
          have := hb.val (Sum.inl k : Key)
          rw [hv2] at this
          obtain ⟨y, hy, ry⟩ := RelO.some_of (v := v2) (o := valueAt ub (Sum.inl k : Key)) this
          obtain ⟨q1, q2⟩ := dp_of m hp h2
          obtain ⟨q3, q4⟩ := dp_of m hp2 r2
          obtain ⟨as, w1⟩ := Dp.reads I p v u q1 ru
          obtain ⟨bs, w2⟩ := Dp.reads I p2 v2 y q3 ry
          exact .hit hy (PySem.W.keq_at w1 w2 q2 q4 (by show X.A.units + 1 + 64 < cLine; omega)) (hits_of hu I m rb hb r r' ur z h3 hr hz)
        · cases e
      · cases e
theorem or_eqX (hu : X.A.units + 100 < cLine) {x y : V} {v u : Value} {dx dy : D} {i : List Addr} {M : Mem} {H : Hp} {pins : List (Addr × Obj)} {σ : L2.St} {s : Shared} {b : Bool} (I : Inv X pins σ H s) (m : MemR X.K C i M H) (rx : DV X.K i H dx x) (ry : DV X.K i H dy y) (rv : RelV x v) (ru : RelV y u)
    (e : eqX dx dy M = some b) : (∃ p p2, Dp X.K H x p ∧ Dp X.K H y p2 ∧ SeqAt.shaped p = true ∧ SeqAt.shaped p2 = true ∧ PyData.eqv p p2 = b) ∨
      ∃ (a c : Addr) (ka kb : List (Key × Value)) (r : Bool), v = .ref a ∧ u = .ref c ∧ (a == sysModules) = false ∧ (c == sysModules) = false ∧ s.heap.DictOf (mixKind X.prog X.w) a ka ∧ s.heap.DictOf (mixKind X.prog X.w) c kb ∧ (ka.length = kb.length → PySem.W.KeqHits X.A.in1 s kb ka r) ∧ (ka.length == kb.length && r) = b := by
  have plain : eqD dx dy M = some b → (∃ p p2, Dp X.K H x p ∧ Dp X.K H y p2 ∧ SeqAt.shaped p = true ∧ SeqAt.shaped p2 = true ∧ PyData.eqv p p2 = b) := fun e => by
    unfold eqD at e
    split at e
    · rename_i p p2 h1 h2
      cases e
      obtain ⟨k1, k2⟩ := dp_of m h1 rx
      obtain ⟨k3, k4⟩ := dp_of m h2 ry
      exact ⟨p, p2, k1, k3, k2, k4, rfl⟩
    · cases e
  unfold eqX at e
  split at e
  · rename_i n n2
    split at e
    · rename_i ka kb h1 h2
      obtain ⟨a, va, _, rfl, h3, h4⟩ := dct_at m h1 rx
      obtain ⟨c, vb, _, rfl, h5, h6⟩ := dct_at m h2 ry
      cases rv
      cases ru
      obtain ⟨_, ya, ua, ra, da⟩ := dk_rd I.hok (.inl h3)
      obtain ⟨_, yb, ub, rb, db⟩ := dk_rd I.hok (.inl h5)
      have la : ka.length = ua.length := by rw [h4.length', ra.length]
      have lb : kb.length = ub.length := by rw [h6.length', rb.length]
      by_cases hl : ka.length = kb.length
      · rw [if_pos hl] at e
        exact .inr ⟨a, c, ua, ub, b, rfl, rfl, ya, yb, da, db, fun _ => hits_of hu I m h6 rb ka va ua b h4 ra e, by rw [← la, ← lb, hl]; simp⟩
      · rw [if_neg hl] at e
        cases e
        exact .inr ⟨a, c, ua, ub, false, rfl, rfl, ya, yb, da, db, fun z => absurd (by rw [la, lb, z]) hl, by simp⟩
    · exact .inl (plain e)
  · exact .inl (plain e)
theorem or_eq (hu : X.A.units + 100 < cLine) : OpR X (compareOp .Eq) (rO X.K C oEq) := by
  intro pins s σ H x y v u Q I rv ru h
  obtain ⟨i, M, dx, dy, d, M', m, rx, ry, e, q⟩ := h
  unfold oEq at e
  split at e
  · rename_i b hb
    cases e
    rcases or_eqX hu I m rx ry rv ru hb with ⟨p, p2, k1, k3, k2, k4, rfl⟩ | ⟨a, c, ka, kb, r, rfl, rfl, ya, yb, da, db, hits, hr⟩
    · exact op_eqD (by omega) pins s σ H _ _ v u Q I rv ru ⟨p, p2, k1, k3, k2, k4, goBl q m⟩
    · exact PySem.W.keq_eq ya yb da db (by omega) hits ⟨.bl b, H, I, by rw [hr]; rfl, goBl q m⟩
  · cases e
theorem or_ne (hu : X.A.units + 100 < cLine) : OpR X (compareOp .NotEq) (rO X.K C oNe) := by
  intro pins s σ H x y v u Q I rv ru h
  obtain ⟨i, M, dx, dy, d, M', m, rx, ry, e, q⟩ := h
  unfold oNe at e
  split at e
  · rename_i b hb
    cases e
    rcases or_eqX hu I m rx ry rv ru hb with ⟨p, p2, k1, k3, k2, k4, rfl⟩ | ⟨a, c, ka, kb, r, rfl, rfl, ya, yb, da, db, hits, hr⟩
    · exact op_neD (by omega) pins s σ H _ _ v u Q I rv ru ⟨p, p2, k1, k3, k2, k4, goBl q m⟩
    · exact PySem.W.keq_ne ya yb da db (by omega) hits ⟨.bl (!b), H, I, by rw [hr]; rfl, goBl q m⟩
  · cases e
theorem or_lt : OpR X (compareOp .Lt) (rO X.K C oLt) := by
  intro pins s σ H x y v u Q I rv ru h
  obtain ⟨i, M, dx, dy, d, M', m, rx, ry, e, q⟩ := h
  unfold oLt at e
  split at e
  · cases e
    simp only [DV] at rx ry
    subst rx ry
    exact op_lt pins s σ H _ _ v u Q I rv ru ⟨_, _, rfl, rfl, goBl q m⟩
  · cases e
theorem or_gt : OpR X (compareOp .Gt) (rO X.K C oGt) := by
  intro pins s σ H x y v u Q I rv ru h
  obtain ⟨i, M, dx, dy, d, M', m, rx, ry, e, q⟩ := h
  unfold oGt at e
  split at e
  · cases e
    simp only [DV] at rx ry
    subst rx ry
    exact op_gt pins s σ H _ _ v u Q I rv ru ⟨_, _, rfl, rfl, goBl q m⟩
  · cases e
theorem or_ge : OpR X (compareOp .GtE) (rO X.K C oGe) := by
  intro pins s σ H x y v u Q I rv ru h
  obtain ⟨i, M, dx, dy, d, M', m, rx, ry, e, q⟩ := h
  unfold oGe at e
  split at e
  · cases e
    simp only [DV] at rx ry
    subst rx ry
    exact op_ge pins s σ H _ _ v u Q I rv ru ⟨_, _, rfl, rfl, goBl q m⟩
  · cases e
theorem or_le : OpR X (compareOp .LtE) (rO X.K C oLe) := by
  intro pins s σ H x y v u Q I rv ru h
  obtain ⟨i, M, dx, dy, d, M', m, rx, ry, e, q⟩ := h
  unfold oLe at e
  split at e
  · cases e
    simp only [DV] at rx ry
    subst rx ry
    exact op_le pins s σ H _ _ v u Q I rv ru ⟨_, _, rfl, rfl, goBl q m⟩
  · cases e
    simp only [DV] at rx ry
    subst rx ry
    exact op_le_str pins s σ H _ _ v u Q I rv ru ⟨_, _, rfl, rfl, goBl q m⟩
  · cases e
theorem isNon_dv {K : PySem.W.Frag} {i : List Addr} {H : Hp} {d : D} {v : V} (r : DV K i H d v) : isNon d = decide (v = .non) := by
  cases d <;> simp only [DV] at r
  · subst r; rfl
  · subst r; rfl
  · subst r; rfl
  · subst r; rfl
  · obtain ⟨a, vs, rfl, _⟩ := r; rfl
  · obtain ⟨a, rfl, _⟩ := r; rfl
  · obtain ⟨a, _, rfl⟩ := r; rfl
theorem or_is : OpR X (compareOp .Is) (rO X.K C oIs) := by
  intro pins s σ H x y v u Q I rv ru h
  obtain ⟨i, M, dx, dy, d, M', m, rx, ry, e, q⟩ := h
  unfold oIs at e
  split at e
  · cases e
    simp only [DV] at ry
    subst ry
    exact op_isN pins s σ H _ _ v u Q I rv ru ⟨rfl, by rw [← isNon_dv rx]; exact goBl q m⟩
  · split at e
    · cases e
      simp only [DV] at rx ry
      subst rx ry
      exact op_isBl pins s σ H _ _ v u Q I rv ru ⟨_, _, rfl, rfl, goBl q m⟩
    · cases e
  · cases e
theorem or_isNot : OpR X (compareOp .IsNot) (rO X.K C oIsNot) := by
  intro pins s σ H x y v u Q I rv ru h
  obtain ⟨i, M, dx, dy, d, M', m, rx, ry, e, q⟩ := h
  unfold oIsNot at e
  split at e
  · cases e
    simp only [DV] at ry
    subst ry
    exact op_notN pins s σ H _ _ v u Q I rv ru ⟨rfl, by rw [← isNon_dv rx]; exact goBl q m⟩
  · split at e
    · cases e
      simp only [DV] at rx ry
      subst rx ry
      exact op_notBl pins s σ H _ _ v u Q I rv ru ⟨_, _, rfl, rfl, goBl q m⟩
    · cases e
  · cases e
end
end BL
/-! BLBuilt: subscripts, slices, dicts, built-ins, methods by values. -/
namespace BL
open PySem L2

/-! ### dicts -/
def ahas (kvs : List (Int × D)) (k : Int) : Bool := (aget kvs k).isSome
def aput (kvs : List (Int × D)) (k : Int) (d : D) : List (Int × D) := if ahas kvs k = true then kvs.map fun p => if p.1 = k then (p.1, d) else p else kvs ++ [(k, d)]
def adel (kvs : List (Int × D)) (k : Int) : List (Int × D) := kvs.filter fun p => decide (p.1 ≠ k)
section
variable {K : PySem.W.Frag} {C : Addr} {i : List Addr} {M : Mem} {H : Hp}
theorem DKs.val (k : Int) : ∀ {kvs : List (Int × D)} {vs : List (Key × V)}, DKs K i H kvs vs → (aget kvs k = none → valV vs (Sum.inl k : Key) = none) ∧ ∀ d, aget kvs k = some d → ∃ v, valV vs (Sum.inl k : Key) = some v ∧ DV K i H d v
  | [], vs, h => by
    simp only [DKs] at h
    subst h
    exact ⟨fun _ => rfl, fun d e => by cases e⟩
  | (j, x) :: r, vs, h => by
    simp only [DKs] at h
    obtain ⟨v, r', h1, h2, h3⟩ := h
    subst h1
    obtain ⟨n1, n2⟩ := DKs.val k h3
    by_cases e : j = k
    · subst e
      rw [valV_pos (show ((Sum.inl j : Key), v).1 = Sum.inl j from rfl)]
      unfold aget
      rw [if_pos rfl]
      exact ⟨fun z => (by cases z), fun d z => ⟨v, rfl, by cases z; exact h2⟩⟩
    · rw [valV_neg (show ¬ ((Sum.inl j : Key), v).1 = Sum.inl k from fun z => e (Sum.inl.inj z))]
      unfold aget
      rw [if_neg e]
      exact ⟨n1, n2⟩
theorem DKs.length : ∀ {kvs : List (Int × D)} {vs : List (Key × V)}, DKs K i H kvs vs → kvs.length = vs.length
  | [], vs, h => by
    simp only [DKs] at h
    subst h
    rfl
  | (j, x) :: r, vs, h => by
    simp only [DKs] at h
    obtain ⟨v, r', h1, h2, h3⟩ := h
    subst h1
    rw [List.length_cons, List.length_cons, h3.length]
theorem dk_snoc {k : Int} {d : D} {v : V} (rv : DV K i H d v) : ∀ {kvs : List (Int × D)} {vs : List (Key × V)}, DKs K i H kvs vs → DKs K i H (kvs ++ [(k, d)]) (vs ++ [(Sum.inl k, v)])
  | [], vs, h => by
    simp only [DKs] at h
    subst h
    simp only [List.nil_append, DKs]
    exact ⟨v, [], rfl, rv, rfl⟩
  | (j, x) :: r, vs, h => by
    simp only [DKs] at h
    obtain ⟨v', r', h1, h2, h3⟩ := h
    subst h1
    simp only [List.cons_append, DKs]
    exact ⟨v', _, rfl, h2, dk_snoc rv h3⟩
theorem dk_repl {k : Int} {d : D} {v : V} (rv : DV K i H d v) : ∀ {kvs : List (Int × D)} {vs : List (Key × V)}, DKs K i H kvs vs →
    DKs K i H (kvs.map fun p => if p.1 = k then (p.1, d) else p) (vs.map fun kv => if kv.1 = (Sum.inl k : Key) then (kv.1, v) else kv)
  | [], vs, h => by
    simp only [DKs] at h
    subst h
    simp only [List.map, DKs]
  | (j, x) :: r, vs, h => by
    simp only [DKs] at h
    obtain ⟨v', r', h1, h2, h3⟩ := h
    subst h1
    simp only [List.map]
    by_cases e : j = k
    · subst e
      rw [if_pos rfl, if_pos rfl]
      simp only [DKs]
      exact ⟨v, _, rfl, rv, dk_repl rv h3⟩
    · rw [if_neg e, if_neg fun z => e (Sum.inl.inj z)]
      simp only [DKs]
      exact ⟨v', _, rfl, h2, dk_repl rv h3⟩
theorem DKs.put {k : Int} {d : D} {v : V} (rv : DV K i H d v) {kvs : List (Int × D)} {vs : List (Key × V)} (h : DKs K i H kvs vs) : DKs K i H (aput kvs k d) (putK vs (Sum.inl k : Key) v) := by
  obtain ⟨n1, n2⟩ := DKs.val k h
  unfold aput putK ahas
  cases e : aget kvs k with
  | none =>
    have e2 := n1 e
    have e3 : (vs.any fun kv => decide (kv.1 = (Sum.inl k : Key))) = false := by rw [valV_any, e2]; rfl
    rw [if_neg (by simp), if_neg (by rw [e3]; simp)]
    exact dk_snoc rv h
  | some d' =>
    obtain ⟨v', e2, _⟩ := n2 d' e
    have e3 : (vs.any fun kv => decide (kv.1 = (Sum.inl k : Key))) = true := by rw [valV_any, e2]; rfl
    rw [if_pos (by simp), if_pos e3]
    exact dk_repl rv h
theorem DKs.del {k : Int} : ∀ {kvs : List (Int × D)} {vs : List (Key × V)}, DKs K i H kvs vs → DKs K i H (adel kvs k) (dropK vs (Sum.inl k : Key))
  | [], vs, h => by
    simp only [DKs] at h
    subst h
    simp only [adel, dropK, List.filter, DKs]
  | (j, x) :: r, vs, h => by
    simp only [DKs] at h
    obtain ⟨v', r', h1, h2, h3⟩ := h
    subst h1
    have ih := DKs.del (k := k) h3
    unfold adel dropK at ih ⊢
    by_cases e : j = k
    · subst e
      rw [List.filter_cons_of_neg (by simp), List.filter_cons_of_neg (by simp)]
      exact ih
    · rw [List.filter_cons_of_pos (by simpa using e), List.filter_cons_of_pos (by simpa using fun z => e z)]
      simp only [DKs]
      exact ⟨v', _, rfl, h2, ih⟩
theorem dk_keys : ∀ {kvs : List (Int × D)} {vs : List (Key × V)}, DKs K i H kvs vs → vs.map (·.1) = (kvs.map (·.1)).map Sum.inl
  | [], vs, h => by
    simp only [DKs] at h
    subst h
    rfl
  | (j, x) :: r, vs, h => by
    simp only [DKs] at h
    obtain ⟨v', r', h1, h2, h3⟩ := h
    subst h1
    simp only [List.map, List.cons.injEq, true_and]
    exact dk_keys h3
theorem dk_keysV : ∀ {kvs : List (Int × D)} {vs : List (Key × V)}, DKs K i H kvs vs → vs.map (fun kv => kV kv.1) = (kvs.map (·.1)).map V.int
  | [], vs, h => by
    simp only [DKs] at h
    subst h
    rfl
  | (j, x) :: r, vs, h => by
    simp only [DKs] at h
    obtain ⟨v', r', h1, h2, h3⟩ := h
    subst h1
    simp only [List.map, kV, List.cons.injEq, true_and]
    exact dk_keysV h3
end
/-! ### subscripts -/
def oIx : Op2 := fun x y M => match y with
  | .int k => (match x with
    | .tup ds => (match atI ds k with
      | some d => some (d, M)
      | none => none)
    | .scr ns => (match atI ns k with
      | some n => some (.int n, M)
      | none => none)
    | .str s => if s.length < 16000000 then (match atI s.cps.toList k with
      | some c => some (.str ⟨#[c]⟩, M)
      | none => none) else none
    | .ref n => (match M[n]? with
      | some (.lst ds) => (match atI ds k with
        | some d => some (d, M)
        | none => none)
      | some (.dct kvs) => (match aget kvs k with
        | some d => some (d, M)
        | none => none)
      | _ => none)
    | _ => none)
  | _ => none
section
variable {X : Cx} {C : Addr} {W : WX}
theorem ix_dict (hu : X.A.units + 1 < cLine) : IxR X (fun x y H Q => ∃ a v, x = .ref a ∧ DGet H a y (some v) ∧ Q v H) := by
  intro value slice pins s σ H x y v u Q I rx ry h hs
  obtain ⟨a, z, rfl, g, q⟩ := h
  cases rx
  unfold PyProof.Rows.subscriptTail
  refine wpAny_bind ?_
  have hT := dict_typeIs I g
  rw [getitemInPython_of_ne hT.not_modules]
  refine wpAny_bind (wpAny_specialOf hT PySem.F.slot_dict_getitem.lookup ?_)
  have fin : wpAny (model X.prog X.w) X.A (subscripted slice false (.ref a) u) (fun r s₃ => wpAny (model X.prog X.w) X.A (letTemporaryGo value (.ref a) r >>= fun _ => pure r) (EP X pins σ Q) X.xe s₃) X.xe s := by
    rw [hs]
    exact wpAny_operating (d_getItem hu I g ry fun w' s3 I3 rw' => wpAny_bind (wpAny_letTemporaryGo (wpAny_pure ⟨z, H, I3, rw', q⟩)))
  first
    | exact wpAny_pure (wpAny_bind fin)
    | exact wpAny_bind (wpAny_pure (wpAny_bind fin))
    | exact wpAny_bind fin
theorem atI_dl {K : PySem.W.Frag} {i : List Addr} {H : Hp} {ds : List D} {vs : List V} {k : Int} {d : D} (h : DLs K i H ds vs) (e : atI ds k = some d) : ∃ v, atI vs k = some v ∧ DV K i H d v := by
  unfold atI at e ⊢
  rw [← h.length]
  cases hx : ixN ds.length k with
  | none =>
    rw [hx] at e
    cases e
  | some j =>
    rw [hx] at e
    obtain ⟨v, h1, h2⟩ := h.get e
    exact ⟨v, h1, h2⟩
theorem atI_map {α β : Type} {f : α → β} {xs : List α} {k : Int} {x : α} (e : atI xs k = some x) : atI (xs.map f) k = some (f x) := by
  unfold atI at e ⊢
  rw [List.length_map]
  cases hx : ixN xs.length k with
  | none =>
    rw [hx] at e
    cases e
  | some j =>
    rw [hx] at e
    show (xs.map f)[j]? = some (f x)
    rw [List.getElem?_map, show xs[j]? = some x from e]
    rfl
theorem ir_ix (hu : X.A.units + 1 < cLine) : IxR X (rO X.K C oIx) := by
  intro value slice pins s σ H x y v u Q I rv ru h hs
  obtain ⟨i, M, dx, dy, d, M', m, rx, ry, e, q⟩ := h
  unfold oIx at e
  split at e
  · rename_i k
    simp only [DV] at ry
    subst ry
    split at e
    · rename_i ds
      obtain ⟨a, vs, rfl, h1, h2⟩ := tup_at rx
      split at e
      · rename_i d' hd
        cases e
        obtain ⟨w, k1, k2⟩ := atI_dl h2 hd
        exact ix_tup value slice pins s σ H _ _ v u Q I rv ru ⟨a, vs, k, w, rfl, rfl, h1.seq, k1, goSame q m k2⟩ hs
      · cases e
    · rename_i ns
      obtain ⟨a, rfl, h1⟩ := scr_at rx
      split at e
      · rename_i n hd
        cases e
        exact ix_list value slice pins s σ H _ _ v u Q I rv ru ⟨a, _, k, _, rfl, rfl, h1.seq, atI_map hd, goInt q m⟩ hs
      · cases e
    · rename_i z
      simp only [DV] at rx
      subst rx
      split at e
      · rename_i hl
        split at e
        · rename_i c hc
          cases e
          exact ix_str value slice pins s σ H _ _ v u Q I rv ru ⟨z, k, c, rfl, rfl, Nat.le_of_lt (small_line hl), hc, goStr q m⟩ hs
        · cases e
      · cases e
    · rename_i n
      split at e
      · rename_i ds hn
        obtain ⟨a, vs, ha, rfl, h1, h2⟩ := lst_at m hn rx
        split at e
        · rename_i d' hd
          cases e
          obtain ⟨w, k1, k2⟩ := atI_dl h2 hd
          exact ix_list value slice pins s σ H _ _ v u Q I rv ru ⟨a, vs, k, w, rfl, rfl, SqL.of h1, k1, goSame q m k2⟩ hs
        · cases e
      · rename_i kvs hn
        obtain ⟨a, vs, ha, rfl, h1, h2⟩ := dct_at m hn rx
        split at e
        · rename_i d' hd
          cases e
          obtain ⟨w, k1, k2⟩ := (DKs.val k h2).2 _ hd
          exact ix_dict hu value slice pins s σ H _ _ v u Q I rv ru ⟨a, w, rfl, by rw [← k1]; exact DGet.k (k := Sum.inl k) h1, goSame q m k2⟩ hs
        · cases e
      · cases e
    · cases e
  · cases e
variable {a b : Expr} {ga gb : GE} {pos : Pos}
theorem se_ix (hu : X.A.units + 1 < cLine) (ha : SE X C W a ga) (hb : SE X C W b gb) (hs : PlainIx b) : SE X C W (.Subscript a b pos) (mBin oIx ga gb) := by
  obtain ⟨ta, pa, sa⟩ := ha.ex
  obtain ⟨tb, pb, sb⟩ := hb.ex
  exact ⟨_, pe_ix (ir_ix hu) pa pb hs, snd_bin2 sa sb⟩
/-! ### slices -/
def cutD {α : Type} (xs : List α) (lo hi : Option Int) : List α := (xs.drop (HT.sIx xs.length 0 lo)).take (HT.sIx xs.length xs.length hi - HT.sIx xs.length 0 lo)
def oSl (x : D) (lo hi : Option Int) (M : Mem) : Option (D × Mem) := match x with
  | .tup ds => some (.tup (cutD ds lo hi), M)
  | .scr ns => some (.ref M.length, M ++ [.lst ((cutD ns lo hi).map .int)])
  | .str s => if s.length < 16000000 then some (.str (cutS s lo hi), M) else none
  | .ref n => (match M[n]? with
    | some (.lst ds) => some (.ref M.length, M ++ [.lst (cutD ds lo hi)])
    | _ => none)
  | _ => none
abbrev GO := Loc → Mem → Option (Rz (Option Int))
def mNo : GO := fun _ M => some (.ok none M)
def mSome (e : GE) : GO := fun L M => bnd (e L M) fun d M1 => match d with
  | .int k => some (.ok (some k) M1)
  | _ => none
def mSl (e : GE) (lo hi : GO) : GE := fun L M => bnd (e L M) fun d M1 => bnd (lo L M1) fun l M2 => bnd (hi L M2) fun h M3 => ret (oSl d l h M3)
structure SO (X : Cx) (C : Addr) (W : WX) (e : Option Expr) (g : GO) : Prop where
  ex : ∃ t, PO X e t ∧ SndG X.K X.mg C W (fun _ _ (x y : Option Int) => y = x) t g
theorem so_no : SO X C W none mNo := ⟨_, po_none, fun i L M σ H r Q m l e q => by
  cases e
  exact q i H none Gro.refl m rfl⟩
theorem so_some (ha : SE X C W a ga) : SO X C W (some a) (mSome ga) := by
  obtain ⟨ta, pa, sa⟩ := ha.ex
  refine ⟨_, po_some pa, fun i L M σ H r Q m l e q => ?_⟩
  refine sa.step m l e q fun dx M1 i1 H1 x g1 m1 l1 rx e1 q1 => ?_
  cases dx <;> first
    | (cases e1; done)
    | skip
  rename_i k
  cases e1
  simp only [DV] at rx
  exact ⟨k, rx, q1 i1 H1 _ Gro.refl m1 rfl⟩
theorem cut_dl {K : PySem.W.Frag} {i : List Addr} {H : Hp} {ds : List D} {vs : List V} (h : DLs K i H ds vs) (lo hi : Option Int) : DLs K i H (cutD ds lo hi) (cutV vs lo hi) := by
  unfold cutD cutV
  rw [h.length]
  exact dl_take _ (dl_drop _ h)
theorem cutD_length {α : Type} (xs : List α) (lo hi : Option Int) : (cutD xs lo hi).length ≤ xs.length := by
  unfold cutD
  rw [List.length_take, List.length_drop]
  omega
theorem cutV_map {α : Type} (f : α → V) (xs : List α) (lo hi : Option Int) : cutV (xs.map f) lo hi = (cutD xs lo hi).map f := by
  unfold cutD cutV
  rw [List.length_map, List.map_take, List.map_drop]
theorem cutD_whole {α : Type} (xs : List α) (lo hi : Option Int) (h : HT.sIx xs.length 0 lo = 0 ∧ HT.sIx xs.length xs.length hi = xs.length) : cutD xs lo hi = xs := by
  unfold cutD
  rw [h.1, h.2]
  simp
theorem rSl_any : SlR X (fun x lo hi H Q => ∃ i M dx d M', MemR X.K C i M H ∧ DV X.K i H dx x ∧ oSl dx lo hi M = some (d, M') ∧ Goes X.K C i H d M' Q) := by
  intro pins s σ H x v vl vu lo hi sl Q I rv hs pl pu h
  obtain ⟨i, M, dx, d, M', m, rx, e, q⟩ := h
  unfold oSl at e
  split at e
  · rename_i ds
    cases e
    obtain ⟨a, vs, rfl, h1, h2⟩ := tup_at rx
    refine sl_tupA pins s σ H _ v vl vu lo hi sl Q I rv hs pl pu ⟨a, vs, rfl, h1.seq, fun z => ?_, fun z => goTup q m (cut_dl h2 lo hi)⟩
    rw [← h2.length] at z
    refine goSame q m ?_
    rw [cutD_whole ds lo hi z]
    exact rx
  · rename_i ns
    cases e
    obtain ⟨a, rfl, h1⟩ := scr_at rx
    refine sl_list pins s σ H _ v vl vu lo hi sl Q I rv hs pl pu ⟨a, _, rfl, h1.seq, ?_⟩
    rw [cutV_map]
    exact goLst q m (dl_ints _)
  · rename_i z
    split at e
    · rename_i hl
      cases e
      simp only [DV] at rx
      subst rx
      exact sl_str pins s σ H _ v vl vu lo hi sl Q I rv hs pl pu ⟨z, rfl, Nat.le_of_lt (small_line hl), goStr q m⟩
    · cases e
  · rename_i n
    split at e
    · rename_i ds hn
      cases e
      obtain ⟨a, vs, ha, rfl, h1, h2⟩ := lst_at m hn rx
      exact sl_list pins s σ H _ v vl vu lo hi sl Q I rv hs pl pu ⟨a, vs, rfl, SqL.of h1, goLst q m (cut_dl h2 lo hi)⟩
    · cases e
  · cases e
variable {lo hi : Option Expr} {gl gh : GO} {p2 : Pos}
theorem se_sl (ha : SE X C W a ga) (hl : SO X C W lo gl) (hh : SO X C W hi gh) : SE X C W (.Subscript a (.Slice lo hi none p2) pos) (mSl ga gl gh) := by
  obtain ⟨ta, pa, sa⟩ := ha.ex
  obtain ⟨tl, pl, sl⟩ := hl.ex
  obtain ⟨th, ph, sh⟩ := hh.ex
  refine ⟨_, pe_slice (rSl_any (C := C)) pa pl ph, fun i L M σ H r Q m l e q => ?_⟩
  refine sa.step m l e q fun dx M1 i1 H1 x g1 m1 l1 rx e1 q1 => ?_
  refine sl.step m1 l1 e1 q1 fun dl M2 i2 H2 xl g2 m2 l2 rl e2 q2 => ?_
  refine sh.step m2 l2 e2 q2 fun dh M3 i3 H3 xh g3 m3 l3 rh e3 q3 => ?_
  obtain ⟨d, M', h1, h2⟩ := snd_ret e3 q3
  cases rl
  cases rh
  exact ⟨i3, M3, dx, d, M', m3, (rx.mono g2).mono g3, h1, h2⟩
end
end BL
/-! BLCalls: built-ins and methods by values. -/
namespace BL
open PySem L2

/-! ### built-ins -/
def oLen : OpN := fun xs M => match xs with
  | [.tup ds] => some (.int ds.length, M)
  | [.scr ns] => some (.int ns.length, M)
  | [.str s] => if s.length < 16000000 then some (.int s.length, M) else none
  | [.ref n] => (match M[n]? with
    | some (.lst ds) => some (.int ds.length, M)
    | some (.dct kvs) => some (.int kvs.length, M)
    | _ => none)
  | _ => none
def oList : OpN := fun xs M => match xs with
  | [.tup ds] => some (.ref M.length, M ++ [.lst ds])
  | [.scr ns] => some (.ref M.length, M ++ [.lst (ns.map .int)])
  | [.ref n] => (match M[n]? with
    | some (.lst ds) => some (.ref M.length, M ++ [.lst ds])
    | some (.dct kvs) => some (.ref M.length, M ++ [.lst (kvs.map fun p => .int p.1)])
    | _ => none)
  | _ => none
def oTuple : OpN := fun xs M => match xs with
  | [.tup ds] => some (.tup ds, M)
  | [.ref n] => (match M[n]? with
    | some (.lst ds) => some (.tup ds, M)
    | _ => none)
  | _ => none
def oDict : OpN := fun xs M => match xs with
  | [.ref n] => (match M[n]? with
    | some (.dct kvs) => some (.ref M.length, M ++ [.dct kvs])
    | _ => none)
  | _ => none
def oInt : OpN := fun xs M => match xs with
  | [.int i] => some (.int i, M)
  | [.bl b] => some (.int (if b then 1 else 0), M)
  | _ => none
def oStr : OpN := fun xs M => match xs with
  | [.int i] => if i.natAbs.log2 < 1920 then some (.str (toString i), M) else none
  | _ => none
def oMax2 : OpN := fun xs M => match xs with
  | [.int i, .int j] => some (.int (if j > i then j else i), M)
  | _ => none
def oMin2 : OpN := fun xs M => match xs with
  | [.int i, .int j] => some (.int (if j < i then j else i), M)
  | _ => none
def intsOf : List D → Option (List Int)
  | [] => some []
  | .int i :: ds => (match intsOf ds with
    | some ns => some (i :: ns)
    | none => none)
  | _ :: _ => none
def maxOf : List Int → Option Int
  | [] => none
  | n :: ns => some (ns.foldl (fun a b => if b > a then b else a) n)
def minOf : List Int → Option Int
  | [] => none
  | n :: ns => some (ns.foldl (fun a b => if b < a then b else a) n)
def oMax1 : OpN := fun xs M => match xs with
  | [.ref n] => (match M[n]? with
    | some (.lst ds) => (match (intsOf ds).bind maxOf with
      | some k => some (.int k, M)
      | none => none)
    | _ => none)
  | _ => none
def oMin1 : OpN := fun xs M => match xs with
  | [.ref n] => (match M[n]? with
    | some (.lst ds) => (match (intsOf ds).bind minOf with
      | some k => some (.int k, M)
      | none => none)
    | _ => none)
  | _ => none
/-- kinds -/
def kindOf (M : Mem) : D → Option String
  | .non => some "NoneType"
  | .bl _ => some "bool"
  | .int _ => some "int"
  | .str _ => some "str"
  | .tup _ => some "tuple"
  | .scr _ => some "list"
  | .ref n => (match M[n]? with
    | some (.lst _) => some "list"
    | some (.dct _) => some "dict"
    | _ => none)
def oIsi (T : String) : Op1 := fun x M => match kindOf M x with
  | some k => (match kitB k T with
    | some b => some (.bl b, M)
    | none => none)
  | none => none
section
variable {K : PySem.W.Frag} {C : Addr} {i : List Addr} {M : Mem} {H : Hp}
theorem intsOf_dl : ∀ {ds : List D} {vs : List V} {ns : List Int}, DLs K i H ds vs → intsOf ds = some ns → vs = ns.map V.int
  | [], vs, ns, h, e => by
    simp only [DLs] at h
    simp only [intsOf, Option.some.injEq] at e
    subst h e
    rfl
  | d :: ds, vs, ns, h, e => by
    simp only [DLs] at h
    obtain ⟨v, r, rfl, h2, h3⟩ := h
    cases d <;> first
      | (cases e; done)
      | skip
    rename_i k
    unfold intsOf at e
    split at e
    · rename_i ns' hn
      cases e
      simp only [DV] at h2
      subst h2
      rw [intsOf_dl h3 hn]
      rfl
    · cases e
theorem maxOf_eq {ns : List Int} {k m : Int} (e : maxOf ns = some k) (hm : m ∈ ns) (hle : ∀ y ∈ ns, y ≤ m) : m = k := by
  cases ns with
  | nil => cases hm
  | cons n r =>
    cases e
    have key : ∀ (r : List Int) (n : Int), (r.foldl (fun a b => if b > a then b else a) n = n ∨ r.foldl (fun a b => if b > a then b else a) n ∈ r) ∧ n ≤ r.foldl (fun a b => if b > a then b else a) n ∧ ∀ y ∈ r, y ≤ r.foldl (fun a b => if b > a then b else a) n := by
      intro r
      induction r with
      | nil => intro n; simp
      | cons x r ih =>
        intro n
        rw [List.foldl_cons]
        obtain ⟨h1, h2, h3⟩ := ih (if x > n then x else n)
        refine ⟨?_, ?_, fun y hy => ?_⟩
        · rcases h1 with h1 | h1
          · rw [h1]
            split
            · exact .inr List.mem_cons_self
            · exact .inl rfl
          · exact .inr (List.mem_cons_of_mem _ h1)
        · exact Int.le_trans (by split <;> omega) h2
        · rcases List.mem_cons.mp hy with rfl | hy
          · exact Int.le_trans (by split <;> omega) h2
          · exact h3 y hy
    obtain ⟨h1, h2, h3⟩ := key r n
    have a : m ≤ r.foldl (fun a b => if b > a then b else a) n := by
      rcases List.mem_cons.mp hm with rfl | hm
      · exact h2
      · exact h3 m hm
    have b : r.foldl (fun a b => if b > a then b else a) n ≤ m := by
      rcases h1 with h1 | h1
      · rw [h1]; exact hle n List.mem_cons_self
      · exact hle _ (List.mem_cons_of_mem _ h1)
    omega
theorem minOf_eq {ns : List Int} {k m : Int} (e : minOf ns = some k) (hm : m ∈ ns) (hle : ∀ y ∈ ns, m ≤ y) : m = k := by
  cases ns with
  | nil => cases hm
  | cons n r =>
    cases e
    have key : ∀ (r : List Int) (n : Int), (r.foldl (fun a b => if b < a then b else a) n = n ∨ r.foldl (fun a b => if b < a then b else a) n ∈ r) ∧ r.foldl (fun a b => if b < a then b else a) n ≤ n ∧ ∀ y ∈ r, r.foldl (fun a b => if b < a then b else a) n ≤ y := by
      intro r
      induction r with
      | nil => intro n; simp
      | cons x r ih =>
        intro n
        rw [List.foldl_cons]
        obtain ⟨h1, h2, h3⟩ := ih (if x < n then x else n)
        refine ⟨?_, ?_, fun y hy => ?_⟩
        · rcases h1 with h1 | h1
          · rw [h1]
            split
            · exact .inr List.mem_cons_self
            · exact .inl rfl
          · exact .inr (List.mem_cons_of_mem _ h1)
        · exact Int.le_trans h2 (by split <;> omega)
        · rcases List.mem_cons.mp hy with rfl | hy
          · exact Int.le_trans h2 (by split <;> omega)
          · exact h3 y hy
    obtain ⟨h1, h2, h3⟩ := key r n
    have a : r.foldl (fun a b => if b < a then b else a) n ≤ m := by
      rcases List.mem_cons.mp hm with rfl | hm
      · exact h2
      · exact h3 m hm
    have b : m ≤ r.foldl (fun a b => if b < a then b else a) n := by
      rcases h1 with h1 | h1
      · rw [h1]; exact hle n List.mem_cons_self
      · exact hle _ (List.mem_cons_of_mem _ h1)
    omega
end
section
variable {X : Cx} {C : Addr} {W : WX}
theorem cl_len : CallR X (.builtin "len") (rON X.K C oLen) := by
  intro pins s σ H xs us Q I rv h
  obtain ⟨i, M, ds, d, M', m, rx, e, q⟩ := h
  unfold oLen at e
  split at e
  · cases e
    obtain ⟨v, rfl, r1⟩ := dl1 rx
    obtain ⟨a, vs, rfl, h1, h2⟩ := tup_at r1
    exact call_len_seq pins s σ H _ us Q I rv ⟨a, vs, rfl, .inr h1.seq, by rw [← h2.length]; exact goInt q m⟩
  · rename_i ns
    cases e
    obtain ⟨v, rfl, r1⟩ := dl1 rx
    obtain ⟨a, rfl, h1⟩ := scr_at r1
    exact call_len_seq pins s σ H _ us Q I rv ⟨a, _, rfl, .inl h1.seq, by rw [List.length_map]; exact goInt q m⟩
  · split at e
    · rename_i hl
      cases e
      obtain ⟨v, rfl, r1⟩ := dl1 rx
      simp only [DV] at r1
      subst r1
      exact call_len_str pins s σ H _ us Q I rv ⟨_, rfl, Nat.le_of_lt (small_line hl), goInt q m⟩
    · cases e
  · split at e
    · rename_i ds hn
      cases e
      obtain ⟨v, rfl, r1⟩ := dl1 rx
      obtain ⟨a, vs, ha, rfl, h1, h2⟩ := lst_at m hn r1
      exact call_len_seq pins s σ H _ us Q I rv ⟨a, vs, rfl, .inl (SqL.of h1), by rw [← h2.length]; exact goInt q m⟩
    · rename_i kvs hn
      cases e
      obtain ⟨v, rfl, r1⟩ := dl1 rx
      obtain ⟨a, vs, ha, rfl, h1, h2⟩ := dct_at m hn r1
      exact call_lenD pins s σ H _ us Q I rv ⟨a, vs, rfl, h1, by rw [← h2.length]; exact goInt q m⟩
    · cases e
  · cases e
theorem ints_dl {K : PySem.W.Frag} {i : List Addr} {H : Hp} : ∀ (ks : List (Int × D)), DLs K i H (ks.map fun p => D.int p.1) ((ks.map (·.1)).map V.int)
  | [] => by simp only [List.map, DLs]
  | p :: ks => by
    simp only [List.map, DLs]
    exact ⟨_, _, rfl, by simp only [DV], ints_dl ks⟩
theorem cl_list (hc : X.calm = true) : CallR X (.type "list") (rON X.K C oList) := by
  intro pins s σ H xs us Q I rv h
  obtain ⟨i, M, ds, d, M', m, rx, e, q⟩ := h
  unfold oList at e
  split at e
  · cases e
    obtain ⟨v, rfl, r1⟩ := dl1 rx
    obtain ⟨a, vs, rfl, h1, h2⟩ := tup_at r1
    exact call_list_of pins s σ H _ us Q I rv ⟨a, vs, rfl, .inr h1.seq, goLst q m h2⟩
  · rename_i ns
    cases e
    obtain ⟨v, rfl, r1⟩ := dl1 rx
    obtain ⟨a, rfl, h1⟩ := scr_at r1
    exact call_list_of pins s σ H _ us Q I rv ⟨a, _, rfl, .inl h1.seq, goLst q m (dl_ints _)⟩
  · split at e
    · rename_i ds hn
      cases e
      obtain ⟨v, rfl, r1⟩ := dl1 rx
      obtain ⟨a, vs, ha, rfl, h1, h2⟩ := lst_at m hn r1
      exact call_list_of pins s σ H _ us Q I rv ⟨a, vs, rfl, .inl (SqL.of h1), goLst q m h2⟩
    · rename_i kvs hn
      cases e
      obtain ⟨v, rfl, r1⟩ := dl1 rx
      obtain ⟨a, vs, ha, rfl, h1, h2⟩ := dct_at m hn r1
      refine call_listD hc pins s σ H _ us Q I rv ⟨a, vs, rfl, .inl h1, ?_⟩
      rw [dk_keysV h2]
      exact goLst q m (ints_dl kvs)
    · cases e
  · cases e
theorem cl_tuple : CallR X (.type "tuple") (rON X.K C oTuple) := by
  intro pins s σ H xs us Q I rv h
  obtain ⟨i, M, ds, d, M', m, rx, e, q⟩ := h
  unfold oTuple at e
  split at e
  · cases e
    obtain ⟨v, rfl, r1⟩ := dl1 rx
    obtain ⟨a, vs, rfl, h1, h2⟩ := tup_at r1
    exact call_tuple_of pins s σ H _ us Q I rv ⟨a, vs, rfl, .inr ⟨h1.seq, goSame q m r1⟩⟩
  · split at e
    · rename_i ds hn
      cases e
      obtain ⟨v, rfl, r1⟩ := dl1 rx
      obtain ⟨a, vs, ha, rfl, h1, h2⟩ := lst_at m hn r1
      exact call_tuple_of pins s σ H _ us Q I rv ⟨a, vs, rfl, .inl ⟨SqL.of h1, goTup q m h2⟩⟩
    · cases e
  · cases e
theorem cl_dict : CallR X (.type "dict") (rON X.K C oDict) := by
  intro pins s σ H xs us Q I rv h
  obtain ⟨i, M, ds, d, M', m, rx, e, q⟩ := h
  unfold oDict at e
  split at e
  · split at e
    · rename_i kvs hn
      cases e
      obtain ⟨v, rfl, r1⟩ := dl1 rx
      obtain ⟨a, vs, ha, rfl, h1, h2⟩ := dct_at m hn r1
      exact call_dictD pins s σ H _ us Q I rv ⟨a, vs, rfl, .inl h1, goDct q m h2⟩
    · cases e
  · cases e
theorem cl_int : CallR X (.type "int") (rON X.K C oInt) := by
  intro pins s σ H xs us Q I rv h
  obtain ⟨i, M, ds, d, M', m, rx, e, q⟩ := h
  unfold oInt at e
  split at e
  · cases e
    obtain ⟨v, rfl, r1⟩ := dl1 rx
    simp only [DV] at r1
    subst r1
    exact call_int1 pins s σ H _ us Q I rv (.inl ⟨_, rfl, goInt q m⟩)
  · cases e
    obtain ⟨v, rfl, r1⟩ := dl1 rx
    simp only [DV] at r1
    subst r1
    exact call_int1 pins s σ H _ us Q I rv (.inr ⟨_, rfl, goInt q m⟩)
  · cases e
theorem cl_str : CallR X (.type "str") (rON X.K C oStr) := by
  intro pins s σ H xs us Q I rv h
  obtain ⟨i, M, ds, d, M', m, rx, e, q⟩ := h
  unfold oStr at e
  split at e
  · split at e
    · rename_i hl
      cases e
      obtain ⟨v, rfl, r1⟩ := dl1 rx
      simp only [DV] at r1
      subst r1
      exact call_str_int pins s σ H _ us Q I rv ⟨_, rfl, hl, goStr q m⟩
    · cases e
  · cases e
theorem cl_max2 (hc : X.calm = true) : CallR X (.builtin "max") (rON X.K C oMax2) := by
  intro pins s σ H xs us Q I rv h
  obtain ⟨i, M, ds, d, M', m, rx, e, q⟩ := h
  unfold oMax2 at e
  split at e
  · cases e
    obtain ⟨v, w, rfl, r1, r2⟩ := dl2 rx
    simp only [DV] at r1 r2
    subst r1 r2
    exact call_max2 hc pins s σ H _ us Q I rv ⟨_, _, rfl, goInt q m⟩
  · cases e
theorem cl_min2 (hc : X.calm = true) : CallR X (.builtin "min") (rON X.K C oMin2) := by
  intro pins s σ H xs us Q I rv h
  obtain ⟨i, M, ds, d, M', m, rx, e, q⟩ := h
  unfold oMin2 at e
  split at e
  · cases e
    obtain ⟨v, w, rfl, r1, r2⟩ := dl2 rx
    simp only [DV] at r1 r2
    subst r1 r2
    exact call_min2 hc pins s σ H _ us Q I rv ⟨_, _, rfl, goInt q m⟩
  · cases e
theorem maxOf_pos {ns : List Int} {k : Int} (e : maxOf ns = some k) : 0 < ns.length := by
  cases ns with
  | nil => cases e
  | cons n r => simp
theorem minOf_pos {ns : List Int} {k : Int} (e : minOf ns = some k) : 0 < ns.length := by
  cases ns with
  | nil => cases e
  | cons n r => simp
theorem cl_max1 (hc : X.calm = true) : CallR X (.builtin "max") (rON X.K C oMax1) := by
  intro pins s σ H xs us Q I rv h
  obtain ⟨i, M, ds, d, M', m, rx, e, q⟩ := h
  unfold oMax1 at e
  split at e
  · split at e
    · rename_i ds hn
      split at e
      · rename_i k hk
        cases e
        obtain ⟨ns, h3, h4⟩ := Option.bind_eq_some_iff.mp hk
        obtain ⟨v, rfl, r1⟩ := dl1 rx
        obtain ⟨a, vs, ha, rfl, h1, h2⟩ := lst_at m hn r1
        have ev := intsOf_dl h2 h3
        subst ev
        refine cr_max hc pins s σ H _ us Q I rv ⟨a, ns, rfl, SqL.of h1, maxOf_pos h4, fun mm hm hle => ?_⟩
        rw [maxOf_eq h4 hm hle]
        exact goInt q m
      · cases e
    · cases e
  · cases e
theorem cl_min1 (hc : X.calm = true) : CallR X (.builtin "min") (rON X.K C oMin1) := by
  intro pins s σ H xs us Q I rv h
  obtain ⟨i, M, ds, d, M', m, rx, e, q⟩ := h
  unfold oMin1 at e
  split at e
  · split at e
    · rename_i ds hn
      split at e
      · rename_i k hk
        cases e
        obtain ⟨ns, h3, h4⟩ := Option.bind_eq_some_iff.mp hk
        obtain ⟨v, rfl, r1⟩ := dl1 rx
        obtain ⟨a, vs, ha, rfl, h1, h2⟩ := lst_at m hn r1
        have ev := intsOf_dl h2 h3
        subst ev
        refine cr_min hc pins s σ H _ us Q I rv ⟨a, ns, rfl, SqL.of h1, minOf_pos h4, fun mm hm hle => ?_⟩
        rw [minOf_eq h4 hm hle]
        exact goInt q m
      · cases e
    · cases e
  · cases e
/-! ### isinstance -/
theorem kind_ty {K : PySem.W.Frag} {i : List Addr} {M : Mem} {H : Hp} {d : D} {v : V} {k : String} (m : MemR K C i M H) (r : DV K i H d v) (e : kindOf M d = some k) : TyX K H v (.type k) := by
  cases d
  · simp only [DV] at r
    cases e
    subst r
    exact .base .non
  · simp only [DV] at r
    cases e
    subst r
    exact .base (.bl _)
  · simp only [DV] at r
    cases e
    subst r
    exact .base (.int _)
  · simp only [DV] at r
    cases e
    subst r
    exact .base (.str _)
  · cases e
    obtain ⟨a, vs, rfl, h1, h2⟩ := tup_at r
    rcases h1 with h1 | ⟨o, its, n, hk, hc, _⟩
    · exact .base (.tup h1)
    · exact .kTuple hk hc
  · cases e
    obtain ⟨a, rfl, h1⟩ := scr_at r
    rcases h1 with ⟨o, h1⟩ | ⟨o, its, n, hk, hc, _⟩
    · exact .base (.frz h1)
    · exact .kList hk hc
  · dsimp only [kindOf] at e
    split at e
    · rename_i ds hn
      cases e
      obtain ⟨a, vs, ha, rfl, h1, h2⟩ := lst_at m hn r
      exact .base (.lst h1)
    · rename_i kvs hn
      cases e
      obtain ⟨a, vs, ha, rfl, h1, h2⟩ := dct_at m hn r
      exact .base (.dK h1)
    · cases e
variable {a b e : Expr} {ga ge : GE} {p p2 pos : Pos} {T : String} {Tn : Str}
theorem se_isi (hg : Gl X "isinstance") (hm : X.mg "isinstance" = none) (he : SE X C W e ge) (ht : PE X b (tC (.ty T)))
    (hs : starEach (e :: [b]) X.env = (false, eval e X.env) :: starEach [b] X.env := by rfl) (hs2 : starEach (b :: []) X.env = (false, eval b X.env) :: starEach [] X.env := by rfl) (hpl : (backTo pos (starEach [b] X.env)).any (·.1) = false := by rfl)
    (hv : bootBuiltins "isinstance" = some (.builtin "isinstance") := by decide +kernel) :
    SE X C W (.Call (.Name "isinstance" p) [e, b] [] pos) (mUn (oIsi T) ge) := by
  obtain ⟨t, pt, s⟩ := he.ex
  refine ⟨_, pe_callB call_isi hg hm hv (pa_cons pt (pa_cons ht pa_nil hs2) hs) (by decide) (by decide) hs hpl, fun i L M σ H r Q m l e q => ?_⟩
  refine s.step m l e q fun dx M1 i1 H1 x g1 m1 l1 rx e1 q1 => ?_
  obtain ⟨d, M', h1, h2⟩ := snd_ret e1 q1
  unfold oIsi at h1
  split at h1
  · rename_i k hk
    split at h1
    · rename_i bb hb
      cases h1
      exact ⟨x, .ty T, .type k, .type T, bb, rfl, .ty T, kind_ty m1 rx hk, kit_ty hb, goBl h2 m1⟩
    · cases h1
  · cases h1
/-! ### methods -/
def oAppend : OpM := fun x xs M => match x, xs with
  | .ref n, [d] => (match M[n]? with
    | some (.lst ds) => if ds.length < 16000000 then some (.non, M.set n (.lst (ds ++ [d]))) else none
    | _ => none)
  | _, _ => none
def oPop0 : OpM := fun x xs M => match x, xs with
  | .ref n, [] => (match M[n]? with
    | some (.lst ds) => (match ds[ds.length - 1]? with
      | some d => some (d, M.set n (.lst ds.dropLast))
      | none => none)
    | _ => none)
  | _, _ => none
def oClear : OpM := fun x xs M => match x, xs with
  | .ref n, [] => (match M[n]? with
    | some (.lst ds) => some (.non, M.set n (.lst []))
    | _ => none)
  | _, _ => none
theorem dl_dropLast {K : PySem.W.Frag} {i : List Addr} {H : Hp} {ds : List D} {vs : List V} (h : DLs K i H ds vs) : DLs K i H ds.dropLast vs.dropLast := by
  rw [List.dropLast_eq_take, List.dropLast_eq_take, h.length]
  exact dl_take _ h
theorem rm_append : MtR X "list.append" (rOM X.K C oAppend) := by
  intro pins s σ H x xs v us Q I rv ru h
  obtain ⟨i, M, dx, ds, d, M', m, rx, rs, e, q⟩ := h
  unfold oAppend at e
  split at e
  · split at e
    · rename_i ls hn
      split at e
      · rename_i hl
        cases e
        obtain ⟨a, vs, ha, rfl, h1, h2⟩ := lst_at m hn rx
        obtain ⟨w, rfl, r1⟩ := dl1 rs
        exact mt_append pins s σ H _ _ v us Q I rv ru ⟨a, vs, w, rfl, rfl, h1, by rw [← h2.length]; exact small_line hl, goWlst q m ha (dl_append r1 h2) (by simp only [DV])⟩
      · cases e
    · cases e
  · cases e
theorem rm_pop0 : MtR X "list.pop" (rOM X.K C oPop0) := by
  intro pins s σ H x xs v us Q I rv ru h
  obtain ⟨i, M, dx, ds, d, M', m, rx, rs, e, q⟩ := h
  unfold oPop0 at e
  split at e
  · split at e
    · rename_i ls hn
      split at e
      · rename_i d' hd
        cases e
        obtain ⟨a, vs, ha, rfl, h1, h2⟩ := lst_at m hn rx
        simp only [DLs] at rs
        subst rs
        obtain ⟨w, hw, rw'⟩ := h2.get hd
        exact mt_pop pins s σ H _ _ v us Q I rv ru ⟨a, vs, w, rfl, rfl, h1, by rw [← h2.length]; exact hw, goWlst q m ha (dl_dropLast h2) rw'⟩
      · cases e
    · cases e
  · cases e
theorem rm_clear : MtR X "list.clear" (rOM X.K C oClear) := by
  intro pins s σ H x xs v us Q I rv ru h
  obtain ⟨i, M, dx, ds, d, M', m, rx, rs, e, q⟩ := h
  unfold oClear at e
  split at e
  · split at e
    · rename_i ls hn
      cases e
      obtain ⟨a, vs, ha, rfl, h1, h2⟩ := lst_at m hn rx
      simp only [DLs] at rs
      subst rs
      exact mt_clear pins s σ H _ _ v us Q I rv ru ⟨a, vs, rfl, rfl, h1, goWlst q m ha (by simp only [DLs]) (by simp only [DV])⟩
    · cases e
  · cases e
/-- a list's method -/
def asList (op : OpM) : OpM := fun x xs M => match x with
  | .ref n => (match M[n]? with
    | some (.lst _) => op x xs M
    | _ => none)
  | _ => none
def mMtL (op : OpM) (o : GE) (as : GA) : GE := fun L M => bnd (o L M) fun x M1 => match x with
  | .ref n => (match M1[n]? with
    | some (.lst _) => bnd (as L M1) fun xs M2 => ret (op x xs M2)
    | _ => none)
  | _ => none
variable {es : List Expr} {gs : GA} {o : Expr} {go : GE} {apos cpos : Pos} {name : Str} {id : String} {op : OpM}
theorem se_mtL (slot : Slot "list" name id) (hty : typeOf (.builtin id) = pure (.type "method_descriptor")) (hm : MtR X id (rOM X.K C op)) (ho : SE X C W o go) (ha : SA X C W (e :: es) gs)
    (hbase : attributeBase o name X.env (eval o X.env) = eval o X.env := by rfl)
    (hfew : ((backTo cpos (starEach (e :: es) X.env)).all (fun x => !x.1) && (backToKw cpos (keywordEach [] X.env)).all (fun x => x.1.isSome)
      && decide ((e :: es).length + ([] : List Keyword).length + (if ([] : List Keyword).isEmpty then 0 else 1) < 30)) = true := by rfl)
    (hline : (apos.endLine == cpos.line) = true := by rfl) (hs : starEach (e :: es) X.env = (false, eval e X.env) :: starEach es X.env := by rfl) (hplain : (backTo cpos (starEach es X.env)).any (·.1) = false := by rfl) :
    SE X C W (.Call (.Attribute o name apos) (e :: es) [] cpos) (mMtL op go gs) := by
  obtain ⟨t, pt, s⟩ := ho.ex
  obtain ⟨t2, pt2, s2⟩ := ha.ex
  refine ⟨_, pe_bm PySem.F.plainAttrs_list slot hty hm pt pt2 hbase hfew hline hs hplain, fun i L M σ H r Q m l e q => ?_⟩
  refine s.step m l e q fun dx M1 i1 H1 x g1 m1 l1 rx e1 q1 => ?_
  cases dx <;> first
    | (cases e1; done)
    | skip
  rename_i n
  dsimp only at e1
  split at e1
  · rename_i ds hn
    obtain ⟨a, vs, ha, rfl, h1, h2⟩ := lst_at m1 hn rx
    refine ⟨.inl ⟨rfl, vs, SqL.of h1⟩, ?_⟩
    refine s2.step m1 l1 e1 q1 fun dxs M2 i2 H2 xs g2 m2 l2 rs e2 q2 => ?_
    obtain ⟨d, M', k1, k2⟩ := snd_ret e2 q2
    exact ⟨i2, M2, .ref n, dxs, d, M', m2, rx.mono g2, rs, k1, k2⟩
  · cases e1
theorem se_mtL0 (slot : Slot "list" name id) (hty : typeOf (.builtin id) = pure (.type "method_descriptor")) (hm : MtR X id (rOM X.K C op)) (ho : SE X C W o go)
    (hbase : attributeBase o name X.env (eval o X.env) = eval o X.env := by rfl) (hline : (apos.endLine == cpos.line) = true := by rfl) : SE X C W (.Call (.Attribute o name apos) [] [] cpos) (mMtL op go mNil) := by
  obtain ⟨t, pt, s⟩ := ho.ex
  refine ⟨_, pe_bm0 PySem.F.plainAttrs_list slot hty hm pt hbase hline, fun i L M σ H r Q m l e q => ?_⟩
  refine s.step m l e q fun dx M1 i1 H1 x g1 m1 l1 rx e1 q1 => ?_
  cases dx <;> first
    | (cases e1; done)
    | skip
  rename_i n
  dsimp only at e1
  split at e1
  · rename_i ds hn
    obtain ⟨a, vs, ha, rfl, h1, h2⟩ := lst_at m1 hn rx
    refine ⟨.inl ⟨rfl, vs, SqL.of h1⟩, ?_⟩
    obtain ⟨d, M', k1, k2⟩ := snd_ret (show ret (op (.ref n) [] M1) = some r from e1) q1
    exact ⟨i1, M1, .ref n, [], d, M', m1, rx, by simp only [DLs], k1, k2⟩
  · cases e1
end
end BL
/-! BLGen: what a def is to its callers; facts of built-ins. -/
namespace BL
open PySem L2

/-- a def of the text, by its name -/
structure Cal (P : Program) (w : World) (K : PySem.W.Frag) (mg : Str → Option Value) (base : Heap) (C : Addr) (k : Nat) (nm : Str) (ps : List Str) (g : Fn) : Prop where
  ex : ∃ f fd, FnOk P w K mg base (L2.CX P w) k f fd ps (spG K mg C g) ∧ mg nm = some (.ref f) ∧ PySem.W.keepIn K (.ref f) = true ∧ Binds K fd ps []
section
variable {X : Cx} {C : Addr} {W : WX} {e : Expr} {es : List Expr} {gs : GA} {x : Str} {p pos : Pos} {k : Nat} {ps : List Str} {g : Fn}
theorem se_cal (c : Cal X.prog X.w X.K X.mg X.base C k x ps g) (hr : Room k X.A) (hx : Lets X W) (ha : SA X C W (e :: es) gs) (hg : Gl X x := by rfl) (hdb : (x == ("__debug__" : Str)) = false := by decide)
    (he : starEach (e :: es) X.env = (false, eval e X.env) :: starEach es X.env := by rfl) (hpl : (backTo pos (starEach es X.env)).any (·.1) = false := by rfl) : SE X C W (.Call (.Name x p) (e :: es) [] pos) (mCall g gs) := by
  obtain ⟨f, fd, F, hm, hk, hb⟩ := c.ex
  exact se_call F hr hx hg hm hk hb ha hdb he hpl
theorem lets_of (tk : Takes X W) : Lets X W := fun σ => passAt tk σ
theorem lets_blk {s : Shared} {H : Hp} {scope : Scope} {cenv : Env} {fp : List Addr} : Lets (X.blk s H scope cenv fp) W0 := fun σ pins H' s1 e s' I c => by
  obtain ⟨_, _, _, _, _, _, _, _, _, _, _, _, z⟩ := c
  exact z.elim
end
theorem fun_of {K : PySem.W.Frag} {x qual : Str} {st : Stmt} {f : Addr} {fd : FuncData} (F : FunD K x qual (defArgs st) (defBody st) (defScope st) [] [] f fd) : Fun K x qual st f fd := by
  obtain ⟨⟨oc, od, dV, kV, doc, pm, an, cdv, ct, osl, e, l, c, hd, hk⟩, kp⟩ := F
  refine ⟨⟨oc, od, kV, doc, pm, an, cdv, ct, osl, ?_, l, c⟩, kp⟩
  rcases hd with ⟨h1, h2⟩ | ⟨h1, _⟩
  · subst h2
    exact e
  · exact absurd rfl h1
section
variable {P : Program} {w : World} {K : PySem.W.Frag} {mg : Str → Option Value} {base : Heap} {C : Addr}
theorem ok_cal {x : Str} {st : Stmt} {f : Addr} {fd : FuncData} {N ps : List Str} {k : Nat} {body : GS} (F : Fun K x x st f fd) (hm : mg x = some (.ref f)) (S : FnScope N ps (defScope st))
    (hb : ∀ (kV doc pm : Value) (an : Option Addr) (cdv ct : Value) (us : List Value), us.length = ps.length → bindArgs (PySem.W.fnOf x x (defArgs st) (defBody st) (defScope st) .none kV doc pm an cdv ct) ⟨us, []⟩ = pure (ps.zip us))
    (hbody : ∀ (X : Cx) (W : WX) (cdv : Value) (A : Around) (outer : List Env) (s : Shared) (H : Hp) (E : XK), X = cxOf (L2.CX P w) P w K mg base N x (defScope st) f cdv A outer s H E → W = (fun c d _ H' => E c d H') →
      Room k (cxOf (L2.CX P w) P w K mg base N x (defScope st) f cdv A outer s H E).A → PassesOwn (model P w) (cxOf (L2.CX P w) P w K mg base N x (defScope st) f cdv A outer s H E).A (cxOf (L2.CX P w) P w K mg base N x (defScope st) f cdv A outer s H E).env (cxOf (L2.CX P w) P w K mg base N x (defScope st) f cdv A outer s H E).xe →
      Takes (cxOf (L2.CX P w) P w K mg base N x (defScope st) f cdv A outer s H E) (fun c d _ H' => E c d H') → 
      SSs (cxOf (L2.CX P w) P w K mg base N x (defScope st) f cdv A outer s H E) C (fun c d _ H' => E c d H') (defBody st) body) :
    Cal P w K mg base C (k + 1) x ps (mDef ps.length N.length body) :=
  ⟨f, fd, ok_def F S fun cdv A outer s H E hr => hbody _ _ cdv A outer s H E rfl rfl hr (passes_of rfl) (takes_of rfl rfl rfl rfl), hm, F.kp, F.binds hb⟩
end
/-! ### built-ins -/
theorem bv_len : bootBuiltins "len" = some (.builtin "len") := by decide +kernel
theorem bv_max : bootBuiltins "max" = some (.builtin "max") := by decide +kernel
theorem bv_min : bootBuiltins "min" = some (.builtin "min") := by decide +kernel
theorem bv_sorted : bootBuiltins "sorted" = some (.builtin "sorted") := by decide +kernel
theorem bv_isinstance : bootBuiltins "isinstance" = some (.builtin "isinstance") := by decide +kernel
theorem bv_list : bootBuiltins "list" = some (.type "list") := by decide +kernel
theorem bv_tuple : bootBuiltins "tuple" = some (.type "tuple") := by decide +kernel
theorem bv_dict : bootBuiltins "dict" = some (.type "dict") := by decide +kernel
theorem bv_int : bootBuiltins "int" = some (.type "int") := by decide +kernel
theorem bv_bool : bootBuiltins "bool" = some (.type "bool") := by decide +kernel
theorem bv_str : bootBuiltins "str" = some (.type "str") := by decide +kernel
end BL
/-! BLHead: a law's end. -/
namespace BL
open PySem PySem.Spec PyProof.Rows L2
/-- what the head tells of the text -/
structure Tx (fa : List He.Fa) (fn : List He.DefD) (tf : List (Str × List He.Dv)) (K : PySem.W.Frag) (mg : Str → Option Value) : Prop where
  says : He.SaysD fa fn K
  tups : (tf.all fun p => He.tupB K p.1 p.2) = true
  at_ : ∃ h : Heap, K.In h ∧ h.Ns mainGlobals mg
section
variable {fa : List He.Fa} {fn : List He.DefD} {tf : List (Str × List He.Dv)} {K : PySem.W.Frag} {mg : Str → Option Value}
theorem Tx.free (T : Tx fa fn tf K mg) (i : Nat) {x : Str} (h : fa[i]? = some (.free x) := by rfl) : mg x = none := by
  obtain ⟨hp, X, G⟩ := T.at_
  exact He.free_ok X G (T.says.fact i h)
theorem Tx.glo (T : Tx fa fn tf K mg) (i : Nat) {x : Str} (h : fa[i]? = some (.glo x) := by rfl) : mg x = some (.ref (He.ga K x)) := by
  obtain ⟨hp, X, G⟩ := T.at_
  exact He.glo_ok X G (T.says.fact i h)
/-- a tuple of the text -/
theorem Tx.tup (T : Tx fa fn tf K mg) (i j : Nat) {x : Str} {vs : List He.Dv} (h : tf[i]? = some (x, vs) := by rfl) (hg : fa[j]? = some (.glo x) := by rfl) : ∃ a, mg x = some (.ref a) ∧ ∀ H, TupAt K H a (vs.map (He.Dv.v K)) := by
  refine ⟨_, T.glo j hg, fun H => ?_⟩
  rcases He.tupB_ok (List.all_eq_true.mp T.tups (x, vs) (List.mem_of_getElem? h)) (fun _ => none) with (z | ⟨o, z⟩) | z
  · cases z
  · cases z
  · exact .inr z
theorem Tx.int (T : Tx fa fn tf K mg) (i : Nat) {x : Str} {k : Int} (h : fa[i]? = some (.int x k) := by rfl) : ∃ t, mg x = some (.int k t) := by
  obtain ⟨hp, X, G⟩ := T.at_
  exact He.int_ok X G (T.says.fact i h)
/-- a def of the text -/
theorem Tx.def_ (T : Tx fa fn tf K mg) (i j : Nat) {x : Str} {st : Stmt} (h : fn[i]? = some ⟨(x, none), x, x, defArgs st, defBody st, defScope st, [], []⟩ := by rfl) (hg : fa[j]? = some (.glo x) := by rfl) :
    ∃ f fd, Fun K x x st f fd ∧ mg x = some (.ref f) := by
  obtain ⟨fd, F⟩ := T.says.def_ i h
  exact ⟨_, fd, fun_of F, T.glo j hg⟩
end
section
variable {P : Program} {w : World} {K : PySem.W.Frag} {mg : Str → Option Value} {base : Heap} {C : Addr}
theorem ok_calT {x : Str} {st : Stmt} {N ps : List Str} {k : Nat} {body : GS} (F : ∃ f fd, Fun K x x st f fd ∧ mg x = some (.ref f)) (S : FnScope N ps (defScope st))
    (hb : ∀ (kV doc pm : Value) (an : Option Addr) (cdv ct : Value) (us : List Value), us.length = ps.length → bindArgs (PySem.W.fnOf x x (defArgs st) (defBody st) (defScope st) .none kV doc pm an cdv ct) ⟨us, []⟩ = pure (ps.zip us))
    (hbody : ∀ (X : Cx) (W : WX) (f : Addr) (cdv : Value) (A : Around) (outer : List Env) (s : Shared) (H : Hp) (E : XK), X = cxOf (L2.CX P w) P w K mg base N x (defScope st) f cdv A outer s H E → W = (fun c d _ H' => E c d H') →
      Room k (cxOf (L2.CX P w) P w K mg base N x (defScope st) f cdv A outer s H E).A → PassesOwn (model P w) (cxOf (L2.CX P w) P w K mg base N x (defScope st) f cdv A outer s H E).A (cxOf (L2.CX P w) P w K mg base N x (defScope st) f cdv A outer s H E).env (cxOf (L2.CX P w) P w K mg base N x (defScope st) f cdv A outer s H E).xe →
      Takes (cxOf (L2.CX P w) P w K mg base N x (defScope st) f cdv A outer s H E) (fun c d _ H' => E c d H') → 
      SSs (cxOf (L2.CX P w) P w K mg base N x (defScope st) f cdv A outer s H E) C (fun c d _ H' => E c d H') (defBody st) body) :
    Cal P w K mg base C (k + 1) x ps (mDef ps.length N.length body) := by
  obtain ⟨f, fd, F, hm⟩ := F
  exact ok_cal F hm S hb fun X W cdv A outer s H E h1 h2 => hbody X W f cdv A outer s H E h1 h2
end
/-- the same, of the law's def -/
theorem ok_fnT {P : Program} {w : World} {K : PySem.W.Frag} {mg : Str → Option Value} {base : Heap} {C : Addr} {x : Str} {st : Stmt} {f : Addr} {fd : FuncData} {N ps : List Str} {k : Nat} {body : GS} (F : Fun K x x st f fd) (S : FnScope N ps (defScope st))
    (hbody : ∀ (X : Cx) (W : WX) (f : Addr) (cdv : Value) (A : Around) (outer : List Env) (s : Shared) (H : Hp) (E : XK), X = cxOf (L2.CX P w) P w K mg base N x (defScope st) f cdv A outer s H E → W = (fun c d _ H' => E c d H') →
      Room k (cxOf (L2.CX P w) P w K mg base N x (defScope st) f cdv A outer s H E).A → PassesOwn (model P w) (cxOf (L2.CX P w) P w K mg base N x (defScope st) f cdv A outer s H E).A (cxOf (L2.CX P w) P w K mg base N x (defScope st) f cdv A outer s H E).env (cxOf (L2.CX P w) P w K mg base N x (defScope st) f cdv A outer s H E).xe →
      Takes (cxOf (L2.CX P w) P w K mg base N x (defScope st) f cdv A outer s H E) (fun c d _ H' => E c d H') → 
      SSs (cxOf (L2.CX P w) P w K mg base N x (defScope st) f cdv A outer s H E) C (fun c d _ H' => E c d H') (defBody st) body) :
    FnOk P w K mg base (L2.CX P w) (k + 1) f fd ps (spG K mg C (mDef ps.length N.length body)) :=
  ok_def F S fun cdv A outer s H E hr => hbody _ _ f cdv A outer s H E rfl rfl hr (passes_of rfl) (takes_of rfl rfl rfl rfl)
theorem mem_nil (K : PySem.W.Frag) (C : Addr) (H : Hp) : MemR K C [] [] H := ⟨rfl, List.nodup_nil, fun n o a h => by simp at h⟩
/-! ### the hook: facts, and tuples -/
abbrev AlB : Type := He.AlD × Bool
def obsB (fa : List He.Fa) (fn : List He.DefD) (tf : List (Str × List He.Dv)) (K : PySem.W.Frag) : AlB := (He.obsD fa fn K, tf.all fun p => He.tupB K p.1 p.2)
def valB (fn : List He.DefD) : AlB := (He.valD fn, true)
def obsBG (n : Nat) (fa : List He.Fa) (fn : List He.DefD) (tf : List (Str × List He.Dv)) (g : Addr → Option Obj) : AlB := obsB fa fn tf (He.frG g (He.asD g n))
def hookB (n : Nat) (fa : List He.Fa) (fn : List He.DefD) (tf : List (Str × List He.Dv)) : PySem.W.Hook where
  α := AlB
  obs := fun s => obsBG n fa fn tf s.heap.get?
  val := fun _ => valB fn
  says := fun _ h => ∃ K : PySem.W.Frag, K.In h ∧ obsB fa fn tf K = valB fn
  of := fun _ _ e => ⟨_, He.frG_in, e⟩
  keeps := fun _ _ _ ⟨K, hK, c⟩ k => ⟨K, PySem.W.Frag.In.keeps hK k, c⟩
theorem obsBG_eq {n : Nat} {fa : List He.Fa} {fn : List He.DefD} {tf : List (Str × List He.Dv)} {g : Addr → Option Obj} {s : Shared} (h : ∀ a, g a = s.heap.get? a) : obsBG n fa fn tf g = (hookB n fa fn tf).obs s := by
  have e : g = s.heap.get? := funext h
  rw [e] <;> rfl
/-- the law's end -/
theorem bl_walk {l : PySem.W.OpenLaw} {n k j : Nat} {q : Program} {loose : List Str} {XP : (Str → Option Value) → Heap → Prop} {hn' : Nat} {fa : List He.Fa} {fn : List He.DefD} {tf : List (Str × List He.Dv)} {d : DefRec} {x y : Str} {st : Stmt} {g : Fn} (C : PySem.W.Frag → Addr) (i : Nat)
    (hn : l.most = some n) (hn2 : n ≤ sizeLine) (hdf : d.params.defaults = []) (hr : Room k callerA) (hd : d.name = y)
    (hfn : fn[i]? = some ⟨(y, none), y, y, defArgs st, defBody st, defScope st, [], []⟩) (hfa : fa[j]? = some (.glo y))
    (hb : ∀ (kV doc pm : Value) (an : Option Addr) (cdv ct : Value) (us : List Value), us.length = [x].length → bindArgs (PySem.W.fnOf y y (defArgs st) (defBody st) (defScope st) .none kV doc pm an cdv ct) ⟨us, []⟩ = pure ([x].zip us))
    (F : ∀ (w : World) (K : PySem.W.Frag) (mg : Str → Option Value) (base : Heap) (f : Addr) (fd : FuncData), Tx fa fn tf K mg → Fun K y y st f fd → FnOk l.prog w K mg base (L2.CX l.prog w) k f fd [x] (spG K mg (C K) g))
    (law : ∀ ns : List Int, ns.length ≤ n → (∀ z ∈ ns, Builtin.Int.intBits z ≤ 1048576) → ∃ M, g [.scr ns] [] = some (.ok (.bl true) M)) :
    PySem.W.WalkO q loose XP (hookB hn' fa fn tf).says l.row.toRowW d [] (fun f vs => PySem.call f vs) := by
  refine Att.attach_callB hn hdf fun w s₀ s₁ mg mb fad o pm cd doc a vs ns G Y ho hd' hcd hmg hobj hints hlen hbits hg => ?_
  obtain ⟨K, KX, sb⟩ := Y
  have says : He.SaysD fa fn K := congrArg (fun z : AlB => z.1) sb
  have tups : (tf.all fun p => He.tupB K p.1 p.2) = true := congrArg (fun z : AlB => z.2) sb
  obtain ⟨fd, FD⟩ := says.def_ i hfn
  have e : fad = He.fAd K (y, none) := by
    have e1 := He.glo_ok KX G.T.g (says.fact j hfa)
    rw [hd] at hmg
    exact Value.ref.inj (Option.some.inj (hmg.symm.trans e1))
  subst e
  refine law_call KX G.T.g G.T.b G.T.builtins G.T.nolimit hg hobj hints (Nat.le_trans hlen hn2) hr (fun base hK hG => F w K mg base _ fd ⟨says, tups, base, hK, hG⟩ (fun_of FD)) (fun s u => FunD.bindsA (ps := [x]) FD hb s [u] rfl) (fun H hO hS => ?_) fun H e s' z => ?_
  · obtain ⟨M, hM⟩ := law ns hlen hbits
    refine ⟨[], [], [.scr ns], _, mem_nil K (C K) H, ?_, hM, fun i' H' b g m r => ?_⟩
    · simp only [DLs, DV]
      refine ⟨_, [], rfl, ⟨a, rfl, ?_⟩, rfl⟩
      rcases hS with (h | h) | h
      · rcases hO a with z | ⟨o, xs, z⟩
        · rw [z] at h
          cases h
        · rw [z] at h
          cases h
      · exact .inl h
      · exact .inr h
    · simpa only [DV] using r
  · obtain ⟨_, _, _, _, _, _, _, _, _, _, _, _, z⟩ := z
    exact z
end BL
/-! BLMore: texts joined, dicts, module's names. -/
namespace BL
open PySem L2
section
variable {X : Cx} {C : Addr} {W : WX} {o e f : Expr} {go ge gf : GE} {gs : GA} {apos cpos pos : Pos} {x : Str}
theorem se_globI {k : Int} (h : ∃ t, X.mg x = some (.int k t)) (hg : Gl X x := by rfl) (hd : (x == ("__debug__" : Str)) = false := by decide) : SE X C W (.Name x pos) (mC (.int k)) := by
  obtain ⟨t, h⟩ := h
  exact se_const (pe_glob (v := .int k) hg h ⟨t, rfl⟩ hd) fun _ _ => by simp only [DV]
theorem se_globT1 {z : Str} (h : ∃ a, X.mg x = some (.ref a) ∧ ∀ H, TupAt X.K H a [V.str z]) (hg : Gl X x := by rfl) (hd : (x == ("__debug__" : Str)) = false := by decide) : SE X C W (.Name x pos) (mC (.tup [.str z])) := by
  obtain ⟨a, h, ht⟩ := h
  refine se_const (pe_glob (v := .ref a) hg h rfl hd) fun i H => ?_
  simp only [DV, DLs]
  exact ⟨a, [V.str z], rfl, ht H, _, [], rfl, rfl, rfl⟩
/-! ### join -/
def strsOf : List D → Option (List Str)
  | [] => some []
  | .str s :: ds => (match strsOf ds with
    | some zs => some (s :: zs)
    | none => none)
  | _ :: _ => none
theorem strs_dl {K : PySem.W.Frag} {i : List Addr} {H : Hp} : ∀ {ds : List D} {vs : List V} {zs : List Str}, DLs K i H ds vs → strsOf ds = some zs → vs = zs.map V.str
  | [], vs, zs, h, e => by
    cases e
    simp only [DLs] at h
    exact h
  | d :: ds, vs, zs, h, e => by
    cases d <;> first
      | (cases e; done)
      | skip
    unfold strsOf at e
    cases e2 : strsOf ds with
    | none => rw [e2] at e; cases e
    | some ys =>
      rw [e2] at e
      cases e
      simp only [DLs, DV] at h
      obtain ⟨v, r, rfl, rfl, h3⟩ := h
      rw [strs_dl h3 e2]
      rfl
def oJoin : OpM := fun x xs M => match x, xs with
  | .str a, [.ref n] => (match M[n]? with
    | some (.lst ds) => (match strsOf ds with
      | some ys => if (ys.map (·.length)).sum + ys.length * a.length ≤ 16777216 then some (.str (Txt.join a ys), M) else none
      | none => none)
    | _ => none)
  | _, _ => none
/-- a text's method -/
def mMtS (op : OpM) (o : GE) (as : GA) : GE := fun L M => bnd (o L M) fun x M1 => match x with
  | .str _ => bnd (as L M1) fun xs M2 => ret (op x xs M2)
  | _ => none
theorem se_join (ho : SE X C W o go) (he : SE X C W e ge) (hs : starEach [e] X.env = [(false, eval e X.env)] := by rfl) (hbase : attributeBase o "join" X.env (eval o X.env) = eval o X.env := by rfl) (hline : (apos.endLine == cpos.line) = true := by rfl) :
    SE X C W (.Call (.Attribute o "join" apos) [e] [] cpos) (mMtS oJoin go (mCons ge mNil)) := by
  obtain ⟨t, pt, s⟩ := ho.ex
  obtain ⟨t2, pt2, s2⟩ := he.ex
  refine ⟨_, pe_join pt pt2 hs hbase hline, fun i L M σ H r Q m l e q => ?_⟩
  refine s.step m l e q fun dx M1 i1 H1 x g1 m1 l1 rx e1 q1 => ?_
  cases dx <;> first
    | (cases e1; done)
    | skip
  rename_i a
  simp only [DV] at rx
  subst rx
  refine ⟨⟨a, rfl⟩, ?_⟩
  have e1' : bnd (ge L M1) (fun d M2 => ret (oJoin (.str a) [d] M2)) = some r := by
    refine Eq.trans ?_ e1
    show _ = bnd (mCons ge mNil L M1) fun xs M2 => ret (oJoin (.str a) xs M2)
    unfold mCons
    cases ge L M1 with
    | none => rfl
    | some z => cases z <;> rfl
  refine s2.step m1 l1 e1' q1 fun dy M2 i2 H2 y g2 m2 l2 ry e2 q2 => ?_
  obtain ⟨d, M', k1, k2⟩ := snd_ret e2 q2
  unfold oJoin at k1
  split at k1
  · rename_i a' n ea eb
    cases ea
    cases eb
    split at k1
    · rename_i ds hn
      split at k1
      · rename_i ys hy
        split at k1
        · rename_i hl
          cases k1
          obtain ⟨p, vs, hp, rfl, h1, h2⟩ := lst_at m2 hn ry
          have := strs_dl h2 hy
          subst this
          exact ⟨a, p, ys, rfl, rfl, .inl (SqL.of h1), hl, goStr k2 m2⟩
        · cases k1
      · cases k1
    · cases k1
  · cases k1
/-! ### dicts -/
def oGet1 : Op2 := fun x y M => match x, y with
  | .ref n, .int k => (match M[n]? with
    | some (.dct kvs) => some ((aget kvs k).getD .non, M)
    | _ => none)
  | _, _ => none
def oPopD2 : Op2 := fun x y M => match x, y with
  | .ref n, .int k => (match M[n]? with
    | some (.dct kvs) => some ((aget kvs k).getD .non, M.set n (.dct (adel kvs k)))
    | _ => none)
  | _, _ => none
def oPopD1 : Op2 := fun x y M => match x, y with
  | .ref n, .int k => (match M[n]? with
    | some (.dct kvs) => (match aget kvs k with
      | some d => some (d, M.set n (.dct (adel kvs k)))
      | none => none)
    | _ => none)
  | _, _ => none
/-- a dict's method: its receiver first looked at -/
def mMtD (op : Op2) (o e : GE) : GE := fun L M => bnd (o L M) fun x M1 => match x with
  | .ref n => (match M1[n]? with
    | some (.dct _) => bnd (e L M1) fun y M2 => ret (op x y M2)
    | _ => none)
  | _ => none
theorem mtD_snd {op : Op2} {t ta : TE} {tr : TE} (s : SndG X.K X.mg C W (DV X.K) t go) (s2 : SndG X.K X.mg C W (DV X.K) ta ge)
    (h : ∀ σ H Q, t σ H (fun x H1 => ∃ a, x = .ref a ∧ (∃ kvs, Rd H1 a (.dK kvs)) ∧ ta σ H1 fun y H2 => rO X.K C op x y H2 Q) → tr σ H Q) : SndG X.K X.mg C W (DV X.K) tr (mMtD op go ge) := fun i L M σ H r Q m l e q => by
  refine h σ H Q ?_
  refine s.step m l e q fun dx M1 i1 H1 x g1 m1 l1 rx e1 q1 => ?_
  cases dx <;> first
    | (cases e1; done)
    | skip
  rename_i n
  dsimp only at e1
  split at e1
  · rename_i ds hn
    obtain ⟨a, vs, ha, rfl, h1, h2⟩ := dct_at m1 hn rx
    refine ⟨a, rfl, ⟨vs, .inl h1⟩, ?_⟩
    refine s2.step m1 l1 e1 q1 fun dy M2 i2 H2 y g2 m2 l2 ry e2 q2 => ?_
    obtain ⟨d, M', k1, k2⟩ := snd_ret e2 q2
    exact ⟨i2, M2, .ref n, dy, d, M', m2, rx.mono g2, ry, k1, k2⟩
  · cases e1
theorem TE_mono {t : TE} (ht : ∃ e, PE X e t) : True := trivial
theorem se_get1 (hu : X.A.units + 1 < cLine) (ho : SE X C W o go) (he : SE X C W e ge) (m : M1 X o "get" apos e cpos := by exact ⟨by rfl, by rfl, by rfl, by rfl⟩) : SE X C W (.Call (.Attribute o "get" apos) [e] [] cpos) (mMtD oGet1 go ge) := by
  have p := pe_dget1 hu ho.pe he.pe m
  obtain ⟨t, pt, s⟩ := ho.ex
  obtain ⟨t2, pt2, s2⟩ := he.ex
  refine ⟨_, pe_dget1 hu pt pt2 m, fun i L M σ H r Q mm l e q => ?_⟩
  refine s.step mm l e q fun dx M1 i1 H1 x g1 m1 l1 rx e1 q1 => ?_
  cases dx <;> first
    | (cases e1; done)
    | skip
  rename_i n
  dsimp only at e1
  split at e1
  · rename_i ds hn
    obtain ⟨a, vs, ha, rfl, h1, h2⟩ := dct_at m1 hn rx
    refine ⟨a, rfl, .inl ⟨vs, .inl h1⟩, ?_⟩
    refine s2.step m1 l1 e1 q1 fun dy M2 i2 H2 y g2 m2 l2 ry e2 q2 => ?_
    obtain ⟨d, M', k1, k2⟩ := snd_ret e2 q2
    unfold oGet1 at k1
    split at k1
    · rename_i n' k ea
      cases ea
      split at k1
      · rename_i kvs hk
        cases k1
        obtain ⟨a', vs', ha', ea', h1', h2'⟩ := dct_at m2 hk (rx.mono g2)
        cases ea'
        simp only [DV] at ry
        subst ry
        obtain ⟨n1, n2⟩ := DKs.val k h2'
        cases hg : aget kvs k with
        | none =>
          refine ⟨none, .inl ⟨vs', Sum.inl k, .inl h1', rfl, (n1 hg).symm⟩, ?_⟩
          rw [hg] at k2
          exact goNon k2 m2
        | some d =>
          obtain ⟨v, hv, rv⟩ := n2 d hg
          refine ⟨some v, .inl ⟨vs', Sum.inl k, .inl h1', rfl, hv.symm⟩, ?_⟩
          rw [hg] at k2
          exact goSame k2 m2 rv
      · cases k1
    · cases k1
  · cases e1
theorem pop_some {kvs : List (Int × D)} {vs : List (Key × V)} {i2 : List Addr} {M2 : Mem} {H2 : Hp} {n : Nat} {a : Addr} {k : Int} {d : D} {v : V} {Q : VK} (m2 : MemR X.K C i2 M2 H2) (ha : i2[n]? = some a) (h2 : DKs X.K i2 H2 kvs vs) (rv : DV X.K i2 H2 d v)
    (q : Goes X.K C i2 H2 d (M2.set n (.dct (adel kvs k))) Q) : Q v (upd H2 a (.dK (dropK vs (Sum.inl k : Key)))) := goWdct q m2 ha h2.del rv
theorem adel_none {k : Int} : ∀ {kvs : List (Int × D)}, aget kvs k = none → adel kvs k = kvs
  | [], _ => rfl
  | (j, d) :: r, h => by
    unfold aget at h
    split at h
    · cases h
    · rename_i hj
      have ih := adel_none h
      unfold adel at ih ⊢
      rw [List.filter_cons_of_pos (by simpa using hj), ih]
theorem se_popD2 (ho : SE X C W o go) (he : SE X C W e ge) (hf : SE X C W f (mC .non)) (m : M2 X o "pop" apos e f cpos := by exact ⟨by rfl, by rfl, by rfl, by rfl⟩) : SE X C W (.Call (.Attribute o "pop" apos) [e, f] [] cpos) (mMtD oPopD2 go ge) := by
  obtain ⟨t, pt, s⟩ := ho.ex
  obtain ⟨t2, pt2, s2⟩ := he.ex
  obtain ⟨t3, pt3, s3⟩ := hf.ex
  refine ⟨_, pe_dpop2 pt pt2 pt3 m, fun i L M σ H r Q mm l e q => ?_⟩
  refine s.step mm l e q fun dx M1 i1 H1 x g1 m1 l1 rx e1 q1 => ?_
  cases dx <;> first
    | (cases e1; done)
    | skip
  rename_i n
  dsimp only at e1
  split at e1
  · rename_i ds hn
    obtain ⟨a, vs, ha, rfl, h1, h2⟩ := dct_at m1 hn rx
    refine ⟨a, rfl, .inl ⟨vs, .inl h1⟩, ?_⟩
    refine s2.step m1 l1 e1 q1 fun dy M2 i2 H2 y g2 m2 l2 ry e2 q2 => ?_
    obtain ⟨d, M', k1, k2⟩ := snd_ret e2 q2
    refine s3 i2 L M2 σ H2 (.ok .non M2) _ m2 l2 rfl fun i3 H3 z g3 m3 rz => ?_
    simp only [DV] at rz
    subst rz
    have k3 : Goes X.K C i3 H3 d M' Q := fun i' H' z g mm' rr => k2 i' H' z (g3.trans g) mm' rr
    unfold oPopD2 at k1
    split at k1
    · rename_i n' k ea
      cases ea
      split at k1
      · rename_i kvs hk
        cases k1
        obtain ⟨a', vs', ha', ea', h1', h2'⟩ := dct_at m3 hk ((rx.mono g2).mono g3)
        cases ea'
        have ry' := ry.mono g3
        simp only [DV] at ry'
        subst ry'
        obtain ⟨n1, n2⟩ := DKs.val k h2'
        refine ⟨vs', Sum.inl k, h1', rfl, fun v hv => ?_, fun hv => ?_⟩
        · cases hg : aget kvs k with
          | none =>
            rw [n1 hg] at hv
            cases hv
          | some d =>
            obtain ⟨v', hv', rv⟩ := n2 d hg
            rw [hv'] at hv
            cases hv
            rw [hg] at k3
            exact goWdct k3 m3 ha' h2'.del rv
        · cases hg : aget kvs k with
          | none =>
            rw [hg, adel_none hg] at k3
            have e5 : M2.set n (.dct kvs) = M2 := by
              apply List.ext_getElem?
              intro j
              rw [List.getElem?_set]
              split
              · rename_i hj
                subst hj
                rw [hk]
                have := (List.getElem?_eq_some_iff.mp hk).1
                simp [this]
              · rfl
            rw [e5] at k3
            exact goNon k3 m3
          | some d =>
            obtain ⟨v', hv', rv⟩ := n2 d hg
            rw [hv'] at hv
            cases hv
      · cases k1
    · cases k1
  · cases e1
theorem se_popD1 (ho : SE X C W o go) (he : SE X C W e ge) (m : M1 X o "pop" apos e cpos := by exact ⟨by rfl, by rfl, by rfl, by rfl⟩) : SE X C W (.Call (.Attribute o "pop" apos) [e] [] cpos) (mMtD oPopD1 go ge) := by
  obtain ⟨t, pt, s⟩ := ho.ex
  obtain ⟨t2, pt2, s2⟩ := he.ex
  refine ⟨_, pe_dpop1 pt pt2 m, fun i L M σ H r Q mm l e q => ?_⟩
  refine s.step mm l e q fun dx M1 i1 H1 x g1 m1 l1 rx e1 q1 => ?_
  cases dx <;> first
    | (cases e1; done)
    | skip
  rename_i n
  dsimp only at e1
  split at e1
  · rename_i ds hn
    obtain ⟨a, vs, ha, rfl, h1, h2⟩ := dct_at m1 hn rx
    refine ⟨a, rfl, .inl ⟨vs, .inl h1⟩, ?_⟩
    refine s2.step m1 l1 e1 q1 fun dy M2 i2 H2 y g2 m2 l2 ry e2 q2 => ?_
    obtain ⟨d, M', k1, k2⟩ := snd_ret e2 q2
    unfold oPopD1 at k1
    split at k1
    · rename_i n' k ea
      cases ea
      split at k1
      · rename_i kvs hk
        split at k1
        · rename_i d' hg
          cases k1
          obtain ⟨a', vs', ha', ea', h1', h2'⟩ := dct_at m2 hk (rx.mono g2)
          cases ea'
          simp only [DV] at ry
          subst ry
          obtain ⟨v, hv, rv⟩ := (DKs.val k h2').2 _ hg
          exact ⟨vs', Sum.inl k, v, h1', rfl, hv, goWdct k2 m2 ha' h2'.del rv⟩
        · cases k1
      · cases k1
    · cases k1
  · cases e1
/-! ### o[i] = e -/
def oPutA : D → D → D → Mem → Option Mem := fun x k v M => match x, k with
  | .ref n, .int k => (match M[n]? with
    | some (.dct kvs) => if kvs.length < 16000000 then some (M.set n (.dct (aput kvs k v))) else none
    | some (.lst ds) => (match ixN ds.length k with
      | some j => some (M.set n (.lst (ds.set j v)))
      | none => none)
    | _ => none)
  | _, _ => none
theorem dl_set {K : PySem.W.Frag} {i : List Addr} {H : Hp} {d : D} {v : V} (rv : DV K i H d v) : ∀ {ds : List D} {vs : List V} (j : Nat), DLs K i H ds vs → DLs K i H (ds.set j d) (vs.set j v)
  | [], vs, j, h => by
    simp only [DLs] at h
    subst h
    simp only [List.set_nil, DLs]
  | x :: ds, vs, 0, h => by
    simp only [DLs] at h
    obtain ⟨v', r', h1, h2, h3⟩ := h
    subst h1
    simp only [List.set_cons_zero, DLs]
    exact ⟨v, _, rfl, rv, h3⟩
  | x :: ds, vs, j + 1, h => by
    simp only [DLs] at h
    obtain ⟨v', r', h1, h2, h3⟩ := h
    subst h1
    simp only [List.set_cons_succ, DLs]
    exact ⟨v', _, rfl, h2, dl_set rv j h3⟩
theorem ps_putA (hu : X.A.units + 1 < cLine) : PSet X (rOS X.K C oPutA) := by
  intro pins s σ H o i v ov iv u Q I ro ri rv h
  obtain ⟨ii, M, dx, dk, dv, M', m, rx, rk, rd, e, q⟩ := h
  unfold oPutA at e
  split at e
  · rename_i n k
    simp only [DV] at rk
    subst rk
    split at e
    · rename_i kvs hk
      split at e
      · rename_i hl
        cases e
        obtain ⟨a, vs, ha, rfl, h1, h2⟩ := dct_at m hk rx
        cases ro
        refine d_setItem hu I (DPut.k (k := Sum.inl k) (v := v) h1 (by rw [← h2.length]; exact small_line hl)) ri rv fun s' J => ⟨_, J, ?_⟩
        exact q ii _ (ext_write m ha) (m.write ha ⟨_, upd_same, (DKs.put rd h2).mono (ext_write m ha)⟩)
      · cases e
    · rename_i ds hk
      split at e
      · rename_i j hj
        cases e
        obtain ⟨a, vs, ha, rfl, h1, h2⟩ := lst_at m hk rx
        refine L2.set_list pins s σ H _ _ _ ov iv u Q I ro ri rv ⟨a, vs, k, j, rfl, rfl, h1, by rw [← h2.length]; exact hj, ?_⟩
        exact q ii _ (ext_write m ha) (m.write ha ⟨_, upd_same, (dl_set rd j h2).mono (ext_write m ha)⟩)
      · cases e
    · cases e
  · cases e
/-! ### in, not in -/
def oInD (x y : D) (M : Mem) : Option Bool := match x, y with
  | .int k, .ref n => (match M[n]? with
    | some (.dct kvs) => some (aget kvs k).isSome
    | some (.lst ds) => (match intsOf ds with
      | some ns => some (decide (k ∈ ns))
      | none => none)
    | _ => none)
  | .int k, .tup ds => (match intsOf ds with
    | some ns => some (decide (k ∈ ns))
    | none => none)
  | .str k, .tup ds => (match strsOf ds with
    | some ns => some (decide (k ∈ ns))
    | none => none)
  | _, _ => none
def oIn : Op2 := fun x y M => match oInD x y M with
  | some b => some (.bl b, M)
  | none => none
def oNotIn : Op2 := fun x y M => match oInD x y M with
  | some b => some (.bl (!b), M)
  | none => none
theorem inV_ints (k : Int) (ns : List Int) : inV (.int k) (ns.map V.int) = decide (k ∈ ns) := by
  unfold inV
  induction ns with
  | nil => simp
  | cons n ns ih =>
    rw [List.map_cons, List.any_cons, ih]
    show ((n == k) || _) = _
    rw [Bool.eq_iff_iff]
    simp only [Bool.or_eq_true, beq_iff_eq, decide_eq_true_eq, List.mem_cons]
    exact ⟨fun h => h.imp Eq.symm id, fun h => h.imp Eq.symm id⟩
theorem inV_strs (k : Str) (ns : List Str) : inV (.str k) (ns.map V.str) = decide (k ∈ ns) := by
  unfold inV
  induction ns with
  | nil => simp
  | cons n ns ih =>
    rw [List.map_cons, List.any_cons, ih]
    show ((n == k) || _) = _
    rw [Bool.eq_iff_iff]
    simp only [Bool.or_eq_true, beq_iff_eq, decide_eq_true_eq, List.mem_cons]
    exact ⟨fun h => h.imp Eq.symm id, fun h => h.imp Eq.symm id⟩
theorem flat_ints (ns : List Int) : (ns.map V.int).all flatV = true := by simp [flatV]
theorem flat_strs (ns : List Str) : (ns.map V.str).all flatV = true := by simp [flatV]
theorem inD_cases {x y : D} {M : Mem} {b : Bool} {i : List Addr} {H : Hp} {vx vy : V} (m : MemR X.K C i M H) (rx : DV X.K i H x vx) (ry : DV X.K i H y vy) (e : oInD x y M = some b) :
    (∃ a o, vy = .ref a ∧ DGet H a vx o ∧ o.isSome = b) ∨ ∃ p xs, vy = .ref p ∧ (SqL X.K H p xs ∨ SqT X.K H p xs) ∧ flatV vx = true ∧ xs.all flatV = true ∧ inV vx xs = b := by
  unfold oInD at e
  split at e
  · rename_i k n
    simp only [DV] at rx
    subst rx
    split at e
    · rename_i kvs hk
      cases e
      obtain ⟨a, vs, ha, rfl, h1, h2⟩ := dct_at m hk ry
      obtain ⟨n1, n2⟩ := DKs.val k h2
      refine .inl ⟨a, _, rfl, .inl ⟨vs, Sum.inl k, .inl h1, rfl, rfl⟩, ?_⟩
      cases hg : aget kvs k with
      | none => rw [n1 hg]; rfl
      | some d =>
        obtain ⟨v, hv, _⟩ := n2 d hg
        rw [hv]
        rfl
    · rename_i ds hk
      split at e
      · rename_i ns hn
        cases e
        obtain ⟨a, vs, ha, rfl, h1, h2⟩ := lst_at m hk ry
        have := intsOf_dl h2 hn
        subst this
        exact .inr ⟨a, _, rfl, .inl (SqL.of h1), rfl, flat_ints ns, inV_ints k ns⟩
      · cases e
    · cases e
  · rename_i k ds
    simp only [DV] at rx
    subst rx
    split at e
    · rename_i ns hn
      cases e
      obtain ⟨a, vs, rfl, h1, h2⟩ := tup_at ry
      have := intsOf_dl h2 hn
      subst this
      exact .inr ⟨a, _, rfl, .inr h1.seq, rfl, flat_ints ns, inV_ints k ns⟩
    · cases e
  · rename_i k ds
    simp only [DV] at rx
    subst rx
    split at e
    · rename_i ns hn
      cases e
      obtain ⟨a, vs, rfl, h1, h2⟩ := tup_at ry
      have := strs_dl h2 hn
      subst this
      exact .inr ⟨a, _, rfl, .inr h1.seq, rfl, flat_strs ns, inV_strs k ns⟩
    · cases e
  · cases e
theorem or_in (hu : X.A.units + 1 < cLine) : OpR X (compareOp .In) (rO X.K C oIn) := by
  intro pins s σ H x y v u Q I rv ru h
  obtain ⟨i, M, dx, dy, d, M', m, rx, ry, e, q⟩ := h
  unfold oIn at e
  split at e
  · rename_i b hb
    cases e
    rcases inD_cases m rx ry hb with ⟨a, o, rfl, g, e2⟩ | ⟨p, xs, rfl, h1, h2, h3, h4⟩
    · cases ru
      refine d_in hu I g rv fun s' J => ⟨.bl b, H, J, by rw [e2]; rfl, goBl q m⟩
    · exact op_in_seq pins s σ H _ _ v u Q I rv ru ⟨p, xs, rfl, h1, h2, h3, by rw [h4]; exact goBl q m⟩
  · cases e
theorem or_notIn (hu : X.A.units + 1 < cLine) : OpR X (compareOp .NotIn) (rO X.K C oNotIn) := by
  intro pins s σ H x y v u Q I rv ru h
  obtain ⟨i, M, dx, dy, d, M', m, rx, ry, e, q⟩ := h
  unfold oNotIn at e
  split at e
  · rename_i b hb
    cases e
    rcases inD_cases m rx ry hb with ⟨a, o, rfl, g, e2⟩ | ⟨p, xs, rfl, h1, h2, h3, h4⟩
    · cases ru
      refine d_notIn hu I g rv fun s' J => ⟨.bl (!b), H, J, by rw [e2]; rfl, goBl q m⟩
    · exact op_notIn_seq pins s σ H _ _ v u Q I rv ru ⟨p, xs, rfl, h1, h2, h3, by rw [h4]; exact goBl q m⟩
  · cases e
end
end BL
/-! BLEval: the machine run by rewriting. -/
namespace BL
open PySem L2
section
variable {L : Loc} {M : Mem} {a b c : GE} {op op2 : Op2} {o1 : Op1} {on : OpN} {gs : GA} {t u : GT} {p q : GS} {i j : Nat} {d : D} {f : Fn}
@[simp] theorem ev_var : mVar i L M = (match L[i]? with | some (some d) => some (.ok d M) | _ => none) := (rfl)
@[simp] theorem ev_c : mC d L M = some (.ok d M) := (rfl)
@[simp] theorem ev_bin : mBin op a b L M = bnd (a L M) fun x M1 => bnd (b L M1) fun y M2 => ret (op x y M2) := (rfl)
@[simp] theorem ev_un : mUn o1 a L M = bnd (a L M) fun x M1 => ret (o1 x M1) := (rfl)
@[simp] theorem ev_chain : mChain op op2 a b c L M = bnd (a L M) fun x M1 => bnd (b L M1) fun y M2 => bnd (ret (op x y M2)) fun z M3 => match z with
  | .bl true => bnd (c L M3) fun w M4 => ret (op2 y w M4)
  | .bl false => some (.ok (.bl false) M3)
  | _ => none := (rfl)
@[simp] theorem ev_nil : mNil L M = some (.ok [] M) := (rfl)
@[simp] theorem ev_cons : mCons a gs L M = bnd (a L M) fun x M1 => bnd (gs L M1) fun xs M2 => some (.ok (x :: xs) M2) := (rfl)
@[simp] theorem ev_cb : mCB on gs L M = bnd (gs L M) fun xs M1 => ret (on xs M1) := (rfl)
@[simp] theorem ev_call : mCall f gs L M = bnd (gs L M) fun xs M1 => f xs M1 := (rfl)
@[simp] theorem ev_tup : mTup gs L M = bnd (gs L M) fun xs M1 => ret (oTup xs M1) := (rfl)
@[simp] theorem ev_lst : mLst gs L M = bnd (gs L M) fun xs M1 => ret (oLst xs M1) := (rfl)
@[simp] theorem ev_dnew : mDnew L M = some (.ok (.ref M.length) (M ++ [.dct []])) := (rfl)
@[simp] theorem ev_t : mT a L M = bnd (a L M) fun x M1 => (match x with | .bl b => some (.ok b M1) | _ => none) := (rfl)
@[simp] theorem ev_and : mAnd t u L M = bnd (t L M) fun x M1 => if x = true then u L M1 else some (.ok false M1) := (rfl)
@[simp] theorem ev_or : mOr t u L M = bnd (t L M) fun x M1 => if x = true then some (.ok true M1) else u L M1 := (rfl)
@[simp] theorem ev_not : mNot t L M = bnd (t L M) fun x M1 => some (.ok (!x) M1) := (rfl)
@[simp] theorem ev_andV : mAndV a b L M = bnd (a L M) fun x M1 => (match x with | .bl true => b L M1 | .bl false => some (.ok (.bl false) M1) | _ => none) := (rfl)
@[simp] theorem ev_orV : mOrV a b L M = bnd (a L M) fun x M1 => (match x with | .bl false => b L M1 | .bl true => some (.ok (.bl true) M1) | _ => none) := (rfl)
@[simp] theorem ev_notV : mNotV a L M = bnd (a L M) fun x M1 => (match x with | .bl b => some (.ok (.bl (!b)) M1) | _ => none) := (rfl)
@[simp] theorem ev_if : mIf t a b L M = bnd (t L M) fun c M1 => if c = true then a L M1 else b L M1 := (rfl)
@[simp] theorem ev_skip : mSkip L M = some (.nx L, M) := (rfl)
@[simp] theorem ev_seq : mSeq p q L M = thenS (p L M) q := (rfl)
@[simp] theorem ev_name : mName i d L = some (L.set i (some d)) := (rfl)
@[simp] theorem ev_name2 {x y : D} : mName2 i j (.tup [x, y]) L = some ((L.set i (some x)).set j (some y)) := (rfl)
@[simp] theorem ev_set : mSet i a L M = bndS L (a L M) fun d M1 => some (.nx (L.set i (some d)), M1) := (rfl)
@[simp] theorem ev_ret : mRet a L M = bndS L (a L M) fun d M1 => some (.rt d, M1) := (rfl)
@[simp] theorem ev_retN : mRetN L M = some (.rt .non, M) := (rfl)
@[simp] theorem ev_expr : mExpr a L M = bndS L (a L M) fun _ M1 => some (.nx L, M1) := (rfl)
@[simp] theorem ev_ite : mIte t p q L M = bndS L (t L M) fun c M1 => if c = true then p L M1 else q L M1 := (rfl)
@[simp] theorem ev_put {op : D → D → D → Mem → Option Mem} : mPut op a b c L M = bndS L (c L M) fun v M1 => bndS L (a L M1) fun x M2 => bndS L (b L M2) fun k M3 => (match op x k v M3 with | some M4 => some (.nx L, M4) | none => none) := (rfl)
@[simp] theorem ev_raise {cn : Str} : mRaise cn L M = some (.ex cn L, M) := (rfl)
@[simp] theorem ev_mtL {om : OpM} : mMtL om a gs L M = bnd (a L M) fun x M1 => (match x with
  | .ref n => (match M1[n]? with
    | some (.lst _) => bnd (gs L M1) fun xs M2 => ret (om x xs M2)
    | _ => none)
  | _ => none) := (rfl)
@[simp] theorem ev_def1 {n : Nat} {x : D} : mDef 1 n p [x] M = endS (p ([some x] ++ List.replicate (n - 1) none) M) := if_pos rfl
@[simp] theorem ev_def2 {n : Nat} {x y : D} : mDef 2 n p [x, y] M = endS (p ([some x, some y] ++ List.replicate (n - 2) none) M) := if_pos rfl
@[simp] theorem ev_def3 {n : Nat} {x y z : D} : mDef 3 n p [x, y, z] M = endS (p ([some x, some y, some z] ++ List.replicate (n - 3) none) M) := if_pos rfl
@[simp] theorem ev_def4 {n : Nat} {x y z w : D} : mDef 4 n p [x, y, z, w] M = endS (p ([some x, some y, some z, some w] ++ List.replicate (n - 4) none) M) := if_pos rfl
@[simp] theorem ev_def5 {n : Nat} {x y z w v : D} : mDef 5 n p [x, y, z, w, v] M = endS (p ([some x, some y, some z, some w, some v] ++ List.replicate (n - 5) none) M) := if_pos rfl
theorem ev_def {k n : Nat} {ds : List D} (h : ds.length = k) : mDef k n p ds M = endS (p (ds.map some ++ List.replicate (n - k) none) M) := if_pos h
end
section
variable {M : Mem} {i j : Int} {s z : Str} {xs ys : List D} {x y : D} {n m : Nat}
@[simp] theorem add_int : oAdd (.int i) (.int j) M = some (.int (i + j), M) := (rfl)
@[simp] theorem add_str : oAdd (.str s) (.str z) M = if s.length + z.length < 16000000 then some (.str (s ++ z), M) else none := (rfl)
@[simp] theorem add_tup : oAdd (.tup xs) (.tup ys) M = if xs.length + ys.length < 16000000 then some (.tup (xs ++ ys), M) else none := (rfl)
theorem add_lst (h1 : M[n]? = some (.lst xs)) (h2 : M[m]? = some (.lst ys)) (h : xs.length + ys.length < 16000000) : oAdd (.ref n) (.ref m) M = some (.ref M.length, M ++ [.lst (xs ++ ys)]) := by
  show (match M[n]?, M[m]? with
    | some (.lst xs), some (.lst ys) => if xs.length + ys.length < 16000000 then some (D.ref M.length, M ++ [Ob.lst (xs ++ ys)]) else none
    | _, _ => none) = _
  rw [h1, h2]
  exact if_pos h
@[simp] theorem sub_int : oSub (.int i) (.int j) M = some (.int (i - j), M) := (rfl)
theorem mul_int (h : mulFits i j) : oMul (.int i) (.int j) M = some (.int (i * j), M) := if_pos h
@[simp] theorem div_int : oDiv (.int i) (.int j) M = if 0 < j ∧ j < 1073741824 then some (.int (i / j), M) else none := (rfl)
@[simp] theorem mod_int : oMod (.int i) (.int j) M = if 0 < j then some (.int (i % j), M) else none := (rfl)
@[simp] theorem pow_int : oPow (.int i) (.int j) M = if 0 ≤ j ∧ j ≤ 1000 ∧ i.natAbs < 2 ^ 64 then some (.int (i ^ j.toNat), M) else none := (rfl)
@[simp] theorem neg_int : oNeg (.int i) M = some (.int (-i), M) := (rfl)
@[simp] theorem lt_int : oLt (.int i) (.int j) M = some (.bl (decide (i < j)), M) := (rfl)
@[simp] theorem le_int : oLe (.int i) (.int j) M = some (.bl (decide (i ≤ j)), M) := (rfl)
@[simp] theorem gt_int : oGt (.int i) (.int j) M = some (.bl (decide (j < i)), M) := (rfl)
@[simp] theorem ge_int : oGe (.int i) (.int j) M = some (.bl (decide (j ≤ i)), M) := (rfl)
/-! whole numbers that fit -/
def small (i : Int) : Prop := -(10 ^ 80) ≤ i ∧ i ≤ 10 ^ 80
theorem bits_small (h : small i) : Builtin.Int.intBits i ≤ 300 := by
  unfold Builtin.Int.intBits
  unfold small at h
  by_cases e : (i == 0) = true
  · simp [e]
  · simp only [e]
    have h0 : i.natAbs ≠ 0 := by simp at e; omega
    have h1 : i.natAbs.log2 < 299 := (Nat.log2_lt h0).mpr (by omega)
    simp
    omega
theorem fits_small (h : small i) (h' : small j) : mulFits i j := by
  have a := bits_small h
  have b := bits_small h'
  unfold mulFits L2.CMulX
  omega
theorem fits_cell (h : Builtin.Int.intBits i ≤ 1048576) (h' : small j) : mulFits i j := by
  have b := bits_small h'
  unfold mulFits L2.CMulX
  omega
end
theorem lt_bits (c : Int) : c.natAbs < 2 ^ PySem.Builtin.Int.intBits c := by
  unfold PySem.Builtin.Int.intBits
  by_cases e : (c == 0) = true
  · simp at e
    simp [e]
  · simp only [e]
    simp at e
    exact Nat.lt_log2_self
theorem sum_bits {c k : Int} {p q : Nat} (hc : c.natAbs < 2 ^ p) (hk : k.natAbs < 2 ^ q) : (c + k).natAbs < 2 ^ (p + q + 1) := by
  have h1 : (c + k).natAbs ≤ c.natAbs + k.natAbs := Int.natAbs_add_le c k
  have h2 : 2 ^ p ≤ 2 ^ (p + q) := Nat.pow_le_pow_right (by decide) (by omega)
  have h3 : 2 ^ q ≤ 2 ^ (p + q) := Nat.pow_le_pow_right (by decide) (by omega)
  rw [Nat.pow_succ]
  omega
theorem fits_sum {c k j : Int} (h : PySem.Builtin.Int.intBits c ≤ 1048576) (hk : small k) (hj : small j) : mulFits (c + k) j := by
  have b := bits_small hk
  have b2 := bits_small hj
  exact L2.mulx_ok (sum_bits (lt_bits c) (lt_bits k)) (lt_bits j) (by omega)
/-! ### equality of plain data -/
/-- no truths, no references, texts of signs -/
def Pl : Nat → D → Prop
  | _, .non => True
  | _, .int _ => True
  | _, .str s => PyData.strOk s = true
  | n + 1, .tup xs => ∀ x ∈ xs, Pl n x
  | _, _ => False
theorem Pl.mono : ∀ {n : Nat} {d : D}, Pl n d → Pl (n + 1) d
  | _, .non, _ => by unfold Pl; trivial
  | _, .int _, _ => by unfold Pl; trivial
  | _, .str s, h => by unfold Pl at h ⊢; exact h
  | 0, .tup xs, h => by unfold Pl at h; exact h.elim
  | n + 1, .tup xs, h => by
    unfold Pl at h ⊢
    exact fun x hx => (h x hx).mono
  | n, .bl b, h => by cases n <;> (unfold Pl at h; exact h.elim)
  | n, .scr b, h => by cases n <;> (unfold Pl at h; exact h.elim)
  | n, .ref b, h => by cases n <;> (unfold Pl at h; exact h.elim)
theorem pl_non {n : Nat} : Pl n .non := by cases n <;> (unfold Pl; trivial)
theorem pl_int {n : Nat} {i : Int} : Pl n (.int i) := by cases n <;> (unfold Pl; trivial)
theorem pl_str {n : Nat} {s : Str} (h : PyData.strOk s = true) : Pl n (.str s) := by cases n <;> (unfold Pl; exact h)
theorem pl_tup {n : Nat} {xs : List D} (h : ∀ x ∈ xs, Pl n x) : Pl (n + 1) (.tup xs) := by unfold Pl; exact h
theorem Pl.items {n : Nat} {xs : List D} (h : Pl (n + 1) (.tup xs)) : ∀ x ∈ xs, Pl n x := by unfold Pl at h; exact h
/-- how it is told -/
structure Told (n : Nat) (d : D) (p : PyData) : Prop where
  py : ∀ f, pyD f d = some p
  lay : p.canLay0 = true
  deep : p.depth ≤ n
theorem told_list {n : Nat} (ih : ∀ d : D, Pl n d → ∃ p, Told n d p) : ∀ xs : List D, (∀ x ∈ xs, Pl n x) → ∃ ps : List PyData, (∀ f, pyL f xs = some ps) ∧ PyData.canLayAll0 ps = true ∧ PyData.depthAll ps ≤ n
  | [], _ => ⟨[], fun f => by simp only [pyL], by simp only [PyData.canLayAll0], by simp only [PyData.depthAll]; omega⟩
  | x :: xs, h => by
    obtain ⟨p, h1⟩ := ih x (h x List.mem_cons_self)
    obtain ⟨ps, h2, h3, h4⟩ := told_list ih xs fun y hy => h y (List.mem_cons_of_mem _ hy)
    refine ⟨p :: ps, fun f => by simp only [pyL, h1.py f, h2 f], by simp only [PyData.canLayAll0, h1.lay, h3, Bool.and_self], ?_⟩
    simp only [PyData.depthAll]
    have := h1.deep
    omega
theorem Pl.told : ∀ {n : Nat} {d : D}, Pl n d → ∃ p, Told n d p
  | n, .non, _ => ⟨.none, fun f => by simp only [pyD], rfl, by simp only [PyData.depth]; omega⟩
  | n, .int i, _ => ⟨.int i, fun f => by simp only [pyD], rfl, by simp only [PyData.depth]; omega⟩
  | n, .str s, h => ⟨.str s, fun f => by simp only [pyD], by
      simp only [PyData.canLay0]
      cases n <;> (unfold Pl at h; exact h), by simp only [PyData.depth]; omega⟩
  | 0, .tup xs, h => by unfold Pl at h; exact h.elim
  | n + 1, .tup xs, h => by
    obtain ⟨ps, h1, h2, h3⟩ := told_list (fun d => Pl.told (n := n)) xs h.items
    exact ⟨.tuple ps, fun f => by simp only [pyD, h1 f, Option.map_some], by simp only [PyData.canLay0, h2], by simp only [PyData.depth]; omega⟩
  | n, .bl b, h => by cases n <;> (unfold Pl at h; exact h.elim)
  | n, .scr b, h => by cases n <;> (unfold Pl at h; exact h.elim)
  | n, .ref b, h => by cases n <;> (unfold Pl at h; exact h.elim)
open Classical in
theorem eqv_list {n m : Nat} (ih : ∀ (d d' : D) (p p' : PyData), Pl n d → Pl m d' → (∀ f, pyD f d = some p) → (∀ f, pyD f d' = some p') → PyData.eqv p p' = decide (d = d')) : ∀ (xs ys : List D) (ps qs : List PyData), (∀ x ∈ xs, Pl n x) → (∀ x ∈ ys, Pl m x) → (∀ f, pyL f xs = some ps) → (∀ f, pyL f ys = some qs) → PyData.eqvAll ps qs = decide (xs = ys)
  | [], [], ps, qs, _, _, h3, h4 => by
    have e1 := h3 fun _ => none
    have e2 := h4 fun _ => none
    simp only [pyL] at e1 e2
    cases e1
    cases e2
    simp [PyData.eqvAll]
  | [], y :: ys, ps, qs, h1, h2, h3, h4 => by
    obtain ⟨p, t⟩ := (h2 y List.mem_cons_self).told
    have e1 := h3 fun _ => none
    have e2 := h4 fun _ => none
    simp only [pyL, t.py] at e1 e2
    cases e1
    split at e2
    · cases e2
      simp [PyData.eqvAll]
    · cases e2
  | x :: xs, [], ps, qs, h1, h2, h3, h4 => by
    have e1 := h3 fun _ => none
    have e2 := h4 fun _ => none
    simp only [pyL] at e1 e2
    cases e2
    split at e1
    · cases e1
      simp [PyData.eqvAll]
    · cases e1
  | x :: xs, y :: ys, ps, qs, h1, h2, h3, h4 => by
    obtain ⟨p, t⟩ := (h1 x List.mem_cons_self).told
    obtain ⟨p', t'⟩ := (h2 y List.mem_cons_self).told
    have k1 : ∃ r, ps = p :: r ∧ ∀ f, pyL f xs = some r := by
      have e := h3 fun _ => none
      simp only [pyL, t.py] at e
      cases hr : pyL (fun _ => none) xs with
      | none => rw [hr] at e; cases e
      | some r =>
        rw [hr] at e
        have e := Option.some.inj e
        subst e
        refine ⟨_, rfl, fun f => ?_⟩
        have e2 := h3 f
        simp only [pyL, t.py] at e2
        cases hq : pyL f xs with
        | none => rw [hq] at e2; cases e2
        | some z =>
          rw [hq] at e2
          have e2 := Option.some.inj e2
          exact congrArg some (List.cons.inj e2).2
    have k2 : ∃ r, qs = p' :: r ∧ ∀ f, pyL f ys = some r := by
      have e := h4 fun _ => none
      simp only [pyL, t'.py] at e
      cases hr : pyL (fun _ => none) ys with
      | none => rw [hr] at e; cases e
      | some r =>
        rw [hr] at e
        have e := Option.some.inj e
        subst e
        refine ⟨_, rfl, fun f => ?_⟩
        have e2 := h4 f
        simp only [pyL, t'.py] at e2
        cases hq : pyL f ys with
        | none => rw [hq] at e2; cases e2
        | some z =>
          rw [hq] at e2
          have e2 := Option.some.inj e2
          exact congrArg some (List.cons.inj e2).2
    obtain ⟨r, rfl, hr⟩ := k1
    obtain ⟨r', rfl, hr'⟩ := k2
    rw [PyData.eqvAll, ih x y p p' (h1 x List.mem_cons_self) (h2 y List.mem_cons_self) t.py t'.py, eqv_list ih xs ys r r' (fun z hz => h1 z (List.mem_cons_of_mem _ hz)) (fun z hz => h2 z (List.mem_cons_of_mem _ hz)) hr hr', ← Bool.decide_and]
    exact decide_eq_decide.mpr (by rw [List.cons.injEq])
theorem Pl.cases {n : Nat} {d : D} (h : Pl n d) : d = .non ∨ (∃ i, d = .int i) ∨ (∃ s, d = .str s) ∨ ∃ xs, d = .tup xs := by
  cases d with
  | non => exact .inl rfl
  | int i => exact .inr (.inl ⟨_, rfl⟩)
  | str s => exact .inr (.inr (.inl ⟨_, rfl⟩))
  | tup xs => exact .inr (.inr (.inr ⟨_, rfl⟩))
  | bl b => cases n <;> (unfold Pl at h; exact False.elim h)
  | scr b => cases n <;> (unfold Pl at h; exact False.elim h)
  | ref b => cases n <;> (unfold Pl at h; exact False.elim h)
theorem py_of {n : Nat} {d : D} {p : PyData} (h : Pl n d) (e : ∀ f, pyD f d = some p) : (d = .non ∧ p = .none) ∨ (∃ i, d = .int i ∧ p = .int i) ∨ (∃ s, d = .str s ∧ p = .str s) ∨ ∃ xs ps, d = .tup xs ∧ p = .tuple ps ∧ ∀ f, pyL f xs = some ps := by
  have e0 := e fun _ => none
  rcases h.cases with rfl | ⟨i, rfl⟩ | ⟨s, rfl⟩ | ⟨xs, rfl⟩
  · simp only [pyD] at e0
    cases e0
    exact .inl ⟨rfl, rfl⟩
  · simp only [pyD] at e0
    cases e0
    exact .inr (.inl ⟨_, rfl, rfl⟩)
  · simp only [pyD] at e0
    cases e0
    exact .inr (.inr (.inl ⟨_, rfl, rfl⟩))
  · simp only [pyD, Option.map_eq_some_iff] at e0
    obtain ⟨ps, _, rfl⟩ := e0
    refine .inr (.inr (.inr ⟨xs, ps, rfl, rfl, fun f => ?_⟩))
    have := e f
    simp only [pyD, Option.map_eq_some_iff] at this
    obtain ⟨_, k, e⟩ := this
    cases e
    exact k
open Classical in
theorem eqv_pl : ∀ {n m : Nat} {d d' : D} {p p' : PyData}, Pl n d → Pl m d' → (∀ f, pyD f d = some p) → (∀ f, pyD f d' = some p') → PyData.eqv p p' = decide (d = d') := by
  intro n
  induction n with
  | zero =>
    intro m d d' p p' h h' e e'
    rcases py_of h e with ⟨rfl, rfl⟩ | ⟨i, rfl, rfl⟩ | ⟨s, rfl, rfl⟩ | ⟨xs, ps, rfl, rfl, _⟩
    case inr.inr.inr => unfold Pl at h; exact False.elim h
    all_goals
      rcases py_of h' e' with ⟨rfl, rfl⟩ | ⟨i', rfl, rfl⟩ | ⟨s', rfl, rfl⟩ | ⟨xs', ps', rfl, rfl, _⟩
    all_goals first
      | exact (show _ = false by rfl).trans (decide_eq_false (by intro z; cases z)).symm
      | exact (show _ = true by rfl).trans (decide_eq_true rfl).symm
      | (rw [PyData.eqv, Bool.eq_iff_iff, beq_iff_eq, decide_eq_true_eq]; exact ⟨fun z => by rw [z], fun z => by cases z; rfl⟩)
  | succ n ih =>
    intro m d d' p p' h h' e e'
    rcases py_of h e with ⟨rfl, rfl⟩ | ⟨i, rfl, rfl⟩ | ⟨s, rfl, rfl⟩ | ⟨xs, ps, rfl, rfl, hx⟩
    all_goals
      rcases py_of h' e' with ⟨rfl, rfl⟩ | ⟨i', rfl, rfl⟩ | ⟨s', rfl, rfl⟩ | ⟨xs', ps', rfl, rfl, hy⟩
    all_goals first
      | exact (show _ = false by rfl).trans (decide_eq_false (by intro z; cases z)).symm
      | exact (show _ = true by rfl).trans (decide_eq_true rfl).symm
      | (rw [PyData.eqv, Bool.eq_iff_iff, beq_iff_eq, decide_eq_true_eq]; exact ⟨fun z => by rw [z], fun z => by cases z; rfl⟩)
      | skip
    cases m with
    | zero => unfold Pl at h'; exact False.elim h'
    | succ m =>
      rw [PyData.eqv, eqv_list (fun d d' p p' => ih (m := m)) xs xs' ps ps' h.items h'.items hx hy]
      exact decide_eq_decide.mpr (by rw [D.tup.injEq])
section
variable {M : Mem} {x y : D} {n m : Nat} {xs ys : List D}
theorem shaped_of {p : PyData} (h : p.canLay0 = true) (h2 : p.depth ≤ 60) : SeqAt.shaped p = true := by
  unfold SeqAt.shaped
  rw [h, decide_eq_true (by omega)]
  rfl
theorem pyOf_pl (h : Pl 50 x) : ∃ p, Told 50 x p ∧ pyOf M x = some p := by
  obtain ⟨p, t⟩ := h.told
  refine ⟨p, t, ?_⟩
  unfold pyOf
  rw [t.py]
  exact if_pos (shaped_of t.lay (by have := t.deep; omega))
theorem pyOf_lst (h : M[n]? = some (.lst xs)) (hx : ∀ x ∈ xs, Pl 50 x) : ∃ ps, (∀ f, pyL f xs = some ps) ∧ pyOf M (.ref n) = some (.list ps) := by
  obtain ⟨ps, h1, h2, h3⟩ := told_list (fun d => Pl.told (n := 50)) xs hx
  refine ⟨ps, h1, ?_⟩
  unfold pyOf
  have e : pyD (pyM M 4) (.ref n) = some (.list ps) := by
    simp only [pyD, pyM, h, h1, Option.map_some]
  rw [e]
  exact if_pos (shaped_of (by simpa only [PyData.canLay0] using h2) (by simp only [PyData.depth]; omega))
open Classical in
theorem eqD_pl (h : Pl 50 x) (h' : Pl 50 y) : eqD x y M = some (decide (x = y)) := by
  obtain ⟨p, t, e⟩ := pyOf_pl (M := M) h
  obtain ⟨q, t', e'⟩ := pyOf_pl (M := M) h'
  unfold eqD
  rw [e, e']
  exact congrArg some (eqv_pl h h' t.py t'.py)
open Classical in
theorem eqD_lst (h1 : M[n]? = some (.lst xs)) (h2 : M[m]? = some (.lst ys)) (hx : ∀ x ∈ xs, Pl 50 x) (hy : ∀ x ∈ ys, Pl 50 x) : eqD (.ref n) (.ref m) M = some (decide (xs = ys)) := by
  obtain ⟨p, t, e⟩ := pyOf_lst h1 hx
  obtain ⟨q, t', e'⟩ := pyOf_lst h2 hy
  unfold eqD
  rw [e, e']
  show some (PyData.eqv (.list p) (.list q)) = _
  rw [PyData.eqv]
  exact congrArg some (eqv_list (fun d d' p p' => eqv_pl) xs ys p q hx hy t t')
@[simp] theorem eqD_int {i j : Int} : eqD (.int i) (.int j) M = some (decide (i = j)) := by
  unfold eqD pyOf
  simp only [pyD, SeqAt.shaped, PyData.canLay0, PyData.depth, PyData.eqv]
  simp
  rfl
@[simp] theorem eqD_bl {i j : Bool} : eqD (.bl i) (.bl j) M = some (i == j) := by
  cases i <;> cases j <;> rfl
theorem eqX_of {b : Bool} (h : eqD x y M = some b) : eqX x y M = some b := by
  unfold eqX
  split
  · rename_i n m
    split
    · rename_i ka kb h1 h2
      exfalso
      unfold eqD pyOf at h
      simp only [pyD, pyM, h1] at h
      cases h
    · exact h
  · exact h
theorem eqX_dct {ka kb : List (Int × D)} (h1 : M[n]? = some (.dct ka)) (h2 : M[m]? = some (.dct kb)) : eqX (.ref n) (.ref m) M = if ka.length = kb.length then dictEq M kb ka else some false := by
  unfold eqX
  dsimp only
  rw [h1, h2]
theorem oEq_ofX {b : Bool} (h : eqX x y M = some b) : oEq x y M = some (.bl b, M) := by
  unfold oEq
  rw [h]
theorem oNe_ofX {b : Bool} (h : eqX x y M = some b) : oNe x y M = some (.bl (!b), M) := by
  unfold oNe
  rw [h]
theorem oEq_of {b : Bool} (h : eqD x y M = some b) : oEq x y M = some (.bl b, M) := oEq_ofX (eqX_of h)
theorem oNe_of {b : Bool} (h : eqD x y M = some b) : oNe x y M = some (.bl (!b), M) := oNe_ofX (eqX_of h)
open Classical in
/-- two dicts of plain data -/
theorem dictEq_pl {kb : List (Int × D)} (hb : ∀ p ∈ kb, Pl 50 p.2) : ∀ ka : List (Int × D), (∀ p ∈ ka, Pl 50 p.2) → dictEq M kb ka = some (decide (∀ p ∈ ka, aget kb p.1 = some p.2))
  | [], _ => by simp [dictEq]
  | (k, d) :: r, h => by
    unfold dictEq
    have ih := dictEq_pl hb r fun p hp => h p (List.mem_cons_of_mem _ hp)
    cases hg : aget kb k with
    | none =>
      dsimp only
      refine congrArg some (decide_eq_false fun z => ?_).symm
      have := z (k, d) List.mem_cons_self
      rw [hg] at this
      cases this
    | some d2 =>
      dsimp only
      have hd2 : Pl 50 d2 := by
        have : ∀ (kb : List (Int × D)), (∀ p ∈ kb, Pl 50 p.2) → aget kb k = some d2 → Pl 50 d2 := by
          intro kb
          induction kb with
          | nil => intro _ e; cases e
          | cons p kb ih =>
            intro hk e
            obtain ⟨j, x⟩ := p
            unfold aget at e
            split at e
            · cases e
              exact hk _ List.mem_cons_self
            · exact ih (fun q hq => hk q (List.mem_cons_of_mem _ hq)) e
        exact this kb hb hg
      obtain ⟨p, t, e1⟩ := pyOf_pl (M := M) (h (k, d) List.mem_cons_self)
      obtain ⟨q, t', e2⟩ := pyOf_pl (M := M) hd2
      rw [e1, e2]
      dsimp only
      rw [ih]
      dsimp only
      rw [eqv_pl (h (k, d) List.mem_cons_self) hd2 t.py t'.py, ← Bool.decide_and]
      refine congrArg some (decide_eq_decide.mpr ⟨fun ⟨z1, z2⟩ p hp => ?_, fun z => ⟨?_, fun p hp => z p (List.mem_cons_of_mem _ hp)⟩⟩)
      · rcases List.mem_cons.mp hp with rfl | hp
        · rw [hg, z1]
        · exact z2 p hp
      · have := z (k, d) List.mem_cons_self
        rw [hg] at this
        exact (Option.some.inj this).symm
open Classical in
theorem eqX_dcts {ka kb : List (Int × D)} (h1 : M[n]? = some (.dct ka)) (h2 : M[m]? = some (.dct kb)) (pa : ∀ p ∈ ka, Pl 50 p.2) (pb : ∀ p ∈ kb, Pl 50 p.2) : eqX (.ref n) (.ref m) M = some (decide (ka.length = kb.length ∧ ∀ p ∈ ka, aget kb p.1 = some p.2)) := by
  rw [eqX_dct h1 h2, dictEq_pl pb ka pa]
  by_cases h : ka.length = kb.length
  · rw [if_pos h]
    simp [h]
  · rw [if_neg h]
    simp [h]
open Classical in
theorem eqX_same {ka : List (Int × D)} (h1 : M[n]? = some (.dct ka)) (h2 : M[m]? = some (.dct ka)) (pa : ∀ p ∈ ka, Pl 50 p.2) (nd : (ka.map (·.1)).Nodup) : eqX (.ref n) (.ref m) M = some true := by
  rw [eqX_dcts h1 h2 pa pa]
  refine congrArg some (decide_eq_true ⟨rfl, fun p hp => ?_⟩)
  clear h1 h2 pa
  induction ka with
  | nil => cases hp
  | cons q ka ih =>
    obtain ⟨j, x⟩ := q
    rw [List.map_cons, List.nodup_cons] at nd
    unfold aget
    rcases List.mem_cons.mp hp with rfl | hp
    · rw [if_pos rfl]
    · rw [if_neg fun e => nd.1 (by rw [e]; exact List.mem_map.mpr ⟨p, hp, rfl⟩)]
      exact ih nd.2 hp
@[simp] theorem oEq_int {i j : Int} : oEq (.int i) (.int j) M = some (.bl (decide (i = j)), M) := oEq_of eqD_int
@[simp] theorem oNe_int {i j : Int} : oNe (.int i) (.int j) M = some (.bl (!decide (i = j)), M) := oNe_of eqD_int
@[simp] theorem oEq_bl {i j : Bool} : oEq (.bl i) (.bl j) M = some (.bl (i == j), M) := oEq_of eqD_bl
end
section
variable {M : Mem}
theorem oEq_strs {s t : PySem.Str} {b : Bool} (hs : PyData.strOk s = true) (ht : PyData.strOk t = true) (h : decide (s = t) = b) : oEq (.str s) (.str t) M = some (.bl b, M) := by
  rw [oEq_of (eqD_pl (pl_str hs) (pl_str ht)), ← h]
  refine congrArg (fun b => some (D.bl b, M)) (decide_eq_decide.mpr (by rw [D.str.injEq]))
theorem oNe_strs {s t : PySem.Str} {b : Bool} (hs : PyData.strOk s = true) (ht : PyData.strOk t = true) (h : decide (s = t) = b) : oNe (.str s) (.str t) M = some (.bl (!b), M) := by
  rw [oNe_of (eqD_pl (pl_str hs) (pl_str ht)), ← h]
  refine congrArg (fun b => some (D.bl (!b), M)) (decide_eq_decide.mpr (by rw [D.str.injEq]))
theorem oEq_same {d : D} (h : Pl 50 d) : oEq d d M = some (.bl true, M) := by
  rw [oEq_of (eqD_pl h h)]
  simp
theorem oNe_same {d : D} (h : Pl 50 d) : oNe d d M = some (.bl false, M) := by
  rw [oNe_of (eqD_pl h h)]
  simp
theorem oEq_diff {d e : D} (h : Pl 50 d) (h' : Pl 50 e) (hn : d ≠ e) : oEq d e M = some (.bl false, M) := by
  rw [oEq_of (eqD_pl h h')]
  simp [hn]
theorem oNe_diff {d e : D} (h : Pl 50 d) (h' : Pl 50 e) (hn : d ≠ e) : oNe d e M = some (.bl true, M) := by
  rw [oNe_of (eqD_pl h h')]
  simp [hn]
theorem oEq_lsts {n m : Nat} {xs : List D} (h1 : M[n]? = some (.lst xs)) (h2 : M[m]? = some (.lst xs)) (hx : ∀ x ∈ xs, Pl 50 x) : oEq (.ref n) (.ref m) M = some (.bl true, M) := by
  rw [oEq_of (eqD_lst h1 h2 hx hx)]
  simp
theorem oNe_lsts {n m : Nat} {xs : List D} (h1 : M[n]? = some (.lst xs)) (h2 : M[m]? = some (.lst xs)) (hx : ∀ x ∈ xs, Pl 50 x) : oNe (.ref n) (.ref m) M = some (.bl false, M) := by
  rw [oNe_of (eqD_lst h1 h2 hx hx)]
  simp
theorem pl_ints {n : Nat} {xs : List D} (h : ∀ x ∈ xs, Pl n x) {d : D} (hd : Pl n d) : ∀ x ∈ xs ++ [d], Pl n x := fun x hx => by
  rcases List.mem_append.mp hx with hx | hx
  · exact h x hx
  · have : x = d := by simpa using hx
    rw [this]
    exact hd
theorem pl1 {n : Nat} {a : D} (ha : Pl n a) : Pl (n + 1) (.tup [a]) := pl_tup fun x hx => by
  have : x = a := by simpa using hx
  rw [this]
  exact ha
theorem pl2 {n : Nat} {a b : D} (ha : Pl n a) (hb : Pl n b) : Pl (n + 1) (.tup [a, b]) := pl_tup fun x hx => by
  rcases List.mem_cons.mp hx with rfl | hx
  · exact ha
  · have : x = b := by simpa using hx
    rw [this]
    exact hb
theorem pl3 {n : Nat} {a b c : D} (ha : Pl n a) (hb : Pl n b) (hc : Pl n c) : Pl (n + 1) (.tup [a, b, c]) := pl_tup fun x hx => by
  rcases List.mem_cons.mp hx with rfl | hx
  · exact ha
  · rcases List.mem_cons.mp hx with rfl | hx
    · exact hb
    · have : x = c := by simpa using hx
      rw [this]
      exact hc
@[simp] theorem is_non {d : D} : oIs d .non M = some (.bl (isNon d), M) := (rfl)
@[simp] theorem isNot_non {d : D} : oIsNot d .non M = some (.bl (!isNon d), M) := (rfl)
end
/-! ### built-ins on data at hand -/
section
variable {M : Mem} {n : Nat} {xs : List D} {ns : List Int} {i j : Int} {s : Str} {T : String} {d : D}
@[simp] theorem len_tup : oLen [.tup xs] M = some (.int xs.length, M) := (rfl)
@[simp] theorem len_scr : oLen [.scr ns] M = some (.int ns.length, M) := (rfl)
@[simp] theorem len_str : oLen [.str s] M = if s.length < 16000000 then some (.int s.length, M) else none := (rfl)
theorem len_lst (h : M[n]? = some (.lst xs)) : oLen [.ref n] M = some (.int xs.length, M) := by
  show (match M[n]? with | some (.lst ds) => some (D.int ds.length, M) | some (.dct kvs) => some (.int kvs.length, M) | _ => none) = _
  rw [h]
theorem list_lst (h : M[n]? = some (.lst xs)) : oList [.ref n] M = some (.ref M.length, M ++ [.lst xs]) := by
  show (match M[n]? with | some (.lst ds) => some (D.ref M.length, M ++ [Ob.lst ds]) | some (.dct kvs) => some (D.ref M.length, M ++ [Ob.lst (kvs.map fun (p : Int × D) => D.int p.1)]) | _ => none) = _
  rw [h]
@[simp] theorem list_tup : oList [.tup xs] M = some (.ref M.length, M ++ [.lst xs]) := (rfl)
theorem tuple_lst (h : M[n]? = some (.lst xs)) : oTuple [.ref n] M = some (.tup xs, M) := by
  show (match M[n]? with | some (.lst ds) => some (D.tup ds, M) | _ => none) = _
  rw [h]
@[simp] theorem tuple_tup : oTuple [.tup xs] M = some (.tup xs, M) := (rfl)
@[simp] theorem tup_disp : oTup xs M = if xs.length ≤ 1000 then some (.tup xs, M) else none := (rfl)
@[simp] theorem lst_disp : oLst xs M = if xs.length ≤ 1000 then some (.ref M.length, M ++ [.lst xs]) else none := (rfl)
@[simp] theorem int_bl {b : Bool} : oInt [.bl b] M = some (.int (if b then 1 else 0), M) := (rfl)
@[simp] theorem int_int : oInt [.int i] M = some (.int i, M) := (rfl)
@[simp] theorem max2_int : oMax2 [.int i, .int j] M = some (.int (if j > i then j else i), M) := (rfl)
@[simp] theorem min2_int : oMin2 [.int i, .int j] M = some (.int (if j < i then j else i), M) := (rfl)
theorem isi_of {k : String} {b : Bool} (h : kindOf M d = some k) (h2 : kitB k T = some b) : oIsi T d M = some (.bl b, M) := by
  unfold oIsi
  rw [h]
  dsimp only
  rw [h2]
@[simp] theorem isi_int_int : oIsi "int" (.int i) M = some (.bl true, M) := isi_of rfl (by decide)
@[simp] theorem isi_bool_int : oIsi "bool" (.int i) M = some (.bl false, M) := isi_of rfl (by decide)
theorem append_lst (h : M[n]? = some (.lst xs)) (hl : xs.length < 16000000) : oAppend (.ref n) [d] M = some (.non, M.set n (.lst (xs ++ [d]))) := by
  show (match M[n]? with | some (.lst ds) => if ds.length < 16000000 then some (D.non, M.set n (.lst (ds ++ [d]))) else none | _ => none) = _
  rw [h]
  exact if_pos hl
theorem ix_lst {k : Int} (h : M[n]? = some (.lst xs)) (e : L2.atI xs k = some d) : oIx (.ref n) (.int k) M = some (d, M) := by
  unfold oIx
  dsimp only
  rw [h]
  dsimp only
  rw [e]
theorem ix_tup {k : Int} (e : L2.atI xs k = some d) : oIx (.tup xs) (.int k) M = some (d, M) := by
  unfold oIx
  dsimp only
  rw [e]
theorem ix_scr {k v : Int} (e : L2.atI ns k = some v) : oIx (.scr ns) (.int k) M = some (.int v, M) := by
  unfold oIx
  dsimp only
  rw [e]
theorem atI_nat {α : Type} {xs : List α} {k : Nat} : L2.atI xs (k : Int) = xs[k]? := by
  unfold L2.atI L2.ixN
  rw [if_pos (Int.natCast_nonneg k)]
  by_cases h : (k : Int) < xs.length
  · rw [if_pos h]
    rfl
  · rw [if_neg h]
    rw [List.getElem?_eq_none (by omega)]
    rfl
theorem atI_pos {α : Type} {xs : List α} {k : Int} (h : 0 ≤ k) : L2.atI xs k = xs[k.toNat]? := by
  rw [← atI_nat, Int.toNat_of_nonneg h]
theorem get_app {M J : Mem} {n : Nat} {o : Ob} (h : M[n]? = some o) : (M ++ J)[n]? = some o := by
  rw [List.getElem?_append_left (List.getElem?_eq_some_iff.mp h).1]
  exact h
theorem get_new {M : Mem} {o : Ob} : (M ++ [o])[M.length]? = some o := by simp
end
/-! ### a list or a tuple -/
def Sq (M : Mem) (x : D) (ds : List D) : Prop := x = .tup ds ∨ ∃ n, x = .ref n ∧ M[n]? = some (.lst ds)
section
variable {M : Mem} {x : D} {ds : List D}
theorem sq_lst {n : Nat} (h : M[n]? = some (.lst ds)) : Sq M (.ref n) ds := .inr ⟨n, rfl, h⟩
theorem sq_tup : Sq M (.tup ds) ds := .inl rfl
theorem Sq.app (h : Sq M x ds) (J : Mem) : Sq (M ++ J) x ds := by
  rcases h with h | ⟨n, h1, h2⟩
  · exact .inl h
  · exact .inr ⟨n, h1, get_app h2⟩
theorem Sq.len (h : Sq M x ds) : oLen [x] M = some (.int ds.length, M) := by
  rcases h with rfl | ⟨n, rfl, h2⟩
  · rfl
  · exact len_lst h2
theorem Sq.list (h : Sq M x ds) : oList [x] M = some (.ref M.length, M ++ [.lst ds]) := by
  rcases h with rfl | ⟨n, rfl, h2⟩
  · rfl
  · exact list_lst h2
theorem Sq.tuple (h : Sq M x ds) : oTuple [x] M = some (.tup ds, M) := by
  rcases h with rfl | ⟨n, rfl, h2⟩
  · rfl
  · exact tuple_lst h2
theorem Sq.ix (h : Sq M x ds) {k : Int} {d : D} (e : L2.atI ds k = some d) : oIx x (.int k) M = some (d, M) := by
  rcases h with rfl | ⟨n, rfl, h2⟩
  · exact ix_tup e
  · exact ix_lst h2 e
theorem Sq.src (h : Sq M x ds) : ∃ gd, oSrc x M = some ⟨ds, gd⟩ ∧ Src.ok ⟨ds, gd⟩ M := by
  rcases h with rfl | ⟨n, rfl, h2⟩
  · exact ⟨none, rfl, trivial⟩
  · refine ⟨some (n, ds), ?_, h2⟩
    unfold oSrc
    dsimp only
    rw [h2]
theorem sl_lst {n : Nat} (h : M[n]? = some (.lst ds)) (lo hi : Option Int) : oSl (.ref n) lo hi M = some (.ref M.length, M ++ [.lst (cutD ds lo hi)]) := by
  unfold oSl
  dsimp only
  rw [h]
theorem Sq.sl (h : Sq M x ds) (lo hi : Option Int) : ∃ y J, oSl x lo hi M = some (y, M ++ J) ∧ Sq (M ++ J) y (cutD ds lo hi) := by
  rcases h with rfl | ⟨n, rfl, h2⟩
  · exact ⟨.tup (cutD ds lo hi), [], by rw [List.append_nil]; rfl, .inl rfl⟩
  · exact ⟨_, _, sl_lst h2 lo hi, sq_lst get_new⟩
theorem cut_take {α : Type} (xs : List α) (k : Nat) : cutD xs none (some (k : Int)) = xs.take k := by
  unfold cutD
  rw [HT.sIx_none, HT.sIx_nat, List.drop_zero, Nat.sub_zero]
  rcases Nat.le_total k xs.length with h | h
  · rw [Nat.min_eq_left h]
  · rw [Nat.min_eq_right h, List.take_of_length_le h, List.take_length]
theorem cut_drop {α : Type} (xs : List α) (k : Nat) : cutD xs (some (k : Int)) none = xs.drop k := by
  unfold cutD
  rw [HT.sIx_none, HT.sIx_nat]
  rcases Nat.le_total k xs.length with h | h
  · rw [Nat.min_eq_left h, List.take_of_length_le (by rw [List.length_drop]; omega)]
  · rw [Nat.min_eq_right h, Nat.sub_self, List.take_zero, List.drop_eq_nil_of_le h]
@[simp] theorem ev_sl {e : GE} {lo hi : GO} {L : Loc} : mSl e lo hi L M = bnd (e L M) fun d M1 => bnd (lo L M1) fun l M2 => bnd (hi L M2) fun h M3 => ret (oSl d l h M3) := (rfl)
@[simp] theorem ev_no {L : Loc} : mNo L M = some (.ok none M) := (rfl)
theorem ev_some {e : GE} {L : Loc} {M1 : Mem} {i : Int} (h : e L M = some (.ok (.int i) M1)) : mSome e L M = some (.ok (some i) M1) := by
  unfold mSome
  rw [h]
  rfl
theorem isi_lst_list {n : Nat} (h : M[n]? = some (.lst ds)) : oIsi "list" (.ref n) M = some (.bl true, M) := isi_of (k := "list") (by unfold kindOf; dsimp only; rw [h]) (by decide)
@[simp] theorem isi_tup_tuple : oIsi "tuple" (.tup ds) M = some (.bl true, M) := isi_of rfl (by decide)
end
/-! ### loops -/
section
variable {ok : Mem → Prop} {g : GG} {body : GS}
theorem forG_gen (Post : Fl × Mem → Prop) (I : Nat → Loc → Mem → Prop) (ds : List D) (step : ∀ (k : Nat) (L : Loc) (M : Mem) (d : D), ds[k]? = some d → I k L M → ok M ∧ ∃ L1, g d L = some L1 ∧ ∃ r, body L1 M = some r ∧ (match r with
      | (.nx L2, M2) => I (k + 1) L2 M2
      | (.ct L2, M2) => I (k + 1) L2 M2
      | (.bk L2, M2) => Post (.nx L2, M2)
      | r => Post r)) (last : ∀ L M, I ds.length L M → ok M ∧ Post (.nx L, M)) {L : Loc} {M : Mem} (h0 : I 0 L M) : ∃ r, forG ok g body ds L M = some r ∧ Post r := by
  have key : ∀ (es : List D) (k : Nat) (L : Loc) (M : Mem), (∀ j, es[j]? = ds[k + j]?) → k + es.length = ds.length → I k L M → ∃ r, forG ok g body es L M = some r ∧ Post r := by
    intro es
    induction es with
    | nil =>
      intro k L M he hk hI
      have e : k = ds.length := by simpa using hk
      subst e
      obtain ⟨h1, h2⟩ := last L M hI
      exact ⟨_, by unfold forG; exact if_pos h1, h2⟩
    | cons d es ih =>
      intro k L M he hk hI
      have hd : ds[k]? = some d := by rw [← Nat.add_zero k, ← he 0]; rfl
      obtain ⟨h1, L1, h2, r, h3, h4⟩ := step k L M d hd hI
      have next : ∀ L2 M2, I (k + 1) L2 M2 → ∃ r, forG ok g body es L2 M2 = some r ∧ Post r := fun L2 M2 i => ih (k + 1) L2 M2 (fun j => by have := he (j + 1); rw [List.getElem?_cons_succ] at this; rw [this]; congr 1; omega) (by simp at hk; omega) i
      unfold forG
      rw [if_pos h1, h2]
      dsimp only
      rw [h3]
      obtain ⟨f, M2⟩ := r
      cases f with
      | nx L2 => exact next L2 M2 h4
      | ct L2 => exact next L2 M2 h4
      | bk L2 => exact ⟨_, rfl, h4⟩
      | rt d => exact ⟨_, rfl, h4⟩
      | ex c L2 => exact ⟨_, rfl, h4⟩
  exact key ds 0 L M (fun j => by rw [Nat.zero_add]) (by simp) h0
theorem forG_run (I : Nat → Loc → Mem → Prop) (ds : List D) (step : ∀ (k : Nat) (L : Loc) (M : Mem) (d : D), ds[k]? = some d → I k L M → ok M ∧ ∃ L1, g d L = some L1 ∧ ∃ L2 M2, body L1 M = some (.nx L2, M2) ∧ I (k + 1) L2 M2) (last : ∀ L M, I ds.length L M → ok M) {L : Loc} {M : Mem} (h0 : I 0 L M) :
    ∃ L' M', forG ok g body ds L M = some (.nx L', M') ∧ I ds.length L' M' := by
  obtain ⟨r, h, L', M', rfl, i⟩ := forG_gen (ok := ok) (g := g) (body := body) (fun r => ∃ L' M', r = (.nx L', M') ∧ I ds.length L' M') I ds (fun k L M d hd i => by
    obtain ⟨h1, L1, h2, L2, M2, h3, h4⟩ := step k L M d hd i
    exact ⟨h1, L1, h2, _, h3, h4⟩) (fun L M i => ⟨last L M i, _, _, rfl, i⟩) h0
  exact ⟨L', M', h, i⟩
theorem lcG_map {tt : GT} {e : GE} {L : Loc} {M : Mem} (p : D → Bool) (f : D → D) (hok : ok M) : ∀ ds : List D, (∀ d ∈ ds, ∃ L1, g d L = some L1 ∧ tt L1 M = some (.ok (p d) M) ∧ (p d = true → e L1 M = some (.ok (f d) M))) → lcG ok g tt e L ds M = some ((ds.filter p).map f, M)
  | [], _ => by unfold lcG; exact if_pos hok
  | d :: ds, h => by
    obtain ⟨L1, h1, h2, h3⟩ := h d List.mem_cons_self
    have ih := lcG_map p f hok ds fun x hx => h x (List.mem_cons_of_mem _ hx)
    unfold lcG
    rw [if_pos hok, h1]
    dsimp only [Option.bind]
    rw [h2]
    dsimp only [okO]
    cases e : p d with
    | true =>
      rw [if_pos rfl, h3 e]
      dsimp only [okO]
      rw [ih]
      simp [List.filter_cons, e]
    | false =>
      rw [if_neg Bool.false_ne_true, ih]
      simp [List.filter_cons, e]
/-- what is walked, at hand -/
theorem for_at {it : GI} {L : Loc} {M M1 : Mem} {s : Src} (h : it L M = some (.ok s M1)) : mFor it g body L M = forG s.ok g body s.items L M1 := by
  unfold mFor
  rw [h]
  rfl
@[simp] theorem range1_int {e : GE} {L : Loc} {M M1 : Mem} {j : Int} (h : e L M = some (.ok (.int j) M1)) (hf : fits62 j) : mRange1 e L M = some (.ok ⟨rng 0 j.toNat, none⟩ M1) := by
  unfold mRange1
  rw [h]
  exact if_pos hf
theorem range2_int {a b : GE} {L : Loc} {M M1 M2 : Mem} {i j : Int} (h : a L M = some (.ok (.int i) M1)) (h2 : b L M1 = some (.ok (.int j) M2)) (hf : fits62 i ∧ fits62 j) : mRange2 a b L M = some (.ok ⟨rng i (j - i).toNat, none⟩ M2) := by
  unfold mRange2
  rw [h]
  dsimp only [bnd]
  rw [h2]
  exact if_pos hf
theorem seq_at {e : GE} {L : Loc} {M M1 : Mem} {d : D} {s : Src} (f : List D → List D) (h : e L M = some (.ok d M1)) (h2 : oSrc d M1 = some s) : mSeqI f e L M = some (.ok (s.map f) M1) := by
  unfold mSeqI
  rw [h]
  dsimp only [bnd]
  rw [h2]
@[simp] theorem src_tup {xs : List D} {M : Mem} : oSrc (.tup xs) M = some ⟨xs, none⟩ := (rfl)
@[simp] theorem src_scr {ns : List Int} {M : Mem} : oSrc (.scr ns) M = some ⟨ns.map D.int, none⟩ := (rfl)
/-- items that lay things besides -/
theorem lcG_grow {P : D → D → Prop} {e : GE} {L : Loc} : ∀ (ds : List D) (M : Mem), (∀ J, ok (M ++ J)) → (∀ d ∈ ds, ∀ J, ∃ L1, g d L = some L1 ∧ ∃ y J2, e L1 (M ++ J) = some (.ok y (M ++ J ++ J2)) ∧ P d y) →
    ∃ ys J, lcG ok g mYes e L ds M = some (ys, M ++ J) ∧ ys.length = ds.length ∧ ∀ (k : Nat) (d y : D), ds[k]? = some d → ys[k]? = some y → P d y
  | [], M, hok, _ => ⟨[], [], by
      unfold lcG
      rw [List.append_nil]
      have := hok []
      rw [List.append_nil] at this
      exact if_pos this, rfl, fun k d y h => by simp at h⟩
  | d :: ds, M, hok, h => by
    obtain ⟨L1, h1, y, J2, h2, hP⟩ := h d List.mem_cons_self []
    rw [List.append_nil] at h2
    obtain ⟨ys, J, h3, h4, h5⟩ := lcG_grow ds (M ++ J2) (fun J => by rw [List.append_assoc]; exact hok _) fun x hx J => by
      obtain ⟨L1, k1, y, J3, k2, k3⟩ := h x (List.mem_cons_of_mem _ hx) (J2 ++ J)
      rw [← List.append_assoc] at k2
      exact ⟨L1, k1, y, J3, k2, k3⟩
    refine ⟨y :: ys, J2 ++ J, ?_, by simp [h4], fun k x z hx hz => ?_⟩
    · unfold lcG
      have := hok []
      rw [List.append_nil] at this
      rw [if_pos this, h1]
      dsimp only [Option.bind]
      rw [mYes_ok]
      dsimp only [okO]
      rw [if_pos rfl, h2]
      dsimp only [okO]
      rw [h3, List.append_assoc]
    · cases k with
      | zero =>
        cases hx
        cases hz
        exact hP
      | succ k => exact h5 k x z (by simpa using hx) (by simpa using hz)
theorem rng_get {lo : Int} {n k : Nat} {d : D} (h : (rng lo n)[k]? = some d) : d = .int (lo + k) ∧ k < n := by
  unfold rng at h
  rw [List.getElem?_map] at h
  obtain ⟨j, hj, rfl⟩ := Option.map_eq_some_iff.mp h
  have hk : k < n := by
    have := (List.getElem?_eq_some_iff.mp hj).1
    simpa using this
  rw [List.getElem?_range hk] at hj
  cases hj
  exact ⟨rfl, hk⟩
@[simp] theorem rng_length {lo : Int} {n : Nat} : (rng lo n).length = n := by simp [rng]
end
theorem src_lst {n : Nat} {xs : List D} {M : Mem} (h : M[n]? = some (.lst xs)) : oSrc (.ref n) M = some ⟨xs, some (n, xs)⟩ := by
  unfold oSrc
  dsimp only
  rw [h]
theorem lc_at {g : GG} {it : GI} {tt : GT} {e : GE} {vs : List Nat} {L : Loc} {M M1 M2 : Mem} {s : Src} {ys : List D} (h : it L M = some (.ok s M1)) (h2 : lcG s.ok g tt e (wipeL L vs) s.items M1 = some (ys, M2)) (hl : ys.length < 16000000) : mLc it g tt e vs L M = some (.ok (.ref M2.length) (M2 ++ [.lst ys])) := by
  unfold mLc
  rw [h]
  dsimp only [bnd]
  rw [h2]
  dsimp only [Option.bind]
  unfold oLstBig
  rw [if_pos hl]
  rfl
theorem seq_step {a b : GS} {L L1 : Loc} {M M1 : Mem} (h : a L M = some (.nx L1, M1)) : mSeq a b L M = b L1 M1 := by
  unfold mSeq
  rw [h]
  rfl
theorem seq2 {a b c : GS} {L L1 : Loc} {M M1 : Mem} (h : mSeq a b L M = some (.nx L1, M1)) : mSeq a (mSeq b c) L M = c L1 M1 := by
  unfold mSeq at h ⊢
  cases e : a L M with
  | none => rw [e] at h; cases h
  | some r =>
    obtain ⟨f, M2⟩ := r
    rw [e] at h
    cases f with
    | nx L2 =>
      have h' : b L2 M2 = some (.nx L1, M1) := h
      show thenS (b L2 M2) c = _
      rw [h']
      rfl
    | _ => cases h
theorem seq3 {a b c d : GS} {L L1 : Loc} {M M1 : Mem} (h : mSeq a (mSeq b c) L M = some (.nx L1, M1)) : mSeq a (mSeq b (mSeq c d)) L M = d L1 M1 := by
  have e : mSeq a (mSeq b (mSeq c d)) L M = mSeq a (mSeq (mSeq b c) d) L M := by
    unfold mSeq
    congr 1
    funext L' M'
    generalize b L' M' = r
    cases r with
    | none => rfl
    | some r =>
      obtain ⟨f, M2⟩ := r
      cases f <;> rfl
  rw [e]
  exact seq2 h
theorem seq4 {a b c d e : GS} {L L1 : Loc} {M M1 : Mem} (h : mSeq a (mSeq b (mSeq c d)) L M = some (.nx L1, M1)) : mSeq a (mSeq b (mSeq c (mSeq d e))) L M = e L1 M1 := by
  have k : mSeq a (mSeq b (mSeq c (mSeq d e))) L M = mSeq a (mSeq b (mSeq (mSeq c d) e)) L M := by
    unfold mSeq
    congr 1
    funext L' M'
    congr 1
    funext L' M'
    generalize c L' M' = r
    cases r with
    | none => rfl
    | some r =>
      obtain ⟨f, M2⟩ := r
      cases f <;> rfl
  rw [k]
  exact seq3 h
theorem ok_non {xs : List D} {M : Mem} : Src.ok ⟨xs, none⟩ M := trivial
/-! ### texts -/
section
variable {M : Mem} {L : Loc}
theorem lt_one (c d : Nat) : ([c] < [d]) ↔ c < d := by
  constructor
  · intro h
    cases h with
    | rel h => exact h
    | cons h => cases h
  · exact fun h => List.Lex.rel h
@[simp] theorem le_one (c d : Nat) : oLe (.str ⟨#[c]⟩) (.str ⟨#[d]⟩) M = some (.bl (decide (c ≤ d)), M) := by
  show some (D.bl (!decide (([d] : List Nat) < [c])), M) = _
  have : decide (([d] : List Nat) < [c]) = decide (d < c) := decide_eq_decide.mpr (lt_one d c)
  rw [this]
  by_cases h : c ≤ d
  · rw [decide_eq_false (by omega), decide_eq_true h]
    rfl
  · rw [decide_eq_true (by omega), decide_eq_false h]
    rfl
theorem signs_at {e : GE} {M1 : Mem} {s : PySem.Str} (h : e L M = some (.ok (.str s) M1)) : mSigns e L M = some (.ok ⟨s.cps.toList.map fun c => .str ⟨#[c]⟩, none⟩ M1) := by
  unfold mSigns
  rw [h]
  rfl
theorem strs_one : ∀ l : List Nat, strsOf (l.map fun c => D.str ⟨#[c]⟩) = some (l.map fun c => (⟨#[c]⟩ : PySem.Str))
  | [] => rfl
  | c :: l => by
    rw [List.map_cons, strsOf, strs_one l]
    rfl
theorem joinL_one : ∀ l : List Nat, TL.joinL [] (l.map fun c => [c]) = l
  | [] => rfl
  | [c] => rfl
  | c :: d :: l => by
    show [c] ++ ([] ++ TL.joinL [] ((d :: l).map fun c => [c])) = _
    rw [joinL_one (d :: l)]
    rfl
theorem join_one (l : List Nat) : Txt.join (PySem.Str.ofString "") (l.map fun c => (⟨#[c]⟩ : PySem.Str)) = ⟨l.toArray⟩ := by
  have e : Txt.join (SX.S []) ((l.map fun c => [c]).map SX.S) = SX.S (TL.joinL [] (l.map fun c => [c])) := SX.join_S [] _
  rw [joinL_one, List.map_map] at e
  exact e
theorem join_signs {n : Nat} {l : List Nat} (h : M[n]? = some (.lst (l.map fun c => D.str ⟨#[c]⟩))) (hl : l.length ≤ 1000) : oJoin (.str (PySem.Str.ofString "")) [.ref n] M = some (.str ⟨l.toArray⟩, M) := by
  unfold oJoin
  dsimp only
  rw [h]
  dsimp only
  rw [strs_one]
  dsimp only
  rw [join_one]
  refine if_pos ?_
  have e : ((l.map fun c => (⟨#[c]⟩ : PySem.Str)).map (·.length)).sum = l.length := by
    rw [List.map_map]
    have : ∀ l : List Nat, (l.map ((·.length) ∘ fun c => (⟨#[c]⟩ : PySem.Str))).sum = l.length := by
      intro l
      induction l with
      | nil => rfl
      | cons c l ih =>
        rw [List.map_cons, List.sum_cons, ih, List.length_cons]
        show 1 + l.length = _
        omega
    exact this l
  rw [e, List.length_map]
  have : (PySem.Str.ofString "").length = 0 := by decide +kernel
  rw [this]
  omega
theorem ev_mtS {om : OpM} {a : GE} {gs : GA} : mMtS om a gs L M = bnd (a L M) fun x M1 => (match x with
  | .str _ => bnd (gs L M1) fun xs M2 => ret (om x xs M2)
  | _ => none) := (rfl)
@[simp] theorem str_len (l : List Nat) : (⟨l.toArray⟩ : PySem.Str).length = l.length := by
  show l.toArray.size = _
  simp
@[simp] theorem str_cps (l : List Nat) : (⟨l.toArray⟩ : PySem.Str).cps.toList = l := by simp
theorem str_app (l m : List Nat) : (⟨l.toArray⟩ : PySem.Str) ++ (⟨m.toArray⟩ : PySem.Str) = ⟨(l ++ m).toArray⟩ := by
  show (⟨l.toArray ++ m.toArray⟩ : PySem.Str) = _
  simp
theorem add_strs (l m : List Nat) (h : l.length + m.length < 16000000) : oAdd (.str ⟨l.toArray⟩) (.str ⟨m.toArray⟩) M = some (.str ⟨(l ++ m).toArray⟩, M) := by
  rw [add_str, str_len, str_len, if_pos h, str_app]
theorem ix_str {l : List Nat} {k : Int} {c : Nat} (h : l.length < 16000000) (e : L2.atI l k = some c) : oIx (.str ⟨l.toArray⟩) (.int k) M = some (.str ⟨#[c]⟩, M) := by
  unfold oIx
  dsimp only
  rw [str_len, if_pos h, e]
theorem sl_str {l : List Nat} (h : l.length < 16000000) (lo hi : Option Int) : oSl (.str ⟨l.toArray⟩) lo hi M = some (.str ⟨(cutD l lo hi).toArray⟩, M) := by
  unfold oSl
  dsimp only
  rw [str_len, if_pos h]
  congr 3
theorem isi_str_str {s : PySem.Str} : oIsi "str" (.str s) M = some (.bl true, M) := isi_of rfl (by decide)
theorem isi_int_str {s : PySem.Str} : oIsi "int" (.str s) M = some (.bl false, M) := isi_of rfl (by decide)
theorem isi_str_int {i : Int} : oIsi "str" (.int i) M = some (.bl false, M) := isi_of rfl (by decide)
end
/-! ### cells -/
def cell (ns : List Int) (k : Nat) : Int := ns.getD k 0
theorem cell_mod (ns : List Int) (k : Nat) (m : Int) (h : 0 < m) : 0 ≤ cell ns k % m ∧ cell ns k % m < m := ⟨Int.emod_nonneg _ (by omega), Int.emod_lt_of_pos _ h⟩
theorem cell_bits {ns : List Int} (hb : ∀ z ∈ ns, PySem.Builtin.Int.intBits z ≤ 1048576) (k : Nat) : PySem.Builtin.Int.intBits (cell ns k) ≤ 1048576 := by
  unfold cell
  rw [List.getD_eq_getElem?_getD]
  by_cases h : k < ns.length
  · rw [List.getElem?_eq_getElem h]
    exact hb _ (List.getElem_mem h)
  · rw [List.getElem?_eq_none (by omega)]
    decide
/-- the cell that a law reads -/
noncomputable abbrev gCell : Fn := mDef 2 2 (mSeq (mIte (mT (mBin oLt (mVar 1) (mCB oLen (mCons (mVar 0) mNil)))) (mRet (mBin oIx (mVar 0) (mVar 1))) mSkip) (mRet (mC (.int 0))))
theorem p_gcell (ns : List Int) (k : Nat) (M : Mem) : gCell [.scr ns, .int k] M = some (.ok (.int (cell ns k)) M) := by
  simp only [gCell, ev_def2]
  by_cases h : k < ns.length
  · have e : L2.atI ns (k : Int) = some (cell ns k) := by
      rw [atI_nat, cell, List.getD_eq_getElem?_getD, List.getElem?_eq_getElem h]
      rfl
    simp [h, ix_scr e]
  · simp [h, cell, List.getD_eq_getElem?_getD, List.getElem?_eq_none (Nat.le_of_not_lt h)]
theorem p_gcell0 (ns : List Int) (k : Int) (M : Mem) (h : 0 ≤ k) : gCell [.scr ns, .int k] M = some (.ok (.int (cell ns k.toNat)) M) := by
  obtain ⟨n, rfl⟩ := Int.eq_ofNat_of_zero_le h
  exact p_gcell ns n M
end BL
/-! BLDict: dicts, as functions. -/
namespace BL
section
variable {k j : Int} {d e : D} {kvs ka kb : List (Int × D)}
theorem aget_app : ∀ kvs : List (Int × D), aget (kvs ++ [(k, d)]) j = (aget kvs j).or (if k = j then some d else none)
  | [] => by
    show aget [(k, d)] j = _
    unfold aget
    unfold aget
    rfl
  | (i, x) :: r => by
    rw [List.cons_append]
    unfold aget
    split
    · rfl
    · exact aget_app r
theorem aget_repl : ∀ kvs : List (Int × D), aget (kvs.map fun p => if p.1 = k then (p.1, d) else p) j = if j = k then (aget kvs j).map (fun _ => d) else aget kvs j
  | [] => by
    show none = _
    unfold aget
    simp
  | (i, x) :: r => by
    rw [List.map_cons]
    have ih := aget_repl r
    by_cases h : i = k
    · rw [if_pos h]
      unfold aget
      by_cases h2 : i = j
      · rw [if_pos h2, if_pos h2, if_pos (h2 ▸ h)]
        rfl
      · rw [if_neg h2, if_neg h2, ih]
    · rw [if_neg h]
      unfold aget
      by_cases h2 : i = j
      · rw [if_pos h2, if_pos h2, if_neg (h2 ▸ h)]
      · rw [if_neg h2, if_neg h2, ih]
theorem aget_aput : aget (aput kvs k d) j = if j = k then some d else aget kvs j := by
  unfold aput ahas
  cases h : aget kvs k with
  | none =>
    rw [if_neg (by simp), aget_app]
    by_cases e : j = k
    · subst e
      rw [if_pos rfl, if_pos rfl, h]
      rfl
    · rw [if_neg e, if_neg (Ne.symm e)]
      simp
  | some x =>
    rw [if_pos (by simp), aget_repl]
    by_cases e : j = k
    · subst e
      rw [if_pos rfl, if_pos rfl, h]
      rfl
    · rw [if_neg e, if_neg e]
theorem aget_adel : ∀ kvs : List (Int × D), aget (adel kvs k) j = if j = k then none else aget kvs j
  | [] => by
    show none = _
    unfold aget
    simp
  | (i, x) :: r => by
    have ih := aget_adel r
    unfold adel at ih ⊢
    by_cases h : i = k
    · rw [List.filter_cons_of_neg (by simpa using h), ih]
      by_cases e : j = k
      · rw [if_pos e, if_pos e]
      · rw [if_neg e, if_neg e]
        conv => rhs; unfold aget
        rw [if_neg (by omega)]
    · rw [List.filter_cons_of_pos (by simpa using h)]
      unfold aget
      by_cases h2 : i = j
      · rw [if_pos h2, if_pos h2, if_neg (by omega)]
      · rw [if_neg h2, if_neg h2, ih]
/-- the keys -/
def akeys (kvs : List (Int × D)) : List Int := kvs.map (·.1)
@[simp] theorem akeys_nil : akeys [] = [] := (rfl)
@[simp] theorem akeys_len : (akeys kvs).length = kvs.length := by simp [akeys]
theorem aget_isSome : ∀ {kvs : List (Int × D)}, (aget kvs k).isSome = true ↔ k ∈ akeys kvs
  | [] => by
    unfold aget
    simp
  | (i, x) :: r => by
    have ih := aget_isSome (kvs := r)
    unfold aget
    rw [akeys, List.map_cons, List.mem_cons]
    by_cases h : i = k
    · rw [if_pos h]
      simp [h]
    · rw [if_neg h, ih]
      rw [show List.map (fun p : Int × D => p.1) r = akeys r from rfl]
      simp [Ne.symm h]
theorem aget_none : aget kvs k = none ↔ k ∉ akeys kvs := by
  rw [← aget_isSome]
  cases aget kvs k <;> simp
theorem aget_mem : ∀ {kvs : List (Int × D)}, aget kvs k = some d → (k, d) ∈ kvs
  | [], h => by cases h
  | (i, x) :: r, h => by
    unfold aget at h
    split at h
    · rename_i e
      cases h
      rw [e]
      exact List.mem_cons_self
    · exact List.mem_cons_of_mem _ (aget_mem h)
theorem mem_aget : ∀ {kvs : List (Int × D)}, (akeys kvs).Nodup → (k, d) ∈ kvs → aget kvs k = some d
  | [], _, h => by cases h
  | (i, x) :: r, nd, h => by
    rw [akeys, List.map_cons, List.nodup_cons] at nd
    unfold aget
    rcases List.mem_cons.mp h with e | h
    · cases e
      rw [if_pos rfl]
    · rw [if_neg fun e => nd.1 (by rw [e]; exact List.mem_map.mpr ⟨_, h, rfl⟩)]
      exact mem_aget nd.2 h
theorem akeys_aput : akeys (aput kvs k d) = if k ∈ akeys kvs then akeys kvs else akeys kvs ++ [k] := by
  unfold aput ahas
  by_cases h : k ∈ akeys kvs
  · rw [if_pos h, if_pos (aget_isSome.mpr h), akeys, List.map_map]
    refine List.map_congr_left fun p _ => ?_
    show (if p.1 = k then (p.1, d) else p).1 = p.1
    split <;> rfl
  · rw [if_neg h, if_neg (by rw [aget_isSome]; exact h), akeys, List.map_append]
    rfl
theorem nodup_aput (h : (akeys kvs).Nodup) : (akeys (aput kvs k d)).Nodup := by
  rw [akeys_aput]
  split
  · exact h
  · rename_i hk
    rw [List.nodup_append]
    refine ⟨h, by simp, fun a ha b hb => ?_⟩
    have : b = k := by simpa using hb
    subst this
    intro e
    subst e
    exact hk ha
theorem nodup_adel (h : (akeys kvs).Nodup) : (akeys (adel kvs k)).Nodup := (List.filter_sublist.map _).nodup h
theorem len_aput : (aput kvs k d).length ≤ kvs.length + 1 := by
  have := congrArg List.length (akeys_aput (kvs := kvs) (k := k) (d := d))
  rw [akeys_len] at this
  rw [this]
  split <;> simp
/-- alike as functions -/
theorem len_ext (ha : (akeys ka).Nodup) (hb : (akeys kb).Nodup) (h : ∀ j, aget ka j = aget kb j) : ka.length = kb.length := by
  have p : (akeys ka).Perm (akeys kb) := (List.perm_ext_iff_of_nodup ha hb).mpr fun a => by rw [← aget_isSome, ← aget_isSome, h]
  have := p.length_eq
  simpa using this
def plainD (kvs : List (Int × D)) : Prop := ∀ p ∈ kvs, Pl 50 p.2
theorem plain_aput (h : plainD kvs) (hd : Pl 50 d) : plainD (aput kvs k d) := fun p hp => by
  unfold aput at hp
  split at hp
  · obtain ⟨q, hq, rfl⟩ := List.mem_map.mp hp
    split
    · exact hd
    · exact h q hq
  · rcases List.mem_append.mp hp with hp | hp
    · exact h p hp
    · have : p = (k, d) := by simpa using hp
      rw [this]
      exact hd
theorem plain_adel (h : plainD kvs) : plainD (adel kvs k) := fun p hp => h p (List.mem_filter.mp hp).1
theorem plain_get (h : plainD kvs) (e : aget kvs k = some d) : Pl 50 d := h _ (aget_mem e)
theorem nodup_len : ∀ {xs ys : List Int}, xs.Nodup → (∀ x ∈ xs, x ∈ ys) → xs.length ≤ ys.length
  | [], ys, _, _ => Nat.zero_le _
  | x :: xs, ys, nd, h => by
    rw [List.nodup_cons] at nd
    have hx := h x List.mem_cons_self
    have h2 : xs.length ≤ (ys.erase x).length := nodup_len nd.2 fun y hy => by
      rw [List.mem_erase_of_ne fun e => nd.1 (by rw [← e]; exact hy)]
      exact h y (List.mem_cons_of_mem _ hy)
    rw [List.length_erase_of_mem hx] at h2
    have : 0 < ys.length := List.length_pos_of_mem hx
    rw [List.length_cons]
    omega
variable {M : Mem} {n m : Nat}
open Classical in
theorem eqX_ext (h1 : M[n]? = some (.dct ka)) (h2 : M[m]? = some (.dct kb)) (na : (akeys ka).Nodup) (nb : (akeys kb).Nodup) (pa : plainD ka) (pb : plainD kb) (h : ∀ j, aget ka j = aget kb j) : eqX (.ref n) (.ref m) M = some true := by
  rw [eqX_dcts h1 h2 pa pb]
  refine congrArg some (decide_eq_true ⟨len_ext na nb h, fun p hp => ?_⟩)
  rw [← h]
  exact mem_aget na hp
open Classical in
theorem eqX_iff (h1 : M[n]? = some (.dct ka)) (h2 : M[m]? = some (.dct kb)) (na : (akeys ka).Nodup) (nb : (akeys kb).Nodup) (pa : plainD ka) (pb : plainD kb) : eqX (.ref n) (.ref m) M = some (decide (∀ j, aget ka j = aget kb j)) := by
  rw [eqX_dcts h1 h2 pa pb]
  refine congrArg some (decide_eq_decide.mpr ⟨fun ⟨hl, hp⟩ j => ?_, fun h => ⟨len_ext na nb h, fun p hp => by rw [← h]; exact mem_aget na hp⟩⟩)
  cases ha : aget ka j with
  | some d => exact (hp (j, d) (aget_mem ha)).symm
  | none =>
    -- the keys of ka are among those of kb, as many
    have sub : ∀ x ∈ akeys ka, x ∈ akeys kb := fun x hx => by
      obtain ⟨q, hq, rfl⟩ := List.mem_map.mp hx
      exact aget_isSome.mp (by rw [hp q hq]; rfl)
    have all : ∀ x ∈ akeys kb, x ∈ akeys ka := by
      intro x hx
      by_cases hin : x ∈ akeys ka
      · exact hin
      · have h3 : (akeys ka).length ≤ ((akeys kb).erase x).length := nodup_len na fun y hy => by
          rw [List.mem_erase_of_ne fun e => hin (by rw [← e]; exact hy)]
          exact sub y hy
        rw [List.length_erase_of_mem hx] at h3
        have : 0 < (akeys kb).length := List.length_pos_of_mem hx
        simp only [akeys_len] at h3 this
        omega
    symm
    rw [aget_none]
    exact fun hx => aget_none.mp ha (all j hx)
/-! ### built-ins, subscripts of dicts -/
theorem dict_dct (h : M[n]? = some (.dct kvs)) : oDict [.ref n] M = some (.ref M.length, M ++ [.dct kvs]) := by
  show (match M[n]? with | some (.dct kvs) => some (D.ref M.length, M ++ [Ob.dct kvs]) | _ => none) = _
  rw [h]
theorem list_dct (h : M[n]? = some (.dct kvs)) : oList [.ref n] M = some (.ref M.length, M ++ [.lst ((akeys kvs).map .int)]) := by
  show (match M[n]? with | some (.lst ds) => some (D.ref M.length, M ++ [Ob.lst ds]) | some (.dct kvs) => some (D.ref M.length, M ++ [Ob.lst (kvs.map fun (p : Int × D) => D.int p.1)]) | _ => none) = _
  rw [h, akeys, List.map_map]
  rfl
theorem len_dct (h : M[n]? = some (.dct kvs)) : oLen [.ref n] M = some (.int kvs.length, M) := by
  show (match M[n]? with | some (.lst ds) => some (D.int ds.length, M) | some (.dct kvs) => some (.int kvs.length, M) | _ => none) = _
  rw [h]
theorem ix_dct (h : M[n]? = some (.dct kvs)) (e : aget kvs k = some d) : oIx (.ref n) (.int k) M = some (d, M) := by
  unfold oIx
  dsimp only
  rw [h]
  dsimp only
  rw [e]
theorem put_dct (h : M[n]? = some (.dct kvs)) (hl : kvs.length < 16000000) : oPutA (.ref n) (.int k) d M = some (M.set n (.dct (aput kvs k d))) := by
  unfold oPutA
  dsimp only
  rw [h]
  exact if_pos hl
theorem pop2_dct (h : M[n]? = some (.dct kvs)) : oPopD2 (.ref n) (.int k) M = some ((aget kvs k).getD .non, M.set n (.dct (adel kvs k))) := by
  unfold oPopD2
  dsimp only
  rw [h]
theorem pop1_dct (h : M[n]? = some (.dct kvs)) (e : aget kvs k = some d) : oPopD1 (.ref n) (.int k) M = some (d, M.set n (.dct (adel kvs k))) := by
  unfold oPopD1
  dsimp only
  rw [h]
  dsimp only
  rw [e]
theorem get1_dct (h : M[n]? = some (.dct kvs)) : oGet1 (.ref n) (.int k) M = some ((aget kvs k).getD .non, M) := by
  unfold oGet1
  dsimp only
  rw [h]
theorem in_dct (h : M[n]? = some (.dct kvs)) : oIn (.int k) (.ref n) M = some (.bl (aget kvs k).isSome, M) := by
  unfold oIn oInD
  dsimp only
  rw [h]
theorem notIn_dct (h : M[n]? = some (.dct kvs)) : oNotIn (.int k) (.ref n) M = some (.bl (!(aget kvs k).isSome), M) := by
  unfold oNotIn oInD
  dsimp only
  rw [h]
@[simp] theorem ev_mtD {op : Op2} {o e : GE} {L : Loc} : mMtD op o e L M = bnd (o L M) fun x M1 => (match x with
  | .ref n => (match M1[n]? with
    | some (.dct _) => bnd (e L M1) fun y M2 => ret (op x y M2)
    | _ => none)
  | _ => none) := (rfl)
theorem isi_dct_dict (h : M[n]? = some (.dct kvs)) : oIsi "dict" (.ref n) M = some (.bl true, M) := isi_of (k := "dict") (by unfold kindOf; dsimp only; rw [h]) (by decide)
/-! ### the memory's end -/
theorem set_app {M J : Mem} {o : Ob} {x : Ob} : (M ++ o :: J).set M.length x = M ++ x :: J := by
  rw [List.set_append_right _ _ (Nat.le_refl _), Nat.sub_self]
  rfl
theorem get_at {M J : Mem} {o : Ob} : (M ++ o :: J)[M.length]? = some o := by
  rw [List.getElem?_append_right (Nat.le_refl _), Nat.sub_self]
  rfl
theorem get_plus {M J : Mem} (k : Nat) : (M ++ J)[M.length + k]? = J[k]? := by
  rw [List.getElem?_append_right (by omega)]
  congr 1
  omega
theorem get_set_ne {M : Mem} {n m : Nat} {o : Ob} (h : n ≠ m) : (M.set n o)[m]? = M[m]? := by
  rw [List.getElem?_set, if_neg h]
theorem get_set_eq {M : Mem} {n : Nat} {o x : Ob} (h : M[n]? = some x) : (M.set n o)[n]? = some o := by
  rw [List.getElem?_set, if_pos rfl, if_pos (List.getElem?_eq_some_iff.mp h).1]
end
/-! ### a memory that goes on -/
structure Kp (M M' : Mem) : Prop where
  len : M.length ≤ M'.length
  at_ : ∀ j, j < M.length → M'[j]? = M[j]?
theorem Kp.refl (M : Mem) : Kp M M := ⟨Nat.le_refl _, fun _ _ => rfl⟩
theorem Kp.trans {A B C : Mem} (h : Kp A B) (k : Kp B C) : Kp A C := ⟨Nat.le_trans h.len k.len, fun j hj => by rw [k.at_ j (Nat.lt_of_lt_of_le hj h.len), h.at_ j hj]⟩
theorem Kp.app (M J : Mem) : Kp M (M ++ J) := ⟨by simp, fun j hj => List.getElem?_append_left hj⟩
theorem Kp.more {A B : Mem} (h : Kp A B) (J : Mem) : Kp A (B ++ J) := h.trans (Kp.app B J)
theorem Kp.set {A B : Mem} (h : Kp A B) {n : Nat} (hn : A.length ≤ n) (o : Ob) : Kp A (B.set n o) := ⟨by rw [List.length_set]; exact h.len, fun j hj => by rw [get_set_ne (by omega)]; exact h.at_ j hj⟩
theorem Kp.get {A B : Mem} (h : Kp A B) {n : Nat} {o : Ob} (e : A[n]? = some o) : B[n]? = some o := by
  rw [h.at_ n (List.getElem?_eq_some_iff.mp e).1]
  exact e
theorem get_lt {M : Mem} {n : Nat} {o : Ob} (h : M[n]? = some o) : n < M.length := (List.getElem?_eq_some_iff.mp h).1
end BL
/-! BPTerms: the program's functions of blocks, as the machine has them. -/
namespace BP
open PySem BL
/-! half -/
noncomputable def b_half_0 : GS := (mRet (mBin oDiv (mBin oAdd (mVar 0) (mC (.int 1))) (mC (.int 2))))
noncomputable def b_half : GS := b_half_0
noncomputable def g_half : Fn := mDef 1 1 b_half
/-! place -/
noncomputable def b_place_0 : GS := (mSet 2 (mC (.int 0)))
noncomputable def b_place_1 : GS := (mFor (mEnum (mVar 0)) (mName2 3 4) (mIte (mT (mBin oLe (mBin oIx (mVar 4) (mC (.int 0))) (mVar 1))) (mSet 2 (mVar 3)) mSkip))
noncomputable def b_place_2 : GS := (mRet (mVar 2))
noncomputable def b_place : GS := (mSeq b_place_0 (mSeq b_place_1 b_place_2))
noncomputable def g_place : Fn := mDef 2 5 b_place
/-! parts -/
noncomputable def b_parts_0 : GS := (mIte (mT (mBin oLe (mCB oLen (mCons (mVar 0) mNil)) (mVar 1))) (mRet (mLst (mCons (mCB oTuple (mCons (mVar 0) mNil)) mNil))) mSkip)
noncomputable def b_parts_1 : GS := (mSet 2 (mBin oDiv (mCB oLen (mCons (mVar 0) mNil)) (mC (.int 2))))
noncomputable def b_parts_2 : GS := (mRet (mLst (mCons (mCB oTuple (mCons (mSl (mVar 0) mNo (mSome (mVar 2))) mNil)) (mCons (mCB oTuple (mCons (mSl (mVar 0) (mSome (mVar 2)) mNo) mNil)) mNil))))
noncomputable def b_parts : GS := (mSeq b_parts_0 (mSeq b_parts_1 b_parts_2))
noncomputable def g_parts : Fn := mDef 2 3 b_parts
end BP
namespace BP
open PySem BL
/-! is_whole -/
noncomputable def b_is_whole_0 : GS := (mRet (mAndV (mUn (oIsi "int") (mVar 0)) (mNotV (mUn (oIsi "bool") (mVar 0)))))
noncomputable def b_is_whole : GS := b_is_whole_0
noncomputable def g_is_whole : Fn := mDef 1 1 b_is_whole
/-! is_key -/
noncomputable def b_is_key_0 : GS := (mRet (mAndV (mCall g_is_whole (mCons (mVar 0) mNil)) (mChain oLt oLt (mUn oNeg (mC (.int 1000000000000000000000000000000000000000000000000000000000000))) (mVar 0) (mC (.int 1000000000000000000000000000000000000000000000000000000000000)))))
noncomputable def b_is_key : GS := b_is_key_0
noncomputable def g_is_key : Fn := mDef 1 1 b_is_key
/-! is_value -/
noncomputable def b_is_value_0 : GS := (mIte (mOr (mNot (mT (mUn (oIsi "str") (mVar 0)))) (mT (mBin oGt (mCB oLen (mCons (mVar 0) mNil)) (mC (.int 60))))) (mRet (mC (.bl false))) mSkip)
noncomputable def b_is_value_1 : GS := (mFor (mSigns (mVar 0)) (mName 1) (mIte (mNot (mT (mChain oLe oLe (mC (.str " ")) (mVar 1) (mC (.str "~"))))) (mRet (mC (.bl false))) mSkip))
noncomputable def b_is_value_2 : GS := (mRet (mC (.bl true)))
noncomputable def b_is_value : GS := (mSeq b_is_value_0 (mSeq b_is_value_1 b_is_value_2))
noncomputable def g_is_value : Fn := mDef 1 2 b_is_value
/-! is_pair -/
noncomputable def b_is_pair_0 : GS := (mIte (mOr (mNot (mT (mUn (oIsi "tuple") (mVar 0)))) (mOr (mT (mBin oNe (mCB oLen (mCons (mVar 0) mNil)) (mC (.int 2)))) (mNot (mT (mCall g_is_key (mCons (mBin oIx (mVar 0) (mC (.int 0))) mNil)))))) (mRet (mC (.bl false))) mSkip)
noncomputable def b_is_pair_1 : GS := (mIte (mT (mBin oEq (mVar 1) (mC (.str "leaf")))) (mRet (mCall g_is_value (mCons (mBin oIx (mVar 0) (mC (.int 1))) mNil))) mSkip)
noncomputable def b_is_pair_2 : GS := (mRet (mAndV (mCall g_is_whole (mCons (mBin oIx (mVar 0) (mC (.int 1))) mNil)) (mBin oGt (mBin oIx (mVar 0) (mC (.int 1))) (mC (.int 0)))))
noncomputable def b_is_pair : GS := (mSeq b_is_pair_0 (mSeq b_is_pair_1 b_is_pair_2))
noncomputable def g_is_pair : Fn := mDef 2 2 b_is_pair
/-! is_block -/
noncomputable def b_is_block_0 : GS := (mIte (mOr (mNot (mT (mUn (oIsi "tuple") (mVar 0)))) (mOr (mT (mBin oNe (mCB oLen (mCons (mVar 0) mNil)) (mC (.int 2)))) (mNot (mT (mUn (oIsi "tuple") (mBin oIx (mVar 0) (mC (.int 1)))))))) (mRet (mC (.bl false))) mSkip)
noncomputable def b_is_block_1 : GS := (mIte (mAnd (mT (mBin oNe (mBin oIx (mVar 0) (mC (.int 0))) (mC (.str "leaf")))) (mT (mBin oNe (mBin oIx (mVar 0) (mC (.int 0))) (mC (.str "branch"))))) (mRet (mC (.bl false))) mSkip)
noncomputable def b_is_block_2 : GS := (mIte (mNot (mT (mChain oLe oLe (mVar 1) (mCB oLen (mCons (mBin oIx (mVar 0) (mC (.int 1))) mNil)) (mVar 2)))) (mRet (mC (.bl false))) mSkip)
noncomputable def b_is_block_3 : GS := (mFor (mEnum (mBin oIx (mVar 0) (mC (.int 1)))) (mName2 3 4) (mIte (mOr (mNot (mT (mCall g_is_pair (mCons (mVar 4) (mCons (mBin oIx (mVar 0) (mC (.int 0))) mNil))))) (mAnd (mT (mBin oGt (mVar 3) (mC (.int 0)))) (mT (mBin oLe (mBin oIx (mVar 4) (mC (.int 0))) (mBin oIx (mBin oIx (mBin oIx (mVar 0) (mC (.int 1))) (mBin oSub (mVar 3) (mC (.int 1)))) (mC (.int 0))))))) (mRet (mC (.bl false))) mSkip))
noncomputable def b_is_block_4 : GS := (mRet (mC (.bl true)))
noncomputable def b_is_block : GS := (mSeq b_is_block_0 (mSeq b_is_block_1 (mSeq b_is_block_2 (mSeq b_is_block_3 b_is_block_4))))
noncomputable def g_is_block : Fn := mDef 3 5 b_is_block
end BP
/-! BLBlock: what is a key, a value, a pair, a block. -/
namespace BP
open BL
open PySem (Str)
abbrev T (l : List Nat) : D := .str ⟨l.toArray⟩
theorem t_of (s : Str) : (D.str s) = T s.cps.toList := by simp
/-- a datum whose kind is known -/
def Kn (M : Mem) (d : D) : Prop := ∃ k, kindOf M d = some k ∧ (k = "NoneType" ∨ k = "bool" ∨ k = "int" ∨ k = "str" ∨ k = "tuple" ∨ k = "list" ∨ k = "dict")
variable {M : Mem}
theorem kn_non : Kn M .non := ⟨_, rfl, by simp⟩
theorem kn_bl {b : Bool} : Kn M (.bl b) := ⟨_, rfl, by simp⟩
theorem kn_int {i : Int} : Kn M (.int i) := ⟨_, rfl, by simp⟩
theorem kn_str {s : Str} : Kn M (.str s) := ⟨_, rfl, by simp⟩
theorem kn_tup {xs : List D} : Kn M (.tup xs) := ⟨_, rfl, by simp⟩
theorem kn_lst {n : Nat} {xs : List D} (h : M[n]? = some (.lst xs)) : Kn M (.ref n) := ⟨"list", by unfold kindOf; dsimp only; rw [h], by simp⟩
theorem kn_dct {n : Nat} {xs : List (Int × D)} (h : M[n]? = some (.dct xs)) : Kn M (.ref n) := ⟨"dict", by unfold kindOf; dsimp only; rw [h], by simp⟩
def isInt : D → Bool
  | .int _ => true
  | .bl _ => true
  | _ => false
def isBl : D → Bool
  | .bl _ => true
  | _ => false
def isStr : D → Bool
  | .str _ => true
  | _ => false
def isTup : D → Bool
  | .tup _ => true
  | _ => false
theorem kn_isi {d : D} (h : Kn M d) : oIsi "int" d M = some (.bl (isInt d), M) ∧ oIsi "bool" d M = some (.bl (isBl d), M) ∧ oIsi "str" d M = some (.bl (isStr d), M) ∧ oIsi "tuple" d M = some (.bl (isTup d), M) := by
  cases d with
  | non => exact ⟨isi_of rfl (by first | exact (show L2.kitB _ _ = some true by decide) | exact (show L2.kitB _ _ = some false by decide)), isi_of rfl (by first | exact (show L2.kitB _ _ = some true by decide) | exact (show L2.kitB _ _ = some false by decide)), isi_of rfl (by first | exact (show L2.kitB _ _ = some true by decide) | exact (show L2.kitB _ _ = some false by decide)), isi_of rfl (by first | exact (show L2.kitB _ _ = some true by decide) | exact (show L2.kitB _ _ = some false by decide))⟩
  | bl b => exact ⟨isi_of rfl (by first | exact (show L2.kitB _ _ = some true by decide) | exact (show L2.kitB _ _ = some false by decide)), isi_of rfl (by first | exact (show L2.kitB _ _ = some true by decide) | exact (show L2.kitB _ _ = some false by decide)), isi_of rfl (by first | exact (show L2.kitB _ _ = some true by decide) | exact (show L2.kitB _ _ = some false by decide)), isi_of rfl (by first | exact (show L2.kitB _ _ = some true by decide) | exact (show L2.kitB _ _ = some false by decide))⟩
  | int i => exact ⟨isi_of rfl (by first | exact (show L2.kitB _ _ = some true by decide) | exact (show L2.kitB _ _ = some false by decide)), isi_of rfl (by first | exact (show L2.kitB _ _ = some true by decide) | exact (show L2.kitB _ _ = some false by decide)), isi_of rfl (by first | exact (show L2.kitB _ _ = some true by decide) | exact (show L2.kitB _ _ = some false by decide)), isi_of rfl (by first | exact (show L2.kitB _ _ = some true by decide) | exact (show L2.kitB _ _ = some false by decide))⟩
  | str s => exact ⟨isi_of rfl (by first | exact (show L2.kitB _ _ = some true by decide) | exact (show L2.kitB _ _ = some false by decide)), isi_of rfl (by first | exact (show L2.kitB _ _ = some true by decide) | exact (show L2.kitB _ _ = some false by decide)), isi_of rfl (by first | exact (show L2.kitB _ _ = some true by decide) | exact (show L2.kitB _ _ = some false by decide)), isi_of rfl (by first | exact (show L2.kitB _ _ = some true by decide) | exact (show L2.kitB _ _ = some false by decide))⟩
  | tup xs => exact ⟨isi_of rfl (by first | exact (show L2.kitB _ _ = some true by decide) | exact (show L2.kitB _ _ = some false by decide)), isi_of rfl (by first | exact (show L2.kitB _ _ = some true by decide) | exact (show L2.kitB _ _ = some false by decide)), isi_of rfl (by first | exact (show L2.kitB _ _ = some true by decide) | exact (show L2.kitB _ _ = some false by decide)), isi_of rfl (by first | exact (show L2.kitB _ _ = some true by decide) | exact (show L2.kitB _ _ = some false by decide))⟩
  | scr ns => exact ⟨isi_of rfl (by first | exact (show L2.kitB _ _ = some true by decide) | exact (show L2.kitB _ _ = some false by decide)), isi_of rfl (by first | exact (show L2.kitB _ _ = some true by decide) | exact (show L2.kitB _ _ = some false by decide)), isi_of rfl (by first | exact (show L2.kitB _ _ = some true by decide) | exact (show L2.kitB _ _ = some false by decide)), isi_of rfl (by first | exact (show L2.kitB _ _ = some true by decide) | exact (show L2.kitB _ _ = some false by decide))⟩
  | ref n =>
    obtain ⟨k, h1, h2⟩ := h
    have h3 : k = "list" ∨ k = "dict" := by
      unfold kindOf at h1
      dsimp only at h1
      split at h1
      · exact .inl (Option.some.inj h1).symm
      · exact .inr (Option.some.inj h1).symm
      · cases h1
    rcases h3 with rfl | rfl
    · exact ⟨isi_of h1 (by first | exact (show L2.kitB _ _ = some true by decide) | exact (show L2.kitB _ _ = some false by decide)), isi_of h1 (by first | exact (show L2.kitB _ _ = some true by decide) | exact (show L2.kitB _ _ = some false by decide)), isi_of h1 (by first | exact (show L2.kitB _ _ = some true by decide) | exact (show L2.kitB _ _ = some false by decide)), isi_of h1 (by first | exact (show L2.kitB _ _ = some true by decide) | exact (show L2.kitB _ _ = some false by decide))⟩
    · exact ⟨isi_of h1 (by first | exact (show L2.kitB _ _ = some true by decide) | exact (show L2.kitB _ _ = some false by decide)), isi_of h1 (by first | exact (show L2.kitB _ _ = some true by decide) | exact (show L2.kitB _ _ = some false by decide)), isi_of h1 (by first | exact (show L2.kitB _ _ = some true by decide) | exact (show L2.kitB _ _ = some false by decide)), isi_of h1 (by first | exact (show L2.kitB _ _ = some true by decide) | exact (show L2.kitB _ _ = some false by decide))⟩
/-! ### keys, values -/
def wholeB : D → Bool
  | .int _ => true
  | _ => false
def keyB : D → Bool
  | .int k => decide (-(10 ^ 60) < k) && decide (k < 10 ^ 60)
  | _ => false
abbrev goodS (l : List Nat) : Prop := l.length ≤ 60 ∧ ∀ c ∈ l, 32 ≤ c ∧ c ≤ 126
def valB : D → Bool
  | .str s => decide (goodS s.cps.toList)
  | _ => false
theorem p_whole {d : D} (h : Kn M d) : g_is_whole [d] M = some (.ok (.bl (wholeB d)) M) := by
  obtain ⟨h1, h2, _, _⟩ := kn_isi h
  cases d <;> simp [g_is_whole, b_is_whole, b_is_whole_0, h1, h2, isInt, isBl, wholeB]
theorem p_key {d : D} (h : Kn M d) : g_is_key [d] M = some (.ok (.bl (keyB d)) M) := by
  have hw := p_whole h
  cases d with
  | int k =>
    by_cases h1 : -1000000000000000000000000000000000000000000000000000000000000 < k
    · simp [g_is_key, b_is_key, b_is_key_0, hw, wholeB, h1, keyB]
    · simp [g_is_key, b_is_key, b_is_key_0, hw, wholeB, h1, keyB]
  | _ => simp [g_is_key, b_is_key, b_is_key_0, hw, wholeB, keyB]
theorem sp : Str.ofString " " = ⟨#[32]⟩ := by decide +kernel
theorem ti : Str.ofString "~" = ⟨#[126]⟩ := by decide +kernel
theorem p_valueS (l : List Nat) (hl : l.length < 16000000) : g_is_value [T l] M = some (.ok (.bl (decide (goodS l))) M) := by
  simp only [g_is_value, b_is_value, b_is_value_0, b_is_value_1, b_is_value_2, ev_def1]
  by_cases h60 : l.length ≤ 60
  · obtain ⟨r, e, hr⟩ := forG_gen (ok := Src.ok ⟨l.map fun c => .str ⟨#[c]⟩, none⟩) (g := mName 1) (body := mIte (mNot (mT (mChain oLe oLe (mC (.str " ")) (mVar 1) (mC (.str "~"))))) (mRet (mC (.bl false))) mSkip)
      (fun r => (∃ L, r = (.nx L, M) ∧ ∀ c ∈ l, 32 ≤ c ∧ c ≤ 126) ∨ (r = (.rt (.bl false), M) ∧ ¬ ∀ c ∈ l, 32 ≤ c ∧ c ≤ 126))
      (fun k L M' => M' = M ∧ (∃ y, L = [some (T l), y]) ∧ ∀ c ∈ l.take k, 32 ≤ c ∧ c ≤ 126) (l.map fun c => .str ⟨#[c]⟩)
      (fun k L M' d hd ⟨hM, ⟨y, hL⟩, hg⟩ => by
        subst hL hM
        rw [List.getElem?_map] at hd
        obtain ⟨c, hc, rfl⟩ := Option.map_eq_some_iff.mp hd
        refine ⟨ok_non, _, rfl, ?_⟩
        have hk := (List.getElem?_eq_some_iff.mp hc).1
        have hck := (List.getElem?_eq_some_iff.mp hc).2
        by_cases h1 : 32 ≤ c
        · by_cases h2 : c ≤ 126
          · refine ⟨(.nx [some (T l), some (.str ⟨#[c]⟩)], M'), by simp [sp, ti, h1, h2], rfl, ⟨_, rfl⟩, fun x hx => ?_⟩
            rw [List.take_succ_eq_append_getElem hk, hck] at hx
            rcases List.mem_append.mp hx with hx | hx
            · exact hg x hx
            · have : x = c := by simpa using hx
              subst this
              exact ⟨h1, h2⟩
          · exact ⟨(.rt (.bl false), M'), by simp [sp, ti, h1, h2], .inr ⟨rfl, fun z => h2 (z c (List.mem_of_getElem? hc)).2⟩⟩
        · exact ⟨(.rt (.bl false), M'), by simp [sp, ti, h1], .inr ⟨rfl, fun z => h1 (z c (List.mem_of_getElem? hc)).1⟩⟩)
      (fun L M' ⟨hM, ⟨y, hL⟩, hg⟩ => by
        subst hL hM
        rw [List.length_map, List.take_length] at hg
        exact ⟨ok_non, .inl ⟨_, rfl, hg⟩⟩) (L := [some (T l), none]) (M := M) ⟨rfl, ⟨_, rfl⟩, by simp⟩
    have hs : mSigns (mVar 0) [some (T l), none] M = some (.ok ⟨l.map fun c => .str ⟨#[c]⟩, none⟩ M) := signs_at (s := ⟨l.toArray⟩) (by simp)
    have h61 : ¬ (60 : Int) < (l.length : Int) := by omega
    simp [hl, h60, h61, isi_str_str]
    rw [for_at hs]
    dsimp only
    rw [e]
    rcases hr with ⟨L, rfl, h⟩ | ⟨rfl, h⟩
    · have : decide (∀ c ∈ l, 32 ≤ c ∧ c ≤ 126) = true := decide_eq_true h
      simp [this]
    · have : decide (∀ c ∈ l, 32 ≤ c ∧ c ≤ 126) = false := decide_eq_false h
      simp [this]
  · have h61 : (60 : Int) < (l.length : Int) := by omega
    simp [hl, h60, h61, isi_str_str]
/-- a text that is not too long -/
def shortD : D → Prop
  | .str s => s.length < 16000000
  | _ => True
theorem p_value {d : D} (h : Kn M d) (hs : shortD d) : g_is_value [d] M = some (.ok (.bl (valB d)) M) := by
  cases d with
  | str s =>
    rw [t_of s]
    exact p_valueS s.cps.toList (by simpa [shortD, Str.length] using hs)
  | _ => simp [g_is_value, b_is_value, b_is_value_0, (kn_isi h).2.2.1, isStr, valB]
/-! ### pairs -/
def leafS : Str := "leaf"
def branchS : Str := "branch"
def posB : D → Bool
  | .int k => decide (0 < k)
  | _ => false
def pairB (leaf : Bool) : D → Bool
  | .tup [a, b] => keyB a && (if leaf = true then valB b else posB b)
  | _ => false
/-- what may be looked at -/
def SeenP (M : Mem) (d : D) : Prop := Kn M d ∧ ∀ a b, d = .tup [a, b] → Kn M a ∧ Kn M b ∧ shortD b
theorem ix0 {d : D} {ds : List D} : oIx (.tup (d :: ds)) (.int 0) M = some (d, M) := ix_tup (by rw [show (0 : Int) = ((0 : Nat) : Int) from rfl, atI_nat]; rfl)
theorem ix1 {d e : D} {ds : List D} : oIx (.tup (d :: e :: ds)) (.int 1) M = some (e, M) := ix_tup (by rw [show (1 : Int) = ((1 : Nat) : Int) from rfl, atI_nat]; rfl)
theorem ix2 {d e f : D} {ds : List D} : oIx (.tup (d :: e :: f :: ds)) (.int 2) M = some (f, M) := ix_tup (by rw [show (2 : Int) = ((2 : Nat) : Int) from rfl, atI_nat]; rfl)
theorem kind_leaf {leaf : Bool} : oEq (.str (if leaf = true then leafS else branchS)) (.str "leaf") M = some (.bl leaf, M) := by
  cases leaf with
  | true => exact oEq_strs (by decide +kernel) (by decide +kernel) (by decide +kernel)
  | false => exact oEq_strs (by decide +kernel) (by decide +kernel) (by decide +kernel)
theorem p_pair {d : D} (leaf : Bool) (h : SeenP M d) : g_is_pair [d, .str (if leaf = true then leafS else branchS)] M = some (.ok (.bl (pairB leaf d)) M) := by
  obtain ⟨hk, hp⟩ := h
  have ht := (kn_isi hk).2.2.2
  have hl := kind_leaf (M := M) (leaf := leaf)
  cases d with
  | tup xs =>
    match xs, hp with
    | [], _ => simp [g_is_pair, b_is_pair, b_is_pair_0, ht, isTup, pairB]
    | [a], _ => simp [g_is_pair, b_is_pair, b_is_pair_0, ht, isTup, pairB]
    | a :: b :: c :: r, _ =>
      have : ¬ ((r.length : Int) + 1 + 1 + 1 = 2) := by omega
      simp [g_is_pair, b_is_pair, b_is_pair_0, ht, isTup, pairB, this]
    | [a, b], hp =>
      obtain ⟨ha, hb, hs⟩ := hp a b rfl
      have k1 := p_key ha
      have k2 := p_value hb hs
      have k3 := p_whole hb
      cases hka : keyB a with
      | false => simp [g_is_pair, b_is_pair, b_is_pair_0, ht, isTup, pairB, ix0, k1, hka]
      | true =>
        cases leaf with
        | true =>
          simp only [if_true] at hl ⊢
          simp [g_is_pair, b_is_pair, b_is_pair_0, b_is_pair_1, b_is_pair_2, ht, isTup, pairB, ix0, ix1, k1, hka, hl, k2]
        | false =>
          simp only [Bool.false_eq_true, if_false] at hl ⊢
          cases b with
          | int n => simp [g_is_pair, b_is_pair, b_is_pair_0, b_is_pair_1, b_is_pair_2, ht, isTup, pairB, ix0, ix1, k1, hka, hl, k3, wholeB, posB]
          | _ => simp [g_is_pair, b_is_pair, b_is_pair_0, b_is_pair_1, b_is_pair_2, ht, isTup, pairB, ix0, ix1, k1, hka, hl, k3, wholeB, posB]
  | _ => simp [g_is_pair, b_is_pair, b_is_pair_0, ht, isTup, pairB]
/-! ### blocks -/
/-- the key of a pair -/
def keyOf : D → Int
  | .tup (.int k :: _) => k
  | _ => 0
theorem keyB_int {a : D} (h : keyB a = true) : ∃ k, a = .int k := by
  cases a <;> first
    | exact ⟨_, rfl⟩
    | cases h
theorem pair_of {leaf : Bool} {d : D} (h : pairB leaf d = true) : ∃ k b, d = .tup [.int k, b] := by
  unfold pairB at h
  split at h
  · rename_i a b
    rw [Bool.and_eq_true] at h
    obtain ⟨k, rfl⟩ := keyB_int h.1
    exact ⟨k, b, rfl⟩
  · cases h
/-- good pairs, rising -/
def rowB (leaf : Bool) : List D → Bool
  | [] => true
  | [d] => pairB leaf d
  | d :: e :: r => pairB leaf d && (decide (keyOf d < keyOf e) && rowB leaf (e :: r))
/-- the same by places -/
theorem rowB_iff (leaf : Bool) : ∀ ds : List D, rowB leaf ds = true ↔ (∀ d ∈ ds, pairB leaf d = true) ∧ ∀ (k : Nat) (d e : D), ds[k]? = some d → ds[k + 1]? = some e → keyOf d < keyOf e
  | [] => by simp [rowB]
  | [d] => by simp [rowB]
  | d :: e :: r => by
    have ih := rowB_iff leaf (e :: r)
    rw [rowB, Bool.and_eq_true, Bool.and_eq_true, ih, decide_eq_true_eq]
    constructor
    · rintro ⟨h1, h2, h3, h4⟩
      refine ⟨fun x hx => ?_, fun k a b ha hb => ?_⟩
      · rcases List.mem_cons.mp hx with rfl | hx
        · exact h1
        · exact h3 x hx
      · cases k with
        | zero =>
          cases ha
          cases hb
          exact h2
        | succ k => exact h4 k a b (by simpa using ha) (by simpa using hb)
    · rintro ⟨h1, h2⟩
      exact ⟨h1 d List.mem_cons_self, h2 0 d e rfl rfl, fun x hx => h1 x (List.mem_cons_of_mem _ hx), fun k a b ha hb => h2 (k + 1) a b (by simpa using ha) (by simpa using hb)⟩
def blockB (d : D) (least most : Int) : Bool := match d with
  | .tup [.str kind, .tup ds] => (decide (kind = leafS) || decide (kind = branchS)) && (decide (least ≤ ds.length) && (decide (ds.length ≤ most) && rowB (decide (kind = leafS)) ds))
  | _ => false
def eqS (a : D) (s : Str) : Bool := match a with
  | .str t => decide (t = s)
  | _ => false
def SeenB (M : Mem) (d : D) : Prop := Kn M d ∧ ∀ a b, d = .tup [a, b] → Kn M b ∧ (∀ s, s = leafS ∨ s = branchS → oNe a (.str s) M = some (.bl (!eqS a s), M)) ∧ ∀ ds, b = .tup ds → ∀ x ∈ ds, SeenP M x
theorem ne_pl {a : D} (h : Pl 50 a) (s : Str) (hs : s = leafS ∨ s = branchS) : oNe a (.str s) M = some (.bl (!eqS a s), M) := by
  have hp : Pl 50 (.str s) := pl_str (by rcases hs with rfl | rfl <;> decide +kernel)
  by_cases e : a = .str s
  · rw [e, oNe_same hp]
    simp [eqS]
  · rw [oNe_diff h hp e]
    have : eqS a s = false := by
      unfold eqS
      split
      · rename_i t
        exact decide_eq_false fun z => e (by rw [z])
      · rfl
    rw [this]
    rfl
theorem p_rows {a l m : D} {leaf : Bool} {ds : List D} (hs : ∀ x ∈ ds, SeenP M x) (hl : ds.length < 1000000) :
    ∃ r, mFor (mEnum (mBin oIx (mVar 0) (mC (.int 1)))) (mName2 3 4) (mIte (mOr (mNot (mT (mCall g_is_pair (mCons (mVar 4) (mCons (mBin oIx (mVar 0) (mC (.int 0))) mNil))))) (mAnd (mT (mBin oGt (mVar 3) (mC (.int 0)))) (mT (mBin oLe (mBin oIx (mVar 4) (mC (.int 0))) (mBin oIx (mBin oIx (mBin oIx (mVar 0) (mC (.int 1))) (mBin oSub (mVar 3) (mC (.int 1)))) (mC (.int 0))))))) (mRet (mC (.bl false))) mSkip) [some (.tup [.str (if leaf = true then leafS else branchS), .tup ds]), some l, some m, none, none] M = some r ∧ ((rowB leaf ds = true ∧ ∃ L, r = (.nx L, M)) ∨ (rowB leaf ds = false ∧ r = (.rt (.bl false), M))) := by
  generalize hk : Str.mk (if leaf = true then leafS else branchS).cps = kind
  have hk' : (if leaf = true then leafS else branchS) = kind := by rw [← hk]
  rw [hk']
  have hi : mEnum (mBin oIx (mVar 0) (mC (.int 1))) [some (.tup [.str kind, .tup ds]), some l, some m, none, none] M = some (.ok (Src.map (pairUp 0) ⟨ds, none⟩) M) := seq_at _ (by simp [ix1]) src_tup
  rw [for_at hi]
  obtain ⟨r, e, hr⟩ := forG_gen (ok := Src.ok (Src.map (pairUp 0) ⟨ds, none⟩)) (g := mName2 3 4) (body := mIte (mOr (mNot (mT (mCall g_is_pair (mCons (mVar 4) (mCons (mBin oIx (mVar 0) (mC (.int 0))) mNil))))) (mAnd (mT (mBin oGt (mVar 3) (mC (.int 0)))) (mT (mBin oLe (mBin oIx (mVar 4) (mC (.int 0))) (mBin oIx (mBin oIx (mBin oIx (mVar 0) (mC (.int 1))) (mBin oSub (mVar 3) (mC (.int 1)))) (mC (.int 0))))))) (mRet (mC (.bl false))) mSkip)
    (fun r => (rowB leaf ds = true ∧ ∃ L, r = (.nx L, M)) ∨ (rowB leaf ds = false ∧ r = (.rt (.bl false), M)))
    (fun k L M' => M' = M ∧ (∃ y z, L = [some (.tup [.str kind, .tup ds]), some l, some m, y, z]) ∧ rowB leaf (ds.take k) = true) (pairUp 0 ds)
    (fun k L M' d hd ⟨hM, ⟨y, z, hL⟩, hrow⟩ => by
      subst hL hM
      rw [pairUp_get] at hd
      obtain ⟨x, hx, rfl⟩ := Option.map_eq_some_iff.mp hd
      have hkl := (List.getElem?_eq_some_iff.mp hx).1
      have hkx := (List.getElem?_eq_some_iff.mp hx).2
      have hxm := List.mem_of_getElem? hx
      refine ⟨ok_non, _, ev_name2, ?_⟩
      have hpx := p_pair leaf (hs x hxm)
      rw [hk'] at hpx
      cases hb : pairB leaf x with
      | false =>
        refine ⟨(.rt (.bl false), M'), by simp [ix0, hpx, hb], .inr ⟨?_, rfl⟩⟩
        cases hr : rowB leaf ds with
        | false => rfl
        | true =>
          have := ((rowB_iff leaf ds).mp hr).1 x hxm
          rw [hb] at this
          cases this
      | true =>
        obtain ⟨q, w, rfl⟩ := pair_of hb
        have take1 : ∀ j, (ds.take (k + 1))[j]? = if j < k + 1 then ds[j]? else none := fun j => List.getElem?_take ..
        have take0 : ∀ j, (ds.take k)[j]? = if j < k then ds[j]? else none := fun j => List.getElem?_take ..
        cases k with
        | zero =>
          refine ⟨(.nx [some (.tup [.str kind, .tup ds]), some l, some m, some (.int 0), some (.tup [.int q, w])], M'), by simp [ix0, hpx, hb], rfl, ⟨_, _, rfl⟩, ?_⟩
          rw [rowB_iff]
          refine ⟨fun d hd => ?_, fun j d e h1 h2 => ?_⟩
          · rw [List.take_succ_eq_append_getElem hkl, hkx] at hd
            have : d = .tup [.int q, w] := by simpa using hd
            rw [this]
            exact hb
          · rw [take1, if_neg (by omega)] at h2
            cases h2
        | succ j =>
          have hj : j < ds.length := by omega
          have hxj : ds[j]? = some ds[j] := List.getElem?_eq_getElem hj
          have hbj : pairB leaf ds[j] = true := ((rowB_iff leaf _).mp hrow).1 _ (List.mem_of_getElem? (show (ds.take (j + 1))[j]? = some ds[j] by rw [take0, if_pos (by omega)]; exact hxj))
          obtain ⟨p, v, hpv⟩ := pair_of hbj
          have g1 : oIx (.tup ds) (.int (j : Int)) M' = some (.tup [.int p, v], M') := ix_tup (by rw [atI_nat, hxj, hpv])
          have e1 : ((j : Int) + 1 - 1) = (j : Int) := by omega
          have e2 : (0 : Int) < (j : Int) + 1 := by omega
          by_cases hle : q ≤ p
          · refine ⟨(.rt (.bl false), M'), by simp [ix0, ix1, hpx, hb, e1, e2, g1, hle], .inr ⟨?_, rfl⟩⟩
            cases hr : rowB leaf ds with
            | false => rfl
            | true =>
              have := ((rowB_iff leaf ds).mp hr).2 j _ _ hxj hx
              rw [hpv] at this
              simp only [keyOf] at this
              omega
          · refine ⟨(.nx [some (.tup [.str kind, .tup ds]), some l, some m, some (.int (((0 + (j + 1) : Nat)) : Int)), some (.tup [.int q, w])], M'), by simp [ix0, ix1, hpx, hb, e1, e2, g1, hle], rfl, ⟨_, _, rfl⟩, ?_⟩
            rw [rowB_iff]
            refine ⟨fun d hd => ?_, fun i d e h1 h2 => ?_⟩
            · rw [List.take_succ_eq_append_getElem hkl, hkx] at hd
              rcases List.mem_append.mp hd with hd | hd
              · exact ((rowB_iff leaf _).mp hrow).1 d hd
              · have : d = .tup [.int q, w] := by simpa using hd
                rw [this]
                exact hb
            · rw [take1] at h1 h2
              by_cases hi1 : i + 1 < j + 1
              · rw [if_pos (by omega)] at h1 h2
                exact ((rowB_iff leaf _).mp hrow).2 i d e (by rw [take0, if_pos (by omega)]; exact h1) (by rw [take0, if_pos hi1]; exact h2)
              · by_cases hi2 : i + 1 < j + 1 + 1
                · have : i = j := by omega
                  subst this
                  rw [if_pos (by omega)] at h1 h2
                  rw [hxj, hpv] at h1
                  rw [hx] at h2
                  cases h1
                  cases h2
                  simp only [keyOf]
                  omega
                · rw [if_neg (by omega)] at h2
                  cases h2)
    (fun L M' ⟨hM, ⟨y, z, hL⟩, hrow⟩ => by
      subst hL hM
      rw [pairUp_length, List.take_length] at hrow
      exact ⟨ok_non, .inl ⟨hrow, _, rfl⟩⟩) (L := [some (.tup [.str kind, .tup ds]), some l, some m, none, none]) (M := M) ⟨rfl, ⟨_, _, rfl⟩, by simp [rowB]⟩
  exact ⟨r, e, hr⟩
theorem p_block {d : D} {least most : Int} (h : SeenB M d) (hz : ∀ a ds, d = .tup [a, .tup ds] → ds.length < 1000000) : g_is_block [d, .int least, .int most] M = some (.ok (.bl (blockB d least most)) M) := by
  obtain ⟨hk, hp⟩ := h
  have ht := (kn_isi hk).2.2.2
  simp only [g_is_block, b_is_block, ev_def3]
  cases d with
  | tup xs =>
    match xs, hp with
    | [], _ => simp [b_is_block_0, ht, isTup, blockB]
    | [a], _ => simp [b_is_block_0, ht, isTup, blockB]
    | a :: b :: c :: r, _ =>
      have : ¬ ((r.length : Int) + 1 + 1 + 1 = 2) := by omega
      simp [b_is_block_0, ht, isTup, blockB, this]
    | [a, b], hp =>
      obtain ⟨hb, hne, hds⟩ := hp a b rfl
      have htb := (kn_isi hb).2.2.2
      have n1 := hne leafS (.inl rfl)
      have n2 := hne branchS (.inr rfl)
      have dl : Str.ofString "leaf" = leafS := rfl
      have db : Str.ofString "branch" = branchS := rfl
      cases b with
      | tup ds =>
        have hl := hz a ds rfl
        have hs := hds ds rfl
        cases h1 : eqS a leafS with
        | true =>
          have ea : a = .str leafS := by
            unfold eqS at h1
            split at h1
            · rename_i t
              rw [of_decide_eq_true h1]
            · cases h1
          subst ea
          have hr0 := p_rows (M := M) (a := .non) (l := .int least) (m := .int most) (leaf := true) hs hl
          simp only [if_true] at hr0
          obtain ⟨r, e, hr⟩ := hr0
          by_cases c1 : least ≤ (ds.length : Int)
          · by_cases c2 : (ds.length : Int) ≤ most
            · rcases hr with ⟨hr, L, rfl⟩ | ⟨hr, rfl⟩
              · simp [b_is_block_0, b_is_block_1, b_is_block_2, b_is_block_3, b_is_block_4, ht, isTup, ix0, ix1, htb, dl, n1, h1, c1, c2, e, blockB, hr]
              · simp [b_is_block_0, b_is_block_1, b_is_block_2, b_is_block_3, b_is_block_4, ht, isTup, ix0, ix1, htb, dl, n1, h1, c1, c2, e, blockB, hr]
            · simp [b_is_block_0, b_is_block_1, b_is_block_2, b_is_block_3, b_is_block_4, ht, isTup, ix0, ix1, htb, dl, n1, h1, c1, c2, blockB]
          · simp [b_is_block_0, b_is_block_1, b_is_block_2, b_is_block_3, b_is_block_4, ht, isTup, ix0, ix1, htb, dl, n1, h1, c1, blockB]
        | false =>
          cases h2 : eqS a branchS with
          | true =>
            have ea : a = .str branchS := by
              unfold eqS at h2
              split at h2
              · rename_i t
                rw [of_decide_eq_true h2]
              · cases h2
            subst ea
            have nb : ¬ branchS = leafS := by decide +kernel
            have hr0 := p_rows (M := M) (a := .non) (l := .int least) (m := .int most) (leaf := false) hs hl
            simp only [Bool.false_eq_true, if_false] at hr0
            obtain ⟨r, e, hr⟩ := hr0
            by_cases c1 : least ≤ (ds.length : Int)
            · by_cases c2 : (ds.length : Int) ≤ most
              · rcases hr with ⟨hr, L, rfl⟩ | ⟨hr, rfl⟩
                · simp [b_is_block_0, b_is_block_1, b_is_block_2, b_is_block_3, b_is_block_4, ht, isTup, ix0, ix1, htb, dl, db, n1, n2, h1, h2, c1, c2, e, blockB, hr, nb]
                · simp [b_is_block_0, b_is_block_1, b_is_block_2, b_is_block_3, b_is_block_4, ht, isTup, ix0, ix1, htb, dl, db, n1, n2, h1, h2, c1, c2, e, blockB, hr, nb]
              · simp [b_is_block_0, b_is_block_1, b_is_block_2, b_is_block_3, b_is_block_4, ht, isTup, ix0, ix1, htb, dl, db, n1, n2, h1, h2, c1, c2, blockB]
            · simp [b_is_block_0, b_is_block_1, b_is_block_2, b_is_block_3, b_is_block_4, ht, isTup, ix0, ix1, htb, dl, db, n1, n2, h1, h2, c1, blockB]
          | false =>
            have hf : blockB (.tup [a, .tup ds]) least most = false := by
              unfold blockB
              split
              · rename_i kind ds' heq
                cases heq
                have : decide (kind = leafS) = false := h1
                have : decide (kind = branchS) = false := h2
                simp [*]
              · rfl
            simp [b_is_block_0, b_is_block_1, b_is_block_2, b_is_block_3, b_is_block_4, ht, isTup, ix0, ix1, htb, dl, db, n1, n2, h1, h2, hf]
      | _ => simp [b_is_block_0, ht, isTup, ix1, htb, blockB]
  | _ => simp [b_is_block_0, ht, isTup, blockB]
end BP
namespace BK04
open PySem L2 BL
def topS (i : Nat) : Stmt := PySem.Challenge.pw_btreelog_k04_a_block.main.body.getD i (.Pass ⟨0, 0, 0, 0⟩)
def d_law_value_by : He.DefD := ⟨("_law_value_by", none), "_law_value_by", "_law_value_by", defArgs (topS 10), defBody (topS 10), defScope (topS 10), [], []⟩
def d_law_pairs_by : He.DefD := ⟨("_law_pairs_by", none), "_law_pairs_by", "_law_pairs_by", defArgs (topS 12), defBody (topS 12), defScope (topS 12), [], []⟩
def d_law_cell_at : He.DefD := ⟨("_law_cell_at", none), "_law_cell_at", "_law_cell_at", defArgs (topS 9), defBody (topS 9), defScope (topS 9), [], []⟩
def d_law_says : He.DefD := ⟨("_law_says", none), "_law_says", "_law_says", defArgs (topS 11), defBody (topS 11), defScope (topS 11), [], []⟩
def d_is_value : He.DefD := ⟨("is_value", none), "is_value", "is_value", defArgs (topS 5), defBody (topS 5), defScope (topS 5), [], []⟩
def d_is_whole : He.DefD := ⟨("is_whole", none), "is_whole", "is_whole", defArgs (topS 3), defBody (topS 3), defScope (topS 3), [], []⟩
def d_is_key : He.DefD := ⟨("is_key", none), "is_key", "is_key", defArgs (topS 4), defBody (topS 4), defScope (topS 4), [], []⟩
def d_is_pair : He.DefD := ⟨("is_pair", none), "is_pair", "is_pair", defArgs (topS 6), defBody (topS 6), defScope (topS 6), [], []⟩
def d_is_block : He.DefD := ⟨("is_block", none), "is_block", "is_block", defArgs (topS 7), defBody (topS 7), defScope (topS 7), [], []⟩
def d_law_pair_spoilt : He.DefD := ⟨("_law_pair_spoilt", none), "_law_pair_spoilt", "_law_pair_spoilt", defArgs (topS 13), defBody (topS 13), defScope (topS 13), [], []⟩
def d_law_spoilt : He.DefD := ⟨("_law_spoilt", none), "_law_spoilt", "_law_spoilt", defArgs (topS 14), defBody (topS 14), defScope (topS 14), [], []⟩
def d_law : He.DefD := ⟨("law", none), "law", "law", defArgs (topS 15), defBody (topS 15), defScope (topS 15), [], []⟩
def fn : List He.DefD := [d_law_value_by, d_law_pairs_by, d_law_cell_at, d_law_says, d_is_value, d_is_whole, d_is_key, d_is_pair, d_is_block, d_law_pair_spoilt, d_law_spoilt, d_law]
def fa : List He.Fa := [.free "range", .glo "_law_value_by", .glo "_law_pairs_by", .free "len", .glo "_law_cell_at", .glo "_law_says", .free "isinstance", .free "str", .int "VALUE_SIGNS" 60, .glo "is_value", .free "int", .free "bool", .glo "is_whole", .int "KEY_LIMIT" 1000000000000000000000000000000000000000000000000000000000000, .glo "is_key", .free "tuple", .glo "is_pair", .free "enumerate", .glo "is_block", .free "list", .glo "_law_pair_spoilt", .glo "_law_spoilt", .free "max", .glo "law"]
def tf : List (Str × List He.Dv) := []
section
variable {P : Program} {w : World} {K : PySem.W.Frag} {mg : Str → Option Value} {base : Heap} {C : Addr}
/-! _law_value_by -/
abbrev s_law_value_by : Stmt := topS 10
theorem sc_law_value_by : FnScope ["_law_cell", "_law_some", "_law_size", "_law_step", "_law_k"] ["_law_cell"] (defScope s_law_value_by) := ⟨rfl, rfl, rfl, by decide +kernel, rfl, by decide +kernel, by decide +kernel⟩
noncomputable def b_law_value_by_0 : GS := (mSet 1 (mC (.str " !\"#$&'()*+,-./0123456789:;<=>?@ABCDEFGHIJKLMNOPQRSTUVWXYZ[\\]^_`")))
noncomputable def b_law_value_by_1 : GS := (mSet 1 (mBin oAdd (mVar 1) (mC (.str "abcdefghijklmnopqrstuvwxyz{|}~"))))
noncomputable def b_law_value_by_2 : GS := (mSet 0 (mBin oMod (mBin oMul (mVar 0) (mC (.int 69621))) (mC (.int 2097143))))
noncomputable def b_law_value_by_3 : GS := (mSet 2 (mBin oMod (mVar 0) (mC (.int 5))))
noncomputable def b_law_value_by_4 : GS := (mIte (mT (mBin oEq (mBin oMod (mBin oDiv (mVar 0) (mC (.int 5))) (mC (.int 3))) (mC (.int 1)))) (mSet 2 (mBin oMod (mBin oDiv (mVar 0) (mC (.int 15))) (mC (.int 61)))) mSkip)
noncomputable def b_law_value_by_5 : GS := (mSet 3 (mBin oIx (mLst (mCons (mC (.int 0)) (mCons (mC (.int 1)) (mCons (mC (.int 7)) mNil)))) (mBin oMod (mBin oDiv (mVar 0) (mC (.int 915))) (mC (.int 3)))))
noncomputable def b_law_value_by_6 : GS := (mRet (mMtS oJoin (mC (.str "")) (mCons (mLc (mRange1 (mVar 2)) (mName 4) mYes (mBin oIx (mVar 1) (mBin oMod (mBin oAdd (mBin oDiv (mVar 0) (mC (.int 2745))) (mBin oMul (mVar 3) (mVar 4))) (mC (.int 94)))) [4]) mNil)))
noncomputable def b_law_value_by : GS := (mSeq b_law_value_by_0 (mSeq b_law_value_by_1 (mSeq b_law_value_by_2 (mSeq b_law_value_by_3 (mSeq b_law_value_by_4 (mSeq b_law_value_by_5 b_law_value_by_6))))))
noncomputable def g_law_value_by : Fn := mDef 1 5 b_law_value_by
theorem cal_law_value_by (T : Tx fa fn tf K mg) : Cal P w K mg base C 1 "_law_value_by" ["_law_cell"] g_law_value_by :=
  ok_calT (st := s_law_value_by) (N := ["_law_cell", "_law_some", "_law_size", "_law_step", "_law_k"]) (k := 0) (body := b_law_value_by) (T.def_ 0 1) sc_law_value_by (fun _ _ _ _ _ _ us hl => match us, hl with | [_], _ => rfl)
    (fun X W f cdv A outer s H E hX hW hr hp tk => by
      have hN := sc_law_value_by.nd
      have hu := room100 hr
      have hu1 := L2.hu_of hr
      have lx := lets_of tk
      refine sss_cons (show SS _ _ _ _ b_law_value_by_0 from (ss_set hN rfl (by first | exact Or.inl rfl | exact Or.inr rfl) se_str)) ?_
      refine sss_cons (show SS _ _ _ _ b_law_value_by_1 from (ss_set hN rfl (by first | exact Or.inl rfl | exact Or.inr rfl) (se_bin or_add (se_var (pv 1)) se_str))) ?_
      refine sss_cons (show SS _ _ _ _ b_law_value_by_2 from (ss_set hN rfl (by first | exact Or.inl rfl | exact Or.inr rfl) (se_bin or_mod (se_bin or_mul (se_var (pv 0)) se_int) se_int))) ?_
      refine sss_cons (show SS _ _ _ _ b_law_value_by_3 from (ss_set hN rfl (by first | exact Or.inl rfl | exact Or.inr rfl) (se_bin or_mod (se_var (pv 0)) se_int))) ?_
      refine sss_cons (show SS _ _ _ _ b_law_value_by_4 from (ss_if (st_cmp (or_eq hu) (se_bin or_mod (se_bin or_div (se_var (pv 0)) se_int) se_int) se_int (by first | rfl | exact nomark _ | decide)) (sss_one (ss_set hN rfl (by first | exact Or.inl rfl | exact Or.inr rfl) (se_bin or_mod (se_bin or_div (se_var (pv 0)) se_int) se_int))) sss_nil)) ?_
      refine sss_cons (show SS _ _ _ _ b_law_value_by_5 from (ss_set hN rfl (by first | exact Or.inl rfl | exact Or.inr rfl) (se_ix hu1 (se_lst (sa_cons se_int (sa_cons se_int (sa_cons se_int sa_nil)))) (se_bin or_mod (se_bin or_div (se_var (pv 0)) se_int) se_int) (fun _ _ => rfl)))) ?_
      exact sss_one (show SS _ _ _ _ b_law_value_by_6 from (ss_ret (se_join se_str (se_lc (own := [("_law_k", 4)]) rfl hN (si_range1 rfl (T.free 0) (se_var (pv 2))) (blkOk_by (own := [("_law_k", 4)]) (by kernel_rfl)) (fun _ _ _ _ _ => pg_name hN rfl (Or.inl rfl)) (sc_name 4) (fun _ _ _ _ _ => st_yes pts_nil) (fun _ _ _ _ _ => (se_ix hu1 (se_var (pv 1)) (se_bin or_mod (se_bin or_add (se_bin or_div (se_var (pv 0)) se_int) (se_bin or_mul (se_var (pv 3)) (se_var (pv 4)))) se_int) (fun _ _ => rfl))))))))
/-! _law_pairs_by -/
abbrev s_law_pairs_by : Stmt := topS 12
theorem sc_law_pairs_by : FnScope ["_law_kind", "_law_start", "_law_size", "_law_cell", "_law_k"] ["_law_kind", "_law_start", "_law_size", "_law_cell"] (defScope s_law_pairs_by) := ⟨rfl, rfl, rfl, by decide +kernel, rfl, by decide +kernel, by decide +kernel⟩
noncomputable def b_law_pairs_by_0 : GS := (mIte (mT (mBin oEq (mVar 0) (mC (.str "leaf")))) (mRet (mLc (mRange1 (mVar 2)) (mName 4) mYes (mTup (mCons (mBin oAdd (mVar 1) (mBin oMul (mC (.int 2)) (mVar 4))) (mCons (mCall g_law_value_by (mCons (mBin oAdd (mVar 3) (mVar 4)) mNil)) mNil))) [4])) mSkip)
noncomputable def b_law_pairs_by_1 : GS := (mRet (mLc (mRange1 (mVar 2)) (mName 4) mYes (mTup (mCons (mBin oAdd (mVar 1) (mBin oMul (mC (.int 2)) (mVar 4))) (mCons (mBin oAdd (mC (.int 1)) (mBin oMod (mBin oAdd (mVar 3) (mBin oMul (mC (.int 5)) (mVar 4))) (mC (.int 90)))) mNil))) [4]))
noncomputable def b_law_pairs_by : GS := (mSeq b_law_pairs_by_0 b_law_pairs_by_1)
noncomputable def g_law_pairs_by : Fn := mDef 4 5 b_law_pairs_by
theorem cal_law_pairs_by (T : Tx fa fn tf K mg) : Cal P w K mg base C 2 "_law_pairs_by" ["_law_kind", "_law_start", "_law_size", "_law_cell"] g_law_pairs_by :=
  ok_calT (st := s_law_pairs_by) (N := ["_law_kind", "_law_start", "_law_size", "_law_cell", "_law_k"]) (k := 1) (body := b_law_pairs_by) (T.def_ 1 2) sc_law_pairs_by (fun _ _ _ _ _ _ us hl => match us, hl with | [_, _, _, _], _ => rfl)
    (fun X W f cdv A outer s H E hX hW hr hp tk => by
      have hN := sc_law_pairs_by.nd
      have hu := room100 hr
      have hu1 := L2.hu_of hr
      have lx := lets_of tk
      refine sss_cons (show SS _ _ _ _ b_law_pairs_by_0 from (ss_if (st_cmp (or_eq hu) (se_var (pv 0)) se_str (by first | rfl | exact nomark _ | decide)) (sss_one (ss_ret (se_lc (own := [("_law_k", 4)]) rfl hN (si_range1 rfl (T.free 0) (se_var (pv 2))) (blkOk_by (own := [("_law_k", 4)]) (by kernel_rfl)) (fun _ _ _ _ _ => pg_name hN rfl (Or.inl rfl)) (sc_name 4) (fun _ _ _ _ _ => st_yes pts_nil) (fun _ _ _ _ _ => (se_tup (sa_cons (se_bin or_add (se_var (pv 1)) (se_bin or_mul se_int (se_var (pv 4)))) (sa_cons (se_cal (cal_law_value_by T) (hr.mono (by decide)) lets_blk (sa_cons (se_bin or_add (se_var (pv 3)) (se_var (pv 4))) sa_nil)) sa_nil))))))) sss_nil)) ?_
      exact sss_one (show SS _ _ _ _ b_law_pairs_by_1 from (ss_ret (se_lc (own := [("_law_k", 4)]) rfl hN (si_range1 rfl (T.free 0) (se_var (pv 2))) (blkOk_by (own := [("_law_k", 4)]) (by kernel_rfl)) (fun _ _ _ _ _ => pg_name hN rfl (Or.inl rfl)) (sc_name 4) (fun _ _ _ _ _ => st_yes pts_nil) (fun _ _ _ _ _ => (se_tup (sa_cons (se_bin or_add (se_var (pv 1)) (se_bin or_mul se_int (se_var (pv 4)))) (sa_cons (se_bin or_add se_int (se_bin or_mod (se_bin or_add (se_var (pv 3)) (se_bin or_mul se_int (se_var (pv 4)))) se_int)) sa_nil))))))))
/-! _law_cell_at -/
abbrev s_law_cell_at : Stmt := topS 9
theorem sc_law_cell_at : FnScope ["_law_script", "_law_k"] ["_law_script", "_law_k"] (defScope s_law_cell_at) := ⟨rfl, rfl, rfl, by decide +kernel, rfl, by decide +kernel, by decide +kernel⟩
noncomputable def b_law_cell_at_0 : GS := (mIte (mT (mBin oLt (mVar 1) (mCB oLen (mCons (mVar 0) mNil)))) (mRet (mBin oIx (mVar 0) (mVar 1))) mSkip)
noncomputable def b_law_cell_at_1 : GS := (mRet (mC (.int 0)))
noncomputable def b_law_cell_at : GS := (mSeq b_law_cell_at_0 b_law_cell_at_1)
noncomputable def g_law_cell_at : Fn := mDef 2 2 b_law_cell_at
theorem cal_law_cell_at (T : Tx fa fn tf K mg) : Cal P w K mg base C 1 "_law_cell_at" ["_law_script", "_law_k"] g_law_cell_at :=
  ok_calT (st := s_law_cell_at) (N := ["_law_script", "_law_k"]) (k := 0) (body := b_law_cell_at) (T.def_ 2 4) sc_law_cell_at (fun _ _ _ _ _ _ us hl => match us, hl with | [_, _], _ => rfl)
    (fun X W f cdv A outer s H E hX hW hr hp tk => by
      have hN := sc_law_cell_at.nd
      have hu := room100 hr
      have hu1 := L2.hu_of hr
      have lx := lets_of tk
      refine sss_cons (show SS _ _ _ _ b_law_cell_at_0 from (ss_if (st_cmp or_lt (se_var (pv 1)) (se_cb cl_len rfl (T.free 3) bv_len (sa_cons (se_var (pv 0)) sa_nil)) (by first | rfl | exact nomark _ | decide)) (sss_one (ss_ret (se_ix hu1 (se_var (pv 0)) (se_var (pv 1)) (fun _ _ => rfl)))) sss_nil)) ?_
      exact sss_one (show SS _ _ _ _ b_law_cell_at_1 from (ss_ret se_int)))
/-! _law_says -/
abbrev s_law_says : Stmt := topS 11
theorem sc_law_says : FnScope ["_law_found", "_law_due"] ["_law_found", "_law_due"] (defScope s_law_says) := ⟨rfl, rfl, rfl, by decide +kernel, rfl, by decide +kernel, by decide +kernel⟩
noncomputable def b_law_says_0 : GS := (mRet (mAndV (mOrV (mBin oIs (mVar 0) (mC (.bl true))) (mBin oIs (mVar 0) (mC (.bl false)))) (mBin oEq (mVar 0) (mVar 1))))
noncomputable def b_law_says : GS := b_law_says_0
noncomputable def g_law_says : Fn := mDef 2 2 b_law_says
theorem cal_law_says (T : Tx fa fn tf K mg) : Cal P w K mg base C 1 "_law_says" ["_law_found", "_law_due"] g_law_says :=
  ok_calT (st := s_law_says) (N := ["_law_found", "_law_due"]) (k := 0) (body := b_law_says) (T.def_ 3 5) sc_law_says (fun _ _ _ _ _ _ us hl => match us, hl with | [_, _], _ => rfl)
    (fun X W f cdv A outer s H E hX hW hr hp tk => by
      have hN := sc_law_says.nd
      have hu := room100 hr
      have hu1 := L2.hu_of hr
      have lx := lets_of tk
      exact sss_one (show SS _ _ _ _ b_law_says_0 from (ss_ret (se_and (se_or (se_cmp or_is (se_var (pv 0)) se_bl (by first | rfl | exact nomark _ | decide)) (se_one (se_cmp or_is (se_var (pv 0)) se_bl (by first | rfl | exact nomark _ | decide)))) (se_one (se_cmp (or_eq hu) (se_var (pv 0)) (se_var (pv 1)) (by first | rfl | exact nomark _ | decide)))))))
/-! is_value -/
abbrev s_is_value : Stmt := topS 5
theorem sc_is_value : FnScope ["thing", "sign"] ["thing"] (defScope s_is_value) := ⟨rfl, rfl, rfl, by decide +kernel, rfl, by decide +kernel, by decide +kernel⟩
noncomputable def b_is_value_0 : GS := (mIte (mOr (mNot (mT (mUn (oIsi "str") (mVar 0)))) (mT (mBin oGt (mCB oLen (mCons (mVar 0) mNil)) (mC (.int 60))))) (mRet (mC (.bl false))) mSkip)
noncomputable def b_is_value_1 : GS := (mFor (mSigns (mVar 0)) (mName 1) (mIte (mNot (mT (mChain oLe oLe (mC (.str " ")) (mVar 1) (mC (.str "~"))))) (mRet (mC (.bl false))) mSkip))
noncomputable def b_is_value_2 : GS := (mRet (mC (.bl true)))
noncomputable def b_is_value : GS := (mSeq b_is_value_0 (mSeq b_is_value_1 b_is_value_2))
noncomputable def g_is_value : Fn := mDef 1 2 b_is_value
theorem cal_is_value (T : Tx fa fn tf K mg) : Cal P w K mg base C 1 "is_value" ["thing"] g_is_value :=
  ok_calT (st := s_is_value) (N := ["thing", "sign"]) (k := 0) (body := b_is_value) (T.def_ 4 9) sc_is_value (fun _ _ _ _ _ _ us hl => match us, hl with | [_], _ => rfl)
    (fun X W f cdv A outer s H E hX hW hr hp tk => by
      have hN := sc_is_value.nd
      have hu := room100 hr
      have hu1 := L2.hu_of hr
      have lx := lets_of tk
      refine sss_cons (show SS _ _ _ _ b_is_value_0 from (ss_if (SW.st (sw_or (st_not (st_val (se_isi rfl (T.free 6) (se_var (pv 0)) (pe_bltn (v := .ty "str") rfl (T.free 7) bv_str rfl)))) (sw_or1 (st_cmp or_gt (se_cb cl_len rfl (T.free 3) bv_len (sa_cons (se_var (pv 0)) sa_nil)) (se_globI (T.int 8)) (by first | rfl | exact nomark _ | decide))))) (sss_one (ss_ret se_bl)) sss_nil)) ?_
      refine sss_cons (show SS _ _ _ _ b_is_value_1 from (ss_for hp rfl (si_str (se_var (pv 0))) (stg_name hN rfl (by first | exact Or.inl rfl | exact Or.inr rfl)) (sss_one (ss_if (st_not (st_chain or_le or_le se_str (se_var (pv 1)) se_str)) (sss_one (ss_ret se_bl)) sss_nil)))) ?_
      exact sss_one (show SS _ _ _ _ b_is_value_2 from (ss_ret se_bl)))
/-! is_whole -/
abbrev s_is_whole : Stmt := topS 3
theorem sc_is_whole : FnScope ["thing"] ["thing"] (defScope s_is_whole) := ⟨rfl, rfl, rfl, by decide +kernel, rfl, by decide +kernel, by decide +kernel⟩
noncomputable def b_is_whole_0 : GS := (mRet (mAndV (mUn (oIsi "int") (mVar 0)) (mNotV (mUn (oIsi "bool") (mVar 0)))))
noncomputable def b_is_whole : GS := b_is_whole_0
noncomputable def g_is_whole : Fn := mDef 1 1 b_is_whole
theorem cal_is_whole (T : Tx fa fn tf K mg) : Cal P w K mg base C 1 "is_whole" ["thing"] g_is_whole :=
  ok_calT (st := s_is_whole) (N := ["thing"]) (k := 0) (body := b_is_whole) (T.def_ 5 12) sc_is_whole (fun _ _ _ _ _ _ us hl => match us, hl with | [_], _ => rfl)
    (fun X W f cdv A outer s H E hX hW hr hp tk => by
      have hN := sc_is_whole.nd
      have hu := room100 hr
      have hu1 := L2.hu_of hr
      have lx := lets_of tk
      exact sss_one (show SS _ _ _ _ b_is_whole_0 from (ss_ret (se_and (se_isi rfl (T.free 6) (se_var (pv 0)) (pe_bltn (v := .ty "int") rfl (T.free 10) bv_int rfl)) (se_one (se_not (se_isi rfl (T.free 6) (se_var (pv 0)) (pe_bltn (v := .ty "bool") rfl (T.free 11) bv_bool rfl))))))))
/-! is_key -/
abbrev s_is_key : Stmt := topS 4
theorem sc_is_key : FnScope ["thing"] ["thing"] (defScope s_is_key) := ⟨rfl, rfl, rfl, by decide +kernel, rfl, by decide +kernel, by decide +kernel⟩
noncomputable def b_is_key_0 : GS := (mRet (mAndV (mCall g_is_whole (mCons (mVar 0) mNil)) (mChain oLt oLt (mUn oNeg (mC (.int 1000000000000000000000000000000000000000000000000000000000000))) (mVar 0) (mC (.int 1000000000000000000000000000000000000000000000000000000000000)))))
noncomputable def b_is_key : GS := b_is_key_0
noncomputable def g_is_key : Fn := mDef 1 1 b_is_key
theorem cal_is_key (T : Tx fa fn tf K mg) : Cal P w K mg base C 2 "is_key" ["thing"] g_is_key :=
  ok_calT (st := s_is_key) (N := ["thing"]) (k := 1) (body := b_is_key) (T.def_ 6 14) sc_is_key (fun _ _ _ _ _ _ us hl => match us, hl with | [_], _ => rfl)
    (fun X W f cdv A outer s H E hX hW hr hp tk => by
      have hN := sc_is_key.nd
      have hu := room100 hr
      have hu1 := L2.hu_of hr
      have lx := lets_of tk
      exact sss_one (show SS _ _ _ _ b_is_key_0 from (ss_ret (se_and (se_cal (cal_is_whole T) (hr.mono (by decide)) lx (sa_cons (se_var (pv 0)) sa_nil)) (se_one (se_chain or_lt or_lt (se_un ur_neg (se_globI (T.int 13))) (se_var (pv 0)) (se_globI (T.int 13))))))))
/-! is_pair -/
abbrev s_is_pair : Stmt := topS 6
theorem sc_is_pair : FnScope ["thing", "kind"] ["thing", "kind"] (defScope s_is_pair) := ⟨rfl, rfl, rfl, by decide +kernel, rfl, by decide +kernel, by decide +kernel⟩
noncomputable def b_is_pair_0 : GS := (mIte (mOr (mNot (mT (mUn (oIsi "tuple") (mVar 0)))) (mOr (mT (mBin oNe (mCB oLen (mCons (mVar 0) mNil)) (mC (.int 2)))) (mNot (mT (mCall g_is_key (mCons (mBin oIx (mVar 0) (mC (.int 0))) mNil)))))) (mRet (mC (.bl false))) mSkip)
noncomputable def b_is_pair_1 : GS := (mIte (mT (mBin oEq (mVar 1) (mC (.str "leaf")))) (mRet (mCall g_is_value (mCons (mBin oIx (mVar 0) (mC (.int 1))) mNil))) mSkip)
noncomputable def b_is_pair_2 : GS := (mRet (mAndV (mCall g_is_whole (mCons (mBin oIx (mVar 0) (mC (.int 1))) mNil)) (mBin oGt (mBin oIx (mVar 0) (mC (.int 1))) (mC (.int 0)))))
noncomputable def b_is_pair : GS := (mSeq b_is_pair_0 (mSeq b_is_pair_1 b_is_pair_2))
noncomputable def g_is_pair : Fn := mDef 2 2 b_is_pair
theorem cal_is_pair (T : Tx fa fn tf K mg) : Cal P w K mg base C 3 "is_pair" ["thing", "kind"] g_is_pair :=
  ok_calT (st := s_is_pair) (N := ["thing", "kind"]) (k := 2) (body := b_is_pair) (T.def_ 7 16) sc_is_pair (fun _ _ _ _ _ _ us hl => match us, hl with | [_, _], _ => rfl)
    (fun X W f cdv A outer s H E hX hW hr hp tk => by
      have hN := sc_is_pair.nd
      have hu := room100 hr
      have hu1 := L2.hu_of hr
      have lx := lets_of tk
      refine sss_cons (show SS _ _ _ _ b_is_pair_0 from (ss_if (SW.st (sw_or (st_not (st_val (se_isi rfl (T.free 6) (se_var (pv 0)) (pe_bltn (v := .ty "tuple") rfl (T.free 15) bv_tuple rfl)))) (sw_or (st_cmp (or_ne hu) (se_cb cl_len rfl (T.free 3) bv_len (sa_cons (se_var (pv 0)) sa_nil)) se_int (by first | rfl | exact nomark _ | decide)) (sw_or1 (st_not (st_val (se_cal (cal_is_key T) (hr.mono (by decide)) lx (sa_cons (se_ix hu1 (se_var (pv 0)) se_int (fun _ _ => rfl)) sa_nil)))))))) (sss_one (ss_ret se_bl)) sss_nil)) ?_
      refine sss_cons (show SS _ _ _ _ b_is_pair_1 from (ss_if (st_cmp (or_eq hu) (se_var (pv 1)) se_str (by first | rfl | exact nomark _ | decide)) (sss_one (ss_ret (se_cal (cal_is_value T) (hr.mono (by decide)) lx (sa_cons (se_ix hu1 (se_var (pv 0)) se_int (fun _ _ => rfl)) sa_nil)))) sss_nil)) ?_
      exact sss_one (show SS _ _ _ _ b_is_pair_2 from (ss_ret (se_and (se_cal (cal_is_whole T) (hr.mono (by decide)) lx (sa_cons (se_ix hu1 (se_var (pv 0)) se_int (fun _ _ => rfl)) sa_nil)) (se_one (se_cmp or_gt (se_ix hu1 (se_var (pv 0)) se_int (fun _ _ => rfl)) se_int (by first | rfl | exact nomark _ | decide)))))))
/-! is_block -/
abbrev s_is_block : Stmt := topS 7
theorem sc_is_block : FnScope ["thing", "least", "most", "at", "pair"] ["thing", "least", "most"] (defScope s_is_block) := ⟨rfl, rfl, rfl, by decide +kernel, rfl, by decide +kernel, by decide +kernel⟩
noncomputable def b_is_block_0 : GS := (mIte (mOr (mNot (mT (mUn (oIsi "tuple") (mVar 0)))) (mOr (mT (mBin oNe (mCB oLen (mCons (mVar 0) mNil)) (mC (.int 2)))) (mNot (mT (mUn (oIsi "tuple") (mBin oIx (mVar 0) (mC (.int 1)))))))) (mRet (mC (.bl false))) mSkip)
noncomputable def b_is_block_1 : GS := (mIte (mAnd (mT (mBin oNe (mBin oIx (mVar 0) (mC (.int 0))) (mC (.str "leaf")))) (mT (mBin oNe (mBin oIx (mVar 0) (mC (.int 0))) (mC (.str "branch"))))) (mRet (mC (.bl false))) mSkip)
noncomputable def b_is_block_2 : GS := (mIte (mNot (mT (mChain oLe oLe (mVar 1) (mCB oLen (mCons (mBin oIx (mVar 0) (mC (.int 1))) mNil)) (mVar 2)))) (mRet (mC (.bl false))) mSkip)
noncomputable def b_is_block_3 : GS := (mFor (mEnum (mBin oIx (mVar 0) (mC (.int 1)))) (mName2 3 4) (mIte (mOr (mNot (mT (mCall g_is_pair (mCons (mVar 4) (mCons (mBin oIx (mVar 0) (mC (.int 0))) mNil))))) (mAnd (mT (mBin oGt (mVar 3) (mC (.int 0)))) (mT (mBin oLe (mBin oIx (mVar 4) (mC (.int 0))) (mBin oIx (mBin oIx (mBin oIx (mVar 0) (mC (.int 1))) (mBin oSub (mVar 3) (mC (.int 1)))) (mC (.int 0))))))) (mRet (mC (.bl false))) mSkip))
noncomputable def b_is_block_4 : GS := (mRet (mC (.bl true)))
noncomputable def b_is_block : GS := (mSeq b_is_block_0 (mSeq b_is_block_1 (mSeq b_is_block_2 (mSeq b_is_block_3 b_is_block_4))))
noncomputable def g_is_block : Fn := mDef 3 5 b_is_block
theorem cal_is_block (T : Tx fa fn tf K mg) : Cal P w K mg base C 4 "is_block" ["thing", "least", "most"] g_is_block :=
  ok_calT (st := s_is_block) (N := ["thing", "least", "most", "at", "pair"]) (k := 3) (body := b_is_block) (T.def_ 8 18) sc_is_block (fun _ _ _ _ _ _ us hl => match us, hl with | [_, _, _], _ => rfl)
    (fun X W f cdv A outer s H E hX hW hr hp tk => by
      have hN := sc_is_block.nd
      have hu := room100 hr
      have hu1 := L2.hu_of hr
      have lx := lets_of tk
      refine sss_cons (show SS _ _ _ _ b_is_block_0 from (ss_if (SW.st (sw_or (st_not (st_val (se_isi rfl (T.free 6) (se_var (pv 0)) (pe_bltn (v := .ty "tuple") rfl (T.free 15) bv_tuple rfl)))) (sw_or (st_cmp (or_ne hu) (se_cb cl_len rfl (T.free 3) bv_len (sa_cons (se_var (pv 0)) sa_nil)) se_int (by first | rfl | exact nomark _ | decide)) (sw_or1 (st_not (st_val (se_isi rfl (T.free 6) (se_ix hu1 (se_var (pv 0)) se_int (fun _ _ => rfl)) (pe_bltn (v := .ty "tuple") rfl (T.free 15) bv_tuple rfl)))))))) (sss_one (ss_ret se_bl)) sss_nil)) ?_
      refine sss_cons (show SS _ _ _ _ b_is_block_1 from (ss_if (SW.st (sw_and (st_cmp (or_ne hu) (se_ix hu1 (se_var (pv 0)) se_int (fun _ _ => rfl)) se_str (by first | rfl | exact nomark _ | decide)) (sw_and1 (st_cmp (or_ne hu) (se_ix hu1 (se_var (pv 0)) se_int (fun _ _ => rfl)) se_str (by first | rfl | exact nomark _ | decide))))) (sss_one (ss_ret se_bl)) sss_nil)) ?_
      refine sss_cons (show SS _ _ _ _ b_is_block_2 from (ss_if (st_not (st_chain or_le or_le (se_var (pv 1)) (se_cb cl_len rfl (T.free 3) bv_len (sa_cons (se_ix hu1 (se_var (pv 0)) se_int (fun _ _ => rfl)) sa_nil)) (se_var (pv 2)))) (sss_one (ss_ret se_bl)) sss_nil)) ?_
      refine sss_cons (show SS _ _ _ _ b_is_block_3 from (ss_for hp rfl (si_enum rfl (T.free 17) (se_ix hu1 (se_var (pv 0)) se_int (fun _ _ => rfl))) (stg_name2 rfl hN rfl (by first | exact Or.inl rfl | exact Or.inr rfl) rfl (by first | exact Or.inl rfl | exact Or.inr rfl)) (sss_one (ss_if (SW.st (sw_or (st_not (st_val (se_cal (cal_is_pair T) (hr.mono (by decide)) lx (sa_cons (se_var (pv 4)) (sa_cons (se_ix hu1 (se_var (pv 0)) se_int (fun _ _ => rfl)) sa_nil))))) (sw_or1 (SW.st (sw_and (st_cmp or_gt (se_var (pv 3)) se_int (by first | rfl | exact nomark _ | decide)) (sw_and1 (st_cmp or_le (se_ix hu1 (se_var (pv 4)) se_int (fun _ _ => rfl)) (se_ix hu1 (se_ix hu1 (se_ix hu1 (se_var (pv 0)) se_int (fun _ _ => rfl)) (se_bin or_sub (se_var (pv 3)) se_int) (fun _ _ => rfl)) se_int (fun _ _ => rfl)) (by first | rfl | exact nomark _ | decide)))))))) (sss_one (ss_ret se_bl)) sss_nil)))) ?_
      exact sss_one (show SS _ _ _ _ b_is_block_4 from (ss_ret se_bl)))
/-! _law_pair_spoilt -/
abbrev s_law_pair_spoilt : Stmt := topS 13
theorem sc_law_pair_spoilt : FnScope ["_law_pairs", "_law_at", "_law_way", "_law_pair", "_law_some"] ["_law_pairs", "_law_at", "_law_way"] (defScope s_law_pair_spoilt) := ⟨rfl, rfl, rfl, by decide +kernel, rfl, by decide +kernel, by decide +kernel⟩
noncomputable def b_law_pair_spoilt_0 : GS := (mSet 3 (mBin oIx (mVar 0) (mVar 1)))
noncomputable def b_law_pair_spoilt_1 : GS := (mSet 4 (mLst (mCons (mTup (mCons (mBin oIx (mVar 3) (mC (.int 0))) mNil)) (mCons (mTup (mCons (mBin oIx (mVar 3) (mC (.int 0))) (mCons (mBin oIx (mVar 3) (mC (.int 1))) (mCons (mBin oIx (mVar 3) (mC (.int 1))) mNil)))) (mCons (mCB oList (mCons (mVar 3) mNil)) (mCons (mTup (mCons (mC (.bl true)) (mCons (mBin oIx (mVar 3) (mC (.int 1))) mNil))) (mCons (mTup (mCons (mBin oIx (mVar 3) (mC (.int 0))) (mCons (mC .non) mNil))) (mCons (mTup (mCons (mBin oPow (mC (.int 10)) (mC (.int 60))) (mCons (mBin oIx (mVar 3) (mC (.int 1))) mNil))) mNil))))))))
noncomputable def b_law_pair_spoilt_2 : GS := (mSet 4 (mBin oAdd (mVar 4) (mLst (mCons (mTup (mCons (mCB oStr (mCons (mBin oIx (mVar 3) (mC (.int 0))) mNil)) (mCons (mBin oIx (mVar 3) (mC (.int 1))) mNil))) (mCons (mTup (mCons (mBin oIx (mVar 3) (mC (.int 0))) (mCons (mLst (mCons (mBin oIx (mVar 3) (mC (.int 1))) mNil)) mNil))) (mCons (mTup (mCons (mBin oIx (mVar 3) (mC (.int 0))) (mCons (mC (.bl true)) mNil))) (mCons (mC .non) (mCons (mTup (mCons (mBin oIx (mVar 3) (mC (.int 0))) (mCons (mC (.int 0)) mNil))) (mCons (mTup (mCons (mBin oIx (mVar 3) (mC (.int 0))) (mCons (mUn oNeg (mC (.int 1))) mNil))) mNil)))))))))
noncomputable def b_law_pair_spoilt_3 : GS := (mSet 4 (mBin oAdd (mVar 4) (mLst (mCons (mTup (mCons (mUn oNeg (mBin oPow (mC (.int 10)) (mC (.int 60)))) (mCons (mBin oIx (mVar 3) (mC (.int 1))) mNil))) mNil))))
noncomputable def b_law_pair_spoilt_4 : GS := (mIte (mT (mBin oLt (mVar 2) (mC (.int 13)))) (mRet (mBin oAdd (mBin oAdd (mSl (mVar 0) mNo (mSome (mVar 1))) (mLst (mCons (mBin oIx (mVar 4) (mVar 2)) mNil))) (mSl (mVar 0) (mSome (mBin oAdd (mVar 1) (mC (.int 1)))) mNo))) mSkip)
noncomputable def b_law_pair_spoilt_5 : GS := (mIte (mT (mBin oEq (mVar 2) (mC (.int 13)))) (mRet (mBin oAdd (mBin oAdd (mSl (mVar 0) mNo (mSome (mVar 1))) (mLst (mCons (mVar 3) (mCons (mVar 3) mNil)))) (mSl (mVar 0) (mSome (mBin oAdd (mVar 1) (mC (.int 1)))) mNo))) mSkip)
noncomputable def b_law_pair_spoilt_6 : GS := (mRet (mBin oAdd (mBin oAdd (mSl (mVar 0) mNo (mSome (mVar 1))) (mLst (mCons (mVar 3) (mCons (mTup (mCons (mBin oSub (mBin oIx (mVar 3) (mC (.int 0))) (mC (.int 1))) (mCons (mBin oIx (mVar 3) (mC (.int 1))) mNil))) mNil)))) (mSl (mVar 0) (mSome (mBin oAdd (mVar 1) (mC (.int 1)))) mNo)))
noncomputable def b_law_pair_spoilt : GS := (mSeq b_law_pair_spoilt_0 (mSeq b_law_pair_spoilt_1 (mSeq b_law_pair_spoilt_2 (mSeq b_law_pair_spoilt_3 (mSeq b_law_pair_spoilt_4 (mSeq b_law_pair_spoilt_5 b_law_pair_spoilt_6))))))
noncomputable def g_law_pair_spoilt : Fn := mDef 3 5 b_law_pair_spoilt
theorem cal_law_pair_spoilt (T : Tx fa fn tf K mg) : Cal P w K mg base C 1 "_law_pair_spoilt" ["_law_pairs", "_law_at", "_law_way"] g_law_pair_spoilt :=
  ok_calT (st := s_law_pair_spoilt) (N := ["_law_pairs", "_law_at", "_law_way", "_law_pair", "_law_some"]) (k := 0) (body := b_law_pair_spoilt) (T.def_ 9 20) sc_law_pair_spoilt (fun _ _ _ _ _ _ us hl => match us, hl with | [_, _, _], _ => rfl)
    (fun X W f cdv A outer s H E hX hW hr hp tk => by
      have hN := sc_law_pair_spoilt.nd
      have hu := room100 hr
      have hu1 := L2.hu_of hr
      have lx := lets_of tk
      refine sss_cons (show SS _ _ _ _ b_law_pair_spoilt_0 from (ss_set hN rfl (by first | exact Or.inl rfl | exact Or.inr rfl) (se_ix hu1 (se_var (pv 0)) (se_var (pv 1)) (fun _ _ => rfl)))) ?_
      refine sss_cons (show SS _ _ _ _ b_law_pair_spoilt_1 from (ss_set hN rfl (by first | exact Or.inl rfl | exact Or.inr rfl) (se_lst (sa_cons (se_tup (sa_cons (se_ix hu1 (se_var (pv 3)) se_int (fun _ _ => rfl)) sa_nil)) (sa_cons (se_tup (sa_cons (se_ix hu1 (se_var (pv 3)) se_int (fun _ _ => rfl)) (sa_cons (se_ix hu1 (se_var (pv 3)) se_int (fun _ _ => rfl)) (sa_cons (se_ix hu1 (se_var (pv 3)) se_int (fun _ _ => rfl)) sa_nil)))) (sa_cons (se_cty (cl_list rfl) rfl (T.free 19) bv_list (sa_cons (se_var (pv 3)) sa_nil)) (sa_cons (se_tup (sa_cons se_bl (sa_cons (se_ix hu1 (se_var (pv 3)) se_int (fun _ _ => rfl)) sa_nil))) (sa_cons (se_tup (sa_cons (se_ix hu1 (se_var (pv 3)) se_int (fun _ _ => rfl)) (sa_cons se_non sa_nil))) (sa_cons (se_tup (sa_cons (se_bin or_pow se_int se_int) (sa_cons (se_ix hu1 (se_var (pv 3)) se_int (fun _ _ => rfl)) sa_nil))) sa_nil))))))))) ?_
      refine sss_cons (show SS _ _ _ _ b_law_pair_spoilt_2 from (ss_set hN rfl (by first | exact Or.inl rfl | exact Or.inr rfl) (se_bin or_add (se_var (pv 4)) (se_lst (sa_cons (se_tup (sa_cons (se_cty cl_str rfl (T.free 7) bv_str (sa_cons (se_ix hu1 (se_var (pv 3)) se_int (fun _ _ => rfl)) sa_nil)) (sa_cons (se_ix hu1 (se_var (pv 3)) se_int (fun _ _ => rfl)) sa_nil))) (sa_cons (se_tup (sa_cons (se_ix hu1 (se_var (pv 3)) se_int (fun _ _ => rfl)) (sa_cons (se_lst (sa_cons (se_ix hu1 (se_var (pv 3)) se_int (fun _ _ => rfl)) sa_nil)) sa_nil))) (sa_cons (se_tup (sa_cons (se_ix hu1 (se_var (pv 3)) se_int (fun _ _ => rfl)) (sa_cons se_bl sa_nil))) (sa_cons se_non (sa_cons (se_tup (sa_cons (se_ix hu1 (se_var (pv 3)) se_int (fun _ _ => rfl)) (sa_cons se_int sa_nil))) (sa_cons (se_tup (sa_cons (se_ix hu1 (se_var (pv 3)) se_int (fun _ _ => rfl)) (sa_cons (se_un ur_neg se_int) sa_nil))) sa_nil)))))))))) ?_
      refine sss_cons (show SS _ _ _ _ b_law_pair_spoilt_3 from (ss_set hN rfl (by first | exact Or.inl rfl | exact Or.inr rfl) (se_bin or_add (se_var (pv 4)) (se_lst (sa_cons (se_tup (sa_cons (se_un ur_neg (se_bin or_pow se_int se_int)) (sa_cons (se_ix hu1 (se_var (pv 3)) se_int (fun _ _ => rfl)) sa_nil))) sa_nil))))) ?_
      refine sss_cons (show SS _ _ _ _ b_law_pair_spoilt_4 from (ss_if (st_cmp or_lt (se_var (pv 2)) se_int (by first | rfl | exact nomark _ | decide)) (sss_one (ss_ret (se_bin or_add (se_bin or_add (se_sl (se_var (pv 0)) so_no (so_some (se_var (pv 1)))) (se_lst (sa_cons (se_ix hu1 (se_var (pv 4)) (se_var (pv 2)) (fun _ _ => rfl)) sa_nil))) (se_sl (se_var (pv 0)) (so_some (se_bin or_add (se_var (pv 1)) se_int)) so_no)))) sss_nil)) ?_
      refine sss_cons (show SS _ _ _ _ b_law_pair_spoilt_5 from (ss_if (st_cmp (or_eq hu) (se_var (pv 2)) se_int (by first | rfl | exact nomark _ | decide)) (sss_one (ss_ret (se_bin or_add (se_bin or_add (se_sl (se_var (pv 0)) so_no (so_some (se_var (pv 1)))) (se_lst (sa_cons (se_var (pv 3)) (sa_cons (se_var (pv 3)) sa_nil)))) (se_sl (se_var (pv 0)) (so_some (se_bin or_add (se_var (pv 1)) se_int)) so_no)))) sss_nil)) ?_
      exact sss_one (show SS _ _ _ _ b_law_pair_spoilt_6 from (ss_ret (se_bin or_add (se_bin or_add (se_sl (se_var (pv 0)) so_no (so_some (se_var (pv 1)))) (se_lst (sa_cons (se_var (pv 3)) (sa_cons (se_tup (sa_cons (se_bin or_sub (se_ix hu1 (se_var (pv 3)) se_int (fun _ _ => rfl)) se_int) (sa_cons (se_ix hu1 (se_var (pv 3)) se_int (fun _ _ => rfl)) sa_nil))) sa_nil)))) (se_sl (se_var (pv 0)) (so_some (se_bin or_add (se_var (pv 1)) se_int)) so_no)))))
/-! _law_spoilt -/
abbrev s_law_spoilt : Stmt := topS 14
theorem sc_law_spoilt : FnScope ["_law_kind", "_law_pairs", "_law_at", "_law_way", "_law_some"] ["_law_kind", "_law_pairs", "_law_at", "_law_way"] (defScope s_law_spoilt) := ⟨rfl, rfl, rfl, by decide +kernel, rfl, by decide +kernel, by decide +kernel⟩
noncomputable def b_law_spoilt_0 : GS := (mIte (mT (mBin oLt (mVar 3) (mC (.int 15)))) (mRet (mTup (mCons (mVar 0) (mCons (mCB oTuple (mCons (mCall g_law_pair_spoilt (mCons (mVar 1) (mCons (mVar 2) (mCons (mVar 3) mNil)))) mNil)) mNil)))) mSkip)
noncomputable def b_law_spoilt_1 : GS := (mIte (mT (mBin oEq (mVar 3) (mC (.int 15)))) (mRet (mTup (mCons (mVar 0) (mCons (mCB oList (mCons (mVar 1) mNil)) mNil)))) mSkip)
noncomputable def b_law_spoilt_2 : GS := (mIte (mT (mBin oEq (mVar 3) (mC (.int 16)))) (mRet (mLst (mCons (mVar 0) (mCons (mCB oTuple (mCons (mVar 1) mNil)) mNil)))) mSkip)
noncomputable def b_law_spoilt_3 : GS := (mSet 4 (mLst (mCons (mTup (mCons (mBin oAdd (mVar 0) (mC (.str "s"))) (mCons (mCB oTuple (mCons (mVar 1) mNil)) mNil))) (mCons (mTup (mCons (mVar 0) (mCons (mCB oTuple (mCons (mVar 1) mNil)) (mCons (mC (.int 7)) mNil)))) (mCons (mTup (mCons (mVar 0) mNil)) (mCons (mTup mNil) (mCons (mC .non) (mCons (mTup (mCons (mC (.int 7)) (mCons (mCB oTuple (mCons (mVar 1) mNil)) mNil))) mNil))))))))
noncomputable def b_law_spoilt_4 : GS := (mRet (mBin oIx (mBin oAdd (mVar 4) (mLst (mCons (mTup (mCons (mC .non) (mCons (mCB oTuple (mCons (mVar 1) mNil)) mNil))) (mCons (mTup (mCons (mTup (mCons (mVar 0) mNil)) (mCons (mCB oTuple (mCons (mVar 1) mNil)) mNil))) mNil)))) (mBin oSub (mVar 3) (mC (.int 17)))))
noncomputable def b_law_spoilt : GS := (mSeq b_law_spoilt_0 (mSeq b_law_spoilt_1 (mSeq b_law_spoilt_2 (mSeq b_law_spoilt_3 b_law_spoilt_4))))
noncomputable def g_law_spoilt : Fn := mDef 4 5 b_law_spoilt
theorem cal_law_spoilt (T : Tx fa fn tf K mg) : Cal P w K mg base C 2 "_law_spoilt" ["_law_kind", "_law_pairs", "_law_at", "_law_way"] g_law_spoilt :=
  ok_calT (st := s_law_spoilt) (N := ["_law_kind", "_law_pairs", "_law_at", "_law_way", "_law_some"]) (k := 1) (body := b_law_spoilt) (T.def_ 10 21) sc_law_spoilt (fun _ _ _ _ _ _ us hl => match us, hl with | [_, _, _, _], _ => rfl)
    (fun X W f cdv A outer s H E hX hW hr hp tk => by
      have hN := sc_law_spoilt.nd
      have hu := room100 hr
      have hu1 := L2.hu_of hr
      have lx := lets_of tk
      refine sss_cons (show SS _ _ _ _ b_law_spoilt_0 from (ss_if (st_cmp or_lt (se_var (pv 3)) se_int (by first | rfl | exact nomark _ | decide)) (sss_one (ss_ret (se_tup (sa_cons (se_var (pv 0)) (sa_cons (se_cty cl_tuple rfl (T.free 15) bv_tuple (sa_cons (se_cal (cal_law_pair_spoilt T) (hr.mono (by decide)) lx (sa_cons (se_var (pv 1)) (sa_cons (se_var (pv 2)) (sa_cons (se_var (pv 3)) sa_nil)))) sa_nil)) sa_nil))))) sss_nil)) ?_
      refine sss_cons (show SS _ _ _ _ b_law_spoilt_1 from (ss_if (st_cmp (or_eq hu) (se_var (pv 3)) se_int (by first | rfl | exact nomark _ | decide)) (sss_one (ss_ret (se_tup (sa_cons (se_var (pv 0)) (sa_cons (se_cty (cl_list rfl) rfl (T.free 19) bv_list (sa_cons (se_var (pv 1)) sa_nil)) sa_nil))))) sss_nil)) ?_
      refine sss_cons (show SS _ _ _ _ b_law_spoilt_2 from (ss_if (st_cmp (or_eq hu) (se_var (pv 3)) se_int (by first | rfl | exact nomark _ | decide)) (sss_one (ss_ret (se_lst (sa_cons (se_var (pv 0)) (sa_cons (se_cty cl_tuple rfl (T.free 15) bv_tuple (sa_cons (se_var (pv 1)) sa_nil)) sa_nil))))) sss_nil)) ?_
      refine sss_cons (show SS _ _ _ _ b_law_spoilt_3 from (ss_set hN rfl (by first | exact Or.inl rfl | exact Or.inr rfl) (se_lst (sa_cons (se_tup (sa_cons (se_bin or_add (se_var (pv 0)) se_str) (sa_cons (se_cty cl_tuple rfl (T.free 15) bv_tuple (sa_cons (se_var (pv 1)) sa_nil)) sa_nil))) (sa_cons (se_tup (sa_cons (se_var (pv 0)) (sa_cons (se_cty cl_tuple rfl (T.free 15) bv_tuple (sa_cons (se_var (pv 1)) sa_nil)) (sa_cons se_int sa_nil)))) (sa_cons (se_tup (sa_cons (se_var (pv 0)) sa_nil)) (sa_cons (se_tup sa_nil) (sa_cons se_non (sa_cons (se_tup (sa_cons se_int (sa_cons (se_cty cl_tuple rfl (T.free 15) bv_tuple (sa_cons (se_var (pv 1)) sa_nil)) sa_nil))) sa_nil))))))))) ?_
      exact sss_one (show SS _ _ _ _ b_law_spoilt_4 from (ss_ret (se_ix hu1 (se_bin or_add (se_var (pv 4)) (se_lst (sa_cons (se_tup (sa_cons se_non (sa_cons (se_cty cl_tuple rfl (T.free 15) bv_tuple (sa_cons (se_var (pv 1)) sa_nil)) sa_nil))) (sa_cons (se_tup (sa_cons (se_tup (sa_cons (se_var (pv 0)) sa_nil)) (sa_cons (se_cty cl_tuple rfl (T.free 15) bv_tuple (sa_cons (se_var (pv 1)) sa_nil)) sa_nil))) sa_nil)))) (se_bin or_sub (se_var (pv 3)) se_int) (fun _ _ => rfl)))))
/-! law -/
abbrev s_law : Stmt := topS 15
theorem sc_law : FnScope ["_law_script", "_law_kind", "_law_size", "_law_start", "_law_pairs", "_law_least", "_law_most", "_law_way"] ["_law_script"] (defScope s_law) := ⟨rfl, rfl, rfl, by decide +kernel, rfl, by decide +kernel, by decide +kernel⟩
noncomputable def b_law_0 : GS := (mSet 1 (mBin oIx (mLst (mCons (mC (.str "leaf")) (mCons (mC (.str "branch")) mNil))) (mBin oMod (mCall g_law_cell_at (mCons (mVar 0) (mCons (mC (.int 0)) mNil))) (mC (.int 2)))))
noncomputable def b_law_1 : GS := (mSet 2 (mBin oMod (mCall g_law_cell_at (mCons (mVar 0) (mCons (mC (.int 1)) mNil))) (mC (.int 9))))
noncomputable def b_law_2 : GS := (mIte (mT (mBin oEq (mBin oMod (mBin oDiv (mCall g_law_cell_at (mCons (mVar 0) (mCons (mC (.int 1)) mNil))) (mC (.int 9))) (mC (.int 4))) (mC (.int 1)))) (mSet 2 (mBin oMod (mBin oDiv (mCall g_law_cell_at (mCons (mVar 0) (mCons (mC (.int 1)) mNil))) (mC (.int 36))) (mC (.int 65)))) mSkip)
noncomputable def b_law_3 : GS := (mSet 3 (mBin oAdd (mBin oSub (mBin oMod (mBin oMul (mCall g_law_cell_at (mCons (mVar 0) (mCons (mC (.int 2)) mNil))) (mBin oAdd (mBin oPow (mC (.int 10)) (mC (.int 41))) (mC (.int 7)))) (mBin oSub (mBin oMul (mC (.int 2)) (mBin oPow (mC (.int 10)) (mC (.int 60)))) (mC (.int 300)))) (mBin oPow (mC (.int 10)) (mC (.int 60)))) (mC (.int 1))))
noncomputable def b_law_4 : GS := (mSet 4 (mCall g_law_pairs_by (mCons (mVar 1) (mCons (mVar 3) (mCons (mVar 2) (mCons (mBin oMod (mCall g_law_cell_at (mCons (mVar 0) (mCons (mC (.int 3)) mNil))) (mC (.int 9000))) mNil))))))
noncomputable def b_law_5 : GS := (mSet 5 (mBin oAdd (mBin oSub (mVar 2) (mC (.int 2))) (mBin oMod (mCall g_law_cell_at (mCons (mVar 0) (mCons (mC (.int 4)) mNil))) (mC (.int 4)))))
noncomputable def b_law_6 : GS := (mSet 6 (mBin oAdd (mBin oSub (mVar 2) (mC (.int 1))) (mBin oMod (mBin oDiv (mCall g_law_cell_at (mCons (mVar 0) (mCons (mC (.int 4)) mNil))) (mC (.int 4))) (mC (.int 4)))))
noncomputable def b_law_7 : GS := (mIte (mNot (mT (mCall g_law_says (mCons (mCall g_is_block (mCons (mTup (mCons (mVar 1) (mCons (mCB oTuple (mCons (mVar 4) mNil)) mNil))) (mCons (mVar 5) (mCons (mVar 6) mNil)))) (mCons (mAndV (mBin oLe (mVar 5) (mVar 2)) (mBin oLe (mVar 2) (mVar 6))) mNil))))) (mRet (mC (.bl false))) mSkip)
noncomputable def b_law_8 : GS := (mSet 7 (mBin oMod (mBin oMod (mBin oMul (mCall g_law_cell_at (mCons (mVar 0) (mCons (mC (.int 5)) mNil))) (mC (.int 48271))) (mC (.int 1009))) (mC (.int 33))))
noncomputable def b_law_9 : GS := (mIte (mT (mBin oGt (mVar 7) (mC (.int 24)))) (mSet 7 (mBin oAdd (mC (.int 13)) (mBin oMod (mVar 7) (mC (.int 2))))) mSkip)
noncomputable def b_law_10 : GS := (mIte (mOr (mT (mBin oEq (mBin oMod (mCall g_law_cell_at (mCons (mVar 0) (mCons (mC (.int 5)) mNil))) (mC (.int 3))) (mC (.int 0)))) (mAnd (mT (mBin oEq (mVar 2) (mC (.int 0)))) (mT (mBin oLt (mVar 7) (mC (.int 15)))))) (mRet (mBin oIs (mCall g_is_block (mCons (mTup (mCons (mVar 1) (mCons (mCB oTuple (mCons (mVar 4) mNil)) mNil))) (mCons (mC (.int 0)) (mCons (mC (.int 64)) mNil)))) (mC (.bl true)))) mSkip)
noncomputable def b_law_11 : GS := (mRet (mBin oIs (mCall g_is_block (mCons (mCall g_law_spoilt (mCons (mVar 1) (mCons (mVar 4) (mCons (mBin oMod (mCall g_law_cell_at (mCons (mVar 0) (mCons (mC (.int 6)) mNil))) (mCB oMax2 (mCons (mC (.int 1)) (mCons (mVar 2) mNil)))) (mCons (mVar 7) mNil))))) (mCons (mC (.int 0)) (mCons (mC (.int 70)) mNil)))) (mC (.bl false))))
noncomputable def b_law : GS := (mSeq b_law_0 (mSeq b_law_1 (mSeq b_law_2 (mSeq b_law_3 (mSeq b_law_4 (mSeq b_law_5 (mSeq b_law_6 (mSeq b_law_7 (mSeq b_law_8 (mSeq b_law_9 (mSeq b_law_10 b_law_11)))))))))))
noncomputable def g_law : Fn := mDef 1 8 b_law
theorem ok_law (T : Tx fa fn tf K mg) {f : Addr} {fd : FuncData} (F : Fun K "law" "law" s_law f fd) : FnOk P w K mg base (L2.CX P w) 5 f fd ["_law_script"] (spG K mg C g_law) :=
  ok_fnT (N := ["_law_script", "_law_kind", "_law_size", "_law_start", "_law_pairs", "_law_least", "_law_most", "_law_way"]) (ps := ["_law_script"]) (k := 4) (body := b_law) F sc_law
    (fun X W f cdv A outer s H E hX hW hr hp tk => by
      have hN := sc_law.nd
      have hu := room100 hr
      have hu1 := L2.hu_of hr
      have lx := lets_of tk
      refine sss_cons (show SS _ _ _ _ b_law_0 from (ss_set hN rfl (by first | exact Or.inl rfl | exact Or.inr rfl) (se_ix hu1 (se_lst (sa_cons se_str (sa_cons se_str sa_nil))) (se_bin or_mod (se_cal (cal_law_cell_at T) (hr.mono (by decide)) lx (sa_cons (se_var (pv 0)) (sa_cons se_int sa_nil))) se_int) (fun _ _ => rfl)))) ?_
      refine sss_cons (show SS _ _ _ _ b_law_1 from (ss_set hN rfl (by first | exact Or.inl rfl | exact Or.inr rfl) (se_bin or_mod (se_cal (cal_law_cell_at T) (hr.mono (by decide)) lx (sa_cons (se_var (pv 0)) (sa_cons se_int sa_nil))) se_int))) ?_
      refine sss_cons (show SS _ _ _ _ b_law_2 from (ss_if (st_cmp (or_eq hu) (se_bin or_mod (se_bin or_div (se_cal (cal_law_cell_at T) (hr.mono (by decide)) lx (sa_cons (se_var (pv 0)) (sa_cons se_int sa_nil))) se_int) se_int) se_int (by first | rfl | exact nomark _ | decide)) (sss_one (ss_set hN rfl (by first | exact Or.inl rfl | exact Or.inr rfl) (se_bin or_mod (se_bin or_div (se_cal (cal_law_cell_at T) (hr.mono (by decide)) lx (sa_cons (se_var (pv 0)) (sa_cons se_int sa_nil))) se_int) se_int))) sss_nil)) ?_
      refine sss_cons (show SS _ _ _ _ b_law_3 from (ss_set hN rfl (by first | exact Or.inl rfl | exact Or.inr rfl) (se_bin or_add (se_bin or_sub (se_bin or_mod (se_bin or_mul (se_cal (cal_law_cell_at T) (hr.mono (by decide)) lx (sa_cons (se_var (pv 0)) (sa_cons se_int sa_nil))) (se_bin or_add (se_bin or_pow se_int se_int) se_int)) (se_bin or_sub (se_bin or_mul se_int (se_bin or_pow se_int se_int)) se_int)) (se_bin or_pow se_int se_int)) se_int))) ?_
      refine sss_cons (show SS _ _ _ _ b_law_4 from (ss_set hN rfl (by first | exact Or.inl rfl | exact Or.inr rfl) (se_cal (cal_law_pairs_by T) (hr.mono (by decide)) lx (sa_cons (se_var (pv 1)) (sa_cons (se_var (pv 3)) (sa_cons (se_var (pv 2)) (sa_cons (se_bin or_mod (se_cal (cal_law_cell_at T) (hr.mono (by decide)) lx (sa_cons (se_var (pv 0)) (sa_cons se_int sa_nil))) se_int) sa_nil))))))) ?_
      refine sss_cons (show SS _ _ _ _ b_law_5 from (ss_set hN rfl (by first | exact Or.inl rfl | exact Or.inr rfl) (se_bin or_add (se_bin or_sub (se_var (pv 2)) se_int) (se_bin or_mod (se_cal (cal_law_cell_at T) (hr.mono (by decide)) lx (sa_cons (se_var (pv 0)) (sa_cons se_int sa_nil))) se_int)))) ?_
      refine sss_cons (show SS _ _ _ _ b_law_6 from (ss_set hN rfl (by first | exact Or.inl rfl | exact Or.inr rfl) (se_bin or_add (se_bin or_sub (se_var (pv 2)) se_int) (se_bin or_mod (se_bin or_div (se_cal (cal_law_cell_at T) (hr.mono (by decide)) lx (sa_cons (se_var (pv 0)) (sa_cons se_int sa_nil))) se_int) se_int)))) ?_
      refine sss_cons (show SS _ _ _ _ b_law_7 from (ss_if (st_not (st_val (se_cal (cal_law_says T) (hr.mono (by decide)) lx (sa_cons (se_cal (cal_is_block T) (hr.mono (by decide)) lx (sa_cons (se_tup (sa_cons (se_var (pv 1)) (sa_cons (se_cty cl_tuple rfl (T.free 15) bv_tuple (sa_cons (se_var (pv 4)) sa_nil)) sa_nil))) (sa_cons (se_var (pv 5)) (sa_cons (se_var (pv 6)) sa_nil)))) (sa_cons (se_and (se_cmp or_le (se_var (pv 5)) (se_var (pv 2)) (by first | rfl | exact nomark _ | decide)) (se_one (se_cmp or_le (se_var (pv 2)) (se_var (pv 6)) (by first | rfl | exact nomark _ | decide)))) sa_nil))))) (sss_one (ss_ret se_bl)) sss_nil)) ?_
      refine sss_cons (show SS _ _ _ _ b_law_8 from (ss_set hN rfl (by first | exact Or.inl rfl | exact Or.inr rfl) (se_bin or_mod (se_bin or_mod (se_bin or_mul (se_cal (cal_law_cell_at T) (hr.mono (by decide)) lx (sa_cons (se_var (pv 0)) (sa_cons se_int sa_nil))) se_int) se_int) se_int))) ?_
      refine sss_cons (show SS _ _ _ _ b_law_9 from (ss_if (st_cmp or_gt (se_var (pv 7)) se_int (by first | rfl | exact nomark _ | decide)) (sss_one (ss_set hN rfl (by first | exact Or.inl rfl | exact Or.inr rfl) (se_bin or_add se_int (se_bin or_mod (se_var (pv 7)) se_int)))) sss_nil)) ?_
      refine sss_cons (show SS _ _ _ _ b_law_10 from (ss_if (SW.st (sw_or (st_cmp (or_eq hu) (se_bin or_mod (se_cal (cal_law_cell_at T) (hr.mono (by decide)) lx (sa_cons (se_var (pv 0)) (sa_cons se_int sa_nil))) se_int) se_int (by first | rfl | exact nomark _ | decide)) (sw_or1 (SW.st (sw_and (st_cmp (or_eq hu) (se_var (pv 2)) se_int (by first | rfl | exact nomark _ | decide)) (sw_and1 (st_cmp or_lt (se_var (pv 7)) se_int (by first | rfl | exact nomark _ | decide)))))))) (sss_one (ss_ret (se_cmp or_is (se_cal (cal_is_block T) (hr.mono (by decide)) lx (sa_cons (se_tup (sa_cons (se_var (pv 1)) (sa_cons (se_cty cl_tuple rfl (T.free 15) bv_tuple (sa_cons (se_var (pv 4)) sa_nil)) sa_nil))) (sa_cons se_int (sa_cons se_int sa_nil)))) se_bl (by first | rfl | exact nomark _ | decide)))) sss_nil)) ?_
      exact sss_one (show SS _ _ _ _ b_law_11 from (ss_ret (se_cmp or_is (se_cal (cal_is_block T) (hr.mono (by decide)) lx (sa_cons (se_cal (cal_law_spoilt T) (hr.mono (by decide)) lx (sa_cons (se_var (pv 1)) (sa_cons (se_var (pv 4)) (sa_cons (se_bin or_mod (se_cal (cal_law_cell_at T) (hr.mono (by decide)) lx (sa_cons (se_var (pv 0)) (sa_cons se_int sa_nil))) (se_cb (cl_max2 rfl) rfl (T.free 22) bv_max (sa_cons se_int (sa_cons (se_var (pv 2)) sa_nil)))) (sa_cons (se_var (pv 7)) sa_nil))))) (sa_cons se_int (sa_cons se_int sa_nil)))) se_bl (by first | rfl | exact nomark _ | decide)))))
end
abbrev R : PySem.W.OpenRow := PySem.W.OpenLaw.row PySem.Challenge.rw_btreelog_k04_a_block
abbrev hk : PySem.W.Hook := hookB 4 fa fn tf
def ob (s : PySem.W.SharedT) : AlB := obsBG 4 fa fn tf (HandSHeadRun.getT s)
theorem ob_eq (s : PySem.W.SharedT) : ob s = hk.obs s.abs := obsBG_eq (HandSHeadRun.getT_eq s)
theorem run (w : World) : HandSHeadRun.RunEq R (PySem.W.view R.prog [15]) hk ob 4000 ["KEY_LIMIT", "VALUE_SIGNS", "is_whole", "is_key", "is_value", "is_pair", "is_block", "_law_cell_at", "_law_value_by", "_law_says", "_law_pairs_by", "_law_pair_spoilt", "_law_spoilt"] w := by
  intro os
  kernel_rfl
open PySem.W PySem.Calls PyProof.Rows in
theorem holds_of (law : ∀ ns : List Int, ns.length ≤ 63 → (∀ z ∈ ns, Builtin.Int.intBits z ≤ 1048576) → ∃ M, g_law [.scr ns] [] = some (.ok (.bl true) M)) : PySem.Challenge.rw_btreelog_k04_a_block.Holds := by
  w_on; o_law
  refine HandSHeadRun.head_any (r := OpenLaw.row PySem.Challenge.rw_btreelog_k04_a_block) (q := view (OpenLaw.row PySem.Challenge.rw_btreelog_k04_a_block).prog [15]) (H := hk) (ob := ob) (M := 4000) (loose := ["KEY_LIMIT", "VALUE_SIGNS", "is_whole", "is_key", "is_value", "is_pair", "is_block", "_law_cell_at", "_law_value_by", "_law_says", "_law_pairs_by", "_law_pair_spoilt", "_law_spoilt"]) (d := HandSHeadRun.topDef (OpenLaw.row PySem.Challenge.rw_btreelog_k04_a_block).prog 15) (kwd := []) ob_eq
    (by kernel_rfl) (fun s => by kernel_rfl) run (by kernel_rfl) (by kernel_rfl) (by kernel_rfl) (by rfl) (by first | assumption | decide +kernel) (by decide +kernel) ⟨rfl, rfl, rfl, rfl, rfl, by decide +kernel⟩ ?hw ?hc
  case hw => w_witness2
  case hc =>
    exact bl_walk (l := PySem.Challenge.rw_btreelog_k04_a_block) (n := 63) (k := 5) (j := 23) (x := "_law_script") (y := "law") (st := s_law) (g := g_law) (fun _ => 0) 11 rfl (by decide) (by kernel_rfl) ⟨rfl, by decide, by decide⟩ (by kernel_rfl) rfl rfl
      (fun _ _ _ _ _ _ us hl => match us, hl with | [_], _ => rfl) (fun w K mg base f fd T F => ok_law T F) law
end BK04
namespace BK04
open BL
open PySem (Str)
open BP (T goodS pairB rowB blockB SeenP SeenB Kn shortD valB posB keyB keyOf leafS branchS ix0 ix1 ix2)
variable {M : Mem}
theorem p_cell0 (ns : List Int) (k : Int) (M : Mem) (h : 0 ≤ k) : g_law_cell_at [.scr ns, .int k] M = some (.ok (.int (cell ns k.toNat)) M) := p_gcell0 ns k M h
theorem p_block {d : D} {least most : Int} (h : SeenB M d) (hz : ∀ a ds, d = .tup [a, .tup ds] → ds.length < 1000000) : g_is_block [d, .int least, .int most] M = some (.ok (.bl (blockB d least most)) M) := BP.p_block h hz
theorem p_says (a b : Bool) (M : Mem) : g_law_says [.bl a, .bl b] M = some (.ok (.bl (a == b)) M) := by
  have h1 : oIs (.bl a) (.bl true) M = some (.bl (a == true), M) := rfl
  have h2 : oIs (.bl a) (.bl false) M = some (.bl (a == false), M) := rfl
  cases a <;> simp [g_law_says, b_law_says, b_law_says_0, h1, h2]
/-- the text that signs are taken from -/
def some94 : List Nat := (Str.ofString " !\"#$&'()*+,-./0123456789:;<=>?@ABCDEFGHIJKLMNOPQRSTUVWXYZ[\\]^_`").cps.toList ++ (Str.ofString "abcdefghijklmnopqrstuvwxyz{|}~").cps.toList
theorem some94_len : some94.length = 94 := by decide +kernel
theorem some94_good : ∀ c ∈ some94, 32 ≤ c ∧ c ≤ 126 := by decide +kernel
def sgn (c s : Int) : D → D
  | .int k => .str ⟨#[some94.getD ((c + s * k) % 94).toNat 32]⟩
  | _ => .non
theorem p_value_by (c0 : Int) (h0 : 0 ≤ c0 ∧ c0 ≤ 100000) : ∃ (l : List Nat) (J : Mem), goodS l ∧ g_law_value_by [.int c0] M = some (.ok (T l) (M ++ J)) := by
  simp only [g_law_value_by, b_law_value_by, ev_def1]
  have hadd : oAdd (.str (Str.ofString " !\"#$&'()*+,-./0123456789:;<=>?@ABCDEFGHIJKLMNOPQRSTUVWXYZ[\\]^_`")) (.str (Str.ofString "abcdefghijklmnopqrstuvwxyz{|}~")) M = some (T some94, M) := by
    rw [add_str, if_pos (by decide +kernel)]
    rfl
  have m0 : mulFits c0 69621 := fits_small (by constructor <;> omega) (by constructor <;> omega)
  generalize hc : c0 * 69621 % 2097143 = c
  have c1 : 0 ≤ c ∧ c < 2097143 := by rw [← hc]; exact ⟨Int.emod_nonneg _ (by decide), Int.emod_lt_of_pos _ (by decide)⟩
  have e02 : mSeq b_law_value_by_0 (mSeq b_law_value_by_1 b_law_value_by_2) ([some (.int c0)] ++ List.replicate (5 - 1) none) M = some (.nx [some (.int c), some (T some94), none, none, none], M) := by
    simp [b_law_value_by_0, b_law_value_by_1, b_law_value_by_2, hadd, mul_int m0, hc]
  obtain ⟨n, hn, e34⟩ : ∃ n : Nat, n ≤ 60 ∧ mSeq b_law_value_by_3 b_law_value_by_4 [some (.int c), some (T some94), none, none, none] M = some (.nx [some (.int c), some (T some94), some (.int n), none, none], M) := by
    by_cases h : c / 5 % 3 = 1
    · obtain ⟨n, h4⟩ := Int.eq_ofNat_of_zero_le (Int.emod_nonneg (c / 15) (show (61 : Int) ≠ 0 by decide))
      exact ⟨n, by omega, by simp [b_law_value_by_3, b_law_value_by_4, h, h4]⟩
    · obtain ⟨n, h4⟩ := Int.eq_ofNat_of_zero_le (Int.emod_nonneg c (show (5 : Int) ≠ 0 by decide))
      exact ⟨n, by omega, by simp [b_law_value_by_3, b_law_value_by_4, h, h4]⟩
  obtain ⟨s, hs, e5⟩ : ∃ s : Int, (0 ≤ s ∧ s ≤ 7) ∧ b_law_value_by_5 [some (.int c), some (T some94), some (.int n), none, none] M = some (.nx [some (.int c), some (T some94), some (.int n), some (.int s), none], M ++ [.lst [.int 0, .int 1, .int 7]]) := by
    have key : ∀ f : Int, L2.atI [D.int 0, .int 1, .int 7] (c / 915 % 3) = some (.int f) → b_law_value_by_5 [some (.int c), some (T some94), some (.int n), none, none] M = some (.nx [some (.int c), some (T some94), some (.int n), some (.int f), none], M ++ [.lst [.int 0, .int 1, .int 7]]) := fun f hx => by
      have := ix_lst (M := M ++ [.lst [.int 0, .int 1, .int 7]]) get_new hx
      simp [b_law_value_by_5, this]
    rcases (show c / 915 % 3 = 0 ∨ c / 915 % 3 = 1 ∨ c / 915 % 3 = 2 by omega) with h | h | h
    · exact ⟨0, by decide, key 0 (by rw [h]; rfl)⟩
    · exact ⟨1, by decide, key 1 (by rw [h]; rfl)⟩
    · exact ⟨7, by decide, key 7 (by rw [h]; rfl)⟩
  generalize hM1 : M ++ [Ob.lst [.int 0, .int 1, .int 7]] = M1 at e5
  generalize hL : [some (D.int c), some (T some94), some (.int (n : Int)), some (.int s), none] = L at e5
  have hi : mRange1 (mVar 2) L M1 = some (.ok ⟨rng 0 n, none⟩ M1) := range1_int (j := (n : Int)) (by rw [← hL]; simp) (by constructor <;> omega)
  have hl := lcG_map (ok := Src.ok ⟨rng 0 n, none⟩) (g := mName 4) (tt := mYes) (e := mBin oIx (mVar 1) (mBin oMod (mBin oAdd (mBin oDiv (mVar 0) (mC (.int 2745))) (mBin oMul (mVar 3) (mVar 4))) (mC (.int 94)))) (L := wipeL L [4]) (M := M1)
    (fun _ => true) (sgn (c / 2745) s) trivial (rng 0 n) (fun d hd => by
      obtain ⟨j, hj⟩ := List.mem_iff_getElem?.mp hd
      obtain ⟨rfl, hk⟩ := rng_get hj
      refine ⟨_, rfl, rfl, fun _ => ?_⟩
      have hm : mulFits s (j : Int) := fits_small (by constructor <;> omega) (by constructor <;> omega)
      have h1 := Int.emod_nonneg (c / 2745 + s * (j : Int)) (show (94 : Int) ≠ 0 by decide)
      have h2 := Int.emod_lt_of_pos (c / 2745 + s * (j : Int)) (show (0 : Int) < 94 by decide)
      have hx : L2.atI some94 ((c / 2745 + s * (j : Int)) % 94) = some (some94.getD ((c / 2745 + s * (j : Int)) % 94).toNat 32) := by
        rw [atI_pos h1, List.getD_eq_getElem?_getD, List.getElem?_eq_getElem (by rw [some94_len]; omega)]
        rfl
      have := ix_str (M := M1) (l := some94) (by rw [some94_len]; omega) hx
      rw [← hL]
      simp [wipeL, mul_int hm, this, sgn])
  rw [List.filter_eq_self.mpr (fun _ _ => rfl)] at hl
  generalize hll : (List.range n).map (fun k : Nat => some94.getD ((c / 2745 + s * (k : Int)) % 94).toNat 32) = l at *
  have len : l.length = n := by rw [← hll]; simp
  have hg : ∀ x ∈ l, 32 ≤ x ∧ x ≤ 126 := by
    rw [← hll]
    intro x hx
    obtain ⟨k, _, rfl⟩ := List.mem_map.mp hx
    rw [List.getD_eq_getElem?_getD]
    cases h : some94[((c / 2745 + s * (k : Int)) % 94).toNat]? with
    | none => decide
    | some y => exact some94_good y (List.mem_of_getElem? h)
  rw [show (rng 0 n).map (sgn (c / 2745) s) = l.map fun c => .str ⟨#[c]⟩ by
    rw [← hll, rng, List.map_map, List.map_map]
    exact List.map_congr_left fun k _ => by simp [sgn]] at hl
  have hlc := lc_at hi hl (by rw [List.length_map]; omega)
  refine ⟨l, [Ob.lst [.int 0, .int 1, .int 7], .lst (l.map fun c => .str ⟨#[c]⟩)], ⟨by omega, hg⟩, ?_⟩
  have hj : oJoin (.str (Str.ofString "")) [.ref M1.length] (M1 ++ [.lst (l.map fun c => .str ⟨#[c]⟩)]) = _ := join_signs get_new (by omega)
  rw [seq3 e02, seq2 e34, seq_step e5]
  simp [b_law_value_by_6, ev_mtS, hlc, hj]
  rw [← hM1]
  simp
/-- what a pair holds -/
def okv (leaf : Bool) (v : D) : Prop := if leaf = true then ∃ l, v = T l ∧ goodS l else ∃ i : Int, v = .int i ∧ 0 < i
structure Rows (leaf : Bool) (start : Int) (ds : List D) : Prop where
  at_ : ∀ (k : Nat) (d : D), ds[k]? = some d → ∃ v, d = .tup [.int (start + 2 * (k : Int)), v] ∧ okv leaf v
abbrev kindD (leaf : Bool) : D := .str (if leaf = true then leafS else branchS)
theorem okv_seen {leaf : Bool} {v : D} (h : okv leaf v) : Kn M v ∧ shortD v ∧ (if leaf = true then valB v = true else posB v = true) ∧ Pl 40 v := by
  unfold okv at h
  cases leaf with
  | true =>
    obtain ⟨l, rfl, hg⟩ := h
    refine ⟨BP.kn_str, ?_, ?_, pl_str ?_⟩
    · show Str.length _ < _
      rw [str_len]
      have := hg.1
      omega
    · simp only [if_true]
      show decide (goodS _) = true
      rw [str_cps]
      exact decide_eq_true hg
    · show (Array.all _ _) = true
      rw [← Array.all_toList]
      simp
      intro x hx
      have := hg.2 x hx
      omega
  | false =>
    obtain ⟨i, rfl, hi⟩ := h
    exact ⟨BP.kn_int, trivial, by simp [posB, hi], pl_int⟩
theorem okv_pair {leaf : Bool} {v : D} {k : Int} (h : okv leaf v) (hk : -(10 ^ 60) < k ∧ k < 10 ^ 60) : pairB leaf (.tup [.int k, v]) = true := by
  have := (okv_seen (M := []) h).2.2.1
  show (keyB (.int k) && if leaf = true then valB v else posB v) = true
  rw [show keyB (.int k) = true by show (decide _ && decide _) = true; rw [decide_eq_true hk.1, decide_eq_true hk.2]; rfl]
  cases leaf <;> simpa using this
theorem okv_seenP {leaf : Bool} {v a : D} (h : okv leaf v) (ha : Kn M a) : SeenP M (.tup [a, v]) := ⟨BP.kn_tup, fun a' b' e => by
  cases e
  exact ⟨ha, (okv_seen h).1, (okv_seen (M := []) h).2.1⟩⟩
theorem Rows.seen {leaf : Bool} {start : Int} {ds : List D} (h : Rows leaf start ds) : ∀ x ∈ ds, SeenP M x := fun x hx => by
  obtain ⟨k, hk⟩ := List.mem_iff_getElem?.mp hx
  obtain ⟨v, rfl, hv⟩ := h.at_ k x hk
  exact okv_seenP hv BP.kn_int
theorem Rows.row {leaf : Bool} {start : Int} {ds : List D} (h : Rows leaf start ds) (hl : ds.length ≤ 64) (hs : -(10 ^ 60) < start ∧ start < 10 ^ 60 - 200) : rowB leaf ds = true := by
  rw [BP.rowB_iff]
  refine ⟨fun d hd => ?_, fun k d e h1 h2 => ?_⟩
  · obtain ⟨k, hk⟩ := List.mem_iff_getElem?.mp hd
    obtain ⟨v, rfl, hv⟩ := h.at_ k d hk
    have := (List.getElem?_eq_some_iff.mp hk).1
    exact okv_pair hv (by omega)
  · obtain ⟨v, rfl, _⟩ := h.at_ k d h1
    obtain ⟨w, rfl, _⟩ := h.at_ (k + 1) e h2
    simp only [keyOf]
    omega
theorem p_pairs_by (leaf : Bool) (start c : Int) (n : Nat) (hn : n ≤ 64) (hc : 0 ≤ c ∧ c ≤ 9000) : ∃ r ds J, g_law_pairs_by [kindD leaf, .int start, .int n, .int c] M = some (.ok (.ref r) (M ++ J)) ∧ (M ++ J)[r]? = some (.lst ds) ∧ ds.length = n ∧ Rows leaf start ds := by
  simp only [g_law_pairs_by, b_law_pairs_by, b_law_pairs_by_0, b_law_pairs_by_1, ev_def4]
  have hkl := BP.kind_leaf (M := M) (leaf := leaf)
  generalize hL : [some (kindD leaf), some (D.int start), some (.int (n : Int)), some (.int c), none] = L
  have hi : mRange1 (mVar 2) L M = some (.ok ⟨rng 0 n, none⟩ M) := range1_int (j := (n : Int)) (by rw [← hL]; simp) (by constructor <;> omega)
  cases leaf with
  | true =>
    simp only [if_true] at hkl
    obtain ⟨ys, J, h1, h2, h3⟩ := lcG_grow (ok := Src.ok ⟨rng 0 n, none⟩) (g := mName 4) (e := mTup (mCons (mBin oAdd (mVar 1) (mBin oMul (mC (.int 2)) (mVar 4))) (mCons (mCall g_law_value_by (mCons (mBin oAdd (mVar 3) (mVar 4)) mNil)) mNil))) (L := wipeL L [4]) (P := fun d y => ∃ k : Int, d = .int k ∧ ∃ v, y = .tup [.int (start + 2 * k), v] ∧ okv true v) (rng 0 n) M (fun _ => trivial) (fun d hd J => by
      obtain ⟨j, hj⟩ := List.mem_iff_getElem?.mp hd
      obtain ⟨rfl, hk⟩ := rng_get hj
      obtain ⟨l, J2, hg, hv⟩ := p_value_by (M := M ++ J) (c + (j : Int)) (by omega)
      refine ⟨_, rfl, .tup [.int (start + 2 * (j : Int)), T l], J2, ?_, (0 + (j : Int)), rfl, T l, by simp, l, rfl, hg⟩
      have hm : mulFits 2 (j : Int) := fits_small (by constructor <;> omega) (by constructor <;> omega)
      simp only [List.append_assoc] at hv
      rw [← hL]
      simp [wipeL, mul_int hm, hv])
    rw [rng_length] at h2
    have hlc := lc_at hi h1 (by omega)
    refine ⟨(M ++ J).length, ys, J ++ [.lst ys], ?_, by rw [← List.append_assoc]; exact get_new, h2, ⟨fun k d hd => ?_⟩⟩
    · have v0 : L[0]? = some (some (.str leafS)) := by rw [← hL]; rfl
      simp [hL, v0, hkl, hlc]
    · have hkn := (List.getElem?_eq_some_iff.mp hd).1
      have hr : (rng 0 n)[k]? = some (.int (0 + (k : Int))) := by simp [rng, show k < n by omega]
      obtain ⟨j, e, v, rfl, hv⟩ := h3 k _ d hr hd
      cases e
      exact ⟨v, by simp, hv⟩
  | false =>
    simp only [Bool.false_eq_true, if_false] at hkl
    obtain ⟨ys, J, h1, h2, h3⟩ := lcG_grow (ok := Src.ok ⟨rng 0 n, none⟩) (g := mName 4) (e := mTup (mCons (mBin oAdd (mVar 1) (mBin oMul (mC (.int 2)) (mVar 4))) (mCons (mBin oAdd (mC (.int 1)) (mBin oMod (mBin oAdd (mVar 3) (mBin oMul (mC (.int 5)) (mVar 4))) (mC (.int 90)))) mNil))) (L := wipeL L [4]) (P := fun d y => ∃ k : Int, d = .int k ∧ ∃ v, y = .tup [.int (start + 2 * k), v] ∧ okv false v) (rng 0 n) M (fun _ => trivial) (fun d hd J => by
      obtain ⟨j, hj⟩ := List.mem_iff_getElem?.mp hd
      obtain ⟨rfl, hk⟩ := rng_get hj
      refine ⟨_, rfl, .tup [.int (start + 2 * (j : Int)), .int (1 + (c + 5 * (j : Int)) % 90)], [], ?_, (0 + (j : Int)), rfl, _, by simp; rfl, _, rfl, by omega⟩
      have hm : mulFits 2 (j : Int) := fits_small (by constructor <;> omega) (by constructor <;> omega)
      have hm5 : mulFits 5 (j : Int) := fits_small (by constructor <;> omega) (by constructor <;> omega)
      rw [← hL]
      simp [wipeL, mul_int hm, mul_int hm5])
    rw [rng_length] at h2
    have hlc := lc_at hi h1 (by omega)
    refine ⟨(M ++ J).length, ys, J ++ [.lst ys], ?_, by rw [← List.append_assoc]; exact get_new, h2, ⟨fun k d hd => ?_⟩⟩
    · have v0 : L[0]? = some (some (.str branchS)) := by rw [← hL]; rfl
      simp [hL, v0, hkl, hlc]
    · have hkn := (List.getElem?_eq_some_iff.mp hd).1
      have hr : (rng 0 n)[k]? = some (.int (0 + (k : Int))) := by simp [rng, show k < n by omega]
      obtain ⟨j, e, v, rfl, hv⟩ := h3 k _ d hr hd
      cases e
      exact ⟨v, by simp, hv⟩
/-! ### what is wrong with a pair -/
theorem rowB_mem {leaf : Bool} {ds : List D} {x : D} (h : x ∈ ds) (hx : pairB leaf x = false) : rowB leaf ds = false := by
  cases e : rowB leaf ds with
  | false => rfl
  | true =>
    have := ((BP.rowB_iff leaf ds).mp e).1 x h
    rw [hx] at this
    cases this
theorem rowB_next {leaf : Bool} {a b : List D} {x y : D} (h : ¬ keyOf x < keyOf y) : rowB leaf (a ++ x :: y :: b) = false := by
  cases e : rowB leaf (a ++ x :: y :: b) with
  | false => rfl
  | true =>
    refine absurd (((BP.rowB_iff leaf _).mp e).2 a.length x y ?_ ?_) h
    · rw [List.getElem?_append_right (Nat.le_refl _), Nat.sub_self]
      rfl
    · rw [List.getElem?_append_right (by omega), show a.length + 1 - a.length = 1 by omega]
      rfl
theorem keyB_str {s : Str} : keyB (.str s) = false := rfl
/-- a spoilt row: not good, all may be looked at -/
structure Spo (M' : Mem) (leaf : Bool) (n : Nat) (rows : List D) : Prop where
  bad : rowB leaf rows = false
  seen : ∀ x ∈ rows, SeenP M' x
  len : rows.length ≤ n + 1
theorem SeenP.app {M J : Mem} {x : D} (h : SeenP M x) : SeenP (M ++ J) x := by
  have kn : ∀ {d : D}, Kn M d → Kn (M ++ J) d := fun {d} ⟨k, h1, h2⟩ => by
    refine ⟨k, ?_, h2⟩
    cases d with
    | ref n =>
      unfold kindOf at h1 ⊢
      dsimp only at h1 ⊢
      cases hm : M[n]? with
      | none => rw [hm] at h1; cases h1
      | some o => rw [get_app hm]; rw [hm] at h1; exact h1
    | _ => exact h1
  exact ⟨kn h.1, fun a b e => ⟨kn (h.2 a b e).1, kn (h.2 a b e).2.1, (h.2 a b e).2.2⟩⟩
theorem p_pair_spoilt {leaf : Bool} {start : Int} {ds : List D} {r at_ w : Nat} (hr : M[r]? = some (.lst ds)) (hd : Rows leaf start ds) (hl : ds.length ≤ 64) (hat : at_ < ds.length) (hw : w < 15) (hs : -(10 ^ 60) < start ∧ start < 10 ^ 60 - 200) :
    ∃ q rows J, g_law_pair_spoilt [.ref r, .int at_, .int w] M = some (.ok (.ref q) (M ++ J)) ∧ (M ++ J)[q]? = some (.lst rows) ∧ Spo (M ++ J) leaf ds.length rows := by
  simp only [g_law_pair_spoilt, b_law_pair_spoilt, ev_def3]
  obtain ⟨v, hp, hv⟩ := hd.at_ at_ ds[at_] (List.getElem?_eq_getElem hat)
  generalize hk : start + 2 * (at_ : Int) = k at hp
  have hkr : -(10 ^ 60) < k ∧ k < 10 ^ 60 := by omega
  have hx : oIx (.ref r) (.int at_) M = some (.tup [.int k, v], M) := ix_lst hr (by rw [atI_nat, List.getElem?_eq_getElem hat, hp])
  generalize hpp : D.tup [.int k, v] = p at *
  have p0 : ∀ M, oIx p (.int 0) M = some (.int k, M) := fun M => by rw [← hpp]; exact ix0
  have p1 : ∀ M, oIx p (.int 1) M = some (v, M) := fun M => by rw [← hpp]; exact ix1
  have pl : ∀ M, oList [p] M = some (.ref M.length, M ++ [.lst [.int k, v]]) := fun M => by rw [← hpp]; rfl
  have hstr : ∀ M, oStr [.int k] M = some (.str (toString k), M) := fun M => by
    show (if k.natAbs.log2 < 1920 then some (D.str (toString k), M) else none) = _
    refine if_pos ?_
    by_cases h0 : k.natAbs = 0
    · rw [h0]
      decide
    · exact (Nat.log2_lt h0).mpr (by omega)
  generalize hsk : (toString k : String) = sk at hstr
  have e0 : b_law_pair_spoilt_0 ([some (.ref r), some (.int at_), some (.int w)] ++ List.replicate (5 - 3) none) M = some (.nx [some (.ref r), some (.int at_), some (.int w), some p, none], M) := by
    simp [b_law_pair_spoilt_0, hx]
  generalize hA : [D.tup [.int k], .tup [.int k, v, v], .ref M.length, .tup [.bl true, v], .tup [.int k, .non], .tup [.int (10 ^ 60), v]] = A
  generalize hB : [D.tup [.str sk, v], .tup [.int k, .ref (M.length + 2)], .tup [.int k, .bl true], .non, .tup [.int k, .int 0], .tup [.int k, .int (-1)]] = B
  have lA : A.length = 6 := by rw [← hA]; rfl
  have lB : B.length = 6 := by rw [← hB]; rfl
  have e1 : b_law_pair_spoilt_1 [some (.ref r), some (.int at_), some (.int w), some p, none] M = some (.nx [some (.ref r), some (.int at_), some (.int w), some p, some (.ref (M.length + 1))], M ++ [.lst [.int k, v], .lst A]) := by
    rw [← hA]
    simp [b_law_pair_spoilt_1, p0, p1, pl]
  have e2 : b_law_pair_spoilt_2 [some (.ref r), some (.int at_), some (.int w), some p, some (.ref (M.length + 1))] (M ++ [.lst [.int k, v], .lst A]) = some (.nx [some (.ref r), some (.int at_), some (.int w), some p, some (.ref (M.length + 4))], M ++ [.lst [.int k, v], .lst A, .lst [v], .lst B, .lst (A ++ B)]) := by
    have ha : oAdd (.ref (M.length + 1)) (.ref (M.length + 3)) (M ++ [.lst [.int k, v], .lst A, .lst [v], .lst B]) = some (.ref (M.length + 4), M ++ [.lst [.int k, v], .lst A, .lst [v], .lst B, .lst (A ++ B)]) := by
      rw [add_lst (xs := A) (ys := B) (get_plus 1) (get_plus 3) (by omega)]
      simp
    simp [b_law_pair_spoilt_2, p0, p1, hstr, hB, lB, ha]
  have e3 : b_law_pair_spoilt_3 [some (.ref r), some (.int at_), some (.int w), some p, some (.ref (M.length + 4))] (M ++ [.lst [.int k, v], .lst A, .lst [v], .lst B, .lst (A ++ B)]) = some (.nx [some (.ref r), some (.int at_), some (.int w), some p, some (.ref (M.length + 6))], M ++ [.lst [.int k, v], .lst A, .lst [v], .lst B, .lst (A ++ B), .lst [.tup [.int (-(10 ^ 60)), v]], .lst (A ++ B ++ [.tup [.int (-(10 ^ 60)), v]])]) := by
    have ha : oAdd (.ref (M.length + 4)) (.ref (M.length + 5)) (M ++ [.lst [.int k, v], .lst A, .lst [v], .lst B, .lst (A ++ B), .lst [.tup [.int (-(10 ^ 60)), v]]]) = some (.ref (M.length + 6), M ++ [.lst [.int k, v], .lst A, .lst [v], .lst B, .lst (A ++ B), .lst [.tup [.int (-(10 ^ 60)), v]], .lst (A ++ B ++ [.tup [.int (-(10 ^ 60)), v]])]) := by
      rw [add_lst (xs := A ++ B) (ys := [.tup [.int (-(10 ^ 60)), v]]) (get_plus 4) (get_plus 5) (by simp; omega)]
      simp
    simp at ha
    simp [b_law_pair_spoilt_3, p1, ha]
  generalize hJ : [Ob.lst [.int k, v], .lst A, .lst [v], .lst B, .lst (A ++ B), .lst [.tup [.int (-(10 ^ 60)), v]], .lst (A ++ B ++ [.tup [.int (-(10 ^ 60)), v]])] = J0 at e3
  have g6 : (M ++ J0)[M.length + 6]? = some (.lst (A ++ B ++ [.tup [.int (-(10 ^ 60)), v]])) := by rw [← hJ]; exact get_plus 6
  have gl0 : (M ++ J0)[M.length]? = some (.lst [.int k, v]) := by rw [← hJ]; exact get_at
  have gl2 : (M ++ J0)[M.length + 2]? = some (.lst [v]) := by rw [← hJ]; exact get_plus 2
  have gr := get_app (J := J0) hr
  have kv : ∀ M, Kn M v := fun M => (okv_seen hv).1
  have sv := (okv_seen (M := []) hv).2.1
  -- the thirteen
  have thirteen : ∀ x ∈ A ++ B ++ [D.tup [.int (-(10 ^ 60)), v]], pairB leaf x = false ∧ SeenP (M ++ J0) x := by
    have two : ∀ {a b : D}, Kn (M ++ J0) a → Kn (M ++ J0) b → shortD b → (keyB a = false ∨ (valB b = false ∧ posB b = false)) → pairB leaf (.tup [a, b]) = false ∧ SeenP (M ++ J0) (.tup [a, b]) := fun {a b} h1 h2 h3 h4 => by
      refine ⟨?_, BP.kn_tup, fun a' b' e => by cases e; exact ⟨h1, h2, h3⟩⟩
      show (keyB a && if leaf = true then valB b else posB b) = false
      rcases h4 with h | ⟨h, h'⟩
      · rw [h]
        rfl
      · rw [h, h']
        cases leaf <;> simp
    have other : ∀ {x : D}, Kn (M ++ J0) x → (∀ a b, x ≠ .tup [a, b]) → pairB leaf x = false ∧ SeenP (M ++ J0) x := fun {x} h1 h2 => by
      refine ⟨?_, h1, fun a b e => absurd e (h2 a b)⟩
      unfold pairB
      split
      · rename_i a b
        exact absurd rfl (h2 a b)
      · rfl
    intro x hx
    rw [← hA, ← hB] at hx
    simp only [List.cons_append, List.nil_append, List.mem_cons, List.not_mem_nil, or_false] at hx
    rcases hx with rfl | rfl | rfl | rfl | rfl | rfl | rfl | rfl | rfl | rfl | rfl | rfl | rfl
    · exact other BP.kn_tup (by intro a b e; cases e)
    · exact other BP.kn_tup (by intro a b e; cases e)
    · exact other (BP.kn_lst gl0) (by intro a b e; cases e)
    · exact two BP.kn_bl (kv _) sv (.inl rfl)
    · exact two BP.kn_int BP.kn_non trivial (.inr ⟨rfl, rfl⟩)
    · exact two BP.kn_int (kv _) sv (.inl (by decide))
    · exact two BP.kn_str (kv _) sv (.inl rfl)
    · exact two BP.kn_int (BP.kn_lst gl2) trivial (.inr ⟨rfl, rfl⟩)
    · exact two BP.kn_int BP.kn_bl trivial (.inr ⟨rfl, rfl⟩)
    · exact other BP.kn_non (by intro a b e; cases e)
    · exact two BP.kn_int BP.kn_int trivial (.inr ⟨rfl, rfl⟩)
    · exact two BP.kn_int BP.kn_int trivial (.inr ⟨rfl, rfl⟩)
    · exact two BP.kn_int (kv _) sv (.inl (by decide))
  have l13 : (A ++ B ++ [D.tup [.int (-(10 ^ 60)), v]]).length = 13 := by simp [lA, lB]
  generalize hC : A ++ B ++ [D.tup [.int (-(10 ^ 60)), v]] = C at *
  rw [seq_step e0, seq_step e1, seq_step e2, seq_step e3]
  -- a row put together
  have build : ∀ (M1 : Mem) (X : List D) (e : GE), M1[r]? = some (.lst ds) → X.length ≤ 2 → e [some (.ref r), some (.int at_), some (.int w), some p, some (.ref (M.length + 6))] (M1 ++ [.lst (ds.take at_)]) = some (.ok (.ref (M1.length + 1)) (M1 ++ [.lst (ds.take at_), .lst X])) →
      mRet (mBin oAdd (mBin oAdd (mSl (mVar 0) mNo (mSome (mVar 1))) e) (mSl (mVar 0) (mSome (mBin oAdd (mVar 1) (mC (.int 1)))) mNo)) [some (.ref r), some (.int at_), some (.int w), some p, some (.ref (M.length + 6))] M1 = some (.rt (.ref (M1.length + 4)), M1 ++ [.lst (ds.take at_), .lst X, .lst (ds.take at_ ++ X), .lst (ds.drop (at_ + 1)), .lst (ds.take at_ ++ X ++ ds.drop (at_ + 1))]) := fun M1 X e h1 hX hxr => by
    have hs1 : ∀ L M, L[1]? = some (some (D.int (at_ : Int))) → mSome (mVar 1) L M = some (.ok (some (at_ : Int)) M) := fun L M h => ev_some (by simp [h])
    have hs2 : ∀ L M, L[1]? = some (some (D.int (at_ : Int))) → mSome (mBin oAdd (mVar 1) (mC (.int 1))) L M = some (.ok (some ((at_ + 1 : Nat) : Int)) M) := fun L M h => ev_some (by simp [h])
    have s1 : oSl (.ref r) none (some (at_ : Int)) M1 = some (.ref M1.length, M1 ++ [.lst (ds.take at_)]) := by rw [sl_lst h1, cut_take]
    have a1 : oAdd (.ref M1.length) (.ref (M1.length + 1)) (M1 ++ [.lst (ds.take at_), .lst X]) = some (.ref (M1.length + 2), M1 ++ [.lst (ds.take at_), .lst X, .lst (ds.take at_ ++ X)]) := by
      rw [add_lst (xs := ds.take at_) (ys := X) get_at (get_plus 1) (by simp; omega)]
      simp
    have s2 : oSl (.ref r) (some ((at_ + 1 : Nat) : Int)) none (M1 ++ [.lst (ds.take at_), .lst X, .lst (ds.take at_ ++ X)]) = some (.ref (M1.length + 3), M1 ++ [.lst (ds.take at_), .lst X, .lst (ds.take at_ ++ X), .lst (ds.drop (at_ + 1))]) := by
      rw [sl_lst (get_app h1), cut_drop]
      simp
    have a2 : oAdd (.ref (M1.length + 2)) (.ref (M1.length + 3)) (M1 ++ [.lst (ds.take at_), .lst X, .lst (ds.take at_ ++ X), .lst (ds.drop (at_ + 1))]) = some (.ref (M1.length + 4), M1 ++ [.lst (ds.take at_), .lst X, .lst (ds.take at_ ++ X), .lst (ds.drop (at_ + 1)), .lst (ds.take at_ ++ X ++ ds.drop (at_ + 1))]) := by
      rw [add_lst (xs := ds.take at_ ++ X) (ys := ds.drop (at_ + 1)) (get_plus 2) (get_plus 3) (by simp; omega)]
      simp
    generalize hL : [some (D.ref r), some (.int (at_ : Int)), some (.int (w : Int)), some p, some (.ref (M.length + 6))] = L at *
    have v0 : L[0]? = some (some (.ref r)) := by rw [← hL]; rfl
    have v1 : L[1]? = some (some (.int (at_ : Int))) := by rw [← hL]; rfl
    rw [ev_ret, ev_bin, ev_bin, ev_sl, ev_var, v0]
    dsimp only [bnd]
    rw [ev_no]
    dsimp only [bnd]
    rw [hs1 L _ v1]
    dsimp only [bnd]
    rw [s1]
    dsimp only [ret, bnd]
    rw [hxr]
    dsimp only [bnd]
    rw [a1]
    dsimp only [ret, bnd]
    rw [ev_sl, ev_var, v0]
    dsimp only [bnd]
    rw [hs2 L _ v1]
    dsimp only [bnd]
    rw [ev_no]
    dsimp only [bnd]
    rw [s2]
    dsimp only [ret, bnd]
    rw [a2]
    rfl
  have tail : ∀ (X : List D), X.length ≤ 2 → (∀ x ∈ X, SeenP (M ++ J0) x) → rowB leaf (ds.take at_ ++ X ++ ds.drop (at_ + 1)) = false → ∀ b : Option (Rz D), (∃ J : Mem, b = some (Rz.ok (.ref ((M ++ J0).length + 4)) (M ++ J0 ++ [.lst (ds.take at_), .lst X, .lst (ds.take at_ ++ X), .lst (ds.drop (at_ + 1)), .lst (ds.take at_ ++ X ++ ds.drop (at_ + 1))])) ∧ J = J0) →
      ∃ q rows J, b = some (.ok (.ref q) (M ++ J)) ∧ (M ++ J)[q]? = some (.lst rows) ∧ Spo (M ++ J) leaf ds.length rows := fun X hX hXs hbad b ⟨_, hb, _⟩ => by
    refine ⟨(M ++ J0).length + 4, ds.take at_ ++ X ++ ds.drop (at_ + 1), J0 ++ [.lst (ds.take at_), .lst X, .lst (ds.take at_ ++ X), .lst (ds.drop (at_ + 1)), .lst (ds.take at_ ++ X ++ ds.drop (at_ + 1))], by rw [hb, List.append_assoc], by rw [← List.append_assoc]; exact get_plus 4, hbad, fun x hx => ?_, by simp; omega⟩
    rw [← List.append_assoc]
    refine SeenP.app ?_
    rcases List.mem_append.mp hx with hx | hx
    · rcases List.mem_append.mp hx with hx | hx
      · exact hd.seen x (List.mem_of_mem_take hx)
      · exact hXs x hx
    · exact hd.seen x (List.mem_of_mem_drop hx)
  have seenp : ∀ M, SeenP M p := fun M => by rw [← hpp]; exact okv_seenP hv BP.kn_int
  by_cases h13 : w < 13
  · obtain ⟨x, hxw⟩ : ∃ x, C[w]? = some x := ⟨C[w]'(by omega), List.getElem?_eq_getElem (by omega)⟩
    have hxm := List.mem_of_getElem? hxw
    have hix : oIx (.ref (M.length + 6)) (.int w) (M ++ J0 ++ [.lst (ds.take at_)]) = some (x, M ++ J0 ++ [.lst (ds.take at_)]) := ix_lst (get_app g6) (by rw [atI_nat, hxw])
    have hb := build (M ++ J0) [x] (mLst (mCons (mBin oIx (mVar 4) (mVar 2)) mNil)) gr (by simp) (by simp at hix; simp [hix]; omega)
    refine tail [x] (by simp) (fun y hy => by rw [List.mem_singleton.mp hy]; exact (thirteen x hxm).2) (rowB_mem (x := x) (by simp) (thirteen x hxm).1) _ ⟨J0, ?_, rfl⟩
    have hw13 : (w : Int) < 13 := by omega
    have ht : mT (mBin oLt (mVar 2) (mC (.int 13))) [some (.ref r), some (.int at_), some (.int w), some p, some (.ref (M.length + 6))] (M ++ J0) = some (.ok true (M ++ J0)) := by simp [hw13]
    rw [ev_seq, b_law_pair_spoilt_4, ev_ite, ht, bndS_ok, if_pos rfl, hb]
    rfl
  · have hw13 : ¬ (w : Int) < 13 := by omega
    have e4 : b_law_pair_spoilt_4 [some (.ref r), some (.int at_), some (.int w), some p, some (.ref (M.length + 6))] (M ++ J0) = some (.nx [some (.ref r), some (.int at_), some (.int w), some p, some (.ref (M.length + 6))], M ++ J0) := by
      simp [b_law_pair_spoilt_4, hw13]
    rw [seq_step e4]
    by_cases h14 : w = 13
    · have hb := build (M ++ J0) [p, p] (mLst (mCons (mVar 3) (mCons (mVar 3) mNil))) gr (by simp) (by simp; omega)
      refine tail [p, p] (by simp) (fun y hy => by
        have : y = p := by simpa using hy
        rw [this]
        exact seenp _) ?_ _ ⟨J0, ?_, rfl⟩
      · rw [List.append_assoc]
        exact rowB_next (by omega)
      · have hw13' : (w : Int) = 13 := by omega
        have ht : mT (mBin oEq (mVar 2) (mC (.int 13))) [some (.ref r), some (.int at_), some (.int w), some p, some (.ref (M.length + 6))] (M ++ J0) = some (.ok true (M ++ J0)) := by simp [hw13']
        rw [ev_seq, b_law_pair_spoilt_5, ev_ite, ht, bndS_ok, if_pos rfl, hb]
        rfl
    · have hw13' : ¬ (w : Int) = 13 := by omega
      have e5 : b_law_pair_spoilt_5 [some (.ref r), some (.int at_), some (.int w), some p, some (.ref (M.length + 6))] (M ++ J0) = some (.nx [some (.ref r), some (.int at_), some (.int w), some p, some (.ref (M.length + 6))], M ++ J0) := by
        simp [b_law_pair_spoilt_5, hw13']
      rw [seq_step e5]
      have hb := build (M ++ J0) [p, .tup [.int (k - 1), v]] (mLst (mCons (mVar 3) (mCons (mTup (mCons (mBin oSub (mBin oIx (mVar 3) (mC (.int 0))) (mC (.int 1))) (mCons (mBin oIx (mVar 3) (mC (.int 1))) mNil))) mNil))) gr (by simp) (by simp [p0, p1]; omega)
      refine tail [p, .tup [.int (k - 1), v]] (by simp) (fun y hy => by
        rcases List.mem_cons.mp hy with rfl | hy
        · exact seenp _
        · rw [List.mem_singleton.mp hy]
          exact okv_seenP hv BP.kn_int) ?_ _ ⟨J0, ?_, rfl⟩
      · rw [List.append_assoc]
        refine rowB_next ?_
        rw [← hpp]
        simp only [keyOf]
        omega
      · rw [b_law_pair_spoilt_6, hb]
        rfl
theorem tuple_at {n : Nat} {xs : List D} (h : M[n]? = some (.lst xs)) : ∀ J, oTuple [.ref n] (M ++ J) = some (.tup xs, M ++ J) := fun J => tuple_lst (get_app h)
theorem kind_ne {leaf : Bool} : decide ((if leaf = true then leafS else branchS) = leafS) = leaf := by
  cases leaf
  · decide +kernel
  · decide +kernel
theorem kind_pl {leaf : Bool} {n : Nat} : Pl n (kindD leaf) := by
  cases leaf
  · exact pl_str (by decide +kernel)
  · exact pl_str (by decide +kernel)
/-- a thing that is no block -/
structure NoB (M' : Mem) (x : D) : Prop where
  seen : SeenB M' x
  size : ∀ a ds, x = .tup [a, .tup ds] → ds.length < 1000000
  bad : blockB x 0 70 = false
theorem noB_kind {M : Mem} {a : D} {ds : List D} (ha : Pl 50 a) (h1 : a ≠ .str leafS) (h2 : a ≠ .str branchS) (hs : ∀ x ∈ ds, SeenP M x) (hl : ds.length ≤ 70) : NoB M (.tup [a, .tup ds]) := by
  refine ⟨⟨BP.kn_tup, fun a' b' e => ?_⟩, fun a' ds' e => ?_, ?_⟩
  · cases e
    exact ⟨BP.kn_tup, fun s hs => BP.ne_pl ha s hs, fun ds' e => by cases e; exact hs⟩
  · cases e
    omega
  · unfold blockB
    split
    · rename_i kind ds' heq
      cases heq
      have n1 : ¬ kind = leafS := fun z => h1 (by rw [z])
      have n2 : ¬ kind = branchS := fun z => h2 (by rw [z])
      simp [n1, n2]
    · rfl
theorem noB_shape {M : Mem} {x : D} (hk : Kn M x) (h : ∀ a b, x ≠ .tup [a, b]) : NoB M x := by
  refine ⟨⟨hk, fun a b e => absurd e (h a b)⟩, fun a ds e => absurd e (h a _), ?_⟩
  unfold blockB
  split
  · exact absurd rfl (h _ _)
  · rfl
theorem p_spoilt {leaf : Bool} {start : Int} {ds : List D} {r at_ w : Nat} (hr : M[r]? = some (.lst ds)) (hd : Rows leaf start ds) (hl : ds.length ≤ 64) (hat : at_ < ds.length ∨ 15 ≤ w) (hw : w < 25) (hs : -(10 ^ 60) < start ∧ start < 10 ^ 60 - 200) :
    ∃ x M', g_law_spoilt [kindD leaf, .ref r, .int at_, .int w] M = some (.ok x M') ∧ NoB M' x := by
  simp only [g_law_spoilt, b_law_spoilt, ev_def4]
  have seen : ∀ M, ∀ x ∈ ds, SeenP M x := fun M x hx => by
    obtain ⟨k, hk⟩ := List.mem_iff_getElem?.mp hx
    obtain ⟨v, rfl, hv⟩ := hd.at_ k x hk
    exact okv_seenP hv BP.kn_int
  have ht := tuple_at hr
  have ht0 : oTuple [.ref r] M = some (.tup ds, M) := tuple_lst hr
  by_cases h15 : w < 15
  · have hw15 : (w : Int) < 15 := by omega
    obtain ⟨q, rows, J, h1, h2, h3⟩ := p_pair_spoilt (M := M) (r := r) hr hd hl (hat.resolve_right (by omega)) h15 hs
    have h4 : oTuple [.ref q] (M ++ J) = _ := tuple_lst h2
    refine ⟨.tup [kindD leaf, .tup rows], M ++ J, by simp [b_law_spoilt_0, hw15, h1, h4], ⟨⟨BP.kn_tup, fun a b e => ?_⟩, fun a ds' e => ?_, ?_⟩⟩
    · cases e
      exact ⟨BP.kn_tup, fun s hs => BP.ne_pl kind_pl s hs, fun ds' e => by cases e; exact h3.seen⟩
    · cases e
      have := h3.len
      omega
    · show ((_ || _) && (_ && (_ && rowB (decide ((if leaf = true then leafS else branchS) = leafS)) rows))) = false
      rw [kind_ne, h3.bad]
      simp
  · have hw15 : ¬ (w : Int) < 15 := by omega
    have e0 : b_law_spoilt_0 ([some (kindD leaf), some (.ref r), some (.int at_), some (.int w)] ++ List.replicate (5 - 4) none) M = some (.nx [some (kindD leaf), some (.ref r), some (.int at_), some (.int w), none], M) := by
      simp [b_law_spoilt_0, hw15]
    rw [seq_step e0]
    by_cases h16 : w = 15
    · subst h16
      have hls : oList [.ref r] M = _ := list_lst hr
      refine ⟨.tup [kindD leaf, .ref M.length], M ++ [.lst ds], by simp [b_law_spoilt_1, hls], ⟨⟨BP.kn_tup, fun a b e => ?_⟩, fun a ds' e => ?_, ?_⟩⟩
      · cases e
        exact ⟨BP.kn_lst get_new, fun s hs => BP.ne_pl kind_pl s hs, fun ds' e => by cases e⟩
      · cases e
      · unfold blockB
        split
        · rename_i heq
          cases heq
        · rfl
    · have hw16 : ¬ (w : Int) = 15 := by omega
      have e1 : b_law_spoilt_1 [some (kindD leaf), some (.ref r), some (.int at_), some (.int w), none] M = some (.nx [some (kindD leaf), some (.ref r), some (.int at_), some (.int w), none], M) := by
        simp [b_law_spoilt_1, hw16]
      rw [seq_step e1]
      by_cases h17 : w = 16
      · subst h17
        refine ⟨.ref M.length, M ++ [.lst [kindD leaf, .tup ds]], by simp [b_law_spoilt_2, ht0], noB_shape (BP.kn_lst get_new) (by intro a b e; cases e)⟩
      · have hw17 : ¬ (w : Int) = 16 := by omega
        have e2 : b_law_spoilt_2 [some (kindD leaf), some (.ref r), some (.int at_), some (.int w), none] M = some (.nx [some (kindD leaf), some (.ref r), some (.int at_), some (.int w), none], M) := by
          simp [b_law_spoilt_2, hw17]
        rw [seq_step e2]
        obtain ⟨ks, hks, hok, hn1, hn2⟩ : ∃ ks : Str, (∀ M, oAdd (kindD leaf) (.str "s") M = some (.str ks, M)) ∧ PySem.PyData.strOk ks = true ∧ ks ≠ leafS ∧ ks ≠ branchS := by
          cases leaf with
          | true => exact ⟨leafS ++ "s", fun M => by rw [show kindD true = .str leafS from rfl, add_str, if_pos (by decide +kernel)], by decide +kernel, by decide +kernel, by decide +kernel⟩
          | false => exact ⟨branchS ++ "s", fun M => by rw [show kindD false = .str branchS from rfl, add_str, if_pos (by decide +kernel)], by decide +kernel, by decide +kernel, by decide +kernel⟩
        generalize hA : [D.tup [.str ks, .tup ds], .tup [kindD leaf, .tup ds, .int 7], .tup [kindD leaf], .tup [], .non, .tup [.int 7, .tup ds]] = A
        generalize hB : [D.tup [.non, .tup ds], .tup [.tup [kindD leaf], .tup ds]] = B
        have lA : A.length = 6 := by rw [← hA]; rfl
        have lB : B.length = 2 := by rw [← hB]; rfl
        have kp : kindD leaf = kindD leaf := rfl
        generalize hkd : kindD leaf = kd at *
        have e3 : b_law_spoilt_3 [some kd, some (.ref r), some (.int at_), some (.int w), none] M = some (.nx [some kd, some (.ref r), some (.int at_), some (.int w), some (.ref M.length)], M ++ [.lst A]) := by
          simp [b_law_spoilt_3, hks, ht0, hA, lA]
        rw [seq_step e3]
        have ha : oAdd (.ref M.length) (.ref (M.length + 1)) (M ++ [.lst A, .lst B]) = some (.ref (M.length + 2), M ++ [.lst A, .lst B, .lst (A ++ B)]) := by
          rw [add_lst (xs := A) (ys := B) get_at (get_plus 1) (by omega)]
          simp
        have hsub : (w : Int) - 17 = ((w - 17 : Nat) : Int) := by omega
        obtain ⟨x, hx⟩ : ∃ x, (A ++ B)[w - 17]? = some x := ⟨(A ++ B)[w - 17]'(by simp; omega), List.getElem?_eq_getElem (by simp; omega)⟩
        have hix : oIx (.ref (M.length + 2)) (.int ((w - 17 : Nat) : Int)) (M ++ [.lst A, .lst B, .lst (A ++ B)]) = some (x, M ++ [.lst A, .lst B, .lst (A ++ B)]) := ix_lst (get_plus 2) (by rw [atI_nat, hx])
        rw [← hsub] at hix
        have htA := ht [.lst A]
        refine ⟨x, M ++ [.lst A, .lst B, .lst (A ++ B)], by simp [b_law_spoilt_4, htA, hB, lB, ha, hix], ?_⟩
        have hxm := List.mem_of_getElem? hx
        rw [← hA, ← hB] at hxm
        simp only [List.cons_append, List.nil_append, List.mem_cons, List.not_mem_nil, or_false] at hxm
        have kpl : Pl 40 kd := by rw [← hkd]; exact kind_pl
        rcases hxm with rfl | rfl | rfl | rfl | rfl | rfl | rfl | rfl
        · exact noB_kind (pl_str hok) (fun e => hn1 (by cases e; rfl)) (fun e => hn2 (by cases e; rfl)) (seen _) (by omega)
        · exact noB_shape BP.kn_tup (by intro a b e; cases e)
        · exact noB_shape BP.kn_tup (by intro a b e; cases e)
        · exact noB_shape BP.kn_tup (by intro a b e; cases e)
        · exact noB_shape BP.kn_non (by intro a b e; cases e)
        · exact noB_kind pl_int (by intro e; cases e) (by intro e; cases e) (seen _) (by omega)
        · exact noB_kind pl_non (by intro e; cases e) (by intro e; cases e) (seen _) (by omega)
        · exact noB_kind (pl1 (by rw [← hkd]; exact kind_pl)) (by intro e; cases e) (by intro e; cases e) (seen _) (by omega)
theorem law (ns : List Int) (hl : ns.length ≤ 63) (hb : ∀ z ∈ ns, PySem.Builtin.Int.intBits z ≤ 1048576) : ∃ M, g_law [.scr ns] [] = some (.ok (.bl true) M) := by
  obtain ⟨leaf, e0⟩ : ∃ leaf : Bool, b_law_0 [some (.scr ns), none, none, none, none, none, none, none] [] = some (.nx [some (.scr ns), some (kindD leaf), none, none, none, none, none, none], [.lst [.str "leaf", .str "branch"]]) := by
    have c1 := Int.emod_nonneg (cell ns 0) (show (2 : Int) ≠ 0 by decide)
    have c2 := Int.emod_lt_of_pos (cell ns 0) (show (0 : Int) < 2 by decide)
    have key : ∀ leaf : Bool, L2.atI [D.str "leaf", .str "branch"] (cell ns 0 % 2) = some (kindD leaf) → b_law_0 [some (.scr ns), none, none, none, none, none, none, none] [] = some (.nx [some (.scr ns), some (kindD leaf), none, none, none, none, none, none], [.lst [.str "leaf", .str "branch"]]) := fun leaf hx => by
      have := ix_lst (M := [.lst [.str "leaf", .str "branch"]]) (n := 0) rfl hx
      simp [b_law_0, p_cell0, this]
    rcases (show cell ns 0 % 2 = 0 ∨ cell ns 0 % 2 = 1 by omega) with h | h
    · exact ⟨true, key true (by rw [h]; rfl)⟩
    · exact ⟨false, key false (by rw [h]; rfl)⟩
  generalize hkd : kindD leaf = kd at *
  generalize [Ob.lst [.str "leaf", .str "branch"]] = M0 at *
  obtain ⟨n, hn, e12⟩ : ∃ n : Nat, n ≤ 64 ∧ mSeq b_law_1 b_law_2 [some (.scr ns), some kd, none, none, none, none, none, none] M0 = some (.nx [some (.scr ns), some kd, some (.int n), none, none, none, none, none], M0) := by
    by_cases h : cell ns 1 / 9 % 4 = 1
    · obtain ⟨n, h2⟩ := Int.eq_ofNat_of_zero_le (Int.emod_nonneg (cell ns 1 / 36) (show (65 : Int) ≠ 0 by decide))
      exact ⟨n, by omega, by simp [b_law_1, b_law_2, p_cell0, h, h2]⟩
    · obtain ⟨n, h2⟩ := Int.eq_ofNat_of_zero_le (Int.emod_nonneg (cell ns 1) (show (9 : Int) ≠ 0 by decide))
      exact ⟨n, by omega, by simp [b_law_1, b_law_2, p_cell0, h, h2]⟩
  obtain ⟨st, hst, e3⟩ : ∃ st : Int, (-(10 ^ 60) < st ∧ st < 10 ^ 60 - 200) ∧ b_law_3 [some (.scr ns), some kd, some (.int n), none, none, none, none, none] M0 = some (.nx [some (.scr ns), some kd, some (.int n), some (.int st), none, none, none, none], M0) := by
    have h1 : mulFits (cell ns 2) (10 ^ 41 + 7) := fits_cell (cell_bits hb 2) (by constructor <;> omega)
    have h2 : mulFits 2 (10 ^ 60) := fits_small (by constructor <;> omega) (by constructor <;> omega)
    have h1' := mul_int (M := M0) h1
    have h2' := mul_int (M := M0) h2
    generalize hp : cell ns 2 * (10 ^ 41 + 7) = p at h1'
    have c1 := Int.emod_nonneg p (show (2 * 10 ^ 60 - 300 : Int) ≠ 0 by decide)
    have c2 := Int.emod_lt_of_pos p (show (0 : Int) < 2 * 10 ^ 60 - 300 by decide)
    refine ⟨p % (2 * 10 ^ 60 - 300) - 10 ^ 60 + 1, by omega, ?_⟩
    simp at h1' h2'
    simp [b_law_3, p_cell0, h1', h2']
  have c3 := cell_mod ns 3 9000 (by decide)
  obtain ⟨r, ds, J, hp, hr, lds, hrows⟩ := p_pairs_by (M := M0) leaf st (cell ns 3 % 9000) n hn (by omega)
  rw [hkd] at hp
  have e4 : b_law_4 [some (.scr ns), some kd, some (.int n), some (.int st), none, none, none, none] M0 = some (.nx [some (.scr ns), some kd, some (.int n), some (.int st), some (.ref r), none, none, none], M0 ++ J) := by
    simp [b_law_4, p_cell0, hp]
  generalize M0 ++ J = M1 at *
  obtain ⟨lo, hi, e56⟩ : ∃ lo hi : Int, mSeq b_law_5 b_law_6 [some (.scr ns), some kd, some (.int n), some (.int st), some (.ref r), none, none, none] M1 = some (.nx [some (.scr ns), some kd, some (.int n), some (.int st), some (.ref r), some (.int lo), some (.int hi), none], M1) := by
    simp [b_law_5, b_law_6, p_cell0]
  have ht : oTuple [.ref r] M1 = some (.tup ds, M1) := tuple_lst hr
  have seen : SeenB M1 (.tup [kd, .tup ds]) := by
    rw [← hkd]
    refine ⟨BP.kn_tup, fun a b e => ?_⟩
    cases e
    exact ⟨BP.kn_tup, fun s hs => BP.ne_pl kind_pl s hs, fun ds' e => by cases e; exact hrows.seen⟩
  have size : ∀ a ds', D.tup [kd, .tup ds] = .tup [a, .tup ds'] → ds'.length < 1000000 := fun a ds' e => by cases e; omega
  have hblk : ∀ lo hi : Int, g_is_block [.tup [kd, .tup ds], .int lo, .int hi] M1 = some (.ok (.bl (decide (lo ≤ (n : Int)) && decide ((n : Int) ≤ hi))) M1) := fun lo hi => by
    rw [p_block seen size, ← hkd]
    congr 3
    show ((_ || _) && (_ && (_ && rowB (decide ((if leaf = true then leafS else branchS) = leafS)) ds))) = _
    rw [kind_ne, hrows.row (by omega) hst, lds, Bool.and_true]
    cases leaf <;> simp
  have e7 : b_law_7 [some (.scr ns), some kd, some (.int n), some (.int st), some (.ref r), some (.int lo), some (.int hi), none] M1 = some (.nx [some (.scr ns), some kd, some (.int n), some (.int st), some (.ref r), some (.int lo), some (.int hi), none], M1) := by
    by_cases h : lo ≤ (n : Int)
    · simp [b_law_7, ht, hblk, h, p_says]
    · simp [b_law_7, ht, hblk, h, p_says]
  obtain ⟨w, hw, e89⟩ : ∃ w : Nat, w < 25 ∧ mSeq b_law_8 b_law_9 [some (.scr ns), some kd, some (.int n), some (.int st), some (.ref r), some (.int lo), some (.int hi), none] M1 = some (.nx [some (.scr ns), some kd, some (.int n), some (.int st), some (.ref r), some (.int lo), some (.int hi), some (.int w)], M1) := by
    have h1 : mulFits (cell ns 5) 48271 := fits_cell (cell_bits hb 5) (by constructor <;> omega)
    obtain ⟨v, hv⟩ := Int.eq_ofNat_of_zero_le (Int.emod_nonneg (cell ns 5 * 48271 % 1009) (show (33 : Int) ≠ 0 by decide))
    have hv2 := Int.emod_lt_of_pos (cell ns 5 * 48271 % 1009) (show (0 : Int) < 33 by decide)
    by_cases h : 24 < v
    · have hc : (24 : Int) < (v : Int) := by omega
      obtain ⟨u, hu⟩ := Int.eq_ofNat_of_zero_le (show 0 ≤ 13 + (v : Int) % 2 by omega)
      exact ⟨u, by omega, by simp [b_law_8, b_law_9, p_cell0, mul_int h1, hv, hc, hu]⟩
    · have hc : ¬ (24 : Int) < (v : Int) := by omega
      exact ⟨v, by omega, by simp [b_law_8, b_law_9, p_cell0, mul_int h1, hv, hc]⟩
  have h0t : ∀ M, oIs (.bl true) (.bl true) M = some (.bl true, M) := fun M => rfl
  have h0f : ∀ M, oIs (.bl false) (.bl false) M = some (.bl true, M) := fun M => rfl
  refine Exists.elim (p := fun M => mSeq b_law_10 b_law_11 [some (.scr ns), some kd, some (.int n), some (.int st), some (.ref r), some (.int lo), some (.int hi), some (.int w)] M1 = some (.rt (.bl true), M)) ?_ fun M' e => ⟨M', ?_⟩
  · by_cases hgood : cell ns 5 % 3 = 0 ∨ (n = 0 ∧ w < 15)
    · have hb2 : (decide ((0 : Int) ≤ (n : Int)) && decide ((n : Int) ≤ 64)) = true := by simp; omega
      have hbb := hblk 0 64
      rw [hb2] at hbb
      refine ⟨M1, ?_⟩
      rcases hgood with h | ⟨h, h'⟩
      · simp [b_law_10, p_cell0, h, ht, hbb, h0t]
      · have h'' : (w : Int) < 15 := by omega
        by_cases h3 : cell ns 5 % 3 = 0
        · simp [b_law_10, p_cell0, h3, ht, hbb, h0t]
        · subst h
          simp [b_law_10, p_cell0, h3, h'', ht, hbb, h0t]
    · have h3 : ¬ cell ns 5 % 3 = 0 := fun z => hgood (.inl z)
      have hbig : ¬ (n = 0 ∧ w < 15) := fun z => hgood (.inr z)
      have e10 : b_law_10 [some (.scr ns), some kd, some (.int n), some (.int st), some (.ref r), some (.int lo), some (.int hi), some (.int w)] M1 = some (.nx [some (.scr ns), some kd, some (.int n), some (.int st), some (.ref r), some (.int lo), some (.int hi), some (.int w)], M1) := by
        by_cases hn0 : n = 0
        · have : ¬ (w : Int) < 15 := by omega
          simp [b_law_10, p_cell0, h3, hn0, this]
        · simp [b_law_10, p_cell0, h3, hn0]
      have hmax : (0 : Int) < (if (n : Int) > 1 then (n : Int) else 1) := by split <;> omega
      have a1 := Int.emod_nonneg (cell ns 6) (show (if (n : Int) > 1 then (n : Int) else 1) ≠ 0 by omega)
      have a2 := Int.emod_lt_of_pos (cell ns 6) hmax
      obtain ⟨a, ha⟩ := Int.eq_ofNat_of_zero_le a1
      obtain ⟨x, M2, hsp, hno⟩ := p_spoilt (M := M1) (leaf := leaf) (r := r) (at_ := a) (w := w) hr hrows (by omega) (by
        by_cases hw15 : 15 ≤ w
        · exact .inr hw15
        · refine .inl ?_
          rw [lds]
          rw [ha] at a2
          split at a2 <;> omega) hw hst
      rw [hkd] at hsp
      have hbl := p_block (least := 0) (most := 70) hno.seen hno.size
      rw [hno.bad] at hbl
      refine ⟨M2, ?_⟩
      rw [ev_seq, e10, thenS_nx]
      have hm2 : oMax2 [.int 1, .int (n : Int)] M1 = some (.int (if (n : Int) > 1 then (n : Int) else 1), M1) := rfl
      have hmod : oMod (.int (cell ns 6)) (.int (if (n : Int) > 1 then (n : Int) else 1)) M1 = some (.int (a : Int), M1) := by
        rw [mod_int, if_pos hmax, ha]
      generalize (if (n : Int) > 1 then (n : Int) else 1) = mx at *
      simp only [b_law_11, ev_ret, ev_bin, ev_call, ev_cons, ev_nil, ev_c, ev_var, ev_cb, List.getElem?_cons_zero, List.getElem?_cons_succ, bnd_ok, p_cell0 ns 6 M1 (by decide), ret_some, hm2, show (6 : Int).toNat = 6 from rfl, hmod, hsp, hbl, h0f, bndS_ok]
  · rw [g_law, ev_def1]
    show endS (b_law [some (.scr ns), none, none, none, none, none, none, none] []) = _
    rw [b_law, seq_step e0, seq2 e12, seq_step e3, seq_step e4, seq2 e56, seq_step e7, seq2 e89, e]
    rfl
theorem holds : PySem.Challenge.rw_btreelog_k04_a_block.Holds := holds_of law
end BK04
theorem PySem.Challenge.cw_btreelog_k04_a_block_holds : PySem.Challenge.rw_btreelog_k04_a_block.Holds := by
  exact BK04.holds
