import PyProof.Rows.All
import Wide.All
import OpenK.AllK
import Wide.FinOn
import HandS.ForMost
import HandS.Exc
import HandS.ExcOwn
import HandS.WordsExc
import HandS.Defaults
import HandS.IsInst
import HandS.Walk
import HandS.Zip
import HandS.HeadHook2
import HandS.HeadEnd
import HandS.Conv
import HandS.TupAny
import HandS.SetFor
import KE.GoesMore
import KE.GoesEnum
import PyProof.Rows.ReprShort
import PyProof.Rows.RegFStrParts
import KE.KDictZip
import HandS.Zip0
import HandS.SortInts
import PySem.Challenge.RW_joineddeals_k44_whole_steps_and_neighbou
import HandS.Head0
import HandS.Head1
import HandS.Head2
import HandS.HeadHook1
set_option Elab.async false
set_option linter.all false
set_option maxRecDepth 100000
set_option maxHeartbeats 0
/-! PLa: pure values, environments, stores; what expressions and statements compute, as plain functions. -/
namespace PL
open PySem PySem.Spec L2
/-- a value as a tree -/
inductive PV where
  | non
  | bl (b : Bool)
  | int (i : Int)
  | str (x : Str)
  | tup (l : List PV)
  | lst (l : List PV)
  | scr (l : List Int)
  | gl (n : Nat)
/-- a thing that may change, in the store -/
inductive Cell where
  | lst (l : List PV)
  | dead
/-- what a name holds: nothing, a value, a list of its own -/
inductive EV where
  | non
  | val (v : PV)
  | own (l : List PV)
abbrev Env := List EV
abbrev Sto := List Cell
structure Ex where
  cls : Str
  fs : List (Str × PV) := []
inductive RE (α : Type) where
  | ok (a : α) (st : Sto)
  | exc (x : Ex) (st : Sto)
  | stuck
inductive RS where
  | nx (e : Env) (st : Sto)
  | rt (v : PV) (st : Sto)
  | bk (e : Env) (st : Sto)
  | ct (e : Env) (st : Sto)
  | exc (x : Ex) (e : Env) (st : Sto)
  | stuck
abbrev EF (α : Type) := Env → Sto → RE α
abbrev SF := Env → Sto → RS
abbrev Fn := List PV → Sto → RE PV
def RE.bind {α β : Type} (r : RE α) (f : α → Sto → RE β) : RE β := match r with
  | .ok a st => f a st
  | .exc x st => .exc x st
  | .stuck => .stuck
def RE.of {α : Type} (o : Option α) (st : Sto) : RE α := match o with
  | some a => .ok a st
  | none => .stuck
/-- no exception may leave -/
def RE.noE {α : Type} : RE α → RE α
  | .ok a st => .ok a st
  | _ => .stuck
/-- the longest list -/
def LINE : Nat := 16777216
/-! ### expressions -/
def eC (v : PV) : EF PV := fun _ st => .ok v st
def eVar (i : Nat) : EF PV := fun e st => match e[i]? with
  | some (.val v) => .ok v st
  | _ => .stuck
/-- a name's own list, lent -/
def eOwn (i : Nat) : EF PV := fun e st => match e[i]? with
  | some (.own l) => .ok (.lst l) st
  | _ => .stuck
def eOp (op : PV → PV → Option PV) (a b : EF PV) : EF PV := fun e st => (a e st).bind fun x st => (b e st).bind fun y st => .of (op x y) st
def eUn (op : PV → Option PV) (a : EF PV) : EF PV := fun e st => (a e st).bind fun x st => .of (op x) st
def aNil : EF (List PV) := fun _ st => .ok [] st
def aCons (a : EF PV) (r : EF (List PV)) : EF (List PV) := fun e st => (a e st).bind fun x st => (r e st).bind fun xs st => .ok (x :: xs) st
def eTup (a : EF (List PV)) : EF PV := fun e st => (a e st).bind fun xs st => if xs.length ≤ LINE then .ok (.tup xs) st else .stuck
/-- a new list's items, as a list that never changes -/
def eLst (a : EF (List PV)) : EF PV := fun e st => (a e st).bind fun xs st => .ok (.lst xs) st
/-- the items of a written list -/
def lDisp (a : EF (List PV)) : EF (List PV) := fun e st => (a e st).bind fun xs st => if xs.length ≤ LINE then .ok xs st else .stuck
/-- a built-in by its values -/
def eB (g : List PV → Option PV) (a : EF (List PV)) : EF PV := fun e st => (a e st).bind fun xs st => .of (g xs) st
def lB (g : List PV → Option (List PV)) (a : EF (List PV)) : EF (List PV) := fun e st => (a e st).bind fun xs st => .of (g xs) st
def eCall (F : Fn) (a : EF (List PV)) : EF PV := fun e st => (a e st).bind fun xs st => F xs st
def eIf (c : EF Bool) (a b : EF PV) : EF PV := fun e st => (c e st).bind fun k st => if k = true then a e st else b e st
def eAnd (a b : EF PV) : EF PV := fun e st => (a e st).bind fun x st => match x with
  | .bl true => b e st
  | .bl false => .ok (.bl false) st
  | _ => .stuck
def eOr (a b : EF PV) : EF PV := fun e st => (a e st).bind fun x st => match x with
  | .bl true => .ok (.bl true) st
  | .bl false => b e st
  | _ => .stuck
def eNot (a : EF PV) : EF PV := fun e st => (a e st).bind fun x st => match x with
  | .bl k => .ok (.bl (!k)) st
  | _ => .stuck
def eChain (op op' : PV → PV → Option PV) (a b c : EF PV) : EF PV := fun e st => (a e st).bind fun x st => (b e st).bind fun y st => match op x y with
  | some (.bl true) => (c e st).bind fun z st => .of (op' y z) st
  | some (.bl false) => .ok (.bl false) st
  | _ => .stuck
/-! ### tests -/
def tV (a : EF PV) : EF Bool := fun e st => (a e st).bind fun x st => match x with
  | .bl k => .ok k st
  | _ => .stuck
def tTru (a : EF PV) : EF Bool := fun e st => (a e st).bind fun x st => match x with
  | .bl k => .ok k st
  | .non => .ok false st
  | .int i => .ok (i != 0) st
  | .lst l => .ok (!l.isEmpty) st
  | .tup l => .ok (!l.isEmpty) st
  | _ => .stuck
def tAndF (a b : EF Bool) : EF Bool := fun e st => (a e st).bind fun k st => if k = true then b e st else .ok false st
def tOrF (a b : EF Bool) : EF Bool := fun e st => (a e st).bind fun k st => if k = true then .ok true st else b e st
def tNotF (a : EF Bool) : EF Bool := fun e st => (a e st).bind fun k st => .ok (!k) st
/-! ### targets -/
abbrev BF := PV → Env → Option Env
def bName (i : Nat) : BF := fun v e => if i < e.length then some (e.set i (.val v)) else none
def bSeq : List BF → List PV → Env → Option Env
  | [], [], e => some e
  | b :: bs, v :: vs, e => match b v e with
    | some e1 => bSeq bs vs e1
    | none => none
  | _, _, _ => none
def bTup (bs : List BF) : BF := fun v e => match v with
  | .tup l => bSeq bs l e
  | _ => none
/-! ### comprehensions -/
def wipeE (e : Env) : List Nat → Env
  | [] => e
  | v :: vs => (wipeE e vs).set v .non
def lcLoop (b : BF) (c : EF Bool) (t : EF PV) (e : Env) : List PV → Sto → RE (List PV)
  | [], st => .ok [] st
  | x :: xs, st => match b x e with
    | none => .stuck
    | some e1 => (c e1 st).noE.bind fun k st => if k = true then (t e1 st).noE.bind fun y st => (lcLoop b c t e xs st).bind fun ys st => .ok (y :: ys) st else lcLoop b c t e xs st
def lLc (it : EF (List PV)) (b : BF) (vs : List Nat) (c : EF Bool) (t : EF PV) : EF (List PV) := fun e st => (it e st).bind fun xs st => lcLoop b c t (wipeE e vs) xs st
def tYesF : EF Bool := fun _ st => .ok true st
/-! ### statements -/
def RE.toS {α : Type} (r : RE α) (e : Env) (f : α → Sto → RS) : RS := match r with
  | .ok a st => f a st
  | .exc x st => .exc x e st
  | .stuck => .stuck
def RS.thn (r : RS) (f : Env → Sto → RS) : RS := match r with
  | .nx e st => f e st
  | r => r
def sNil : SF := fun e st => .nx e st
def sSeq (a b : SF) : SF := fun e st => (a e st).thn b
def sAsg (b : BF) (a : EF PV) : SF := fun e st => (a e st).toS e fun v st => match b v e with
  | some e1 => .nx e1 st
  | none => .stuck
def sAsgO (i : Nat) (a : EF (List PV)) : SF := fun e st => (a e st).toS e fun l st => if i < e.length then .nx (e.set i (.own l)) st else .stuck
def sDrop (a : EF PV) : SF := fun e st => (a e st).toS e fun _ st => .nx e st
def sRet (a : EF PV) : SF := fun e st => (a e st).toS e fun v st => .rt v st
def sRetN : SF := fun _ st => .rt .non st
/-- a new thing of the store is handed back -/
def sRetG (a : EF (List PV)) : SF := fun e st => (a e st).toS e fun l st => .rt (.gl st.length) (st ++ [.lst l])
/-- a name's own list is handed back -/
def sRetO (i : Nat) : SF := fun e st => match e[i]? with
  | some (.own l) => .rt (.lst l) st
  | _ => .stuck
def sIf (c : EF Bool) (a b : SF) : SF := fun e st => (c e st).toS e fun k st => if k = true then a e st else b e st
/-- a name's own list becomes a list that never changes -/
def sFrz (i : Nat) : SF := fun e st => match e[i]? with
  | some (.own l) => .nx (e.set i (.val (.lst l))) st
  | _ => .nx e st
def sApp (i : Nat) (a : EF PV) : SF := fun e st => match e[i]? with
  | some (.own l) => (a e st).toS e fun v st => if l.length < LINE then .nx (e.set i (.own (l ++ [v]))) st else .stuck
  | _ => .stuck
def sExt (i : Nat) (a : EF (List PV)) : SF := fun e st => match e[i]? with
  | some (.own l) => (a e st).toS e fun m st => if l.length + m.length ≤ LINE then .nx (e.set i (.own (l ++ m))) st else .stuck
  | _ => .stuck
/-- a[k] = v, a thing of the store -/
def sSetG (a k v : EF PV) : SF := fun e st => (v e st).toS e fun v st => (a e st).toS e fun a st => (k e st).toS e fun k st => match a, k with
  | .gl n, .int i => match st[n]? with
    | some (.lst l) => match ixN l.length i with
      | some j => .nx e (st.set n (.lst (l.set j v)))
      | none => .stuck
    | _ => .stuck
  | _, _ => .stuck
/-- a[k]: of a tuple, a list, the script, a thing of the store -/
def ixF (st : Sto) : PV → Int → Option PV
  | .tup l, i => atI l i
  | .lst l, i => atI l i
  | .scr l, i => (atI l i).map PV.int
  | .gl n, i => match st[n]? with
    | some (.lst l) => atI l i
    | _ => none
  | _, _ => none
def eIx (a k : EF PV) : EF PV := fun e st => (a e st).bind fun a st => (k e st).bind fun k st => match k with
  | .int i => .of (ixF st a i) st
  | _ => .stuck
def forLoop (b : BF) (t : SF) : List PV → Env → Sto → RS
  | [], e, st => .nx e st
  | x :: xs, e, st => match b x e with
    | none => .stuck
    | some e1 => match t e1 st with
      | .nx e2 st2 => forLoop b t xs e2 st2
      | .ct e2 st2 => forLoop b t xs e2 st2
      | .bk e2 st2 => .nx e2 st2
      | r => r
def sFor (it : EF (List PV)) (b : BF) (t : SF) : SF := fun e st => (it e st).toS e fun xs st => forLoop b t xs e st
def whileLoop (c : EF Bool) (t : SF) : Nat → Env → Sto → RS
  | 0, _, _ => .stuck
  | n + 1, e, st => (c e st).toS e fun k st => if k = true then match t e st with
      | .nx e2 st2 => whileLoop c t n e2 st2
      | .ct e2 st2 => whileLoop c t n e2 st2
      | .bk e2 st2 => .nx e2 st2
      | r => r
    else .nx e st
def sWhile (n : Nat) (c : EF Bool) (t : SF) : SF := fun e st => whileLoop c t n e st
def sNever : SF := fun _ _ => .stuck
def sBreak : SF := fun e st => .bk e st
def sCont : SF := fun e st => .ct e st
/-- a def's function: its parameters first, m names in all -/
def mkFn (m : Nat) (body : SF) : Fn := fun vs st => match body (vs.map .val ++ List.replicate (m - vs.length) .non) st with
  | .nx _ st => .ok .non st
  | .rt v st => .ok v st
  | .exc x _ st => .exc x st
  | _ => .stuck
end PL
/-! PLb: how pure values lie in the abstract heap; what an expression's and a statement's function says of its reading. -/
namespace PL
open PySem PySem.Spec L2
theorem LINE_eq : LINE = sizeLine := by rw [sizeLine_eq]; rfl
/-- the script, where it lies -/
def ScrAt (K : PySem.W.Frag) (N : Addr → Prop) (H : Hp) (a : Addr) (l : List Int) : Prop :=
  l.length ≤ LINE ∧ ((∃ o, H a = some (.frz o (.lst (l.map V.int))) ∧ ¬ N a) ∨
    ∃ (o : Obj) (its : Array Value) (n : Nat), K.lookup a = some o ∧ o.cls = .type "list" ∧ o.dict = none ∧ o.data = .seq its n ∧ its.size ≤ sizeLine ∧ Vals (l.map V.int) its.toList)
mutual
/-- the value p is v: N tells what is not to be a part of values, ρ where the store's things lie -/
def RV (K : PySem.W.Frag) (N : Addr → Prop) (ρ : List Addr) (H : Hp) : PV → V → Prop
  | .non, v => v = .non
  | .bl b, v => v = .bl b
  | .int i, v => v = .int i
  | .str x, v => v = .str x
  | .tup l, v => ∃ a xs, v = .ref a ∧ ¬ N a ∧ H a = some (.tup xs) ∧ xs.length ≤ LINE ∧ RVs K N ρ H l xs
  | .lst l, v => ∃ a xs, v = .ref a ∧ ¬ N a ∧ H a = some (.lst xs) ∧ xs.length ≤ LINE ∧ RVs K N ρ H l xs
  | .scr l, v => ∃ a, v = .ref a ∧ ScrAt K N H a l
  | .gl n, v => ∃ a, v = .ref a ∧ ρ[n]? = some a
def RVs (K : PySem.W.Frag) (N : Addr → Prop) (ρ : List Addr) (H : Hp) : List PV → List V → Prop
  | [], xs => xs = []
  | p :: ps, xs => ∃ v vs, xs = v :: vs ∧ RV K N ρ H p v ∧ RVs K N ρ H ps vs
end
/-- .. where a list may be one that changes later -/
def RVb (K : PySem.W.Frag) (N : Addr → Prop) (ρ : List Addr) (H : Hp) : PV → V → Prop
  | .lst l, v => ∃ a xs, v = .ref a ∧ H a = some (.lst xs) ∧ xs.length ≤ LINE ∧ RVs K N ρ H l xs
  | p, v => RV K N ρ H p v
section
variable {K : PySem.W.Frag} {N N' : Addr → Prop} {ρ ρ' : List Addr} {H H' : Hp}
theorem RV.b : ∀ {p : PV} {v : V}, RV K N ρ H p v → RVb K N ρ H p v
  | .non, _, h => h
  | .bl _, _, h => h
  | .int _, _, h => h
  | .str _, _, h => h
  | .tup _, _, h => h
  | .lst _, _, h => by
    unfold RV at h
    obtain ⟨a, xs, e, _, h1, h2, h3⟩ := h
    exact ⟨a, xs, e, h1, h2, h3⟩
  | .scr _, _, h => h
  | .gl _, _, h => h
mutual
theorem RV.carry (hN : ∀ a o, H a = some o → N' a → N a) (hk : ∀ a o, H a = some o → ¬ N a → H' a = some o) (hp : ρ <+: ρ') : ∀ (p : PV) (v : V), RV K N ρ H p v → RV K N' ρ' H' p v
  | .non, _, h => by unfold RV at h ⊢; exact h
  | .bl _, _, h => by unfold RV at h ⊢; exact h
  | .int _, _, h => by unfold RV at h ⊢; exact h
  | .str _, _, h => by unfold RV at h ⊢; exact h
  | .tup l, _, h => by
    unfold RV at h ⊢
    obtain ⟨a, xs, e, n, h1, h2, h3⟩ := h
    exact ⟨a, xs, e, fun z => n (hN a _ h1 z), hk a _ h1 n, h2, RVs.carry hN hk hp l xs h3⟩
  | .lst l, _, h => by
    unfold RV at h ⊢
    obtain ⟨a, xs, e, n, h1, h2, h3⟩ := h
    exact ⟨a, xs, e, fun z => n (hN a _ h1 z), hk a _ h1 n, h2, RVs.carry hN hk hp l xs h3⟩
  | .scr l, _, h => by
    unfold RV at h ⊢
    obtain ⟨a, e, h1, h2⟩ := h
    refine ⟨a, e, h1, ?_⟩
    rcases h2 with ⟨o, h2, n⟩ | h2
    · exact .inl ⟨o, hk a _ h2 n, fun z => n (hN a _ h2 z)⟩
    · exact .inr h2
  | .gl n, _, h => by
    unfold RV at h ⊢
    obtain ⟨a, e, h1⟩ := h
    refine ⟨a, e, ?_⟩
    obtain ⟨r, rfl⟩ := hp
    rw [List.getElem?_append_left (List.getElem?_eq_some_iff.mp h1).1]
    exact h1
theorem RVs.carry (hN : ∀ a o, H a = some o → N' a → N a) (hk : ∀ a o, H a = some o → ¬ N a → H' a = some o) (hp : ρ <+: ρ') : ∀ (l : List PV) (xs : List V), RVs K N ρ H l xs → RVs K N' ρ' H' l xs
  | [], _, h => by unfold RVs at h ⊢; exact h
  | p :: ps, _, h => by
    unfold RVs at h ⊢
    obtain ⟨v, vs, e, h1, h2⟩ := h
    exact ⟨v, vs, e, RV.carry hN hk hp p v h1, RVs.carry hN hk hp ps vs h2⟩
end
theorem RVs.nil : RVs K N ρ H [] [] := by unfold RVs; rfl
theorem RVs.cons {p : PV} {ps : List PV} {v : V} {vs : List V} (h : RV K N ρ H p v) (t : RVs K N ρ H ps vs) : RVs K N ρ H (p :: ps) (v :: vs) := by
  unfold RVs
  exact ⟨v, vs, rfl, h, t⟩
theorem RVs.uncons {p : PV} {ps : List PV} {xs : List V} (h : RVs K N ρ H (p :: ps) xs) : ∃ v vs, xs = v :: vs ∧ RV K N ρ H p v ∧ RVs K N ρ H ps vs := by
  unfold RVs at h
  exact h
theorem RVs.unnil {xs : List V} (h : RVs K N ρ H [] xs) : xs = [] := by
  unfold RVs at h
  exact h
theorem RVs.len : ∀ {l : List PV} {xs : List V}, RVs K N ρ H l xs → xs.length = l.length
  | [], _, h => by rw [h.unnil]; rfl
  | p :: ps, _, h => by
    obtain ⟨v, vs, rfl, _, t⟩ := h.uncons
    rw [List.length_cons, List.length_cons, RVs.len t]
theorem RVs.get : ∀ {l : List PV} {xs : List V} {i : Nat} {p : PV}, RVs K N ρ H l xs → l[i]? = some p → ∃ v, xs[i]? = some v ∧ RV K N ρ H p v
  | [], _, _, _, _, e => by simp at e
  | q :: ps, _, 0, p, h, e => by
    obtain ⟨v, vs, rfl, r, t⟩ := h.uncons
    have e' : q = p := by simpa using e
    subst e'
    exact ⟨v, rfl, r⟩
  | q :: ps, _, i + 1, p, h, e => by
    obtain ⟨v, vs, rfl, r, t⟩ := h.uncons
    obtain ⟨w, h1, h2⟩ := RVs.get (i := i) t (by simpa using e)
    exact ⟨w, by simpa using h1, h2⟩
theorem RVs.at : ∀ {l : List PV} {xs : List V} {i : Nat} {v : V}, RVs K N ρ H l xs → xs[i]? = some v → ∃ p, l[i]? = some p ∧ RV K N ρ H p v
  | [], _, _, _, h, e => by rw [h.unnil] at e; simp at e
  | q :: ps, _, 0, v, h, e => by
    obtain ⟨w, vs, rfl, r, t⟩ := h.uncons
    have e' : w = v := by simpa using e
    subst e'
    exact ⟨q, rfl, r⟩
  | q :: ps, _, i + 1, v, h, e => by
    obtain ⟨w, vs, rfl, r, t⟩ := h.uncons
    obtain ⟨p, h1, h2⟩ := RVs.at (i := i) t (by simpa using e)
    exact ⟨p, by simpa using h1, h2⟩
theorem RVs.append : ∀ {l m : List PV} {xs ys : List V}, RVs K N ρ H l xs → RVs K N ρ H m ys → RVs K N ρ H (l ++ m) (xs ++ ys)
  | [], _, _, _, h, k => by rw [h.unnil]; exact k
  | p :: ps, _, _, _, h, k => by
    obtain ⟨v, vs, rfl, r, t⟩ := h.uncons
    exact .cons r (RVs.append t k)
theorem RVs.drop : ∀ {l : List PV} {xs : List V} (n : Nat), RVs K N ρ H l xs → RVs K N ρ H (l.drop n) (xs.drop n)
  | _, _, 0, h => h
  | [], _, n + 1, h => by rw [h.unnil]; exact .nil
  | p :: ps, _, n + 1, h => by
    obtain ⟨v, vs, rfl, r, t⟩ := h.uncons
    exact RVs.drop n t
theorem RVs.take : ∀ {l : List PV} {xs : List V} (n : Nat), RVs K N ρ H l xs → RVs K N ρ H (l.take n) (xs.take n)
  | _, _, 0, _ => .nil
  | [], _, n + 1, h => by rw [h.unnil]; exact .nil
  | p :: ps, _, n + 1, h => by
    obtain ⟨v, vs, rfl, r, t⟩ := h.uncons
    exact .cons r (RVs.take n t)
theorem RVs.set {p : PV} {v : V} (r : RV K N ρ H p v) : ∀ {l : List PV} {xs : List V} (i : Nat), RVs K N ρ H l xs → RVs K N ρ H (l.set i p) (xs.set i v)
  | [], _, _, h => by rw [h.unnil]; exact .nil
  | q :: ps, _, 0, h => by
    obtain ⟨w, vs, rfl, _, t⟩ := h.uncons
    exact .cons r t
  | q :: ps, _, i + 1, h => by
    obtain ⟨w, vs, rfl, r', t⟩ := h.uncons
    exact .cons r' (RVs.set r i t)
theorem RVs.one {p : PV} {xs : List V} (h : RVs K N ρ H [p] xs) : ∃ v, xs = [v] ∧ RV K N ρ H p v := by
  obtain ⟨v, vs, rfl, r, t⟩ := h.uncons
  rw [t.unnil]
  exact ⟨v, rfl, r⟩
theorem RVs.two {p q : PV} {xs : List V} (h : RVs K N ρ H [p, q] xs) : ∃ v w, xs = [v, w] ∧ RV K N ρ H p v ∧ RV K N ρ H q w := by
  obtain ⟨v, vs, rfl, r, t⟩ := h.uncons
  obtain ⟨w, rfl, r'⟩ := t.one
  exact ⟨v, w, rfl, r, r'⟩
theorem RVs.ints : ∀ {l : List Int} {xs : List V}, RVs K N ρ H (l.map PV.int) xs → xs = l.map V.int
  | [], _, h => h.unnil
  | i :: l, _, h => by
    obtain ⟨v, vs, rfl, r, t⟩ := RVs.uncons h
    have e : v = .int i := by unfold RV at r; exact r
    rw [e, RVs.ints t]
    rfl
theorem RVs.bls : ∀ {l : List Bool} {xs : List V}, RVs K N ρ H (l.map PV.bl) xs → xs = l.map V.bl
  | [], _, h => h.unnil
  | i :: l, _, h => by
    obtain ⟨v, vs, rfl, r, t⟩ := RVs.uncons h
    have e : v = .bl i := by unfold RV at r; exact r
    rw [e, RVs.bls t]
    rfl
theorem RVs.ofInts : ∀ (l : List Int), RVs K N ρ H (l.map PV.int) (l.map V.int)
  | [] => .nil
  | i :: l => .cons (by unfold RV; rfl) (RVs.ofInts l)
theorem rv_int {i : Int} {v : V} (h : RV K N ρ H (.int i) v) : v = .int i := by unfold RV at h; exact h
theorem rv_bl {i : Bool} {v : V} (h : RV K N ρ H (.bl i) v) : v = .bl i := by unfold RV at h; exact h
theorem rv_non {v : V} (h : RV K N ρ H .non v) : v = .non := by unfold RV at h; exact h
theorem rv_str {i : Str} {v : V} (h : RV K N ρ H (.str i) v) : v = .str i := by unfold RV at h; exact h
theorem rv_tup {l : List PV} {v : V} (h : RV K N ρ H (.tup l) v) : ∃ a xs, v = .ref a ∧ ¬ N a ∧ H a = some (.tup xs) ∧ xs.length ≤ LINE ∧ RVs K N ρ H l xs := by unfold RV at h; exact h
theorem rv_lst {l : List PV} {v : V} (h : RV K N ρ H (.lst l) v) : ∃ a xs, v = .ref a ∧ ¬ N a ∧ H a = some (.lst xs) ∧ xs.length ≤ LINE ∧ RVs K N ρ H l xs := by unfold RV at h; exact h
theorem rv_scr {l : List Int} {v : V} (h : RV K N ρ H (.scr l) v) : ∃ a, v = .ref a ∧ ScrAt K N H a l := by unfold RV at h; exact h
theorem rv_gl {n : Nat} {v : V} (h : RV K N ρ H (.gl n) v) : ∃ a, v = .ref a ∧ ρ[n]? = some a := by unfold RV at h; exact h
theorem mk_int {i : Int} : RV K N ρ H (.int i) (.int i) := by unfold RV; rfl
theorem mk_bl {i : Bool} : RV K N ρ H (.bl i) (.bl i) := by unfold RV; rfl
theorem mk_non : RV K N ρ H .non .non := by unfold RV; rfl
theorem mk_str {i : Str} : RV K N ρ H (.str i) (.str i) := by unfold RV; rfl
theorem mk_tup {l : List PV} {a : Addr} {xs : List V} (n : ¬ N a) (h : H a = some (.tup xs)) (z : xs.length ≤ LINE) (r : RVs K N ρ H l xs) : RV K N ρ H (.tup l) (.ref a) := by
  unfold RV
  exact ⟨a, xs, rfl, n, h, z, r⟩
theorem mk_lst {l : List PV} {a : Addr} {xs : List V} (n : ¬ N a) (h : H a = some (.lst xs)) (z : xs.length ≤ LINE) (r : RVs K N ρ H l xs) : RV K N ρ H (.lst l) (.ref a) := by
  unfold RV
  exact ⟨a, xs, rfl, n, h, z, r⟩
theorem ScrAt.sq {a : Addr} {l : List Int} (h : ScrAt K N H a l) : SqL K H a (l.map V.int) := by
  obtain ⟨_, h⟩ := h
  rcases h with ⟨o, h, _⟩ | h
  · exact .inl (.inr ⟨o, h⟩)
  · exact .inr h
end
/-! ### heaps -/
/-- all that was tracked is as it was -/
def Ext (H H' : Hp) : Prop := ∀ a o, H a = some o → H' a = some o
theorem Ext.refl {H : Hp} : Ext H H := fun _ _ h => h
theorem Ext.trans {H H1 H2 : Hp} (a : Ext H H1) (b : Ext H1 H2) : Ext H H2 := fun c o h => b c o (a c o h)
theorem Ext.new {H : Hp} {p : Addr} {o : HO} (h : H p = none) : Ext H (upd H p o) := fun a u e => by
  rw [upd_ne (ne_of_none e h)]
  exact e
/-! ### environments and stores -/
def Owned (env : Env) (σ : St) (a : Addr) : Prop := ∃ (i : Nat) (l : List PV), env[i]? = some (.own l) ∧ σ[i]? = some (some (.ref a))
def Excl (B : Addr → Prop) (ρ : List Addr) (env : Env) (σ : St) (a : Addr) : Prop := B a ∨ a ∈ ρ ∨ Owned env σ a
def CellOk (K : PySem.W.Frag) (N : Addr → Prop) (ρ : List Addr) (H : Hp) : Cell → Addr → Prop
  | .lst l, a => ∃ xs, H a = some (.lst xs) ∧ xs.length ≤ LINE ∧ RVs K N ρ H l xs
  | .dead, _ => True
def SlotOk (K : PySem.W.Frag) (N : Addr → Prop) (ρ : List Addr) (H : Hp) (σ : St) (i : Nat) : EV → Prop
  | .non => True
  | .val p => ∃ v, σ[i]? = some (some v) ∧ RV K N ρ H p v
  | .own l => ∃ a xs, σ[i]? = some (some (.ref a)) ∧ H a = some (.lst xs) ∧ xs.length ≤ LINE ∧ RVs K N ρ H l xs
structure Rep (K : PySem.W.Frag) (B : Addr → Prop) (ρ : List Addr) (env : Env) (st : Sto) (σ : St) (H : Hp) : Prop where
  lenE : env.length = σ.length
  lenC : ρ.length = st.length
  nd : ρ.Nodup
  cell : ∀ (n : Nat) c a, st[n]? = some c → ρ[n]? = some a → CellOk K (Excl B ρ env σ) ρ H c a
  rT : ∀ a ∈ ρ, H a ≠ none
  rB : ∀ a ∈ ρ, ¬ B a
  bT : ∀ a, B a → H a ≠ none
  slot : ∀ (i : Nat) e, env[i]? = some e → SlotOk K (Excl B ρ env σ) ρ H σ i e
  oR : ∀ a, Owned env σ a → a ∉ ρ ∧ ¬ B a
  sep : ∀ (i j : Nat) l l' a, env[i]? = some (.own l) → env[j]? = some (.own l') → σ[i]? = some (some (.ref a)) → σ[j]? = some (some (.ref a)) → i = j
section
variable {K : PySem.W.Frag} {B : Addr → Prop} {ρ ρ' ρ1 ρ2 : List Addr} {env env' env1 env2 : Env} {st st' st1 st2 : Sto} {σ σ' σ1 σ2 : St} {H H' H1 H2 : Hp}
theorem Rep.oT (R : Rep K B ρ env st σ H) {a : Addr} (h : Owned env σ a) : ∃ xs, H a = some (.lst xs) := by
  obtain ⟨i, l, h1, h2⟩ := h
  obtain ⟨b, xs, h3, h4, _⟩ := R.slot i _ h1
  rw [h2] at h3
  cases h3
  exact ⟨xs, h4⟩
theorem Rep.tr (R : Rep K B ρ env st σ H) {a : Addr} (h : Excl B ρ env σ a) : H a ≠ none := by
  rcases h with h | h | h
  · exact R.bT a h
  · exact R.rT a h
  · obtain ⟨xs, e⟩ := R.oT h
    rw [e]
    exact fun z => by cases z
theorem Rep.fresh (R : Rep K B ρ env st σ H) {p : Addr} (h : H p = none) : ¬ Excl B ρ env σ p := fun z => R.tr z h
/-- behind a statement -/
structure Post (K : PySem.W.Frag) (B : Addr → Prop) (ρ : List Addr) (env : Env) (σ : St) (H : Hp) (ρ' : List Addr) (env' : Env) (st' : Sto) (σ' : St) (H' : Hp) : Prop where
  rep : Rep K B ρ' env' st' σ' H'
  pre : ρ <+: ρ'
  kp : ∀ a o, H a = some o → a ∉ ρ → ¬ Owned env σ a → H' a = some o
  tr : ∀ a, H a ≠ none → H' a ≠ none
  fr : ∀ a ∈ ρ', a ∉ ρ → H a = none
  ow : ∀ a, Owned env' σ' a → Owned env σ a ∨ H a = none
/-- behind an expression -/
structure EPost (K : PySem.W.Frag) (B : Addr → Prop) (ρ : List Addr) (env : Env) (σ : St) (H : Hp) (ρ' : List Addr) (st' : Sto) (H' : Hp) : Prop where
  rep : Rep K B ρ' env st' σ H'
  pre : ρ <+: ρ'
  kp : ∀ a o, H a = some o → a ∉ ρ → H' a = some o
  tr : ∀ a, H a ≠ none → H' a ≠ none
  fr : ∀ a ∈ ρ', a ∉ ρ → H a = none
theorem EPost.post (E : EPost K B ρ env σ H ρ' st' H') : Post K B ρ env σ H ρ' env st' σ H' :=
  ⟨E.rep, E.pre, fun a o h n _ => E.kp a o h n, E.tr, E.fr, fun _ h => .inl h⟩
theorem EPost.refl (R : Rep K B ρ env st σ H) : EPost K B ρ env σ H ρ st H := ⟨R, List.prefix_rfl, fun _ _ h _ => h, fun _ h => h, fun _ h n => absurd h n⟩
theorem Post.refl (R : Rep K B ρ env st σ H) : Post K B ρ env σ H ρ env st σ H := (EPost.refl R).post
theorem EPost.trans (a : EPost K B ρ env σ H ρ1 st1 H1) (b : EPost K B ρ1 env σ H1 ρ2 st2 H2) : EPost K B ρ env σ H ρ2 st2 H2 where
  rep := b.rep
  pre := a.pre.trans b.pre
  kp := fun c o h n => b.kp c o (a.kp c o h n) fun z => by
    have q := a.fr c z n
    rw [h] at q
    cases q
  tr := fun c h => b.tr c (a.tr c h)
  fr := fun c hc n => by
    by_cases h1 : c ∈ ρ1
    · exact a.fr c h1 n
    · have q := b.fr c hc h1
      cases e : H c with
      | none => rfl
      | some o => exact absurd q (a.tr c (by rw [e]; exact fun z => by cases z))
theorem Post.trans (a : Post K B ρ env σ H ρ1 env1 st1 σ1 H1) (b : Post K B ρ1 env1 σ1 H1 ρ2 env2 st2 σ2 H2) : Post K B ρ env σ H ρ2 env2 st2 σ2 H2 where
  rep := b.rep
  pre := a.pre.trans b.pre
  kp := fun c o h n m => b.kp c o (a.kp c o h n m) (fun z => by
    have q := a.fr c z n
    rw [h] at q
    cases q) fun z => by
      rcases a.ow c z with q | q
      · exact m q
      · rw [h] at q
        cases q
  tr := fun c h => b.tr c (a.tr c h)
  fr := fun c hc n => by
    by_cases h1 : c ∈ ρ1
    · exact a.fr c h1 n
    · have q := b.fr c hc h1
      cases e : H c with
      | none => rfl
      | some o => exact absurd q (a.tr c (by rw [e]; exact fun z => by cases z))
  ow := fun c h => by
    rcases b.ow c h with q | q
    · exact a.ow c q
    · cases e : H c with
      | none => exact .inr rfl
      | some o => exact absurd q (a.tr c (by rw [e]; exact fun z => by cases z))
/-- a value stays what it is -/
theorem Post.rv (P : Post K B ρ env σ H ρ' env' st' σ' H') {p : PV} {v : V} (h : RV K (Excl B ρ env σ) ρ H p v) : RV K (Excl B ρ' env' σ') ρ' H' p v := by
  refine RV.carry (fun a o e n => ?_) (fun a o e n => P.kp a o e (fun z => n (.inr (.inl z))) fun z => n (.inr (.inr z))) P.pre p v h
  rcases n with n | n | n
  · exact .inl n
  · by_cases h1 : a ∈ ρ
    · exact .inr (.inl h1)
    · have q := P.fr a n h1
      rw [e] at q
      cases q
  · rcases P.ow a n with q | q
    · exact .inr (.inr q)
    · rw [e] at q
      cases q
theorem Post.rvs (P : Post K B ρ env σ H ρ' env' st' σ' H') {p : List PV} {v : List V} (h : RVs K (Excl B ρ env σ) ρ H p v) : RVs K (Excl B ρ' env' σ') ρ' H' p v := by
  refine RVs.carry (fun a o e n => ?_) (fun a o e n => P.kp a o e (fun z => n (.inr (.inl z))) fun z => n (.inr (.inr z))) P.pre p v h
  rcases n with n | n | n
  · exact .inl n
  · by_cases h1 : a ∈ ρ
    · exact .inr (.inl h1)
    · have q := P.fr a n h1
      rw [e] at q
      cases q
  · rcases P.ow a n with q | q
    · exact .inr (.inr q)
    · rw [e] at q
      cases q
/-- a lent list, behind an expression: its list stands, unless it is a thing of the store -/
theorem EPost.rvb (P : EPost K B ρ env σ H ρ' st' H') {p : PV} {v : V} (h : RVb K (Excl B ρ env σ) ρ H p v) (hl : ∀ a l, v = .ref a → p = .lst l → a ∉ ρ) : RVb K (Excl B ρ' env σ) ρ' H' p v := by
  cases p with
  | lst l =>
    obtain ⟨a, xs, e, h1, h2, h3⟩ := h
    exact ⟨a, xs, e, P.kp a _ h1 (hl a l e rfl), h2, P.post.rvs h3⟩
  | non => exact P.post.rv h
  | bl _ => exact P.post.rv h
  | int _ => exact P.post.rv h
  | str _ => exact P.post.rv h
  | tup _ => exact P.post.rv h
  | scr _ => exact P.post.rv h
  | gl _ => exact P.post.rv h
theorem Rep.ext (R : Rep K B ρ env st σ H) (E : Ext H H') : Rep K B ρ env st σ H' where
  lenE := R.lenE
  lenC := R.lenC
  nd := R.nd
  cell := fun n c a h1 h2 => by
    have q := R.cell n c a h1 h2
    cases c with
    | dead => trivial
    | lst l =>
      obtain ⟨xs, q1, q2, q3⟩ := q
      exact ⟨xs, E _ _ q1, q2, RVs.carry (fun _ _ _ z => z) (fun a o e _ => E a o e) List.prefix_rfl _ _ q3⟩
  rT := fun a h z => by
    cases e : H a with
    | none => exact R.rT a h e
    | some o => rw [E a o e] at z; cases z
  rB := R.rB
  bT := fun a h z => by
    cases e : H a with
    | none => exact R.bT a h e
    | some o => rw [E a o e] at z; cases z
  slot := fun i e h => by
    have q := R.slot i e h
    cases e with
    | non => trivial
    | val p =>
      obtain ⟨v, q1, q2⟩ := q
      exact ⟨v, q1, RV.carry (fun _ _ _ z => z) (fun a o e _ => E a o e) List.prefix_rfl _ _ q2⟩
    | own l =>
      obtain ⟨a, xs, q0, q1, q2, q3⟩ := q
      exact ⟨a, xs, q0, E _ _ q1, q2, RVs.carry (fun _ _ _ z => z) (fun a o e _ => E a o e) List.prefix_rfl _ _ q3⟩
  oR := R.oR
  sep := R.sep
theorem EPost.ext (R : Rep K B ρ env st σ H) (E : Ext H H') : EPost K B ρ env σ H ρ st H' :=
  ⟨R.ext E, List.prefix_rfl, fun a o h _ => E a o h, (fun a h z => by
    cases e : H a with
    | none => exact h e
    | some o => rw [E a o e] at z; cases z), fun _ h n => absurd h n⟩
/-! ### what a function says of a reading -/
/-- an exception as it flies -/
def ExR (K : PySem.W.Frag) (N : Addr → Prop) (ρ : List Addr) (H : Hp) (x : Ex) (cls : Value) (d : Option Addr) : Prop :=
  cls = .ref (He.ga K x.cls) ∧ ((x.fs = [] ∧ d = none) ∨ ∃ dd fvs, d = some dd ∧ H dd = some (.xd fvs) ∧ fvs.map (·.1) = x.fs.map (·.1) ∧ RVs K N ρ H (x.fs.map (·.2)) (fvs.map (·.2)))
def ROk {α : Type} (K : PySem.W.Frag) (W : WX) (B : Addr → Prop) (ρ : List Addr) (env : Env) (σ : St) (H : Hp) (r : RE α) (Z : α → List Addr → Sto → Hp → Prop) : Prop := match r with
  | .ok a st' => ∀ ρ' H', EPost K B ρ env σ H ρ' st' H' → Z a ρ' st' H'
  | .exc x st' => ∀ ρ' H' cls d, EPost K B ρ env σ H ρ' st' H' → ExR K (Excl B ρ' env σ) ρ' H' x cls d → W cls d σ H'
  | .stuck => False
variable {W : WX} {α β : Type}
theorem ROk.shift {r : RE α} {Z : α → List Addr → Sto → Hp → Prop} (E : EPost K B ρ env σ H ρ1 st1 H1) (h : ROk K W B ρ env σ H r Z) : ROk K W B ρ1 env σ H1 r Z := by
  cases r with
  | ok a st' => exact fun ρ' H' E2 => h ρ' H' (E.trans E2)
  | exc x st' => exact fun ρ' H' cls d E2 => h ρ' H' cls d (E.trans E2)
  | stuck => exact h
theorem ROk.mono {r : RE α} {Z Z' : α → List Addr → Sto → Hp → Prop} (h : ROk K W B ρ env σ H r Z) (f : ∀ a ρ' st' H', EPost K B ρ env σ H ρ' st' H' → Z a ρ' st' H' → Z' a ρ' st' H') : ROk K W B ρ env σ H r Z' := by
  cases r with
  | ok a st' => exact fun ρ' H' E => f a ρ' st' H' E (h ρ' H' E)
  | exc x st' => exact h
  | stuck => exact h
theorem ROk.bind {r : RE α} {f : α → Sto → RE β} {Z : β → List Addr → Sto → Hp → Prop} (h : ROk K W B ρ env σ H (r.bind f) Z) :
    ROk K W B ρ env σ H r fun a ρ' st' H' => ROk K W B ρ' env σ H' (f a st') Z := by
  cases r with
  | ok a st' => exact fun ρ' H' E => ROk.shift E h
  | exc x st' => exact h
  | stuck => exact h
/-- an expression's function, its reading -/
def RefG (K : PySem.W.Frag) (W : WX) (t : TE) (f : EF PV) (VR : (Addr → Prop) → List Addr → Hp → PV → V → Prop) : Prop :=
  ∀ B ρ env st σ H Q, Rep K B ρ env st σ H → ROk K W B ρ env σ H (f env st) (fun p ρ' st' H' => ∀ u, VR (Excl B ρ' env σ) ρ' H' p u → Q u H') → t σ H Q
def ME (X : Cx) (W : WX) (e : Expr) (f : EF PV) : Prop := ∃ t, PE X e t ∧ RefG X.K W t f (RV X.K)
def MB (X : Cx) (W : WX) (e : Expr) (f : EF PV) : Prop := ∃ t, PE X e t ∧ RefG X.K W t f fun N ρ H p u => RVb X.K N ρ H p u ∧ ∀ a l, u = .ref a → p = .lst l → a ∉ ρ
/-- a new list: nothing else has it -/
def ML (X : Cx) (W : WX) (e : Expr) (f : EF (List PV)) : Prop := ∃ t, PE X e t ∧ ∀ B ρ env st σ H Q, Rep X.K B ρ env st σ H →
  ROk X.K W B ρ env σ H (f env st) (fun l ρ' st' H' => ∀ p xs H'', H' p = none → H'' = upd H' p (.lst xs) → xs.length ≤ LINE → RVs X.K (Excl B ρ' env σ) ρ' H' l xs → Q (.ref p) H'') → t σ H Q
def MA (X : Cx) (W : WX) (es : List Expr) (f : EF (List PV)) : Prop := ∃ t, PA X es t ∧ ∀ B ρ env st σ H Q, Rep X.K B ρ env st σ H →
  ROk X.K W B ρ env σ H (f env st) (fun l ρ' st' H' => ∀ us, RVs X.K (Excl B ρ' env σ) ρ' H' l us → Q us H') → t σ H Q
def MT (X : Cx) (W : WX) (e : Expr) (f : EF Bool) : Prop := ∃ t, PT X e t ∧ ∀ B ρ env st σ H Q, Rep X.K B ρ env st σ H →
  ROk X.K W B ρ env σ H (f env st) (fun k ρ' st' H' => Q k H') → t σ H Q
def MW (X : Cx) (W : WX) (e : Expr) (f : EF Bool) : Prop := ∃ t, PW X e t ∧ ∀ B ρ env st σ H Q, Rep X.K B ρ env st σ H →
  ROk X.K W B ρ env σ H (f env st) (fun k ρ' st' H' => Q k H') → t σ H Q
theorem ME.mb {X : Cx} {e : Expr} {f : EF PV} (h : ME X W e f) : MB X W e f := by
  obtain ⟨t, h1, h2⟩ := h
  refine ⟨t, h1, fun B ρ env st σ H Q R q => h2 B ρ env st σ H Q R (q.mono fun p ρ' st' H' E z u r => z u ⟨r.b, fun a l e1 e2 => ?_⟩)⟩
  subst e1 e2
  obtain ⟨b, xs, e3, n, _⟩ := rv_lst r
  cases e3
  exact fun z => n (.inr (.inl z))
theorem MW.mt {X : Cx} {e : Expr} {f : EF Bool} (h : MW X W e f) : MT X W e f := by
  obtain ⟨t, h1, h2⟩ := h
  exact ⟨t, h1.pt, h2⟩
/-- what follows a statement -/
def SOk (K : PySem.W.Frag) (W : WX) (B : Addr → Prop) (ρ : List Addr) (env : Env) (σ : St) (H : Hp) (r : RS) (D : Ends) : Prop := match r with
  | .nx e' st' => ∀ ρ' σ' H', Post K B ρ env σ H ρ' e' st' σ' H' → D.nx σ' H'
  | .bk e' st' => ∀ ρ' σ' H', Post K B ρ env σ H ρ' e' st' σ' H' → D.bk σ' H'
  | .ct e' st' => ∀ ρ' σ' H', Post K B ρ env σ H ρ' e' st' σ' H' → D.ct σ' H'
  | .rt v st' => ∀ ρ' e' σ' H' u, Post K B ρ env σ H ρ' e' st' σ' H' → RV K (Excl B ρ' [] []) ρ' H' v u → D.rt u H'
  | .exc x e' st' => ∀ ρ' σ' H' cls d, Post K B ρ env σ H ρ' e' st' σ' H' → ExR K (Excl B ρ' e' σ') ρ' H' x cls d → W cls d σ' H'
  | .stuck => False
def RefS (K : PySem.W.Frag) (W : WX) (t : TS) (f : SF) : Prop := ∀ B ρ env st σ H D, Rep K B ρ env st σ H → SOk K W B ρ env σ H (f env st) D → t D σ H
def MS (X : Cx) (W : WX) (s : Stmt) (f : SF) : Prop := ∃ t, PS X s t ∧ RefS X.K W t f
def MSs (X : Cx) (W : WX) (s : List Stmt) (f : SF) : Prop := ∃ t, PSs X s t ∧ RefS X.K W t f
theorem SOk.shift {r : RS} {D : Ends} (P : Post K B ρ env σ H ρ1 env1 st1 σ1 H1) (h : SOk K W B ρ env σ H r D) : SOk K W B ρ1 env1 σ1 H1 r D := by
  cases r with
  | nx e st => exact fun ρ' σ' H' P2 => h ρ' σ' H' (P.trans P2)
  | bk e st => exact fun ρ' σ' H' P2 => h ρ' σ' H' (P.trans P2)
  | ct e st => exact fun ρ' σ' H' P2 => h ρ' σ' H' (P.trans P2)
  | rt v st => exact fun ρ' e' σ' H' u P2 => h ρ' e' σ' H' u (P.trans P2)
  | exc x e st => exact fun ρ' σ' H' cls d P2 => h ρ' σ' H' cls d (P.trans P2)
  | stuck => exact h
theorem SOk.toS {r : RE α} {f : α → Sto → RS} {D : Ends} (h : SOk K W B ρ env σ H (r.toS env f) D) :
    ROk K W B ρ env σ H r fun a ρ' st' H' => SOk K W B ρ' env σ H' (f a st') D := by
  cases r with
  | ok a st' => exact fun ρ' H' E => SOk.shift E.post h
  | exc x st' => exact fun ρ' H' cls d E => h ρ' σ H' cls d E.post
  | stuck => exact h
end
end PL
/-! PLc: the expressions. -/
namespace PL
open PySem PySem.Spec L2
section
variable {X : Cx} {W : WX} {a b c e : Expr} {es : List Expr} {fa fb fc f : EF PV} {g : EF (List PV)} {pos : Pos}
/-! ### names and constants -/
theorem m_var {i : Nat} {x : Str} (hN : X.N[i]? = some x) (hv : Vis X.env.scope x) (hd : (x == ("__debug__" : Str)) = false := by decide) (hcd : (x == ("__classdict__" : Str)) = false := by decide) : ME X W (.Name x pos) (eVar i) := by
  refine ⟨tVar i, pe_var hN hv hd hcd, fun B ρ env st σ H Q R h => ?_⟩
  unfold eVar at h
  cases q : env[i]? with
  | none => rw [q] at h; exact h.elim
  | some ev =>
    rw [q] at h
    cases ev with
    | non => exact h.elim
    | own l => exact h.elim
    | val p =>
      obtain ⟨v, h1, h2⟩ := R.slot i _ q
      exact ⟨v, h1, h ρ H (.refl R) v h2⟩
theorem mb_own {i : Nat} {x : Str} (hN : X.N[i]? = some x) (hv : Vis X.env.scope x) (hd : (x == ("__debug__" : Str)) = false := by decide) (hcd : (x == ("__classdict__" : Str)) = false := by decide) : MB X W (.Name x pos) (eOwn i) := by
  refine ⟨tVar i, pe_var hN hv hd hcd, fun B ρ env st σ H Q R h => ?_⟩
  unfold eOwn at h
  cases q : env[i]? with
  | none => rw [q] at h; exact h.elim
  | some ev =>
    rw [q] at h
    cases ev with
    | non => exact h.elim
    | val p => exact h.elim
    | own l =>
      obtain ⟨z, xs, h1, h2, h3, h4⟩ := R.slot i _ q
      refine ⟨.ref z, h1, h ρ H (.refl R) (.ref z) ⟨⟨z, xs, rfl, h2, h3, h4⟩, fun a' l' e1 e2 => ?_⟩⟩
      cases e1
      exact (R.oR z ⟨i, l, q, h1⟩).1
theorem m_int {i : Int} {j} : ME X W (.Constant (.int i) j pos) (eC (.int i)) := ⟨_, pe_int, fun B ρ env st σ H Q R h => h ρ H (.refl R) _ mk_int⟩
theorem m_bl {i : Bool} {j} : ME X W (.Constant (.bool i) j pos) (eC (.bl i)) := ⟨_, pe_bl, fun B ρ env st σ H Q R h => h ρ H (.refl R) _ mk_bl⟩
theorem m_non {j} : ME X W (.Constant .none j pos) (eC .non) := ⟨_, pe_non, fun B ρ env st σ H Q R h => h ρ H (.refl R) _ mk_non⟩
theorem m_str {x : Str} {j} : ME X W (.Constant (.str x) j pos) (eC (.str x)) := ⟨_, pe_str, fun B ρ env st σ H Q R h => h ρ H (.refl R) _ mk_str⟩
theorem m_globI {x : Str} {i : Int} (hg : Gl X x) (hm : ∃ t, X.mg x = some (.int i t)) (hd : (x == ("__debug__" : Str)) = false := by decide) : ME X W (.Name x pos) (eC (.int i)) := by
  obtain ⟨t, hm⟩ := hm
  exact ⟨_, pe_glob (v := .int i) hg hm ⟨t, rfl⟩ hd, fun B ρ env st σ H Q R h => h ρ H (.refl R) _ mk_int⟩
theorem m_globS {x : Str} {i : Str} (hg : Gl X x) (hm : ∃ t, X.mg x = some (.str i t)) (hd : (x == ("__debug__" : Str)) = false := by decide) : ME X W (.Name x pos) (eC (.str i)) := by
  obtain ⟨t, hm⟩ := hm
  exact ⟨_, pe_glob (v := .str i) hg hm ⟨t, rfl⟩ hd, fun B ρ env st σ H Q R h => h ρ H (.refl R) _ mk_str⟩
end
/-! ### operations on values -/
/-- a value or a lent list -/
def RVl (K : PySem.W.Frag) (N : Addr → Prop) (ρ : List Addr) (H : Hp) (p : PV) (u : V) : Prop := RVb K N ρ H p u ∧ ∀ a l, u = .ref a → p = .lst l → a ∉ ρ
def RVls (K : PySem.W.Frag) (N : Addr → Prop) (ρ : List Addr) (H : Hp) : List PV → List V → Prop
  | [], xs => xs = []
  | p :: ps, xs => ∃ v vs, xs = v :: vs ∧ RVl K N ρ H p v ∧ RVls K N ρ H ps vs
section
variable {K : PySem.W.Frag} {N : Addr → Prop} {ρ : List Addr} {H : Hp}
theorem RVls.one {p : PV} {xs : List V} (h : RVls K N ρ H [p] xs) : ∃ v, xs = [v] ∧ RVl K N ρ H p v := by
  obtain ⟨v, vs, rfl, r, t⟩ := h
  exact ⟨v, by rw [show vs = [] from t], r⟩
theorem RVls.two {p q : PV} {xs : List V} (h : RVls K N ρ H [p, q] xs) : ∃ v w, xs = [v, w] ∧ RVl K N ρ H p v ∧ RVl K N ρ H q w := by
  obtain ⟨v, vs, rfl, r, t⟩ := h
  obtain ⟨w, rfl, r'⟩ := RVls.one t
  exact ⟨v, w, rfl, r, r'⟩
theorem rvb_int {i : Int} {v : V} (h : RVb K N ρ H (.int i) v) : v = .int i := rv_int (show RV K N ρ H (.int i) v from h)
theorem rvb_bl {i : Bool} {v : V} (h : RVb K N ρ H (.bl i) v) : v = .bl i := rv_bl (show RV K N ρ H (.bl i) v from h)
theorem rvb_non {v : V} (h : RVb K N ρ H .non v) : v = .non := rv_non (show RV K N ρ H .non v from h)
theorem rvb_str {i : Str} {v : V} (h : RVb K N ρ H (.str i) v) : v = .str i := rv_str (show RV K N ρ H (.str i) v from h)
theorem rvb_tup {l : List PV} {v : V} (h : RVb K N ρ H (.tup l) v) : ∃ a xs, v = .ref a ∧ ¬ N a ∧ H a = some (.tup xs) ∧ xs.length ≤ LINE ∧ RVs K N ρ H l xs := rv_tup (show RV K N ρ H (.tup l) v from h)
theorem rvb_lst {l : List PV} {v : V} (h : RVb K N ρ H (.lst l) v) : ∃ a xs, v = .ref a ∧ H a = some (.lst xs) ∧ xs.length ≤ LINE ∧ RVs K N ρ H l xs := h
theorem rvb_scr {l : List Int} {v : V} (h : RVb K N ρ H (.scr l) v) : ∃ a, v = .ref a ∧ ScrAt K N H a l := rv_scr (show RV K N ρ H (.scr l) v from h)
end
/-- an operation of two values: f is binaryOp op, compareOp op -/
def OpP (X : Cx) (f : Value → Value → Sem Value) (op : PV → PV → Option PV) : Prop := ∃ r : R2, OpR X f r ∧
  ∀ (N : Addr → Prop) (ρ : List Addr) (H : Hp) (x y : V) (p q z : PV) (Q : VK), (∀ a, N a → H a ≠ none) → RVb X.K N ρ H p x → RVb X.K N ρ H q y → op p q = some z →
    (∀ H' w, Ext H H' → RV X.K N ρ H' z w → Q w H') → r x y H Q
def IxP (X : Cx) (op : PV → PV → Option PV) : Prop := ∃ r : R2, IxR X r ∧
  ∀ (N : Addr → Prop) (ρ : List Addr) (H : Hp) (x y : V) (p q z : PV) (Q : VK), (∀ a, N a → H a ≠ none) → RVb X.K N ρ H p x → RVb X.K N ρ H q y → op p q = some z →
    (∀ H' w, Ext H H' → RV X.K N ρ H' z w → Q w H') → r x y H Q
def UnP (X : Cx) (f : Value → Sem Value) (op : PV → Option PV) : Prop := ∃ r : V → Hp → VK → Prop, UnR X f r ∧
  ∀ (N : Addr → Prop) (ρ : List Addr) (H : Hp) (x : V) (p z : PV) (Q : VK), (∀ a, N a → H a ≠ none) → RVb X.K N ρ H p x → op p = some z →
    (∀ H' w, Ext H H' → RV X.K N ρ H' z w → Q w H') → r x H Q
/-- a call of a built-in -/
def CallP (X : Cx) (fv : Value) (op : List PV → Option PV) : Prop := ∃ r : List V → Hp → VK → Prop, CallR X fv r ∧
  ∀ (N : Addr → Prop) (ρ : List Addr) (H : Hp) (xs : List V) (ps : List PV) (z : PV) (Q : VK), (∀ a, N a → H a ≠ none) → RVls X.K N ρ H ps xs → op ps = some z →
    (∀ H' w, Ext H H' → RV X.K N ρ H' z w → Q w H') → r xs H Q
/-- .. that makes a new list -/
def CallL (X : Cx) (fv : Value) (op : List PV → Option (List PV)) : Prop := ∃ r : List V → Hp → VK → Prop, CallR X fv r ∧
  ∀ (N : Addr → Prop) (ρ : List Addr) (H : Hp) (xs : List V) (ps z : List PV) (Q : VK), (∀ a, N a → H a ≠ none) → RVls X.K N ρ H ps xs → op ps = some z →
    (∀ H' p zs H'', Ext H H' → H' p = none → H'' = upd H' p (.lst zs) → zs.length ≤ LINE → RVs X.K N ρ H' z zs → Q (.ref p) H'') → r xs H Q
section
variable {X : Cx} {W : WX} {a b c e : Expr} {es : List Expr} {fa fb fc f : EF PV} {g : EF (List PV)} {pos : Pos}
variable {K : PySem.W.Frag} {B : Addr → Prop} {ρ ρ' : List Addr} {env : Env} {st st' : Sto} {σ : St} {H H' : Hp}
theorem RVl.on (P : EPost K B ρ env σ H ρ' st' H') (E0 : ∀ a ∈ ρ', a ∉ ρ → H a = none) {p : PV} {v : V} (h : RVl K (Excl B ρ env σ) ρ H p v) : RVl K (Excl B ρ' env σ) ρ' H' p v := by
  refine ⟨P.rvb h.1 h.2, fun a l e1 e2 z => ?_⟩
  by_cases h1 : a ∈ ρ
  · exact h.2 a l e1 e2 h1
  · have q := E0 a z h1
    subst e1 e2
    obtain ⟨b, xs, e3, h2, _⟩ := rvb_lst h.1
    cases e3
    rw [q] at h2
    cases h2
theorem RVls.on (P : EPost K B ρ env σ H ρ' st' H') : ∀ {ps : List PV} {vs : List V}, RVls K (Excl B ρ env σ) ρ H ps vs → RVls K (Excl B ρ' env σ) ρ' H' ps vs
  | [], _, h => h
  | p :: ps, _, h => by
    obtain ⟨v, vs, rfl, r, t⟩ := h
    exact ⟨v, vs, rfl, r.on P P.fr, RVls.on P t⟩
theorem RVs.toL {N : Addr → Prop} (hN : ∀ a ∈ ρ, N a) : ∀ {ps : List PV} {vs : List V}, RVs K N ρ H ps vs → RVls K N ρ H ps vs
  | [], _, h => h.unnil
  | p :: ps, _, h => by
    obtain ⟨v, vs, rfl, r, t⟩ := h.uncons
    refine ⟨v, vs, rfl, ⟨r.b, fun a l e1 e2 z => ?_⟩, RVs.toL hN t⟩
    subst e1 e2
    obtain ⟨b, xs, e3, n, _⟩ := rv_lst r
    cases e3
    exact n (hN a z)
theorem Excl.inR {a : Addr} (h : a ∈ ρ) : Excl B ρ env σ a := .inr (.inl h)
/-- arguments that a built-in takes -/
def MAb (X : Cx) (W : WX) (es : List Expr) (f : EF (List PV)) : Prop := ∃ t, PA X es t ∧ ∀ B ρ env st σ H Q, Rep X.K B ρ env st σ H →
  ROk X.K W B ρ env σ H (f env st) (fun l ρ' st' H' => ∀ us, RVls X.K (Excl B ρ' env σ) ρ' H' l us → Q us H') → t σ H Q
theorem MA.toB (h : MA X W es g) : MAb X W es g := by
  obtain ⟨t, h1, h2⟩ := h
  exact ⟨t, h1, fun B ρ env st σ H Q R q => h2 B ρ env st σ H Q R (q.mono fun l ρ' st' H' E z us r => z us (r.toL fun a h => Excl.inR h))⟩
theorem ma_nil : MA X W [] aNil := ⟨tNil, pa_nil, fun B ρ env st σ H Q R h => h ρ H (.refl R) [] .nil⟩
theorem ma_cons (ha : ME X W e f) (hr : MA X W es g) (hs : starEach (e :: es) X.env = (false, eval e X.env) :: starEach es X.env := by rfl) : MA X W (e :: es) (aCons f g) := by
  obtain ⟨t1, p1, q1⟩ := ha
  obtain ⟨t2, p2, q2⟩ := hr
  refine ⟨tCons t1 t2, pa_cons p1 p2 hs, fun B ρ env st σ H Q R h => ?_⟩
  refine q1 B ρ env st σ H _ R (ROk.mono (ROk.bind h) fun p ρ1 st1 H1 E1 h1 x rx => ?_)
  refine q2 B ρ1 env st1 σ H1 _ E1.rep (ROk.mono (ROk.bind h1) fun l ρ2 st2 H2 E2 h2 us rus => ?_)
  exact h2 ρ2 H2 (.refl E2.rep) (x :: us) (.cons (E2.post.rv rx) rus)
theorem mab_nil : MAb X W [] aNil := ⟨tNil, pa_nil, fun B ρ env st σ H Q R h => h ρ H (.refl R) [] rfl⟩
theorem mab_cons (ha : MB X W e f) (hr : MAb X W es g) (hs : starEach (e :: es) X.env = (false, eval e X.env) :: starEach es X.env := by rfl) : MAb X W (e :: es) (aCons f g) := by
  obtain ⟨t1, p1, q1⟩ := ha
  obtain ⟨t2, p2, q2⟩ := hr
  refine ⟨tCons t1 t2, pa_cons p1 p2 hs, fun B ρ env st σ H Q R h => ?_⟩
  refine q1 B ρ env st σ H _ R (ROk.mono (ROk.bind h) fun p ρ1 st1 H1 E1 h1 x rx => ?_)
  refine q2 B ρ1 env st1 σ H1 _ E1.rep (ROk.mono (ROk.bind h1) fun l ρ2 st2 H2 E2 h2 us rus => ?_)
  exact h2 ρ2 H2 (.refl E2.rep) (x :: us) ⟨x, us, rfl, RVl.on E2 E2.fr rx, rus⟩
theorem ROk.of {α : Type} {o : Option α} {Z : α → List Addr → Sto → Hp → Prop} (R : Rep K B ρ env st σ H) (h : ROk K W B ρ env σ H (RE.of o st) Z) : ∃ z, o = some z ∧ ∀ H', Ext H H' → Z z ρ st H' := by
  cases o with
  | none => exact h.elim
  | some z => exact ⟨z, rfl, fun H' E => h ρ H' (.ext R E)⟩
theorem m_op {op : Operator} {k : PV → PV → Option PV} (ho : OpP X (binaryOp op) k) (ha : MB X W a fa) (hb : MB X W b fb) : ME X W (.BinOp a op b pos) (eOp k fa fb) := by
  obtain ⟨r, hr, hg⟩ := ho
  obtain ⟨ta, pa, qa⟩ := ha
  obtain ⟨tb, pb, qb⟩ := hb
  refine ⟨tOp r ta tb, pe_op hr pa pb, fun B ρ env st σ H Q R h => ?_⟩
  refine qa B ρ env st σ H _ R (ROk.mono (ROk.bind h) fun p ρ1 st1 H1 E1 h1 x rx => ?_)
  refine qb B ρ1 env st1 σ H1 _ E1.rep (ROk.mono (ROk.bind h1) fun q ρ2 st2 H2 E2 h2 y ry => ?_)
  obtain ⟨z, e, hz⟩ := ROk.of E2.rep h2
  exact hg _ ρ2 H2 x y p q z Q (fun _ h => E2.rep.tr h) (RVl.on E2 E2.fr rx).1 ry.1 e fun H3 w E3 rw' => hz H3 E3 w rw'
theorem m_cmp {op : CmpOp} {k : PV → PV → Option PV} (ho : OpP X (compareOp op) k) (ha : MB X W a fa) (hb : MB X W b fb) (hm : behindInMarks op b = false) : ME X W (.Compare a [op] [b] pos) (eOp k fa fb) := by
  obtain ⟨r, hr, hg⟩ := ho
  obtain ⟨ta, pa, qa⟩ := ha
  obtain ⟨tb, pb, qb⟩ := hb
  refine ⟨tOp r ta tb, pe_cmpR hr pa pb hm, fun B ρ env st σ H Q R h => ?_⟩
  refine qa B ρ env st σ H _ R (ROk.mono (ROk.bind h) fun p ρ1 st1 H1 E1 h1 x rx => ?_)
  refine qb B ρ1 env st1 σ H1 _ E1.rep (ROk.mono (ROk.bind h1) fun q ρ2 st2 H2 E2 h2 y ry => ?_)
  obtain ⟨z, e, hz⟩ := ROk.of E2.rep h2
  exact hg _ ρ2 H2 x y p q z Q (fun _ h => E2.rep.tr h) (RVl.on E2 E2.fr rx).1 ry.1 e fun H3 w E3 rw' => hz H3 E3 w rw'
theorem mt_cmp {op : CmpOp} {k : PV → PV → Option PV} (ho : OpP X (compareOp op) k) (ha : MB X W a fa) (hb : MB X W b fb) (hm : behindInMarks op b = false) : MT X W (.Compare a [op] [b] pos) (tV (eOp k fa fb)) := by
  obtain ⟨r, hr, hg⟩ := ho
  obtain ⟨ta, pa, qa⟩ := ha
  obtain ⟨tb, pb, qb⟩ := hb
  refine ⟨_, pt_cmpR hr pa pb hm, fun B ρ env st σ H Q R h => ?_⟩
  have h := ROk.bind h
  refine qa B ρ env st σ H _ R (ROk.mono (ROk.bind h) fun p ρ1 st1 H1 E1 h1 x rx => ?_)
  refine qb B ρ1 env st1 σ H1 _ E1.rep (ROk.mono (ROk.bind h1) fun q ρ2 st2 H2 E2 h2 y ry => ?_)
  obtain ⟨z, e, hz⟩ := ROk.of E2.rep h2
  refine hg _ ρ2 H2 x y p q z _ (fun _ h => E2.rep.tr h) (RVl.on E2 E2.fr rx).1 ry.1 e fun H3 w E3 rw' => ?_
  have h3 := hz H3 E3
  cases z with
  | bl k => exact ⟨k, rv_bl rw', h3 ρ2 H3 (.refl (E2.rep.ext E3))⟩
  | _ => exact h3.elim
theorem m_chain {op op' : CmpOp} {k k' : PV → PV → Option PV} (ho : OpP X (compareOp op) k) (ho' : OpP X (compareOp op') k') (ha : MB X W a fa) (hb : MB X W b fb) (hc : MB X W c fc)
    (hm : lastMarks [op, op'] [b, c] = false := by with_unfolding_all rfl) : ME X W (.Compare a [op, op'] [b, c] pos) (eChain k k' fa fb fc) := by
  obtain ⟨r, hr, hg⟩ := ho
  obtain ⟨r', hr', hg'⟩ := ho'
  obtain ⟨ta, pa, qa⟩ := ha
  obtain ⟨tb, pb, qb⟩ := hb
  obtain ⟨tc, pc, qc⟩ := hc
  refine ⟨_, pe_chain hr hr' pa pb pc hm, fun B ρ env st σ H Q R h => ?_⟩
  refine qa B ρ env st σ H _ R (ROk.mono (ROk.bind h) fun p ρ1 st1 H1 E1 h1 x rx => ?_)
  refine qb B ρ1 env st1 σ H1 _ E1.rep (ROk.mono (ROk.bind h1) fun q ρ2 st2 H2 E2 h2 y ry => ?_)
  cases e : k p q with
  | none => rw [e] at h2; exact h2.elim
  | some z =>
    rw [e] at h2
    refine hg _ ρ2 H2 x y p q z _ (fun _ h => E2.rep.tr h) (RVl.on E2 E2.fr rx).1 ry.1 e fun H3 w E3 rw' => ?_
    cases z with
    | bl kk =>
      refine ⟨kk, rv_bl rw', ?_⟩
      have EE : EPost X.K B ρ2 env σ H2 ρ2 st2 H3 := .ext E2.rep E3
      cases kk with
      | false =>
        rw [if_neg Bool.false_ne_true]
        exact h2 ρ2 H3 EE _ mk_bl
      | true =>
        rw [if_pos rfl]
        refine qc B ρ2 env st2 σ H3 _ EE.rep (ROk.mono (ROk.bind (ROk.shift EE h2)) fun q2 ρ4 st4 H4 E4 h4 y2 ry2 => ?_)
        obtain ⟨z2, e2, hz2⟩ := ROk.of E4.rep h4
        exact hg' _ ρ4 H4 y y2 q q2 z2 Q (fun _ h => E4.rep.tr h) (RVl.on E4 E4.fr (RVl.on EE EE.fr ry)).1 ry2.1 e2 fun H5 w5 E5 r5 => hz2 H5 E5 w5 r5
    | _ => exact h2.elim
theorem mt_chain {op op' : CmpOp} {k k' : PV → PV → Option PV} (ho : OpP X (compareOp op) k) (ho' : OpP X (compareOp op') k') (ha : MB X W a fa) (hb : MB X W b fb) (hc : MB X W c fc)
    (hm : lastMarks [op, op'] [b, c] = false := by with_unfolding_all rfl) : MT X W (.Compare a [op, op'] [b, c] pos) (tV (eChain k k' fa fb fc)) := by
  obtain ⟨r, hr, hg⟩ := ho
  obtain ⟨r', hr', hg'⟩ := ho'
  obtain ⟨ta, pa, qa⟩ := ha
  obtain ⟨tb, pb, qb⟩ := hb
  obtain ⟨tc, pc, qc⟩ := hc
  refine ⟨_, pt_chain hr hr' pa pb pc hm, fun B ρ env st σ H Q R h => ?_⟩
  have h := ROk.bind h
  refine qa B ρ env st σ H _ R (ROk.mono (ROk.bind h) fun p ρ1 st1 H1 E1 h1 x rx => ?_)
  refine qb B ρ1 env st1 σ H1 _ E1.rep (ROk.mono (ROk.bind h1) fun q ρ2 st2 H2 E2 h2 y ry => ?_)
  cases e : k p q with
  | none => rw [e] at h2; exact h2.elim
  | some z =>
    rw [e] at h2
    refine hg _ ρ2 H2 x y p q z _ (fun _ h => E2.rep.tr h) (RVl.on E2 E2.fr rx).1 ry.1 e fun H3 w E3 rw' => ?_
    cases z with
    | bl kk =>
      refine ⟨kk, rv_bl rw', ?_⟩
      have EE : EPost X.K B ρ2 env σ H2 ρ2 st2 H3 := .ext E2.rep E3
      cases kk with
      | false =>
        rw [if_neg Bool.false_ne_true]
        exact ⟨false, rfl, h2 ρ2 H3 EE ρ2 H3 (.refl EE.rep)⟩
      | true =>
        rw [if_pos rfl]
        refine qc B ρ2 env st2 σ H3 _ EE.rep (ROk.mono (ROk.bind (ROk.shift EE h2)) fun q2 ρ4 st4 H4 E4 h4 y2 ry2 => ?_)
        obtain ⟨z2, e2, hz2⟩ := ROk.of E4.rep h4
        refine hg' _ ρ4 H4 y y2 q q2 z2 _ (fun _ h => E4.rep.tr h) (RVl.on E4 E4.fr (RVl.on EE EE.fr ry)).1 ry2.1 e2 fun H5 w5 E5 r5 => ?_
        have h5 := hz2 H5 E5
        cases z2 with
        | bl k5 => exact ⟨k5, rv_bl r5, h5 ρ4 H5 (.refl (E4.rep.ext E5))⟩
        | _ => exact h5.elim
    | _ => exact h2.elim
theorem m_un {op : UnaryOp} {k : PV → Option PV} (ho : UnP X (unaryOp op) k) (ha : ME X W a fa) : ME X W (.UnaryOp op a pos) (eUn k fa) := by
  obtain ⟨r, hr, hg⟩ := ho
  obtain ⟨ta, pa, qa⟩ := ha
  refine ⟨_, pe_un hr pa, fun B ρ env st σ H Q R h => ?_⟩
  refine qa B ρ env st σ H _ R (ROk.mono (ROk.bind h) fun p ρ1 st1 H1 E1 h1 x rx => ?_)
  obtain ⟨z, e, hz⟩ := ROk.of E1.rep h1
  exact hg _ ρ1 H1 x p z Q (fun _ h => E1.rep.tr h) rx.b e fun H3 w E3 rw' => hz H3 E3 w rw'
theorem m_ix {k : PV → PV → Option PV} (ho : IxP X k) (ha : MB X W a fa) (hb : MB X W b fb) (hs : PlainIx b) : ME X W (.Subscript a b pos) (eOp k fa fb) := by
  obtain ⟨r, hr, hg⟩ := ho
  obtain ⟨ta, pa, qa⟩ := ha
  obtain ⟨tb, pb, qb⟩ := hb
  refine ⟨tOp r ta tb, pe_ix hr pa pb hs, fun B ρ env st σ H Q R h => ?_⟩
  refine qa B ρ env st σ H _ R (ROk.mono (ROk.bind h) fun p ρ1 st1 H1 E1 h1 x rx => ?_)
  refine qb B ρ1 env st1 σ H1 _ E1.rep (ROk.mono (ROk.bind h1) fun q ρ2 st2 H2 E2 h2 y ry => ?_)
  obtain ⟨z, e, hz⟩ := ROk.of E2.rep h2
  exact hg _ ρ2 H2 x y p q z Q (fun _ h => E2.rep.tr h) (RVl.on E2 E2.fr rx).1 ry.1 e fun H3 w E3 rw' => hz H3 E3 w rw'
/-! ### displays -/
theorem m_tup {x1} (h : MA X W es g) : ME X W (.Tuple es x1 pos) (eTup g) := by
  obtain ⟨t, p, q⟩ := h
  refine ⟨tTup t, pe_tup p, fun B ρ env st σ H Q R h => ?_⟩
  refine q B ρ env st σ H _ R (ROk.mono (ROk.bind h) fun l ρ1 st1 H1 E1 h1 us rus => ?_)
  by_cases hl : l.length ≤ LINE
  · rw [if_pos hl] at h1
    have hz : us.length ≤ LINE := by rw [rus.len]; exact hl
    refine ⟨by rw [← LINE_eq]; exact hz, fun p np => ?_⟩
    have EE : EPost X.K B ρ1 env σ H1 ρ1 st1 (upd H1 p (.tup us)) := .ext E1.rep (.new np)
    exact h1 ρ1 _ EE _ (mk_tup (E1.rep.fresh np) upd_same hz (EE.post.rvs rus))
  · rw [if_neg hl] at h1
    exact h1.elim
theorem ml_lst (h : MA X W es g) : ML X W (.List es pos) (lDisp g) := by
  obtain ⟨t, p, q⟩ := h
  refine ⟨tLst t, pe_lst p, fun B ρ env st σ H Q R h => ?_⟩
  refine q B ρ env st σ H _ R (ROk.mono (ROk.bind h) fun l ρ1 st1 H1 E1 h1 us rus => ?_)
  by_cases hl : l.length ≤ LINE
  · rw [if_pos hl] at h1
    have hz : us.length ≤ LINE := by rw [rus.len]; exact hl
    exact ⟨by rw [← LINE_eq]; exact hz, fun p np => h1 ρ1 H1 (.refl E1.rep) p us _ np rfl hz rus⟩
  · rw [if_neg hl] at h1
    exact h1.elim
theorem ML.me (h : ML X W e g) : ME X W e (eLst g) := by
  obtain ⟨t, p, q⟩ := h
  refine ⟨t, p, fun B ρ env st σ H Q R h => ?_⟩
  refine q B ρ env st σ H _ R (ROk.mono (ROk.bind h) fun l ρ1 st1 H1 E1 h1 p xs H'' np e2 hz rxs => ?_)
  subst e2
  have EE : EPost X.K B ρ1 env σ H1 ρ1 st1 (upd H1 p (.lst xs)) := .ext E1.rep (.new np)
  exact h1 ρ1 _ EE _ (mk_lst (E1.rep.fresh np) upd_same hz (EE.post.rvs rxs))
/-! ### and, or, not, if -/
theorem m_one {op} (h : ME X W a fa) : ME X W (.BoolOp op [a] pos) fa := by
  obtain ⟨t, p, q⟩ := h
  exact ⟨t, pe_one p, q⟩
theorem m_and {rest : List Expr} (ha : ME X W a fa) (hb : ME X W (.BoolOp .And (b :: rest) pos) fb) : ME X W (.BoolOp .And (a :: b :: rest) pos) (eAnd fa fb) := by
  obtain ⟨ta, pa, qa⟩ := ha
  obtain ⟨tb, pb, qb⟩ := hb
  refine ⟨tAndV ta tb, pe_and pa pb, fun B ρ env st σ H Q R h => ?_⟩
  refine qa B ρ env st σ H _ R (ROk.mono (ROk.bind h) fun p ρ1 st1 H1 E1 h1 x rx => ?_)
  cases p with
  | bl k =>
    refine ⟨k, rv_bl rx, ?_⟩
    cases k with
    | true => rw [if_pos rfl]; exact qb B ρ1 env st1 σ H1 Q E1.rep h1
    | false => rw [if_neg Bool.false_ne_true]; exact h1 ρ1 H1 (.refl E1.rep) _ mk_bl
  | _ => exact h1.elim
theorem m_or {rest : List Expr} (ha : ME X W a fa) (hb : ME X W (.BoolOp .Or (b :: rest) pos) fb) : ME X W (.BoolOp .Or (a :: b :: rest) pos) (eOr fa fb) := by
  obtain ⟨ta, pa, qa⟩ := ha
  obtain ⟨tb, pb, qb⟩ := hb
  refine ⟨tOrV ta tb, pe_or pa pb, fun B ρ env st σ H Q R h => ?_⟩
  refine qa B ρ env st σ H _ R (ROk.mono (ROk.bind h) fun p ρ1 st1 H1 E1 h1 x rx => ?_)
  cases p with
  | bl k =>
    refine ⟨k, rv_bl rx, ?_⟩
    cases k with
    | true => rw [if_pos rfl]; exact h1 ρ1 H1 (.refl E1.rep) _ mk_bl
    | false => rw [if_neg Bool.false_ne_true]; exact qb B ρ1 env st1 σ H1 Q E1.rep h1
  | _ => exact h1.elim
theorem m_not (ha : ME X W a fa) : ME X W (.UnaryOp .Not a pos) (eNot fa) := by
  obtain ⟨ta, pa, qa⟩ := ha
  refine ⟨tNotV ta, pe_not pa, fun B ρ env st σ H Q R h => ?_⟩
  refine qa B ρ env st σ H _ R (ROk.mono (ROk.bind h) fun p ρ1 st1 H1 E1 h1 x rx => ?_)
  cases p with
  | bl k => exact ⟨k, rv_bl rx, h1 ρ1 H1 (.refl E1.rep) _ mk_bl⟩
  | _ => exact h1.elim
variable {ga gb : EF Bool}
theorem m_if (hc : MT X W c ga) (ha : ME X W a fa) (hb : ME X W b fb) : ME X W (.IfExp c a b pos) (eIf ga fa fb) := by
  obtain ⟨tc, pc, qc⟩ := hc
  obtain ⟨ta, pa, qa⟩ := ha
  obtain ⟨tb, pb, qb⟩ := hb
  refine ⟨tIf tc ta tb, pe_ifExp pc pa pb, fun B ρ env st σ H Q R h => ?_⟩
  refine qc B ρ env st σ H _ R (ROk.mono (ROk.bind h) fun k ρ1 st1 H1 E1 h1 => ?_)
  cases k with
  | true => rw [if_pos rfl]; rw [if_pos rfl] at h1; exact qa B ρ1 env st1 σ H1 Q E1.rep h1
  | false => rw [if_neg Bool.false_ne_true]; rw [if_neg Bool.false_ne_true] at h1; exact qb B ρ1 env st1 σ H1 Q E1.rep h1
/-! ### tests -/
theorem mt_val (h : ME X W a fa) (he : ∀ whole, isTrue a X.env whole = (do let v ← whole; standAt a.pos; holding [v] (truthy v)) := by intro _; rfl) : MT X W a (tV fa) := by
  obtain ⟨t, p, q⟩ := h
  refine ⟨tB t, pt_val p he, fun B ρ env st σ H Q R h => ?_⟩
  refine q B ρ env st σ H _ R (ROk.mono (ROk.bind h) fun v ρ1 st1 H1 E1 h1 x rx => ?_)
  cases v with
  | bl k => exact ⟨k, rv_bl rx, h1 ρ1 H1 (.refl E1.rep)⟩
  | _ => exact h1.elim
theorem mt_not (h : MT X W a ga) : MT X W (.UnaryOp .Not a pos) (tNotF ga) := by
  obtain ⟨t, p, q⟩ := h
  refine ⟨tNot t, pt_not p, fun B ρ env st σ H Q R h => ?_⟩
  exact q B ρ env st σ H _ R (ROk.mono (ROk.bind h) fun k ρ1 st1 H1 E1 h1 => h1 ρ1 H1 (.refl E1.rep))
theorem mw_and1 (h : MT X W a ga) : MW X W (.BoolOp .And [a] pos) ga := by
  obtain ⟨t, p, q⟩ := h
  exact ⟨t, pw_and1 p, q⟩
theorem mw_or1 (h : MT X W a ga) : MW X W (.BoolOp .Or [a] pos) ga := by
  obtain ⟨t, p, q⟩ := h
  exact ⟨t, pw_or1 p, q⟩
theorem mw_and {rest : List Expr} (ha : MT X W a ga) (hb : MW X W (.BoolOp .And (b :: rest) pos) gb) : MW X W (.BoolOp .And (a :: b :: rest) pos) (tAndF ga gb) := by
  obtain ⟨ta, pa, qa⟩ := ha
  obtain ⟨tb, pb, qb⟩ := hb
  refine ⟨tAnd ta tb, pw_and pa pb, fun B ρ env st σ H Q R h => ?_⟩
  refine qa B ρ env st σ H _ R (ROk.mono (ROk.bind h) fun k ρ1 st1 H1 E1 h1 => ?_)
  cases k with
  | true => rw [if_pos rfl]; rw [if_pos rfl] at h1; exact qb B ρ1 env st1 σ H1 Q E1.rep h1
  | false => rw [if_neg Bool.false_ne_true]; rw [if_neg Bool.false_ne_true] at h1; exact h1 ρ1 H1 (.refl E1.rep)
theorem mw_or {rest : List Expr} (ha : MT X W a ga) (hb : MW X W (.BoolOp .Or (b :: rest) pos) gb) : MW X W (.BoolOp .Or (a :: b :: rest) pos) (tOrF ga gb) := by
  obtain ⟨ta, pa, qa⟩ := ha
  obtain ⟨tb, pb, qb⟩ := hb
  refine ⟨tOr ta tb, pw_or pa pb, fun B ρ env st σ H Q R h => ?_⟩
  refine qa B ρ env st σ H _ R (ROk.mono (ROk.bind h) fun k ρ1 st1 H1 E1 h1 => ?_)
  cases k with
  | true => rw [if_pos rfl]; rw [if_pos rfl] at h1; exact h1 ρ1 H1 (.refl E1.rep)
  | false => rw [if_neg Bool.false_ne_true]; rw [if_neg Bool.false_ne_true] at h1; exact qb B ρ1 env st1 σ H1 Q E1.rep h1
/-! ### built-ins called -/
theorem m_callB {x : Str} {p : Pos} {id : String} {k : List PV → Option PV} (hc : CallP X (.builtin id) k) (hg : Gl X x) (hm : X.mg x = none) (hv : bootBuiltins x = some (.builtin id)) (ha : MAb X W (e :: es) g) (hn : x ≠ "__name__" := by decide)
    (hdb : (x == ("__debug__" : Str)) = false := by decide) (he : starEach (e :: es) X.env = (false, eval e X.env) :: starEach es X.env := by rfl) (hpl : (backTo pos (starEach es X.env)).any (·.1) = false := by rfl) : ME X W (.Call (.Name x p) (e :: es) [] pos) (eB k g) := by
  obtain ⟨r, hr, hk⟩ := hc
  obtain ⟨t, pt, q⟩ := ha
  refine ⟨tCB r t, pe_callB hr hg hm hv pt hn hdb he hpl, fun B ρ env st σ H Q R h => ?_⟩
  refine q B ρ env st σ H _ R (ROk.mono (ROk.bind h) fun l ρ1 st1 H1 E1 h1 us rus => ?_)
  obtain ⟨z, e, hz⟩ := ROk.of E1.rep h1
  exact hk _ ρ1 H1 us l z Q (fun _ h => E1.rep.tr h) rus e fun H3 w E3 rw' => hz H3 E3 w rw'
theorem m_callTy {x : Str} {p : Pos} {T : String} {k : List PV → Option PV} (hc : CallP X (.type T) k) (hg : Gl X x) (hm : X.mg x = none) (hv : bootBuiltins x = some (.type T)) (ha : MAb X W (e :: es) g) (hn : x ≠ "__name__" := by decide)
    (hdb : (x == ("__debug__" : Str)) = false := by decide) (he : starEach (e :: es) X.env = (false, eval e X.env) :: starEach es X.env := by rfl) (hpl : (backTo pos (starEach es X.env)).any (·.1) = false := by rfl) : ME X W (.Call (.Name x p) (e :: es) [] pos) (eB k g) := by
  obtain ⟨r, hr, hk⟩ := hc
  obtain ⟨t, pt, q⟩ := ha
  refine ⟨tCB r t, pe_callTy hr hg hm hv pt hn hdb he hpl, fun B ρ env st σ H Q R h => ?_⟩
  refine q B ρ env st σ H _ R (ROk.mono (ROk.bind h) fun l ρ1 st1 H1 E1 h1 us rus => ?_)
  obtain ⟨z, e, hz⟩ := ROk.of E1.rep h1
  exact hk _ ρ1 H1 us l z Q (fun _ h => E1.rep.tr h) rus e fun H3 w E3 rw' => hz H3 E3 w rw'
theorem ml_callB {x : Str} {p : Pos} {id : String} {k : List PV → Option (List PV)} (hc : CallL X (.builtin id) k) (hg : Gl X x) (hm : X.mg x = none) (hv : bootBuiltins x = some (.builtin id)) (ha : MAb X W (e :: es) g) (hn : x ≠ "__name__" := by decide)
    (hdb : (x == ("__debug__" : Str)) = false := by decide) (he : starEach (e :: es) X.env = (false, eval e X.env) :: starEach es X.env := by rfl) (hpl : (backTo pos (starEach es X.env)).any (·.1) = false := by rfl) : ML X W (.Call (.Name x p) (e :: es) [] pos) (lB k g) := by
  obtain ⟨r, hr, hk⟩ := hc
  obtain ⟨t, pt, q⟩ := ha
  refine ⟨tCB r t, pe_callB hr hg hm hv pt hn hdb he hpl, fun B ρ env st σ H Q R h => ?_⟩
  refine q B ρ env st σ H _ R (ROk.mono (ROk.bind h) fun l ρ1 st1 H1 E1 h1 us rus => ?_)
  obtain ⟨z, e, hz⟩ := ROk.of E1.rep h1
  exact hk _ ρ1 H1 us l z Q (fun _ h => E1.rep.tr h) rus e fun H3 p zs H4 E3 np e4 hl rw' => hz H3 E3 p zs H4 np e4 hl rw'
theorem ml_callTy {x : Str} {p : Pos} {T : String} {k : List PV → Option (List PV)} (hc : CallL X (.type T) k) (hg : Gl X x) (hm : X.mg x = none) (hv : bootBuiltins x = some (.type T)) (ha : MAb X W (e :: es) g) (hn : x ≠ "__name__" := by decide)
    (hdb : (x == ("__debug__" : Str)) = false := by decide) (he : starEach (e :: es) X.env = (false, eval e X.env) :: starEach es X.env := by rfl) (hpl : (backTo pos (starEach es X.env)).any (·.1) = false := by rfl) : ML X W (.Call (.Name x p) (e :: es) [] pos) (lB k g) := by
  obtain ⟨r, hr, hk⟩ := hc
  obtain ⟨t, pt, q⟩ := ha
  refine ⟨tCB r t, pe_callTy hr hg hm hv pt hn hdb he hpl, fun B ρ env st σ H Q R h => ?_⟩
  refine q B ρ env st σ H _ R (ROk.mono (ROk.bind h) fun l ρ1 st1 H1 E1 h1 us rus => ?_)
  obtain ⟨z, e, hz⟩ := ROk.of E1.rep h1
  exact hk _ ρ1 H1 us l z Q (fun _ h => E1.rep.tr h) rus e fun H3 p zs H4 E3 np e4 hl rw' => hz H3 E3 p zs H4 np e4 hl rw'
end
end PL
/-! PLd: what is walked; comprehensions; statements. -/
namespace PL
open PySem PySem.Spec L2
/-- what was tracked and is not in M is as it was -/
def Keep (M : Addr → Prop) (H H' : Hp) : Prop := ∀ a o, H a = some o → ¬ M a → H' a = some o
/-- a later state, for values -/
structure Later (N : Addr → Prop) (ρ : List Addr) (H : Hp) (N' : Addr → Prop) (ρ' : List Addr) (H' : Hp) : Prop where
  less : ∀ a o, H a = some o → N' a → N a
  keep : Keep N H H'
  pre : ρ <+: ρ'
  tr : ∀ a, N' a → H' a ≠ none
/-- an iterator over these items, from the heap H0 on, while nothing changes but M -/
structure IterOk (K : PySem.W.Frag) (N M : Addr → Prop) (ρ : List Addr) (J : It) (items : List PV) (H0 : Hp) : Prop where
  len : items.length ≤ LINE
  go : ∀ i H, i < items.length → Keep M H0 H → J.go i H
  stop : ∀ H, Keep M H0 H → J.stop items.length H
  yld : ∀ i H x H', i < items.length → Keep M H0 H → J.yld i H x H' → Ext H H' ∧ ∀ p N' ρ', items[i]? = some p → Later N ρ H0 N' ρ' H → RV K N' ρ' H' p x
def MI (X : Cx) (W : WX) (tg iter : Expr) (f : EF (List PV)) : Prop := ∃ wi : TI, PI X tg iter wi ∧ ∀ B ρ env st σ H (R : It → Hp → Prop), Rep X.K B ρ env st σ H →
  ROk X.K W B ρ env σ H (f env st) (fun items ρ' st' H' => ∀ J H'', Ext H' H'' → IterOk X.K (Excl B ρ' env σ) (Excl B ρ' env σ) ρ' J items H'' → R J H'') → wi σ H R
/-- .. for a comprehension: a lent list may be walked -/
def MIc (X : Cx) (W : WX) (tg iter : Expr) (f : EF (List PV)) : Prop := ∃ wi : TI, PI X tg iter wi ∧ ∀ B ρ env st σ H (R : It → Hp → Prop), Rep X.K B ρ env st σ H →
  ROk X.K W B ρ env σ H (f env st) (fun items ρ' st' H' => ∀ J H'', Ext H' H'' → IterOk X.K (Excl B ρ' env σ) (fun a => a ∈ ρ') ρ' J items H'' → R J H'') → wi σ H R
theorem IterOk.less {K : PySem.W.Frag} {N M M' : Addr → Prop} {ρ : List Addr} {J : It} {items : List PV} {H0 : Hp} (h : IterOk K N M ρ J items H0) (hm : ∀ a, M' a → M a) : IterOk K N M' ρ J items H0 :=
  have q : ∀ {H}, Keep M' H0 H → Keep M H0 H := fun k a o e n => k a o e fun z => n (hm a z)
  ⟨h.len, fun i H hi k => h.go i H hi (q k), fun H k => h.stop H (q k), fun i H x H' hi k => h.yld i H x H' hi (q k)⟩
theorem MI.toC {X : Cx} {W : WX} {tg iter : Expr} {f : EF (List PV)} (h : MI X W tg iter f) : MIc X W tg iter f := by
  obtain ⟨wi, p, q⟩ := h
  exact ⟨wi, p, fun B ρ env st σ H R Rp h => q B ρ env st σ H R Rp (h.mono fun items ρ' st' H' E z J H'' e i => z J H'' e (i.less fun a h => Excl.inR h))⟩
theorem Post.later {K : PySem.W.Frag} {B : Addr → Prop} {ρ ρ' : List Addr} {env env' : Env} {st' : Sto} {σ σ' : L2.St} {H H' : Hp} (P : Post K B ρ env σ H ρ' env' st' σ' H') : Later (Excl B ρ env σ) ρ H (Excl B ρ' env' σ') ρ' H' where
  less := fun a o e n => by
    rcases n with n | n | n
    · exact .inl n
    · by_cases h1 : a ∈ ρ
      · exact .inr (.inl h1)
      · have q := P.fr a n h1
        rw [e] at q
        cases q
    · rcases P.ow a n with q | q
      · exact .inr (.inr q)
      · rw [e] at q
        cases q
  keep := fun a o e n => P.kp a o e (fun z => n (.inr (.inl z))) fun z => n (.inr (.inr z))
  pre := P.pre
  tr := fun a h => P.rep.tr h
theorem Later.rv {K : PySem.W.Frag} {N N' : Addr → Prop} {ρ ρ' : List Addr} {H H' : Hp} (L : Later N ρ H N' ρ' H') {p : PV} {v : V} (h : RV K N ρ H p v) : RV K N' ρ' H' p v := RV.carry L.less L.keep L.pre p v h
theorem RV.ext {K : PySem.W.Frag} {N : Addr → Prop} {ρ : List Addr} {H H' : Hp} (E : Ext H H') {p : PV} {v : V} (h : RV K N ρ H p v) : RV K N ρ H' p v := RV.carry (fun _ _ _ z => z) (fun a o e _ => E a o e) List.prefix_rfl p v h
theorem RVs.ext {K : PySem.W.Frag} {N : Addr → Prop} {ρ : List Addr} {H H' : Hp} (E : Ext H H') {p : List PV} {v : List V} (h : RVs K N ρ H p v) : RVs K N ρ H' p v := RVs.carry (fun _ _ _ z => z) (fun a o e _ => E a o e) List.prefix_rfl p v h
/-! ### iterators -/
section
variable {K : PySem.W.Frag} {N M : Addr → Prop} {ρ : List Addr} {H0 : Hp}
/-- over a walk that yields the items as they are -/
theorem iter_at {J : It} {xs : List V} {items : List PV} {G : Hp → Prop} (w : Walk J xs.length G (YAt xs)) (hG : ∀ H, Keep M H0 H → G H) (hl : xs.length ≤ LINE) (r : RVs K N ρ H0 items xs) : IterOk K N M ρ J items H0 := by
  have el := r.len
  refine ⟨by rw [← el]; exact hl, fun i H hi k => w.goes i H (by rw [el]; exact hi) (hG H k), fun H k => by rw [← el]; exact w.stops H (hG H k), fun i H x H' hi k y => ?_⟩
  obtain ⟨e1, e2⟩ := w.yields i H x H' (by rw [el]; exact hi) (hG H k) y
  subst e1
  refine ⟨Ext.refl, fun p N' ρ' hp L => ?_⟩
  obtain ⟨v, h1, h2⟩ := r.get hp
  rw [e2] at h1
  cases h1
  exact L.rv h2
/-- over a walk that yields new pairs -/
theorem iter_pair {J : It} {n : Nat} {f g : Nat → Option V} {items : List PV} {G : Hp → Prop} (w : Walk J n G (YPair f g)) (hG : ∀ H, Keep M H0 H → G H) (hn : items.length = n) (hl : n ≤ LINE)
    (h : ∀ i p x y, items[i]? = some p → f i = some x → g i = some y → ∃ q r, p = .tup [q, r] ∧ RV K N ρ H0 q x ∧ RV K N ρ H0 r y) : IterOk K N M ρ J items H0 := by
  refine ⟨by rw [hn]; exact hl, fun i H hi k => w.goes i H (by rw [← hn]; exact hi) (hG H k), fun H k => by rw [hn]; exact w.stops H (hG H k), fun i H v H' hi k y => ?_⟩
  obtain ⟨T, x, z, rfl, hT, rfl, hx, hz⟩ := w.yields i H v H' (by rw [← hn]; exact hi) (hG H k) y
  refine ⟨Ext.new hT, fun p N' ρ' hp L => ?_⟩
  obtain ⟨q, r, rfl, h1, h2⟩ := h i p x z hp hx hz
  exact mk_tup (fun z => L.tr T z hT) upd_same (by show 2 ≤ 16777216; decide) (.cons (RV.ext (Ext.new hT) (L.rv h1)) (.cons (RV.ext (Ext.new hT) (L.rv h2)) .nil))
theorem iter_list {a : Addr} {xs : List V} {items : List PV} (h : H0 a = some (.lst xs)) (n : ¬ M a) (hl : xs.length ≤ LINE) (r : RVs K N ρ H0 items xs) : IterOk K N M ρ (Itl K a) items H0 :=
  iter_at walk_list (fun H k => SqL.of (k a _ h n)) hl r
theorem iter_tup {a : Addr} {xs : List V} {items : List PV} (h : H0 a = some (.tup xs)) (n : ¬ M a) (hl : xs.length ≤ LINE) (r : RVs K N ρ H0 items xs) : IterOk K N M ρ (Itt K a) items H0 :=
  iter_at walk_tup (fun H k => SqT.of (k a _ h n)) hl r
end
def rangeF (lo : Int) (n : Nat) : List PV := (List.range n).map fun (i : Nat) => PV.int (lo + i)
section
variable {K : PySem.W.Frag} {N M : Addr → Prop} {ρ : List Addr} {H0 : Hp}
theorem iter_range {lo : Int} {n : Nat} (hn : n ≤ LINE) : IterOk K N M ρ (Itr lo n) (rangeF lo n) H0 := by
  have el : (rangeF lo n).length = n := by unfold rangeF; rw [List.length_map, List.length_range]
  refine ⟨by rw [el]; exact hn, fun i H hi k => by rw [el] at hi; exact hi, fun H k => by rw [el]; exact Nat.le_refl _, fun i H x H' hi k y => ?_⟩
  obtain ⟨e1, e2⟩ := y
  subst e1 e2
  refine ⟨Ext.refl, fun p N' ρ' hp L => ?_⟩
  rw [el] at hi
  unfold rangeF at hp
  rw [List.getElem?_map, List.getElem?_range hi] at hp
  cases hp
  exact mk_int
end
def iSeq (f : EF PV) : EF (List PV) := fun e st => (f e st).bind fun v st => match v with
  | .tup l => .ok l st
  | .lst l => .ok l st
  | _ => .stuck
def int1 : List PV → Option Int
  | [.int j] => some j
  | _ => none
def int2 : List PV → Option (Int × Int)
  | [.int i, .int j] => some (i, j)
  | _ => none
theorem int1_eq {l : List PV} {j : Int} (h : int1 l = some j) : l = [.int j] := by
  unfold int1 at h
  split at h
  · cases h; rfl
  · cases h
theorem int2_eq {l : List PV} {i j : Int} (h : int2 l = some (i, j)) : l = [.int i, .int j] := by
  unfold int2 at h
  split at h
  · cases h; rfl
  · cases h
def iRng1 (g : EF (List PV)) : EF (List PV) := fun e st => (g e st).bind fun vs st => match int1 vs with
  | some j => if -LINE ≤ j ∧ j ≤ LINE then .ok (rangeF 0 j.toNat) st else .stuck
  | none => .stuck
def iRng2 (g : EF (List PV)) : EF (List PV) := fun e st => (g e st).bind fun vs st => match int2 vs with
  | some (i, j) => if -LINE ≤ i ∧ i ≤ LINE ∧ -LINE ≤ j ∧ j ≤ LINE ∧ j - i ≤ LINE then .ok (rangeF i (j - i).toNat) st else .stuck
  | none => .stuck
def seqOf : PV → Option (List PV)
  | .tup l => some l
  | .lst l => some l
  | _ => none
def zipF : List PV → List PV → List PV
  | x :: xs, y :: ys => .tup [x, y] :: zipF xs ys
  | _, _ => []
def enumF (n : Nat) : List PV → List PV
  | [] => []
  | x :: xs => .tup [.int n, x] :: enumF (n + 1) xs
section
variable {X : Cx} {W : WX} {tg a b e : Expr} {es : List Expr} {fa f : EF PV} {g : EF (List PV)} {pos p : Pos}
theorem PI.or {iter : Expr} {w1 w2 : TI} (h1 : PI X tg iter w1) (h2 : PI X tg iter w2) : PI X tg iter (fun σ H R => w1 σ H R ∨ w2 σ H R) :=
  ⟨fun pins s σ H R I q => q.elim (h1.run pins s σ H R I) (h2.run pins s σ H R I)⟩
theorem mi_seq (h : ME X W a fa) : MI X W tg a (iSeq fa) := by
  obtain ⟨t, pt, q⟩ := h
  refine ⟨_, PI.or (pi_list (tg := tg) pt) (pi_tup (tg := tg) pt), fun B ρ env st σ H R Rp h => ?_⟩
  unfold iSeq at h
  cases hf : fa env st with
  | stuck => rw [hf] at h; exact h.elim
  | exc x st1 =>
    rw [hf] at h
    refine .inl (q B ρ env st σ H _ Rp ?_)
    rw [hf]
    exact h
  | ok v st1 =>
    rw [hf] at h
    cases v with
    | lst l =>
      refine .inl (q B ρ env st σ H _ Rp ?_)
      rw [hf]
      intro ρ1 H1 E1 u ru
      obtain ⟨z, xs, rfl, n, h1, h2, h3⟩ := rv_lst ru
      exact ⟨z, rfl, ⟨xs, SqL.of h1⟩, h ρ1 H1 E1 _ H1 Ext.refl (iter_list h1 n h2 h3)⟩
    | tup l =>
      refine .inr (q B ρ env st σ H _ Rp ?_)
      rw [hf]
      intro ρ1 H1 E1 u ru
      obtain ⟨z, xs, rfl, n, h1, h2, h3⟩ := rv_tup ru
      exact ⟨z, rfl, ⟨xs, SqT.of h1⟩, h ρ1 H1 E1 _ H1 Ext.refl (iter_tup h1 n h2 h3)⟩
    | _ => exact h.elim
/-- a lent list, in a comprehension -/
theorem mic_seq (h : MB X W a fa) : MIc X W tg a (iSeq fa) := by
  obtain ⟨t, pt, q⟩ := h
  refine ⟨_, PI.or (pi_list (tg := tg) pt) (pi_tup (tg := tg) pt), fun B ρ env st σ H R Rp h => ?_⟩
  unfold iSeq at h
  cases hf : fa env st with
  | stuck => rw [hf] at h; exact h.elim
  | exc x st1 =>
    rw [hf] at h
    refine .inl (q B ρ env st σ H _ Rp ?_)
    rw [hf]
    exact h
  | ok v st1 =>
    rw [hf] at h
    cases v with
    | lst l =>
      refine .inl (q B ρ env st σ H _ Rp ?_)
      rw [hf]
      intro ρ1 H1 E1 u ru
      obtain ⟨z, xs, rfl, h1, h2, h3⟩ := rvb_lst ru.1
      exact ⟨z, rfl, ⟨xs, SqL.of h1⟩, h ρ1 H1 E1 _ H1 Ext.refl (iter_list h1 (ru.2 z l rfl rfl) h2 h3)⟩
    | tup l =>
      refine .inr (q B ρ env st σ H _ Rp ?_)
      rw [hf]
      intro ρ1 H1 E1 u ru
      obtain ⟨z, xs, rfl, n, h1, h2, h3⟩ := rvb_tup ru.1
      exact ⟨z, rfl, ⟨xs, SqT.of h1⟩, h ρ1 H1 E1 _ H1 Ext.refl (iter_tup h1 (fun k => n (Excl.inR k)) h2 h3)⟩
    | _ => exact h.elim
theorem line62 : (LINE : Int) < 2 ^ 62 := by show ((16777216 : Nat) : Int) < 2 ^ 62; decide
theorem mi_range1 (hg : Gl X "range") (hm : X.mg "range" = none) (ha : MA X W [a] g) (hs : starEach [a] X.env = [(false, eval a X.env)] := by rfl) : MI X W tg (.Call (.Name "range" p) [a] [] pos) (iRng1 g) := by
  obtain ⟨t, pt, q⟩ := ha
  refine ⟨_, pi_range1 (tg := tg) hg hm pt hs, fun B ρ env st σ H R Rp h => ?_⟩
  refine q B ρ env st σ H _ Rp (ROk.mono (ROk.bind h) fun l ρ1 st1 H1 E1 h1 us rus => ?_)
  cases e1 : int1 l with
  | none => rw [e1] at h1; exact h1.elim
  | some j =>
    rw [e1] at h1
    have e2 := int1_eq e1
    subst e2
    obtain ⟨v, rfl, rv⟩ := rus.one
    have e := rv_int rv
    subst e
    dsimp only at h1
    by_cases hj : -LINE ≤ j ∧ j ≤ LINE
    · rw [if_pos hj] at h1
      have l62 := line62
      exact ⟨j, rfl, by omega, by omega, h1 ρ1 H1 (.refl E1.rep) _ H1 Ext.refl (iter_range (by omega))⟩
    · rw [if_neg hj] at h1
      exact h1.elim
theorem mi_range2 (hg : Gl X "range") (hm : X.mg "range" = none) (ha : MA X W [a, b] g) (hs : starEach [a, b] X.env = [(false, eval a X.env), (false, eval b X.env)] := by rfl) (hs2 : starEach [b] X.env = [(false, eval b X.env)] := by rfl) :
    MI X W tg (.Call (.Name "range" p) [a, b] [] pos) (iRng2 g) := by
  obtain ⟨t, pt, q⟩ := ha
  refine ⟨_, pi_range2 (tg := tg) hg hm pt hs hs2, fun B ρ env st σ H R Rp h => ?_⟩
  refine q B ρ env st σ H _ Rp (ROk.mono (ROk.bind h) fun l ρ1 st1 H1 E1 h1 us rus => ?_)
  cases e1 : int2 l with
  | none => rw [e1] at h1; exact h1.elim
  | some ij =>
    obtain ⟨i, j⟩ := ij
    rw [e1] at h1
    have e2 := int2_eq e1
    subst e2
    obtain ⟨v, w, rfl, rv, rw'⟩ := rus.two
    have e := rv_int rv
    have e' := rv_int rw'
    subst e e'
    dsimp only at h1
    by_cases hj : -LINE ≤ i ∧ i ≤ LINE ∧ -LINE ≤ j ∧ j ≤ LINE ∧ j - i ≤ LINE
    · rw [if_pos hj] at h1
      have l62 := line62
      exact ⟨i, j, rfl, ⟨by omega, by omega, by omega, by omega⟩, h1 ρ1 H1 (.refl E1.rep) _ H1 Ext.refl (iter_range (by omega))⟩
    · rw [if_neg hj] at h1
      exact h1.elim
end

/-! ### targets -/
/-- what a target does to a state; it changes the slots vs alone -/
def BOk (b : BF) (vs : List Nat) : Prop := ∀ p env env1, b p env = some env1 → env1.length = env.length ∧ ∀ j, j ∉ vs → env1[j]? = env[j]?
def BsOk (bs : List BF) (vs : List Nat) : Prop := ∀ ps env env1, bSeq bs ps env = some env1 → env1.length = env.length ∧ ∀ j, j ∉ vs → env1[j]? = env[j]?
theorem bok_name {i : Nat} : BOk (bName i) [i] := fun p env env1 h => by
  unfold bName at h
  by_cases hl : i < env.length
  · rw [if_pos hl] at h
    cases h
    exact ⟨List.length_set, fun j hj => List.getElem?_set_ne (fun z => hj (by simp [z]))⟩
  · rw [if_neg hl] at h
    cases h
theorem bsok_nil : BsOk [] [] := fun ps env env1 h => by
  cases ps with
  | nil => cases h; exact ⟨rfl, fun _ _ => rfl⟩
  | cons _ _ => cases h
theorem bSeq_split {b : BF} {bs : List BF} {ps : List PV} {env env1 : Env} (h : bSeq (b :: bs) ps env = some env1) : ∃ p r env2, ps = p :: r ∧ b p env = some env2 ∧ bSeq bs r env2 = some env1 := by
  cases ps with
  | nil => cases h
  | cons p r =>
    unfold bSeq at h
    cases e : b p env with
    | none => rw [e] at h; cases h
    | some env2 =>
      rw [e] at h
      exact ⟨p, r, env2, rfl, e, h⟩
theorem bsok_cons {b : BF} {bs : List BF} {vs ws : List Nat} (c1 : BOk b vs) (c2 : BsOk bs ws) : BsOk (b :: bs) (vs ++ ws) := fun ps env env1 h => by
  obtain ⟨p, r, env2, rfl, e1, e2⟩ := bSeq_split h
  obtain ⟨k1, k2⟩ := c1 _ _ _ e1
  obtain ⟨k3, k4⟩ := c2 _ _ _ e2
  exact ⟨k3.trans k1, fun j hj => (k4 j fun z => hj (List.mem_append_right _ z)).trans (k2 j fun z => hj (List.mem_append_left _ z))⟩
theorem bok_tup {bs : List BF} {vs : List Nat} (c : BsOk bs vs) : BOk (bTup bs) vs := fun pv env env1 h => by
  cases pv with
  | tup l => exact c l env env1 h
  | _ => cases h
def MG (X : Cx) (tg : Expr) (b : BF) (vs : List Nat) : Prop := BOk b vs ∧ ∃ g : TG, PG X tg g ∧
  ∀ B ρ env st σ H p v env1 Q, Rep X.K B ρ env st σ H → RV X.K (Excl B ρ env σ) ρ H p v → b p env = some env1 →
    (∀ σ1, Post X.K B ρ env σ H ρ env1 st σ1 H → σ1.length = σ.length → (∀ j, j ∉ vs → σ1[j]? = σ[j]?) → Q σ1 H) → g v σ H Q
def MGs (X : Cx) (tgs : List Expr) (bs : List BF) (vs : List Nat) : Prop := BsOk bs vs ∧ ∃ g : TGs, PGs X tgs g ∧
  ∀ B ρ env st σ H ps vl env1 Q, Rep X.K B ρ env st σ H → RVs X.K (Excl B ρ env σ) ρ H ps vl → bSeq bs ps env = some env1 →
    (∀ σ1, Post X.K B ρ env σ H ρ env1 st σ1 H → σ1.length = σ.length → (∀ j, j ∉ vs → σ1[j]? = σ[j]?) → Q σ1 H) → g vl σ H Q
section
variable {K : PySem.W.Frag} {B : Addr → Prop} {ρ : List Addr} {env env' : Env} {st : Sto} {σ σ' : L2.St} {H H' : Hp}
theorem Owned.tr (R : Rep K B ρ env st σ H) {a : Addr} (h : Owned env σ a) : ∃ o, H a = some o := by
  obtain ⟨xs, e⟩ := R.oT h
  exact ⟨_, e⟩
/-- other names, all else as it was -/
theorem Rep.re (R : Rep K B ρ env st σ H) (E : Ext H H') (len : env'.length = σ'.length) (ow : ∀ a, Owned env' σ' a → Owned env σ a ∨ (H a = none ∧ ∃ o, H' a = some o))
    (slot : ∀ (i : Nat) e, env'[i]? = some e → (env[i]? = some e ∧ σ'[i]? = σ[i]?) ∨ SlotOk K (Excl B ρ env' σ') ρ H' σ' i e)
    (sep : ∀ (i j : Nat) l l' a, env'[i]? = some (.own l) → env'[j]? = some (.own l') → σ'[i]? = some (some (.ref a)) → σ'[j]? = some (some (.ref a)) → i = j) : Post K B ρ env σ H ρ env' st σ' H' := by
  have less : ∀ a o, H a = some o → Excl B ρ env' σ' a → Excl B ρ env σ a := fun a o e n => by
    rcases n with n | n | n
    · exact .inl n
    · exact .inr (.inl n)
    · rcases ow a n with q | ⟨q, _⟩
      · exact .inr (.inr q)
      · rw [e] at q
        cases q
  have tr : ∀ a, H a ≠ none → H' a ≠ none := fun a h z => by
    cases e : H a with
    | none => exact h e
    | some o => rw [E a o e] at z; cases z
  refine ⟨⟨len, R.lenC, R.nd, fun n c a h1 h2 => ?_, fun a h => tr a (R.rT a h), R.rB, fun a h => tr a (R.bT a h), fun i e h => ?_, fun a h => ?_, sep⟩, List.prefix_rfl, fun a o e _ _ => E a o e, tr, fun _ h n => absurd h n, fun a h => ?_⟩
  · have q := R.cell n c a h1 h2
    cases c with
    | dead => trivial
    | lst l =>
      obtain ⟨xs, q1, q2, q3⟩ := q
      exact ⟨xs, E _ _ q1, q2, RVs.carry less (fun a o e _ => E a o e) List.prefix_rfl _ _ q3⟩
  · rcases slot i e h with ⟨k1, k2⟩ | k
    · have q := R.slot i e k1
      cases e with
      | non => trivial
      | val p =>
        obtain ⟨v, q1, q2⟩ := q
        exact ⟨v, k2.trans q1, RV.carry less (fun a o e _ => E a o e) List.prefix_rfl _ _ q2⟩
      | own l =>
        obtain ⟨a, xs, q0, q1, q2, q3⟩ := q
        exact ⟨a, xs, k2.trans q0, E _ _ q1, q2, RVs.carry less (fun a o e _ => E a o e) List.prefix_rfl _ _ q3⟩
    · exact k
  · rcases ow a h with q | ⟨q, _⟩
    · exact R.oR a q
    · exact ⟨fun z => R.rT a z q, fun z => R.bT a z q⟩
  · rcases ow a h with q | ⟨q, _⟩
    · exact .inl q
    · exact .inr q
theorem own_set_val {i : Nat} {p : PV} {v : V} {a : Addr} (h : Owned (env.set i (.val p)) (σ.set i (some v)) a) : Owned env σ a := by
  obtain ⟨j, l, h1, h2⟩ := h
  by_cases hj : i = j
  · subst hj
    by_cases hl : i < env.length
    · rw [List.getElem?_set_self hl] at h1
      cases h1
    · rw [List.getElem?_eq_none (by rw [List.length_set]; omega)] at h1
      cases h1
  · rw [List.getElem?_set_ne hj] at h1 h2
    exact ⟨j, l, h1, h2⟩
theorem Rep.setVal (R : Rep K B ρ env st σ H) {i : Nat} {p : PV} {v : V} (hi : i < env.length) (r : RV K (Excl B ρ env σ) ρ H p v) : Post K B ρ env σ H ρ (env.set i (.val p)) st (σ.set i (some v)) H := by
  refine R.re Ext.refl (by rw [List.length_set, List.length_set]; exact R.lenE) (fun a h => .inl (own_set_val h)) (fun j e h => ?_) (fun j k l l' a h1 h2 h3 h4 => ?_)
  · by_cases hj : i = j
    · subst hj
      rw [List.getElem?_set_self hi] at h
      cases h
      refine .inr ⟨v, by rw [List.getElem?_set_self (by rw [← R.lenE]; exact hi)], RV.carry (fun a o e n => ?_) (fun a o e _ => e) List.prefix_rfl _ _ r⟩
      rcases n with n | n | n
      · exact .inl n
      · exact .inr (.inl n)
      · exact .inr (.inr (own_set_val n))
    · rw [List.getElem?_set_ne hj] at h
      exact .inl ⟨h, by rw [List.getElem?_set_ne hj]⟩
  · by_cases hj : i = j
    · subst hj
      rw [List.getElem?_set_self hi] at h1
      cases h1
    · by_cases hk : i = k
      · subst hk
        rw [List.getElem?_set_self hi] at h2
        cases h2
      · rw [List.getElem?_set_ne hj] at h1 h3
        rw [List.getElem?_set_ne hk] at h2 h4
        exact R.sep j k l l' a h1 h2 h3 h4
/-- a list of its own, new -/
theorem Rep.setOwn (R : Rep K B ρ env st σ H) {i : Nat} {l : List PV} {xs : List V} {p : Addr} (hi : i < env.length) (hp : H p = none) (hl : xs.length ≤ LINE) (r : RVs K (Excl B ρ env σ) ρ H l xs) :
    Post K B ρ env σ H ρ (env.set i (.own l)) st (σ.set i (some (.ref p))) (upd H p (.lst xs)) := by
  have ow : ∀ a, Owned (env.set i (.own l)) (σ.set i (some (.ref p))) a → Owned env σ a ∨ a = p := fun a h => by
    obtain ⟨j, m, h1, h2⟩ := h
    by_cases hj : i = j
    · subst hj
      rw [List.getElem?_set_self (by rw [← R.lenE]; exact hi)] at h2
      cases h2
      exact .inr rfl
    · rw [List.getElem?_set_ne hj] at h1 h2
      exact .inl ⟨j, m, h1, h2⟩
  refine R.re (.new hp) (by rw [List.length_set, List.length_set]; exact R.lenE) (fun a h => ?_) (fun j e h => ?_) (fun j k m m' a h1 h2 h3 h4 => ?_)
  · rcases ow a h with q | q
    · exact .inl q
    · subst q
      exact .inr ⟨hp, _, upd_same⟩
  · by_cases hj : i = j
    · subst hj
      rw [List.getElem?_set_self hi] at h
      cases h
      refine .inr ⟨p, xs, by rw [List.getElem?_set_self (by rw [← R.lenE]; exact hi)], upd_same, hl, RVs.carry (fun a o e n => ?_) (fun a o e _ => Ext.new hp a o e) List.prefix_rfl _ _ r⟩
      rcases n with n | n | n
      · exact .inl n
      · exact .inr (.inl n)
      · rcases ow a n with q | q
        · exact .inr (.inr q)
        · subst q
          rw [hp] at e
          cases e
    · rw [List.getElem?_set_ne hj] at h
      exact .inl ⟨h, by rw [List.getElem?_set_ne hj]⟩
  · have no : ∀ j m, i ≠ j → env[j]? = some (.own m) → σ[j]? ≠ some (some (.ref p)) := fun j m _ e1 e2 => by
      obtain ⟨ys, e⟩ := R.oT ⟨j, m, e1, e2⟩
      rw [hp] at e
      cases e
    by_cases hj : i = j
    · by_cases hk : i = k
      · rw [← hj, ← hk]
      · subst hj
        rw [List.getElem?_set_ne hk] at h2 h4
        rw [List.getElem?_set_self (by rw [← R.lenE]; exact hi)] at h3
        cases h3
        exact absurd h4 (no k m' hk h2)
    · rw [List.getElem?_set_ne hj] at h1 h3
      by_cases hk : i = k
      · subst hk
        rw [List.getElem?_set_self (by rw [← R.lenE]; exact hi)] at h4
        cases h4
        exact absurd h3 (no j m hj h1)
      · rw [List.getElem?_set_ne hk] at h2 h4
        exact R.sep j k m m' a h1 h2 h3 h4
end
section
variable {X : Cx} {tg : Expr} {tgs : List Expr} {b : BF} {bs : List BF} {vs ws : List Nat} {pos : Pos}
theorem mg_name {i : Nat} {x : Str} (hN : X.N.Nodup) (hi : X.N[i]? = some x) (hx : Loc X.env.scope x) (hf : X.fn x = true ∨ X.env.scope.names.lookup x = some .local := by first | exact .inl rfl | exact .inr rfl | assumption) : MG X (.Name x pos) (bName i) [i] := by
  refine ⟨bok_name, _, pg_name hN hi hx hf, fun B ρ env st σ H p v env1 Q R r h q => ?_⟩
  unfold bName at h
  by_cases hl : i < env.length
  · rw [if_pos hl] at h
    cases h
    exact q _ (R.setVal hl r) List.length_set fun j hj => List.getElem?_set_ne (fun z => hj (by simp [z]))
  · rw [if_neg hl] at h
    cases h
theorem mgs_nil : MGs X [] [] [] := by
  refine ⟨bsok_nil, _, pgs_nil, fun B ρ env st σ H ps vl env1 Q R r h q => ?_⟩
  cases ps with
  | nil =>
    cases h
    have e := r.unnil
    subst e
    exact ⟨rfl, q σ (.refl R) rfl fun _ _ => rfl⟩
  | cons _ _ => cases h
theorem mgs_cons (h1 : MG X tg b vs) (h2 : MGs X tgs bs ws) (hs : (assignEach (tg :: tgs) X.env).map (·.2) = assign tg X.env :: (assignEach tgs X.env).map (·.2) := by rfl) : MGs X (tg :: tgs) (b :: bs) (vs ++ ws) := by
  obtain ⟨c1, g1, p1, q1⟩ := h1
  obtain ⟨c2, g2, p2, q2⟩ := h2
  refine ⟨bsok_cons c1 c2, _, pgs_cons p1 p2 hs, fun B ρ env st σ H ps vl env1 Q R r h q => ?_⟩
  obtain ⟨p, ps', env2, rfl, e1, e2⟩ := bSeq_split h
  obtain ⟨v, vl', rfl, rv, rt⟩ := r.uncons
  refine ⟨v, vl', rfl, q1 B ρ env st σ H p v env2 _ R rv e1 fun σ1 P1 l1 k1 => ?_⟩
  refine q2 B ρ env2 st σ1 H ps' vl' env1 Q P1.rep (P1.rvs rt) e2 fun σ2 P2 l2 k2 => ?_
  exact q σ2 (P1.trans P2) (l2.trans l1) fun j hj => (k2 j fun z => hj (List.mem_append_right _ z)).trans (k1 j fun z => hj (List.mem_append_left _ z))
theorem bSeq_len : ∀ {bs : List BF} {ps : List PV} {env env1 : Env}, bSeq bs ps env = some env1 → ps.length = bs.length
  | [], [], _, _, _ => rfl
  | [], _ :: _, _, _, h => by cases h
  | _ :: _, [], _, _, h => by cases h
  | b :: bs, p :: ps, env, env1, h => by
    unfold bSeq at h
    cases e : b p env with
    | none => rw [e] at h; cases h
    | some env2 =>
      rw [e] at h
      rw [List.length_cons, List.length_cons, bSeq_len h]
theorem mg_tup {k : Nat} (hc : X.calm = true) (h : MGs X tgs bs vs) (hn : (assignEach tgs X.env).length = bs.length := by rfl) (hst : (assignEach tgs X.env).findIdx? (·.1) = none := by rfl) : MG X (.Tuple tgs k pos) (bTup bs) vs := by
  obtain ⟨c, g, p, q⟩ := h
  refine ⟨bok_tup c, _, pg_tup hc p hn hst, fun B ρ env st σ H pv v env1 Q R r h q2 => ?_⟩
  cases pv with
  | tup l =>
    obtain ⟨a, xs, rfl, n, e1, e2, rl⟩ := rv_tup r
    have h' : bSeq bs l env = some env1 := h
    exact ⟨a, xs, rfl, SqT.of e1, by rw [rl.len]; exact bSeq_len h', q B ρ env st σ H l xs env1 Q R rl h' q2⟩
  | _ => cases h
end
end PL
/-! PLe: list comprehensions. -/
namespace PL
open PySem PySem.Spec L2
/-! ### readings that do not hang on the context -/
def canE (K : PySem.W.Frag) (W : WX) (f : EF PV) : TE := fun σ H Q => ∃ B ρ env st, Rep K B ρ env st σ H ∧ ROk K W B ρ env σ H (f env st) fun p ρ' st' H' => ∀ u, RV K (Excl B ρ' env σ) ρ' H' p u → Q u H'
def canT (K : PySem.W.Frag) (W : WX) (f : EF Bool) : TT := fun σ H Q => ∃ B ρ env st, Rep K B ρ env st σ H ∧ ROk K W B ρ env σ H (f env st) fun k ρ' st' H' => Q k H'
def canI (K : PySem.W.Frag) (W : WX) (f : EF (List PV)) : TI := fun σ H R => ∃ B ρ env st, Rep K B ρ env st σ H ∧
  ROk K W B ρ env σ H (f env st) fun items ρ' st' H' => ∀ J H'', Ext H' H'' → IterOk K (Excl B ρ' env σ) (fun a => a ∈ ρ') ρ' J items H'' → R J H''
def canG (K : PySem.W.Frag) (b : BF) (vs : List Nat) : TG := fun v σ H Q => ∃ B ρ env st p env1, Rep K B ρ env st σ H ∧ RV K (Excl B ρ env σ) ρ H p v ∧ b p env = some env1 ∧
  ∀ σ1, Post K B ρ env σ H ρ env1 st σ1 H → σ1.length = σ.length → (∀ j, j ∉ vs → σ1[j]? = σ[j]?) → Q σ1 H
section
variable {X : Cx} {W : WX} {e tg iter : Expr} {f : EF PV} {fb : EF Bool} {g : EF (List PV)} {b : BF} {vs : List Nat}
theorem ME.can (h : ME X W e f) : PE X e (canE X.K W f) := by
  obtain ⟨t, p, q⟩ := h
  exact ⟨fun pins s σ H Q I ⟨B, ρ, env, st, R, h⟩ => p.run pins s σ H Q I (q B ρ env st σ H Q R h)⟩
theorem MT.can (h : MT X W e fb) : PT X e (canT X.K W fb) := by
  obtain ⟨t, p, q⟩ := h
  exact ⟨fun pins s σ H Q I ⟨B, ρ, env, st, R, h⟩ => p.run pins s σ H Q I (q B ρ env st σ H Q R h)⟩
theorem MIc.can (h : MIc X W tg iter g) : PI X tg iter (canI X.K W g) := by
  obtain ⟨t, p, q⟩ := h
  exact ⟨fun pins s σ H Q I ⟨B, ρ, env, st, R, h⟩ => p.run pins s σ H Q I (q B ρ env st σ H Q R h)⟩
theorem MG.can (h : MG X tg b vs) : PG X tg (canG X.K b vs) := by
  obtain ⟨_, t, p, q⟩ := h
  exact ⟨fun pins s σ H v u Q I r ⟨B, ρ, env, st, pv, env1, R, rv, e, h⟩ => p.run pins s σ H v u Q I r (q B ρ env st σ H pv v env1 Q R rv e h)⟩
end
/-- a clause's tests -/
def MTs (X : Cx) (W : WX) (ifs : List Expr) (f : EF Bool) : Prop := PTs X ifs (canT X.K W f)
section
variable {X : Cx} {W : WX} {c : Expr} {f : EF Bool}
theorem mts_nil : MTs X W [] tYesF := ⟨fun pins s σ H Q I ⟨B, ρ, env, st, R, h⟩ => pts_nil.run pins s σ H Q I (h ρ H (.refl R))⟩
theorem mts_one (h : MT X W c f) : MTs X W [c] f := pts_one h.can
end
/-! ### slots wiped -/
theorem wipe_get : ∀ (vs : List Nat) (σ : L2.St) (j : Nat), (wipe σ vs)[j]? = if j ∈ vs then (if j < σ.length then some none else none) else σ[j]?
  | [], σ, j => by
    unfold wipe
    rw [if_neg (by simp)]
  | v :: vs, σ, j => by
    unfold wipe
    by_cases hj : v = j
    · subst hj
      rw [if_pos (by simp)]
      by_cases hl : v < σ.length
      · rw [if_pos hl, List.getElem?_set_self (by rw [wipe_length]; exact hl)]
      · rw [if_neg hl, List.getElem?_eq_none (by rw [List.length_set, wipe_length]; omega)]
    · rw [List.getElem?_set_ne hj, wipe_get vs σ j]
      by_cases hm : j ∈ vs
      · rw [if_pos hm, if_pos (List.mem_cons_of_mem _ hm)]
      · rw [if_neg hm, if_neg (by simp only [List.mem_cons, not_or]; exact ⟨fun z => hj z.symm, hm⟩)]
theorem wipeE_len : ∀ (vs : List Nat) (e : Env), (wipeE e vs).length = e.length
  | [], _ => rfl
  | v :: vs, e => by unfold wipeE; rw [List.length_set, wipeE_len vs e]
theorem wipeE_get : ∀ (vs : List Nat) (e : Env) (j : Nat), (wipeE e vs)[j]? = if j ∈ vs then (if j < e.length then some .non else none) else e[j]?
  | [], e, j => by
    unfold wipeE
    rw [if_neg (by simp)]
  | v :: vs, e, j => by
    unfold wipeE
    by_cases hj : v = j
    · subst hj
      rw [if_pos (by simp)]
      by_cases hl : v < e.length
      · rw [if_pos hl, List.getElem?_set_self (by rw [wipeE_len]; exact hl)]
      · rw [if_neg hl, List.getElem?_eq_none (by rw [List.length_set, wipeE_len]; omega)]
    · rw [List.getElem?_set_ne hj, wipeE_get vs e j]
      by_cases hm : j ∈ vs
      · rw [if_pos hm, if_pos (List.mem_cons_of_mem _ hm)]
      · rw [if_neg hm, if_neg (by simp only [List.mem_cons, not_or]; exact ⟨fun z => hj z.symm, hm⟩)]
theorem wipe_same {vs : List Nat} {σ σ1 : L2.St} (hl : σ1.length = σ.length) (h : ∀ j, j ∉ vs → σ1[j]? = σ[j]?) : wipe σ1 vs = wipe σ vs := by
  refine List.ext_getElem? fun j => ?_
  rw [wipe_get, wipe_get, hl]
  by_cases hm : j ∈ vs
  · rw [if_pos hm, if_pos hm]
  · rw [if_neg hm, if_neg hm, h j hm]
section
variable {K : PySem.W.Frag} {B B' : Addr → Prop} {ρ ρ0 ρ1 : List Addr} {env env1 : Env} {st st0 st1 : Sto} {σ σ1 : L2.St} {H H0 H1 H2 : Hp}
/-- what a comprehension's block must leave: what was so, the new list, the names that it hides -/
def Inner (B : Addr → Prop) (env : Env) (σ : L2.St) (vs : List Nat) (D : Addr) (a : Addr) : Prop := B a ∨ a = D ∨ (Owned env σ a ∧ ¬ Owned (wipeE env vs) (wipe σ vs) a)
theorem own_wipe {vs : List Nat} {a : Addr} (h : Owned (wipeE env vs) (wipe σ vs) a) : Owned env σ a := by
  obtain ⟨j, l, h1, h2⟩ := h
  rw [wipeE_get] at h1
  rw [wipe_get] at h2
  by_cases hm : j ∈ vs
  · rw [if_pos hm] at h1
    split at h1 <;> cases h1
  · rw [if_neg hm] at h1 h2
    exact ⟨j, l, h1, h2⟩
theorem excl_inner {vs : List Nat} {D a : Addr} : Excl (Inner B env σ vs D) ρ (wipeE env vs) (wipe σ vs) a ↔ Excl B ρ env σ a ∨ a = D := by
  constructor
  · intro h
    rcases h with (h | h | ⟨h, _⟩) | h | h
    · exact .inl (.inl h)
    · exact .inr h
    · exact .inl (.inr (.inr h))
    · exact .inl (.inr (.inl h))
    · exact .inl (.inr (.inr (own_wipe h)))
  · intro h
    rcases h with (h | h | h) | h
    · exact .inl (.inl h)
    · exact .inr (.inl h)
    · by_cases hw : Owned (wipeE env vs) (wipe σ vs) a
      · exact .inr (.inr hw)
      · exact .inl (.inr (.inr ⟨h, hw⟩))
    · exact .inl (.inr (.inl h))
theorem Rep.wiped (R : Rep K B ρ env st σ H) {D : Addr} {o : HO} (hD : H D = none) (vs : List Nat) : Rep K (Inner B env σ vs D) ρ (wipeE env vs) st (wipe σ vs) (upd H D o) := by
  have less : ∀ a u, H a = some u → Excl (Inner B env σ vs D) ρ (wipeE env vs) (wipe σ vs) a → Excl B ρ env σ a := fun a u e n => by
    rcases excl_inner.mp n with q | q
    · exact q
    · rw [q, hD] at e
      cases e
  have E : Ext H (upd H D o) := .new hD
  have tr : ∀ a, H a ≠ none → (upd H D o) a ≠ none := fun a h z => by
    cases e : H a with
    | none => exact h e
    | some u => rw [E a u e] at z; cases z
  have nD : ∀ a, H a ≠ none → a ≠ D := fun a h z => h (by rw [z]; exact hD)
  refine ⟨by rw [wipeE_len, wipe_length]; exact R.lenE, R.lenC, R.nd, fun n c a h1 h2 => ?_, fun a h => tr a (R.rT a h), fun a h z => ?_, fun a h => ?_, fun i e h => ?_, fun a h => ?_, fun i j l l' a h1 h2 h3 h4 => ?_⟩
  · have q := R.cell n c a h1 h2
    cases c with
    | dead => trivial
    | lst l =>
      obtain ⟨xs, q1, q2, q3⟩ := q
      exact ⟨xs, E _ _ q1, q2, RVs.carry less (fun a u e _ => E a u e) List.prefix_rfl _ _ q3⟩
  · rcases z with z | z | ⟨z, _⟩
    · exact R.rB a h z
    · exact nD a (R.rT a h) z
    · exact (R.oR a z).1 h
  · rcases h with h | h | ⟨h, _⟩
    · exact tr a (R.bT a h)
    · rw [h, upd_same]
      exact fun z => by cases z
    · exact tr a (R.tr (.inr (.inr h)))
  · rw [wipeE_get] at h
    by_cases hm : i ∈ vs
    · rw [if_pos hm] at h
      split at h
      · cases h; trivial
      · cases h
    · rw [if_neg hm] at h
      have q := R.slot i e h
      have ew : (wipe σ vs)[i]? = σ[i]? := by rw [wipe_get, if_neg hm]
      cases e with
      | non => trivial
      | val p =>
        obtain ⟨v, q1, q2⟩ := q
        exact ⟨v, ew.trans q1, RV.carry less (fun a u e _ => E a u e) List.prefix_rfl _ _ q2⟩
      | own l =>
        obtain ⟨a, xs, q0, q1, q2, q3⟩ := q
        exact ⟨a, xs, ew.trans q0, E _ _ q1, q2, RVs.carry less (fun a u e _ => E a u e) List.prefix_rfl _ _ q3⟩
  · have ho := own_wipe h
    refine ⟨(R.oR a ho).1, fun z => ?_⟩
    rcases z with z | z | ⟨_, z⟩
    · exact (R.oR a ho).2 z
    · exact nD a (R.tr (.inr (.inr ho))) z
    · exact z h
  · rw [wipeE_get] at h1 h2
    rw [wipe_get] at h3 h4
    by_cases hi : i ∈ vs
    · rw [if_pos hi] at h1
      split at h1 <;> cases h1
    · by_cases hj : j ∈ vs
      · rw [if_pos hj] at h2
        split at h2 <;> cases h2
      · rw [if_neg hi] at h1 h3
        rw [if_neg hj] at h2 h4
        exact R.sep i j l l' a h1 h2 h3 h4
/-- a thing that is not ours is written -/
theorem Rep.inB (R : Rep K B ρ env st σ H) {D : Addr} {o : HO} (hD : B D) : Rep K B ρ env st σ (upd H D o) := by
  have k1 : ∀ a u, H a = some u → ¬ Excl B ρ env σ a → (upd H D o) a = some u := fun a u e n => by
    rw [upd_ne (fun z => n (by rw [z]; exact .inl hD))]
    exact e
  have tr : ∀ a, H a ≠ none → (upd H D o) a ≠ none := fun a h => by
    by_cases ha : a = D
    · rw [ha, upd_same]
      exact fun z => by cases z
    · rw [upd_ne ha]
      exact h
  refine ⟨R.lenE, R.lenC, R.nd, fun n c a h1 h2 => ?_, fun a h => tr a (R.rT a h), R.rB, fun a h => tr a (R.bT a h), fun i e h => ?_, R.oR, R.sep⟩
  · have q := R.cell n c a h1 h2
    cases c with
    | dead => trivial
    | lst l =>
      obtain ⟨xs, q1, q2, q3⟩ := q
      exact ⟨xs, by rw [upd_ne (fun z => R.rB a (List.mem_of_getElem? h2) (by rw [z]; exact hD))]; exact q1, q2, RVs.carry (fun _ _ _ z => z) k1 List.prefix_rfl _ _ q3⟩
  · have q := R.slot i e h
    cases e with
    | non => trivial
    | val p =>
      obtain ⟨v, q1, q2⟩ := q
      exact ⟨v, q1, RV.carry (fun _ _ _ z => z) k1 List.prefix_rfl _ _ q2⟩
    | own l =>
      obtain ⟨a, xs, q0, q1, q2, q3⟩ := q
      exact ⟨a, xs, q0, by rw [upd_ne (fun z => (R.oR a ⟨i, l, h, q0⟩).2 (by rw [z]; exact hD))]; exact q1, q2, RVs.carry (fun _ _ _ z => z) k1 List.prefix_rfl _ _ q3⟩
/-- back to the names of before: the store's things as they are behind, all else kept -/
theorem Rep.back (R0 : Rep K B ρ0 env st0 σ H0) (R1 : Rep K B' ρ1 env1 st1 σ1 H1) (pre : ρ0 <+: ρ1) (k0 : ∀ a o, H0 a = some o → a ∉ ρ0 → H2 a = some o) (fr : ∀ a ∈ ρ1, a ∉ ρ0 → H0 a = none) (kc : ∀ a ∈ ρ1, H2 a = H1 a)
    (k1 : ∀ a o, H1 a = some o → ¬ Excl B' ρ1 env1 σ1 a → H2 a = some o) (less : ∀ a, Excl B ρ1 env σ a → Excl B' ρ1 env1 σ1 a) (rB : ∀ a ∈ ρ1, ¬ B a) : Rep K B ρ1 env st1 σ H2 := by
  have l0 : ∀ a o, H0 a = some o → Excl B ρ1 env σ a → Excl B ρ0 env σ a := fun a o e n => by
    rcases n with n | n | n
    · exact .inl n
    · by_cases h : a ∈ ρ0
      · exact .inr (.inl h)
      · have q := fr a n h
        rw [e] at q
        cases q
    · exact .inr (.inr n)
  have kk : ∀ a o, H0 a = some o → ¬ Excl B ρ0 env σ a → H2 a = some o := fun a o e n => k0 a o e fun z => n (.inr (.inl z))
  refine ⟨R0.lenE, R1.lenC, R1.nd, fun n c a h1 h2 => ?_, fun a h => by rw [kc a h]; exact R1.rT a h, rB, fun a h z => ?_, fun i e h => ?_, fun a h => ⟨fun z => ?_, (R0.oR a h).2⟩, R0.sep⟩
  · have q := R1.cell n c a h1 h2
    cases c with
    | dead => trivial
    | lst l =>
      obtain ⟨xs, q1, q2, q3⟩ := q
      exact ⟨xs, by rw [kc a (List.mem_of_getElem? h2)]; exact q1, q2, RVs.carry (fun a o _ n => less a n) k1 List.prefix_rfl _ _ q3⟩
  · cases e : H0 a with
    | none => exact R0.bT a h e
    | some o => rw [k0 a o e (fun y => R0.rB a y h)] at z; cases z
  · have q := R0.slot i e h
    cases e with
    | non => trivial
    | val p =>
      obtain ⟨v, q1, q2⟩ := q
      exact ⟨v, q1, RV.carry l0 kk pre _ _ q2⟩
    | own l =>
      obtain ⟨a, xs, q0, q1, q2, q3⟩ := q
      exact ⟨a, xs, q0, k0 a _ q1 (R0.oR a ⟨i, l, h, q0⟩).1, q2, RVs.carry l0 kk pre _ _ q3⟩
  · obtain ⟨xs, e⟩ := R0.oT h
    have q := fr a z (R0.oR a h).1
    rw [e] at q
    cases q
end
theorem noE_ok {α : Type} {K : PySem.W.Frag} {W : WX} {B : Addr → Prop} {ρ : List Addr} {env : Env} {σ : L2.St} {H : Hp} {r : RE α} {Z : α → List Addr → Sto → Hp → Prop} (h : ROk K W B ρ env σ H r.noE Z) :
    ROk K (fun _ _ _ _ => False) B ρ env σ H r Z := by
  cases r with
  | ok a st => exact h
  | exc x st => exact h.elim
  | stuck => exact h
abbrev WF : WX := fun _ _ _ _ => False
/-- the reading of a comprehension -/
theorem lc_reads {K : PySem.W.Frag} {W : WX} {it : EF (List PV)} {b : BF} {vs : List Nat} {c : EF Bool} {t : EF PV} {B : Addr → Prop} {ρ : List Addr} {env : Env} {st : Sto} {σ : L2.St} {H : Hp} {Q : VK} (hb : BOk b vs)
    (R : Rep K B ρ env st σ H) (h : ROk K W B ρ env σ H (lLc it b vs c t env st) (fun l ρ' st' H' => ∀ p xs H'', H' p = none → H'' = upd H' p (.lst xs) → xs.length ≤ LINE → RVs K (Excl B ρ' env σ) ρ' H' l xs → Q (.ref p) H'')) :
    tLc (canI K W it) (canG K b vs) (canT K WF c) (canE K WF t) vs σ H Q := by
  refine ⟨B, ρ, env, st, R, ROk.mono (ROk.bind h) fun items ρ1 st1 H1 E1 h1 J H1' EX IT D hD => ?_⟩
  have E1' : EPost K B ρ env σ H ρ1 st1 H1' := E1.trans (.ext E1.rep EX)
  have R1 : Rep K B ρ1 env st1 σ H1' := E1'.rep
  have h1 := ROk.shift (EPost.ext E1.rep EX) h1
  have RW : Rep K (Inner B env σ vs D) ρ1 (wipeE env vs) st1 (wipe σ vs) (upd H1' D (.lst [])) := R1.wiped hD vs
  have tot : ∃ l stf, lcLoop b c t (wipeE env vs) items st1 = .ok l stf := by
    cases hl : lcLoop b c t (wipeE env vs) items st1 with
    | ok l stf => exact ⟨l, stf, rfl⟩
    | stuck => rw [hl] at h1; exact h1.elim
    | exc x stf =>
      have no : ∀ (xs : List PV) (s : Sto) (x : Ex) (s' : Sto), lcLoop b c t (wipeE env vs) xs s ≠ .exc x s' := by
        intro xs
        induction xs with
        | nil => intro s x s' z; cases z
        | cons y ys ih =>
          intro s x s' z
          unfold lcLoop at z
          cases hbv : b y (wipeE env vs) with
          | none => rw [hbv] at z; cases z
          | some e1 =>
            rw [hbv] at z
            dsimp only at z
            cases hc : c e1 s with
            | stuck => rw [hc] at z; cases z
            | exc _ _ => rw [hc] at z; cases z
            | ok k s2 =>
              rw [hc] at z
              cases k with
              | false => exact ih s2 x s' z
              | true =>
                have z : ((t e1 s2).noE.bind fun y st => (lcLoop b c t (wipeE env vs) ys st).bind fun ys st => .ok (y :: ys) st) = .exc x s' := z
                cases ht : t e1 s2 with
                | stuck => rw [ht] at z; cases z
                | exc _ _ => rw [ht] at z; cases z
                | ok v s3 =>
                  rw [ht] at z
                  have z : ((lcLoop b c t (wipeE env vs) ys s3).bind fun ys st => .ok (v :: ys) st) = .exc x s' := z
                  cases hr : lcLoop b c t (wipeE env vs) ys s3 with
                  | stuck => rw [hr] at z; cases z
                  | exc _ _ => exact ih _ _ _ hr
                  | ok _ _ => rw [hr] at z; cases z
      exact absurd hl (no _ _ _ _)
  obtain ⟨l, stf, hl⟩ := tot
  rw [hl] at h1
  let Pw : Nat → Hp → Prop := fun i Hi => ∃ ρi sti acc accV ys, EPost K (Inner B env σ vs D) ρ1 (wipeE env vs) (wipe σ vs) H1' ρi sti Hi ∧ Hi D = some (.lst accV) ∧ accV.length ≤ i ∧
    RVs K (Excl (Inner B env σ vs D) ρi (wipeE env vs) (wipe σ vs)) ρi Hi acc accV ∧ lcLoop b c t (wipeE env vs) (items.drop i) sti = .ok ys stf ∧ l = acc ++ ys
  have keepOf : ∀ {Hi ρi sti}, EPost K (Inner B env σ vs D) ρ1 (wipeE env vs) (wipe σ vs) H1' ρi sti Hi → Keep (fun a => a ∈ ρ1) H1' Hi := fun {Hi ρi sti} E a o e n => E.kp a o e n
  have E0 : EPost K (Inner B env σ vs D) ρ1 (wipeE env vs) (wipe σ vs) H1' ρ1 st1 (upd H1' D (.lst [])) := ⟨RW, List.prefix_rfl, fun a o e _ => Ext.new hD a o e, (fun a h z => by
    cases e : H1' a with
    | none => exact h e
    | some u => rw [Ext.new hD a u e] at z; cases z), fun _ h n => absurd h n⟩
  refine ⟨fun i m Hi => m = items.length - i ∧ i ≤ items.length ∧ Pw i Hi, ⟨items.length, by simp, Nat.zero_le _, ρ1, st1, [], [], l, E0, upd_same, Nat.le_refl _, .nil, hl, rfl⟩, ?_⟩
  rintro i m Hi ⟨rfl, hi, ρi, sti, acc, accV, ys, E, hDi, hlen, racc, hloop, hys⟩
  have kp := keepOf E
  by_cases hlt : i < items.length
  · -- a turn
    refine .inr ⟨IT.go i Hi hlt kp, fun Hn => ∃ m', m' < items.length - i ∧ (m' = items.length - (i + 1) ∧ i + 1 ≤ items.length ∧ Pw (i + 1) Hn), fun H' h' => h', fun x Hy hy => ?_⟩
    obtain ⟨EY, ry⟩ := IT.yld i Hi x Hy hlt kp hy
    have hitem : items[i]? = some items[i] := List.getElem?_eq_getElem hlt
    have lat : Later (Excl B ρ1 env σ) ρ1 H1' (Excl (Inner B env σ vs D) ρi (wipeE env vs) (wipe σ vs)) ρi Hi := by
      refine ⟨fun a o e n => ?_, fun a o e n => kp a o e fun z => n (.inr (.inl z)), E.pre, fun a h => E.rep.tr h⟩
      have n1 : Excl (Inner B env σ vs D) ρ1 (wipeE env vs) (wipe σ vs) a := by
        rcases n with n | n | n
        · exact .inl n
        · by_cases hz : a ∈ ρ1
          · exact .inr (.inl hz)
          · have q := E.fr a n hz
            rw [e] at q
            cases q
        · exact .inr (.inr n)
      rcases excl_inner.mp n1 with q | q
      · exact q
      · rw [q, hD] at e
        cases e
    have rx : RV K (Excl (Inner B env σ vs D) ρi (wipeE env vs) (wipe σ vs)) ρi Hy items[i] x := ry items[i] _ ρi hitem lat
    have EYp : EPost K (Inner B env σ vs D) ρi (wipeE env vs) (wipe σ vs) Hi ρi sti Hy := .ext E.rep EY
    have hdrop : items.drop i = items[i] :: items.drop (i + 1) := (List.drop_eq_getElem_cons hlt)
    rw [hdrop] at hloop
    unfold lcLoop at hloop
    cases hbv : b items[i] (wipeE env vs) with
    | none => rw [hbv] at hloop; cases hloop
    | some env2 =>
      rw [hbv] at hloop
      dsimp only at hloop
      obtain ⟨hb1, hb2⟩ := hb _ _ _ hbv
      refine ⟨Inner B env σ vs D, ρi, wipeE env vs, sti, items[i], env2, EYp.rep, rx, hbv, fun σ2 P2 hl2 hk2 => ⟨wipe_same (by rw [hl2, wipe_length]) (fun j hj => (hk2 j hj).trans (by rw [wipe_get, if_neg hj])), ?_⟩⟩
      -- the names of the block: owned ones are the same
      have ownB : ∀ a, Owned (wipeE env vs) (wipe σ vs) a ↔ Owned env2 σ2 a := fun a => by
        constructor
        · rintro ⟨j, m, e1, e2⟩
          have hj : j ∉ vs := fun z => by
            rw [wipeE_get, if_pos z] at e1
            split at e1 <;> cases e1
          exact ⟨j, m, (hb2 j hj).trans e1, (hk2 j hj).trans e2⟩
        · intro z
          rcases P2.ow a z with q | q
          · exact q
          · obtain ⟨xs, q2⟩ := P2.rep.oT z
            rw [q] at q2
            cases q2
      have exB : ∀ {ρx : List Addr} {a : Addr}, Excl (Inner B env σ vs D) ρx (wipeE env vs) (wipe σ vs) a ↔ Excl (Inner B env σ vs D) ρx env2 σ2 a := fun {ρx a} => by
        unfold Excl
        rw [ownB a]
      have EQ : ∀ {ρx : List Addr}, Excl (Inner B env σ vs D) ρx (wipeE env vs) (wipe σ vs) = Excl (Inner B env σ vs D) ρx env2 σ2 := fun {ρx} => funext fun a => propext exB
      -- back to the wiped names behind what the block did
      have backE : ∀ {ρx : List Addr} {stx : Sto} {Hx : Hp}, EPost K (Inner B env σ vs D) ρi env2 σ2 Hy ρx stx Hx → EPost K (Inner B env σ vs D) ρ1 (wipeE env vs) (wipe σ vs) H1' ρx stx Hx := fun {ρx stx Hx} F =>
        (E.trans EYp).trans ⟨Rep.back EYp.rep F.rep F.pre F.kp F.fr (fun _ _ => rfl) (fun _ _ e _ => e) (fun a n => exB.mp n) F.rep.rB, F.pre, F.kp, F.tr, F.fr⟩
      have inD : ∀ {ρx : List Addr} {stx : Sto} {Hx : Hp}, EPost K (Inner B env σ vs D) ρi env2 σ2 Hy ρx stx Hx → Hx D = some (.lst accV) := fun {ρx stx Hx} F => F.kp D _ (EY _ _ hDi) fun z => E.rep.rB D z (.inr (.inl rfl))
      have accE : ∀ {ρx : List Addr} {stx : Sto} {Hx : Hp}, EPost K (Inner B env σ vs D) ρi env2 σ2 Hy ρx stx Hx → RVs K (Excl (Inner B env σ vs D) ρx (wipeE env vs) (wipe σ vs)) ρx Hx acc accV := fun {ρx stx Hx} F => by
        have q := F.post.rvs (p := acc) (v := accV) (by rw [← EQ]; exact RVs.ext EY racc)
        rw [← EQ] at q
        exact q
      cases hcv : c env2 sti with
      | stuck => rw [hcv] at hloop; cases hloop
      | exc _ _ => rw [hcv] at hloop; cases hloop
      | ok k st2 =>
        rw [hcv] at hloop
        refine ⟨Inner B env σ vs D, ρi, env2, sti, P2.rep, ?_⟩
        rw [hcv]
        intro ρ3 H3 E3
        cases k with
        | false =>
          rw [if_neg Bool.false_ne_true]
          have hloop : lcLoop b c t (wipeE env vs) (items.drop (i + 1)) st2 = .ok ys stf := hloop
          exact ⟨items.length - (i + 1), by omega, rfl, hlt, ρ3, st2, acc, accV, ys, backE E3, inD E3, by omega, accE E3, hloop, hys⟩
        | true =>
          rw [if_pos rfl]
          have hloop : ((t env2 st2).noE.bind fun y st => (lcLoop b c t (wipeE env vs) (items.drop (i + 1)) st).bind fun ys st => .ok (y :: ys) st) = .ok ys stf := hloop
          cases htv : t env2 st2 with
          | stuck => rw [htv] at hloop; cases hloop
          | exc _ _ => rw [htv] at hloop; cases hloop
          | ok y st3 =>
            rw [htv] at hloop
            have hloop : ((lcLoop b c t (wipeE env vs) (items.drop (i + 1)) st3).bind fun ys st => .ok (y :: ys) st) = .ok ys stf := hloop
            refine ⟨Inner B env σ vs D, ρ3, env2, st2, E3.rep, ?_⟩
            rw [htv]
            intro ρ4 H4 E4 u ru
            have E34 := E3.trans E4
            have hD4 := inD E34
            have R4 := backE E34
            cases hrest : lcLoop b c t (wipeE env vs) (items.drop (i + 1)) st3 with
            | stuck => rw [hrest] at hloop; cases hloop
            | exc _ _ => rw [hrest] at hloop; cases hloop
            | ok zs stz =>
              rw [hrest] at hloop
              have e5 : y :: zs = ys ∧ stz = stf := by
                have q : RE.ok (y :: zs) stz = RE.ok ys stf := hloop
                cases q
                exact ⟨rfl, rfl⟩
              obtain ⟨e5, e6⟩ := e5
              subst e5 e6
              refine ⟨accV, hD4, ?_, items.length - (i + 1), by omega, rfl, hlt, ρ4, st3, acc ++ [y], accV ++ [u], zs, ?_, upd_same, ?_, ?_, hrest, ?_⟩
              · rw [← LINE_eq]
                have := IT.len
                omega
              · -- D is written
                refine ⟨R4.rep.inB (.inr (.inl rfl)), R4.pre, fun a o e n => ?_, fun a h => ?_, R4.fr⟩
                · rw [upd_ne (ne_of_none e hD)]
                  exact R4.kp a o e n
                · rw [upd_ne (fun z => h (by rw [z]; exact hD))]
                  exact R4.tr a h
              · rw [List.length_append, List.length_singleton]
                omega
              · have nD : ∀ a o, H4 a = some o → ¬ Excl (Inner B env σ vs D) ρ4 (wipeE env vs) (wipe σ vs) a → (upd H4 D (.lst (accV ++ [u]))) a = some o := fun a o e n => by
                  rw [upd_ne (fun z => n (by rw [z]; exact .inl (.inr (.inl rfl))))]
                  exact e
                rw [← EQ] at ru
                exact RVs.append (RVs.carry (fun _ _ _ z => z) nD List.prefix_rfl _ _ (accE E34)) (.cons (RV.carry (fun _ _ _ z => z) nD List.prefix_rfl _ _ ru) .nil)
              · rw [hys, List.append_assoc]
                rfl
  · -- the end
    have ei : i = items.length := by omega
    subst ei
    refine .inl ⟨IT.stop Hi kp, ?_⟩
    have e0 : ys = [] ∧ sti = stf := by
      rw [List.drop_length] at hloop
      have q : RE.ok [] sti = RE.ok ys stf := hloop
      cases q
      exact ⟨rfl, rfl⟩
    obtain ⟨e1, e2⟩ := e0
    subst e1 e2
    have e3 : l = acc := by rw [hys, List.append_nil]
    subst e3
    let Hz : Hp := fun a => if a = D then none else Hi a
    have zD : Hz D = none := if_pos rfl
    have zn : ∀ {a}, a ≠ D → Hz a = Hi a := fun h => if_neg h
    have nR : ∀ a ∈ ρi, a ≠ D := fun a h z => E.rep.rB a h (.inr (.inl z))
    have k0 : ∀ a o, H1' a = some o → a ∉ ρ1 → Hz a = some o := fun a o e n => by
      rw [zn (ne_of_none e hD)]
      exact E.kp a o e n
    have k1 : ∀ a o, Hi a = some o → ¬ Excl (Inner B env σ vs D) ρi (wipeE env vs) (wipe σ vs) a → Hz a = some o := fun a o e n => by
      rw [zn (fun z => n (by rw [z]; exact .inl (.inr (.inl rfl))))]
      exact e
    have less : ∀ a, Excl B ρi env σ a → Excl (Inner B env σ vs D) ρi (wipeE env vs) (wipe σ vs) a := fun a n => excl_inner.mpr (.inl n)
    have EZ : EPost K B ρ1 env σ H1' ρi sti Hz := ⟨Rep.back R1 E.rep E.pre k0 E.fr (fun a h => zn (nR a h)) k1 less fun a h z => E.rep.rB a h (.inl z), E.pre, k0, fun a h => by
      rw [zn (fun z => h (by rw [z]; exact hD))]
      exact E.tr a h, E.fr⟩
    refine h1 ρi Hz EZ D accV Hi zD ?_ (by have := IT.len; omega) (RVs.carry (fun a _ _ n => less a n) k1 List.prefix_rfl _ _ racc)
    funext a
    by_cases ha : a = D
    · rw [ha, upd_same, hDi]
    · rw [upd_ne ha, zn ha]
section
variable {X : Cx} {W : WX} {elt tg iter : Expr} {ifs : List Expr} {scope : Scope} {own : List (Str × Nat)} {pos : Pos} {it : EF (List PV)} {b : BF} {c : EF Bool} {t : EF PV}
theorem ml_lc (hb : BOk b (own.map (·.2))) (hc : X.calm = true) (hN : X.N.Nodup) (hi : MIc X W tg iter it) (ok : BlkOk X.N X.env.scope scope own)
    (hg : ∀ (s : Shared) (H : Hp) (C : Addr) (cl : List (Str × Addr)) (fp : List Addr), MG (X.blk s H scope (compEnvC scope cl C X.env) fp) tg b (own.map (·.2)))
    (ht : ∀ (s : Shared) (H : Hp) (C : Addr) (cl : List (Str × Addr)) (fp : List Addr), MTs (X.blk s H scope (compEnvC scope cl C X.env) fp) WF ifs c)
    (he : ∀ (s : Shared) (H : Hp) (C : Addr) (cl : List (Str × Addr)) (fp : List Addr), ME (X.blk s H scope (compEnvC scope cl C X.env) fp) WF elt t) (hs : ∀ x, foldedSetIterable iter X.env x = pure x := by intro _; rfl) :
    ML X W (.ListComp elt [⟨tg, iter, ifs, 0⟩] scope pos) (lLc it b (own.map (·.2)) c t) :=
  ⟨_, pe_lc hc hN hi.can ok (fun s H C cl fp => (hg s H C cl fp).can) (tt := canT X.K WF c) (fun s H C cl fp => ht s H C cl fp) (fun s H C cl fp => (he s H C cl fp).can) hs,
    fun B ρ env st σ H Q R h => lc_reads hb R h⟩
end
end PL
/-! PLf: the statements. -/
namespace PL
open PySem PySem.Spec L2
section
variable {X : Cx} {W : WX} {s : Stmt} {rest a b body : List Stmt} {e tg iter c : Expr} {f g : SF} {fe : EF PV} {fl it : EF (List PV)} {fc : EF Bool} {bf : BF} {vs : List Nat} {pos : Pos}
theorem mss_nil : MSs X W [] sNil := ⟨tNext, pss_nil, fun B ρ env st σ H D R h => h ρ σ H (.refl R)⟩
theorem refs_seq {t u : TS} (q1 : RefS X.K W t f) (q2 : RefS X.K W u g) : RefS X.K W (tSeq t u) (sSeq f g) := fun B ρ env st σ H D R h => by
  refine q1 B ρ env st σ H _ R ?_
  have h : SOk X.K W B ρ env σ H ((f env st).thn g) D := h
  cases hf : f env st with
  | nx e1 st1 =>
    rw [hf] at h
    exact fun ρ1 σ1 H1 P1 => q2 B ρ1 e1 st1 σ1 H1 D P1.rep (SOk.shift P1 h)
  | rt v st1 => rw [hf] at h; exact h
  | bk e1 st1 => rw [hf] at h; exact h
  | ct e1 st1 => rw [hf] at h; exact h
  | exc x e1 st1 => rw [hf] at h; exact h
  | stuck => rw [hf] at h; exact h
theorem mss_cons (h1 : MS X W s f) (h2 : MSs X W rest g) : MSs X W (s :: rest) (sSeq f g) := by
  obtain ⟨t, p1, q1⟩ := h1
  obtain ⟨u, p2, q2⟩ := h2
  exact ⟨tSeq t u, pss_cons p1 p2, refs_seq q1 q2⟩
/-- a name's own list is no longer changed from here on -/
theorem mss_frz {i : Nat} (h2 : MSs X W rest g) : MSs X W rest (sSeq (sFrz i) g) := by
  obtain ⟨u, p2, q2⟩ := h2
  refine ⟨u, p2, fun B ρ env st σ H D R h => ?_⟩
  have h : SOk X.K W B ρ env σ H ((sFrz i env st).thn g) D := h
  unfold sFrz at h
  cases e : env[i]? with
  | none => rw [e] at h; exact q2 B ρ env st σ H D R h
  | some ev =>
    rw [e] at h
    cases ev with
    | non => exact q2 B ρ env st σ H D R h
    | val v => exact q2 B ρ env st σ H D R h
    | own l =>
      have h : SOk X.K W B ρ env σ H (g (env.set i (.val (.lst l))) st) D := h
      have hi : i < env.length := (List.getElem?_eq_some_iff.mp e).1
      obtain ⟨p, xs, h1, h2, h3, h4⟩ := R.slot i _ e
      have ow : ∀ a, Owned (env.set i (.val (.lst l))) σ a → Owned env σ a ∧ a ≠ p := fun a ⟨j, m, e1, e2⟩ => by
        by_cases hj : i = j
        · subst hj
          rw [List.getElem?_set_self hi] at e1
          cases e1
        · rw [List.getElem?_set_ne hj] at e1
          exact ⟨⟨j, m, e1, e2⟩, fun z => hj (R.sep i j l m p e e1 h1 (by rw [← z]; exact e2))⟩
      have less : ∀ a, Excl B ρ (env.set i (.val (.lst l))) σ a → Excl B ρ env σ a := fun a n => by
        rcases n with n | n | n
        · exact .inl n
        · exact .inr (.inl n)
        · exact .inr (.inr (ow a n).1)
      have np : ¬ Excl B ρ (env.set i (.val (.lst l))) σ p := fun n => by
        rcases n with n | n | n
        · exact (R.oR p ⟨i, l, e, h1⟩).2 n
        · exact (R.oR p ⟨i, l, e, h1⟩).1 n
        · exact (ow p n).2 rfl
      have P : Post X.K B ρ env σ H ρ (env.set i (.val (.lst l))) st σ H := by
        refine R.re Ext.refl (by rw [List.length_set]; exact R.lenE) (fun a n => .inl (ow a n).1) (fun j ev hj => ?_) (fun j k m m' a e1 e2 e3 e4 => ?_)
        · by_cases hij : i = j
          · subst hij
            rw [List.getElem?_set_self hi] at hj
            cases hj
            exact .inr ⟨.ref p, h1, mk_lst np h2 h3 (RVs.carry (fun a _ _ n => less a n) (fun _ _ e _ => e) List.prefix_rfl _ _ h4)⟩
          · rw [List.getElem?_set_ne hij] at hj
            exact .inl ⟨hj, rfl⟩
        · have no : ∀ (j : Nat) (m : List PV), (env.set i (.val (.lst l)))[j]? = some (EV.own m) → env[j]? = some (EV.own m) := fun j m q => by
            by_cases hij : i = j
            · subst hij
              rw [List.getElem?_set_self hi] at q
              cases q
            · rw [List.getElem?_set_ne hij] at q
              exact q
          exact R.sep j k m m' a (no j m e1) (no k m' e2) e3 e4
      exact q2 B ρ _ st σ H D P.rep (SOk.shift P h)
theorem mss_never : MSs X W rest sNever := ⟨tNever, pss_never, fun B ρ env st σ H D R h => h.elim⟩
theorem ms_never : MS X W s sNever := ⟨tNever, ps_never, fun B ρ env st σ H D R h => h.elim⟩
theorem ms_pass : MS X W (.Pass pos) sNil := ⟨_, ps_pass, fun B ρ env st σ H D R h => h ρ σ H (.refl R)⟩
theorem ms_break : MS X W (.Break pos) sBreak := ⟨_, ps_break, fun B ρ env st σ H D R h => h ρ σ H (.refl R)⟩
theorem ms_continue : MS X W (.Continue pos) sCont := ⟨_, ps_continue, fun B ρ env st σ H D R h => h ρ σ H (.refl R)⟩
theorem ms_ret (h : ME X W e fe) : MS X W (.Return (some e) pos) (sRet fe) := by
  obtain ⟨t, p, q⟩ := h
  refine ⟨_, ps_ret p, fun B ρ env st σ H D R h => ?_⟩
  refine q B ρ env st σ H _ R (ROk.mono (SOk.toS h) fun v ρ1 st1 H1 E1 h1 u ru => ?_)
  refine h1 ρ1 env σ H1 u (.refl E1.rep) (RV.carry (fun a o _ n => ?_) (fun _ _ e _ => e) List.prefix_rfl _ _ ru)
  rcases n with n | n | n
  · exact .inl n
  · exact .inr (.inl n)
  · obtain ⟨j, m, e1, _⟩ := n
    simp at e1
theorem ms_retN : MS X W (.Return none pos) sRetN := ⟨_, ps_retN, fun B ρ env st σ H D R h => h ρ env σ H _ (.refl R) mk_non⟩
/-- a new list is handed back as a thing of the store -/
theorem ms_retG (h : ML X W e fl) : MS X W (.Return (some e) pos) (sRetG fl) := by
  obtain ⟨t, p, q⟩ := h
  refine ⟨_, ps_ret p, fun B ρ env st σ H D R h => ?_⟩
  refine q B ρ env st σ H _ R (ROk.mono (SOk.toS h) fun l ρ1 st1 H1 E1 h1 p xs H2 np e2 hl rxs => ?_)
  subst e2
  have R1 := E1.rep
  have pn : p ∉ ρ1 := fun z => R1.rT p z np
  have pb : ¬ B p := fun z => R1.bT p z np
  have po : ¬ Owned env σ p := fun z => R1.tr (.inr (.inr z)) np
  have less : ∀ a o, H1 a = some o → Excl B (ρ1 ++ [p]) env σ a → Excl B ρ1 env σ a := fun a o e n => by
    rcases n with n | n | n
    · exact .inl n
    · rcases List.mem_append.mp n with n | n
      · exact .inr (.inl n)
      · have z : a = p := by simpa using n
        rw [z, np] at e
        cases e
    · exact .inr (.inr n)
  have EX : Ext H1 (upd H1 p (.lst xs)) := .new np
  have kk : ∀ a o, H1 a = some o → ¬ Excl B ρ1 env σ a → (upd H1 p (.lst xs)) a = some o := fun a o e _ => EX a o e
  have tr : ∀ a, H1 a ≠ none → (upd H1 p (.lst xs)) a ≠ none := fun a h z => by
    cases e : H1 a with
    | none => exact h e
    | some o => rw [EX a o e] at z; cases z
  have pre : ρ1 <+: ρ1 ++ [p] := List.prefix_append ρ1 [p]
  have RR : Rep X.K B (ρ1 ++ [p]) env (st1 ++ [.lst l]) σ (upd H1 p (.lst xs)) := by
    refine ⟨R1.lenE, by simp [R1.lenC], ?_, fun n c a h1 h2 => ?_, fun a h => ?_, fun a h => ?_, fun a h => tr a (R1.bT a h), fun i ev h => ?_, fun a h => ⟨fun z => ?_, (R1.oR a h).2⟩, R1.sep⟩
    · exact List.nodup_append.mpr ⟨R1.nd, by simp, fun a ha c hc z => pn (by
        have : c = p := by simpa using hc
        rw [← this, ← z]; exact ha)⟩
    · by_cases hn : n < st1.length
      · rw [List.getElem?_append_left hn] at h1
        rw [List.getElem?_append_left (by rw [R1.lenC]; exact hn)] at h2
        have q := R1.cell n c a h1 h2
        cases c with
        | dead => trivial
        | lst l =>
          obtain ⟨ys, q1, q2, q3⟩ := q
          exact ⟨ys, EX _ _ q1, q2, RVs.carry less kk pre _ _ q3⟩
      · rw [List.getElem?_append_right (by omega)] at h1
        rw [List.getElem?_append_right (by rw [R1.lenC]; omega), R1.lenC] at h2
        have e0 : n - st1.length = 0 := by
          by_cases h0 : n - st1.length = 0
          · exact h0
          · rw [List.getElem?_eq_none (by simp; omega)] at h1
            cases h1
        rw [e0] at h1 h2
        cases h1
        cases h2
        exact ⟨xs, upd_same, hl, RVs.carry less kk pre _ _ rxs⟩
    · rcases List.mem_append.mp h with h | h
      · exact tr a (R1.rT a h)
      · have z : a = p := by simpa using h
        rw [z, upd_same]
        exact fun y => by cases y
    · rcases List.mem_append.mp h with h | h
      · exact R1.rB a h
      · have z : a = p := by simpa using h
        rw [z]
        exact pb
    · have q := R1.slot i ev h
      cases ev with
      | non => trivial
      | val v =>
        obtain ⟨w, q1, q2⟩ := q
        exact ⟨w, q1, RV.carry less kk pre _ _ q2⟩
      | own m =>
        obtain ⟨a, ys, q0, q1, q2, q3⟩ := q
        exact ⟨a, ys, q0, EX _ _ q1, q2, RVs.carry less kk pre _ _ q3⟩
    · rcases List.mem_append.mp z with z | z
      · exact (R1.oR a h).1 z
      · have z : a = p := by simpa using z
        rw [z] at h
        exact po h
  have PP : Post X.K B ρ1 env σ H1 (ρ1 ++ [p]) env (st1 ++ [.lst l]) σ (upd H1 p (.lst xs)) := by
    refine ⟨RR, pre, fun a o e _ _ => EX a o e, tr, fun a h n => ?_, fun a h => .inl h⟩
    rcases List.mem_append.mp h with h | h
    · exact absurd h n
    · have z : a = p := by simpa using h
      rw [z]
      exact np
  refine h1 (ρ1 ++ [p]) env σ _ (.ref p) PP ?_
  unfold RV
  refine ⟨p, rfl, ?_⟩
  rw [List.getElem?_append_right (by rw [R1.lenC]; exact Nat.le_refl _), R1.lenC, Nat.sub_self]
  rfl
/-- a name's own list is handed back -/
theorem ms_retO {i : Nat} {x : Str} {pos' : Pos} (hN : X.N[i]? = some x) (hv : Vis X.env.scope x) (hd : (x == ("__debug__" : Str)) = false := by decide) (hcd : (x == ("__classdict__" : Str)) = false := by decide) : MS X W (.Return (some (.Name x pos')) pos) (sRetO i) := by
  refine ⟨_, ps_ret (pe_var hN hv hd hcd), fun B ρ env st σ H D R h => ?_⟩
  unfold sRetO at h
  cases q : env[i]? with
  | none => rw [q] at h; exact h.elim
  | some ev =>
    rw [q] at h
    cases ev with
    | non => exact h.elim
    | val p => exact h.elim
    | own l =>
      obtain ⟨z, xs, h1, h2, h3, h4⟩ := R.slot i _ q
      obtain ⟨o1, o2⟩ := R.oR z ⟨i, l, q, h1⟩
      refine ⟨.ref z, h1, h ρ env σ H _ (.refl R) (mk_lst (fun n => ?_) h2 h3 (RVs.carry (fun a o _ n => ?_) (fun _ _ e _ => e) List.prefix_rfl _ _ h4))⟩
      · rcases n with n | n | n
        · exact o2 n
        · exact o1 n
        · obtain ⟨j, m, e1, _⟩ := n
          simp at e1
      · rcases n with n | n | n
        · exact .inl n
        · exact .inr (.inl n)
        · obtain ⟨j, m, e1, _⟩ := n
          simp at e1
theorem ms_if (hc : MT X W c fc) (ha : MSs X W a f) (hb : MSs X W b g) : MS X W (.If c a b pos) (sIf fc f g) := by
  obtain ⟨tc, pc, qc⟩ := hc
  obtain ⟨ta, pa, qa⟩ := ha
  obtain ⟨tb, pb, qb⟩ := hb
  refine ⟨_, ps_if pc pa pb, fun B ρ env st σ H D R h => ?_⟩
  refine qc B ρ env st σ H _ R (ROk.mono (SOk.toS h) fun k ρ1 st1 H1 E1 h1 => ?_)
  cases k with
  | true => rw [if_pos rfl]; rw [if_pos rfl] at h1; exact qa B ρ1 env st1 σ H1 D E1.rep h1
  | false => rw [if_neg Bool.false_ne_true]; rw [if_neg Bool.false_ne_true] at h1; exact qb B ρ1 env st1 σ H1 D E1.rep h1
/-- an expression for its effect -/
theorem ms_expr (h : ME X W e fe) (hs : swapsWith e none pos.line X.env = pure false := by rfl) : MS X W (.Expr e pos) (sDrop fe) := by
  obtain ⟨t, p, q⟩ := h
  refine ⟨_, ps_expr p hs, fun B ρ env st σ H D R h => ?_⟩
  exact q B ρ env st σ H _ R (ROk.mono (SOk.toS h) fun v ρ1 st1 H1 E1 h1 u ru => h1 ρ1 σ H1 (.refl E1.rep))
/-- target = value -/
theorem ms_asg (h : ME X W e fe) (hg : MG X tg bf vs) (hs : swapsWithSole [tg] e pos.line X.env = pure false := by rfl) (hw : swappedStores [tg] e X.env = pure none := by rfl)
    (h1 : (assignEach [tg] X.env).map (·.2) = [assign tg X.env] := by rfl) : MS X W (.Assign [tg] e pos) (sAsg bf fe) := by
  obtain ⟨t, p, q⟩ := h
  obtain ⟨_, g, pg, qg⟩ := hg
  refine ⟨_, ps_asg p pg hs hw h1, fun B ρ env st σ H D R h => ?_⟩
  refine q B ρ env st σ H _ R (ROk.mono (SOk.toS h) fun v ρ1 st1 H1 E1 h1 u ru => ?_)
  cases e1 : bf v env with
  | none => rw [e1] at h1; exact h1.elim
  | some env1 =>
    rw [e1] at h1
    exact qg B ρ1 env st1 σ H1 v u env1 _ E1.rep ru e1 fun σ1 P1 _ _ => h1 ρ1 σ1 H1 P1
/-- name = value -/
theorem ms_set {i : Nat} {x : Str} {pos' : Pos} (h : ME X W e fe) (hN : X.N.Nodup) (hi : X.N[i]? = some x) (hx : Loc X.env.scope x) (hs : swapsWith e (some (.Name x pos')) pos.line X.env = pure false := by rfl) (hf : X.fn x = true ∨ X.env.scope.names.lookup x = some .local := by first | exact .inl rfl | exact .inr rfl | assumption) :
    MS X W (.Assign [.Name x pos'] e pos) (sAsg (bName i) fe) := by
  obtain ⟨t, p, q⟩ := h
  refine ⟨_, ps_set hN hi hx p hs hf, fun B ρ env st σ H D R h => ?_⟩
  refine q B ρ env st σ H _ R (ROk.mono (SOk.toS h) fun v ρ1 st1 H1 E1 h1 u ru => ?_)
  unfold bName at h1
  by_cases hl : i < env.length
  · rw [if_pos hl] at h1
    exact h1 ρ1 _ H1 (E1.rep.setVal hl ru)
  · rw [if_neg hl] at h1
    exact h1.elim
/-- name = a new list, its own -/
theorem ms_setO {i : Nat} {x : Str} {pos' : Pos} (h : ML X W e fl) (hN : X.N.Nodup) (hi : X.N[i]? = some x) (hx : Loc X.env.scope x) (hs : swapsWith e (some (.Name x pos')) pos.line X.env = pure false := by rfl) (hf : X.fn x = true ∨ X.env.scope.names.lookup x = some .local := by first | exact .inl rfl | exact .inr rfl | assumption) :
    MS X W (.Assign [.Name x pos'] e pos) (sAsgO i fl) := by
  obtain ⟨t, p, q⟩ := h
  refine ⟨_, ps_set hN hi hx p hs hf, fun B ρ env st σ H D R h => ?_⟩
  refine q B ρ env st σ H _ R (ROk.mono (SOk.toS h) fun l ρ1 st1 H1 E1 h1 p xs H2 np e2 hl rxs => ?_)
  subst e2
  by_cases hl2 : i < env.length
  · rw [if_pos hl2] at h1
    exact h1 ρ1 _ _ (E1.rep.setOwn hl2 np hl rxs)
  · rw [if_neg hl2] at h1
    exact h1.elim
end
section
variable {X : Cx} {W : WX} {elt tg iter : Expr} {ifs : List Expr} {scope : Scope} {own : List (Str × Nat)} {pos spos py : Pos} {it : EF (List PV)} {b : BF} {c : EF Bool} {t : EF PV} {i : Nat} {y : Str}
/-- name = [..] on one line, the name a local: as a value that never changes -/
theorem ms_setLc (hb : BOk b (own.map (·.2))) (hc : X.calm = true) (hN : X.N.Nodup) (hy : X.N[i]? = some y) (hyl : X.env.scope.names.lookup y = some .local)
    (hsw : swapsWith (.ListComp elt [⟨tg, iter, ifs, 0⟩] scope pos) (some (.Name y py)) spos.line X.env = pure true) (hi : MIc X W tg iter it) (ok : BlkOk X.N X.env.scope scope own)
    (hg : ∀ (s : Shared) (H : Hp) (C : Addr) (cl : List (Str × Addr)) (fp : List Addr), MG (X.blk s H scope (compEnvC scope cl C X.env) fp) tg b (own.map (·.2)))
    (ht : ∀ (s : Shared) (H : Hp) (C : Addr) (cl : List (Str × Addr)) (fp : List Addr), MTs (X.blk s H scope (compEnvC scope cl C X.env) fp) WF ifs c)
    (he : ∀ (s : Shared) (H : Hp) (C : Addr) (cl : List (Str × Addr)) (fp : List Addr), ME (X.blk s H scope (compEnvC scope cl C X.env) fp) WF elt t) (hs : ∀ x, foldedSetIterable iter X.env x = pure x := by intro _; rfl) :
    MS X W (.Assign [.Name y py] (.ListComp elt [⟨tg, iter, ifs, 0⟩] scope pos) spos) (sAsg (bName i) (eLst (lLc it b (own.map (·.2)) c t))) := by
  refine ⟨_, L2.ps_setLc (i := i) (g := canG X.K b (own.map (·.2))) (wi := canI X.K W it) hc hN hy hyl hsw hi.can ok (fun s H C cl fp => (hg s H C cl fp).can) (tt := canT X.K WF c) (te := canE X.K WF t) (fun s H C cl fp => ht s H C cl fp) (fun s H C cl fp => (he s H C cl fp).can) hs, fun B ρ env st σ H D R h => ?_⟩
  refine lc_reads hb R (ROk.mono (ROk.bind (SOk.toS h)) fun l ρ1 st1 H1 E1 h1 p xs H2 np e2 hl rxs => ?_)
  subst e2
  have EE : EPost X.K B ρ1 env σ H1 ρ1 st1 (upd H1 p (.lst xs)) := .ext E1.rep (.new np)
  have h1 := h1 ρ1 _ EE
  dsimp only at h1
  unfold bName at h1
  by_cases hl2 : i < env.length
  · rw [if_pos hl2] at h1
    exact h1 ρ1 _ _ (EE.rep.setVal hl2 (mk_lst (E1.rep.fresh np) upd_same hl (EE.post.rvs rxs)))
  · rw [if_neg hl2] at h1
    exact h1.elim
/-- .. as a list of its own -/
theorem ms_setLcO (hb : BOk b (own.map (·.2))) (hc : X.calm = true) (hN : X.N.Nodup) (hy : X.N[i]? = some y) (hyl : X.env.scope.names.lookup y = some .local)
    (hsw : swapsWith (.ListComp elt [⟨tg, iter, ifs, 0⟩] scope pos) (some (.Name y py)) spos.line X.env = pure true) (hi : MIc X W tg iter it) (ok : BlkOk X.N X.env.scope scope own)
    (hg : ∀ (s : Shared) (H : Hp) (C : Addr) (cl : List (Str × Addr)) (fp : List Addr), MG (X.blk s H scope (compEnvC scope cl C X.env) fp) tg b (own.map (·.2)))
    (ht : ∀ (s : Shared) (H : Hp) (C : Addr) (cl : List (Str × Addr)) (fp : List Addr), MTs (X.blk s H scope (compEnvC scope cl C X.env) fp) WF ifs c)
    (he : ∀ (s : Shared) (H : Hp) (C : Addr) (cl : List (Str × Addr)) (fp : List Addr), ME (X.blk s H scope (compEnvC scope cl C X.env) fp) WF elt t) (hs : ∀ x, foldedSetIterable iter X.env x = pure x := by intro _; rfl) :
    MS X W (.Assign [.Name y py] (.ListComp elt [⟨tg, iter, ifs, 0⟩] scope pos) spos) (sAsgO i (lLc it b (own.map (·.2)) c t)) := by
  refine ⟨_, L2.ps_setLc (i := i) (g := canG X.K b (own.map (·.2))) (wi := canI X.K W it) hc hN hy hyl hsw hi.can ok (fun s H C cl fp => (hg s H C cl fp).can) (tt := canT X.K WF c) (te := canE X.K WF t) (fun s H C cl fp => ht s H C cl fp) (fun s H C cl fp => (he s H C cl fp).can) hs, fun B ρ env st σ H D R h => ?_⟩
  refine lc_reads hb R (ROk.mono (SOk.toS h) fun l ρ1 st1 H1 E1 h1 p xs H2 np e2 hl rxs => ?_)
  subst e2
  by_cases hl2 : i < env.length
  · rw [if_pos hl2] at h1
    exact h1 ρ1 _ _ (E1.rep.setOwn hl2 np hl rxs)
  · rw [if_neg hl2] at h1
    exact h1.elim
end
/-! ### loops -/
section
variable {K : PySem.W.Frag} {W : WX} {B : Addr → Prop} {ρ : List Addr} {env : Env} {st : Sto} {σ : L2.St} {H : Hp} {D : Ends}
/-- one item's turn, then the others' -/
theorem for_turn {b : BF} {t : SF} {x : PV} {xs : List PV} {env1 : Env} {P : St → Hp → Prop} (hb : b x env = some env1) (h : SOk K W B ρ env σ H (forLoop b t (x :: xs) env st) D)
    (hP : ∀ {e2 st2 ρ2 σ2 H2}, Post K B ρ env σ H ρ2 e2 st2 σ2 H2 → SOk K W B ρ2 e2 σ2 H2 (forLoop b t xs e2 st2) D → P σ2 H2) : SOk K W B ρ env σ H (t env1 st) { D with nx := P, ct := P, bk := D.nx } := by
  unfold forLoop at h
  rw [hb] at h
  dsimp only at h
  cases ht : t env1 st with
  | nx e2 st2 => rw [ht] at h; exact fun ρ2 σ2 H2 P2 => hP P2 (SOk.shift P2 h)
  | ct e2 st2 => rw [ht] at h; exact fun ρ2 σ2 H2 P2 => hP P2 (SOk.shift P2 h)
  | bk e2 st2 => rw [ht] at h; exact h
  | rt v st2 => rw [ht] at h; exact h
  | exc x e2 st2 => rw [ht] at h; exact h
  | stuck => rw [ht] at h; exact h
end
section
variable {X : Cx} {W : WX} {tg iter c : Expr} {body : List Stmt} {it : EF (List PV)} {b : BF} {vs : List Nat} {t : SF} {fc : EF Bool} {pos : Pos}
theorem ms_for (hp : PassesOwn (model X.prog X.w) X.A X.env X.xe) (hc : X.calm = true) (hi : MI X W tg iter it) (hg : MG X tg b vs) (hb : MSs X W body t) (hs : ∀ x, foldedSetIterable iter X.env x = pure x := by intro _; rfl) : MS X W (.For tg iter body [] pos) (sFor it b t) := by
  obtain ⟨wi, pi, qi⟩ := hi
  obtain ⟨hbok, g, pg, qg⟩ := hg
  obtain ⟨tb, pb, qb⟩ := hb
  refine ⟨_, ps_for hp hc pi pg pb hs, fun B ρ env st σ H D R h => ?_⟩
  refine qi B ρ env st σ H _ R (ROk.mono (SOk.toS h) fun items ρ1 st1 H1 E1 h1 J H1' EX IT => ?_)
  have EE : EPost X.K B ρ1 env σ H1 ρ1 st1 H1' := .ext E1.rep EX
  have h1 := SOk.shift EE.post h1
  let Pw : Nat → L2.St → Hp → Prop := fun i σi Hi => ∃ ρi ei sti, Post X.K B ρ1 env σ H1' ρi ei sti σi Hi ∧ SOk X.K W B ρi ei σi Hi (forLoop b t (items.drop i) ei sti) D
  refine ⟨fun i m σi Hi => m = items.length - i ∧ i ≤ items.length ∧ Pw i σi Hi, ⟨items.length, by simp, Nat.zero_le _, ρ1, env, st1, .refl EE.rep, by rw [List.drop_zero]; exact h1⟩, ?_⟩
  rintro i m σi Hi ⟨rfl, hi, ρi, ei, sti, Pi, hk⟩
  have kp : Keep (Excl B ρ1 env σ) H1' Hi := Pi.later.keep
  by_cases hlt : i < items.length
  · refine .inr ⟨IT.go i Hi hlt kp, fun σ' H' => ∃ m', m' < items.length - i ∧ (m' = items.length - (i + 1) ∧ i + 1 ≤ items.length ∧ Pw (i + 1) σ' H'), fun σ' H' h' => h', fun x Hy hy => ?_⟩
    obtain ⟨EY, ry⟩ := IT.yld i Hi x Hy hlt kp hy
    have hitem : items[i]? = some items[i] := List.getElem?_eq_getElem hlt
    have rx := ry items[i] _ ρi hitem Pi.later
    have EYp : EPost X.K B ρi ei σi Hi ρi sti Hy := .ext Pi.rep EY
    rw [List.drop_eq_getElem_cons hlt] at hk
    have hk := SOk.shift EYp.post hk
    cases hbv : b items[i] ei with
    | none => unfold forLoop at hk; rw [hbv] at hk; exact hk.elim
    | some env2 =>
      refine qg B ρi ei sti σi Hy items[i] x env2 _ EYp.rep rx hbv fun σ2 P2 _ _ => ?_
      refine qb B ρi env2 sti σ2 Hy _ P2.rep (SOk.shift P2 (for_turn hbv hk fun {e3 st3 ρ3 σ3 H3} P3 h3 => ?_))
      exact ⟨items.length - (i + 1), by omega, rfl, hlt, ρ3, e3, st3, (Pi.trans EYp.post).trans P3, h3⟩
  · have ei' : i = items.length := by omega
    subst ei'
    rw [List.drop_length] at hk
    exact .inl ⟨IT.stop Hi kp, hk ρi σi Hi (.refl Pi.rep)⟩
theorem ms_while {n : Nat} (hp : PassesOwn (model X.prog X.w) X.A X.env X.xe) (hc : MT X W c fc) (hb : MSs X W body t) : MS X W (.While c body [] pos) (sWhile n fc t) := by
  obtain ⟨tc, pc, qc⟩ := hc
  obtain ⟨tb, pb, qb⟩ := hb
  refine ⟨_, ps_while hp pc pb, fun B ρ env st σ H D R h => ?_⟩
  refine ⟨fun m σi Hi => ∃ ρi ei sti, Post X.K B ρ env σ H ρi ei sti σi Hi ∧ SOk X.K W B ρi ei σi Hi (whileLoop fc t m ei sti) D, ⟨n, ρ, env, st, .refl R, h⟩, ?_⟩
  rintro m σi Hi ⟨ρi, ei, sti, Pi, hk⟩
  cases m with
  | zero => exact hk.elim
  | succ m =>
    unfold whileLoop at hk
    refine qc B ρi ei sti σi Hi _ Pi.rep (ROk.mono (SOk.toS hk) fun k ρ1 st1 H1 E1 h1 => ?_)
    cases k with
    | false =>
      rw [if_neg Bool.false_ne_true]
      rw [if_neg Bool.false_ne_true] at h1
      exact h1 ρ1 σi H1 (.refl E1.rep)
    | true =>
      rw [if_pos rfl]
      rw [if_pos rfl] at h1
      refine ⟨fun σ' H' => ∃ m', m' < m + 1 ∧ ∃ ρi ei sti, Post X.K B ρ env σ H ρi ei sti σ' H' ∧ SOk X.K W B ρi ei σ' H' (whileLoop fc t m' ei sti) D, fun σ' H' h' => h', ?_⟩
      refine qb B ρ1 ei st1 σi H1 _ E1.rep ?_
      cases ht : t ei st1 with
      | nx e2 st2 => rw [ht] at h1; exact fun ρ2 σ2 H2 P2 => ⟨m, by omega, ρ2, e2, st2, (Pi.trans E1.post).trans P2, SOk.shift P2 h1⟩
      | ct e2 st2 => rw [ht] at h1; exact fun ρ2 σ2 H2 P2 => ⟨m, by omega, ρ2, e2, st2, (Pi.trans E1.post).trans P2, SOk.shift P2 h1⟩
      | bk e2 st2 => rw [ht] at h1; exact h1
      | rt v st2 => rw [ht] at h1; exact h1
      | exc x e2 st2 => rw [ht] at h1; exact h1
      | stuck => rw [ht] at h1; exact h1
end
end PL
/-! PLg: lists that change; things of the store; defs and their calls. -/
namespace PL
open PySem PySem.Spec L2
section
variable {K : PySem.W.Frag} {B : Addr → Prop} {ρ : List Addr} {env : Env} {st : Sto} {σ : L2.St} {H : Hp}
theorem own_same {i : Nat} {l m : List PV} (e : env[i]? = some (.own l)) (a : Addr) : Owned (env.set i (.own m)) σ a ↔ Owned env σ a := by
  have hi : i < env.length := (List.getElem?_eq_some_iff.mp e).1
  constructor
  · rintro ⟨j, k, h1, h2⟩
    by_cases hj : i = j
    · subst hj
      exact ⟨i, l, e, h2⟩
    · rw [List.getElem?_set_ne hj] at h1
      exact ⟨j, k, h1, h2⟩
  · rintro ⟨j, k, h1, h2⟩
    by_cases hj : i = j
    · subst hj
      exact ⟨i, m, List.getElem?_set_self hi, h2⟩
    · exact ⟨j, k, by rw [List.getElem?_set_ne hj]; exact h1, h2⟩
/-- a name's own list is written -/
theorem Rep.ownWrite (R : Rep K B ρ env st σ H) {i : Nat} {l m : List PV} {a : Addr} {ys : List V} (e : env[i]? = some (.own l)) (ea : σ[i]? = some (some (.ref a))) (hl : ys.length ≤ LINE) (r : RVs K (Excl B ρ env σ) ρ H m ys) :
    Post K B ρ env σ H ρ (env.set i (.own m)) st σ (upd H a (.lst ys)) := by
  have hi : i < env.length := (List.getElem?_eq_some_iff.mp e).1
  have oa : Owned env σ a := ⟨i, l, e, ea⟩
  obtain ⟨n1, n2⟩ := R.oR a oa
  have EQ : Excl B ρ (env.set i (.own m)) σ = Excl B ρ env σ := funext fun b => propext (by unfold Excl; rw [own_same e])
  have k1 : ∀ b u, H b = some u → ¬ Excl B ρ env σ b → (upd H a (.lst ys)) b = some u := fun b u h n => by
    rw [upd_ne (fun z => n (by rw [z]; exact .inr (.inr oa)))]
    exact h
  have tr : ∀ b, H b ≠ none → (upd H a (.lst ys)) b ≠ none := fun b h => by
    by_cases hb : b = a
    · rw [hb, upd_same]
      exact fun z => by cases z
    · rw [upd_ne hb]
      exact h
  refine ⟨⟨by rw [List.length_set]; exact R.lenE, R.lenC, R.nd, fun n c b h1 h2 => ?_, fun b h => tr b (R.rT b h), R.rB, fun b h => tr b (R.bT b h), fun j ev h => ?_, fun b h => R.oR b ((own_same e b).mp h), fun j k l1 l2 b h1 h2 h3 h4 => ?_⟩,
    List.prefix_rfl, fun b u h _ n => ?_, tr, fun _ h n => absurd h n, fun b h => .inl ((own_same e b).mp h)⟩
  · have q := R.cell n c b h1 h2
    rw [EQ]
    cases c with
    | dead => trivial
    | lst l =>
      obtain ⟨xs, q1, q2, q3⟩ := q
      exact ⟨xs, by rw [upd_ne (fun z => n1 (by rw [← z]; exact List.mem_of_getElem? h2))]; exact q1, q2, RVs.carry (fun _ _ _ z => z) k1 List.prefix_rfl _ _ q3⟩
  · rw [EQ]
    by_cases hj : i = j
    · subst hj
      rw [List.getElem?_set_self hi] at h
      cases h
      exact ⟨a, ys, ea, upd_same, hl, RVs.carry (fun _ _ _ z => z) k1 List.prefix_rfl _ _ r⟩
    · rw [List.getElem?_set_ne hj] at h
      have q := R.slot j ev h
      cases ev with
      | non => trivial
      | val p =>
        obtain ⟨v, q1, q2⟩ := q
        exact ⟨v, q1, RV.carry (fun _ _ _ z => z) k1 List.prefix_rfl _ _ q2⟩
      | own k =>
        obtain ⟨b, xs, q0, q1, q2, q3⟩ := q
        have nb : b ≠ a := fun z => hj (R.sep i j l k a e h ea (by rw [← z]; exact q0))
        exact ⟨b, xs, q0, by rw [upd_ne nb]; exact q1, q2, RVs.carry (fun _ _ _ z => z) k1 List.prefix_rfl _ _ q3⟩
  · have no : ∀ (j : Nat) (k : List PV), (env.set i (EV.own m))[j]? = some (EV.own k) → ∃ k', env[j]? = some (EV.own k') := fun j k h => by
      by_cases hj : i = j
      · subst hj
        exact ⟨l, e⟩
      · rw [List.getElem?_set_ne hj] at h
        exact ⟨k, h⟩
    obtain ⟨k1, e1⟩ := no j l1 h1
    obtain ⟨k2, e2⟩ := no k l2 h2
    exact R.sep j k k1 k2 b e1 e2 h3 h4
  · rw [upd_ne (fun z => n (by rw [z]; exact oa))]
    exact h
/-- a list of the store is written -/
theorem Rep.cellWrite (R : Rep K B ρ env st σ H) {n : Nat} {l m : List PV} {a : Addr} {ys : List V} (e : st[n]? = some (.lst l)) (ea : ρ[n]? = some a) (hl : ys.length ≤ LINE) (r : RVs K (Excl B ρ env σ) ρ H m ys) :
    Post K B ρ env σ H ρ env (st.set n (.lst m)) σ (upd H a (.lst ys)) := by
  have hn : n < st.length := (List.getElem?_eq_some_iff.mp e).1
  have ra : a ∈ ρ := List.mem_of_getElem? ea
  have k1 : ∀ b u, H b = some u → ¬ Excl B ρ env σ b → (upd H a (.lst ys)) b = some u := fun b u h n => by
    rw [upd_ne (fun z => n (by rw [z]; exact .inr (.inl ra)))]
    exact h
  have tr : ∀ b, H b ≠ none → (upd H a (.lst ys)) b ≠ none := fun b h => by
    by_cases hb : b = a
    · rw [hb, upd_same]
      exact fun z => by cases z
    · rw [upd_ne hb]
      exact h
  refine ⟨⟨R.lenE, by rw [List.length_set]; exact R.lenC, R.nd, fun k c b h1 h2 => ?_, fun b h => tr b (R.rT b h), R.rB, fun b h => tr b (R.bT b h), fun j ev h => ?_, R.oR, R.sep⟩,
    List.prefix_rfl, fun b u h n _ => ?_, tr, fun _ h n => absurd h n, fun b h => .inl h⟩
  · by_cases hk : n = k
    · subst hk
      rw [List.getElem?_set_self hn] at h1
      cases h1
      rw [ea] at h2
      cases h2
      exact ⟨ys, upd_same, hl, RVs.carry (fun _ _ _ z => z) k1 List.prefix_rfl _ _ r⟩
    · rw [List.getElem?_set_ne hk] at h1
      have q := R.cell k c b h1 h2
      have nb : b ≠ a := fun z => hk (by
        subst z
        obtain ⟨g1, e1⟩ := List.getElem?_eq_some_iff.mp ea
        obtain ⟨g2, e2⟩ := List.getElem?_eq_some_iff.mp h2
        exact (List.getElem_inj R.nd).mp (e1.trans e2.symm))
      cases c with
      | dead => trivial
      | lst l =>
        obtain ⟨xs, q1, q2, q3⟩ := q
        exact ⟨xs, by rw [upd_ne nb]; exact q1, q2, RVs.carry (fun _ _ _ z => z) k1 List.prefix_rfl _ _ q3⟩
  · have q := R.slot j ev h
    cases ev with
    | non => trivial
    | val p =>
      obtain ⟨v, q1, q2⟩ := q
      exact ⟨v, q1, RV.carry (fun _ _ _ z => z) k1 List.prefix_rfl _ _ q2⟩
    | own k =>
      obtain ⟨b, xs, q0, q1, q2, q3⟩ := q
      have nb : b ≠ a := fun z => (R.oR b ⟨j, k, h, q0⟩).1 (by rw [z]; exact ra)
      exact ⟨b, xs, q0, by rw [upd_ne nb]; exact q1, q2, RVs.carry (fun _ _ _ z => z) k1 List.prefix_rfl _ _ q3⟩
  · rw [upd_ne (fun z => n (by rw [z]; exact ra))]
    exact h
end
section
variable {X : Cx} {W : WX} {e o k a b : Expr} {es : List Expr} {fe fo fk fa fb : EF PV} {fl g : EF (List PV)} {pos apos cpos pos' : Pos} {i : Nat} {x : Str}
/-- x.append(e), x's own list -/
theorem ms_app (h : ME X W e fe) (hN : X.N[i]? = some x) (hv : Vis X.env.scope x) (hd : (x == ("__debug__" : Str)) = false := by decide) (hcd : (x == ("__classdict__" : Str)) = false := by decide)
    (hbase : attributeBase (.Name x pos') "append" X.env (eval (.Name x pos') X.env) = eval (.Name x pos') X.env := by rfl)
    (hfew : ((backTo cpos (starEach [e] X.env)).all (fun x => !x.1) && (backToKw cpos (keywordEach [] X.env)).all (fun x => x.1.isSome) && decide ([e].length + ([] : List Keyword).length + (if ([] : List Keyword).isEmpty then 0 else 1) < 30)) = true := by rfl)
    (hline : (apos.endLine == cpos.line) = true := by rfl) (hs : starEach [e] X.env = (false, eval e X.env) :: starEach [] X.env := by rfl) (hplain : (backTo cpos (starEach [] X.env)).any (·.1) = false := by rfl)
    (hsw : swapsWith (.Call (.Attribute (.Name x pos') "append" apos) [e] [] cpos) none pos.line X.env = pure false := by rfl) :
    MS X W (.Expr (.Call (.Attribute (.Name x pos') "append" apos) [e] [] cpos) pos) (sApp i fe) := by
  obtain ⟨t, p, q⟩ := h
  refine ⟨_, ps_expr (pe_bm PySem.F.plainAttrs_list PySem.F.slot_list_append PySem.F.type_list_append mt_append (pe_var hN hv hd hcd) (pa_cons p pa_nil hs) hbase hfew hline hs hplain) hsw, fun B ρ env st σ H D R h => ?_⟩
  unfold sApp at h
  cases e0 : env[i]? with
  | none => rw [e0] at h; exact h.elim
  | some ev =>
    rw [e0] at h
    cases ev with
    | non => exact h.elim
    | val _ => exact h.elim
    | own l =>
      obtain ⟨z, xs, h1, h2, h3, h4⟩ := R.slot i _ e0
      refine ⟨.ref z, h1, .inl ⟨rfl, xs, SqL.of h2⟩, ?_⟩
      refine q B ρ env st σ H _ R (ROk.mono (SOk.toS h) fun v ρ1 st1 H1 E1 k1 u ru => ?_)
      obtain ⟨z', xs', g1, g2, g3, g4⟩ := E1.rep.slot i _ e0
      rw [h1] at g1
      cases g1
      by_cases hl : l.length < LINE
      · rw [if_pos hl] at k1
        have hl2 : (xs' ++ [u]).length ≤ LINE := by rw [List.length_append, g4.len, List.length_singleton]; omega
        exact ⟨z, xs', u, rfl, rfl, g2, by rw [← LINE_eq, g4.len]; exact hl, k1 ρ1 σ _ (E1.rep.ownWrite e0 h1 hl2 (g4.append (.cons ru .nil)))⟩
      · rw [if_neg hl] at k1
        exact k1.elim
/-- x.extend([..]), x's own list -/
theorem ms_ext (h : ML X W e fl) (hN : X.N[i]? = some x) (hv : Vis X.env.scope x) (hd : (x == ("__debug__" : Str)) = false := by decide) (hcd : (x == ("__classdict__" : Str)) = false := by decide)
    (hbase : attributeBase (.Name x pos') "extend" X.env (eval (.Name x pos') X.env) = eval (.Name x pos') X.env := by rfl)
    (hfew : ((backTo cpos (starEach [e] X.env)).all (fun x => !x.1) && (backToKw cpos (keywordEach [] X.env)).all (fun x => x.1.isSome) && decide ([e].length + ([] : List Keyword).length + (if ([] : List Keyword).isEmpty then 0 else 1) < 30)) = true := by rfl)
    (hline : (apos.endLine == cpos.line) = true := by rfl) (hs : starEach [e] X.env = (false, eval e X.env) :: starEach [] X.env := by rfl) (hplain : (backTo cpos (starEach [] X.env)).any (·.1) = false := by rfl)
    (hsw : swapsWith (.Call (.Attribute (.Name x pos') "extend" apos) [e] [] cpos) none pos.line X.env = pure false := by rfl) :
    MS X W (.Expr (.Call (.Attribute (.Name x pos') "extend" apos) [e] [] cpos) pos) (sExt i fl) := by
  obtain ⟨t, p, q⟩ := h
  refine ⟨_, ps_expr (pe_bm PySem.F.plainAttrs_list PySem.F.slot_list_extend PySem.F.type_list_extend mt_extend (pe_var hN hv hd hcd) (pa_cons p pa_nil hs) hbase hfew hline hs hplain) hsw, fun B ρ env st σ H D R h => ?_⟩
  unfold sExt at h
  cases e0 : env[i]? with
  | none => rw [e0] at h; exact h.elim
  | some ev =>
    rw [e0] at h
    cases ev with
    | non => exact h.elim
    | val _ => exact h.elim
    | own l =>
      obtain ⟨z, xs, h1, h2, h3, h4⟩ := R.slot i _ e0
      refine ⟨.ref z, h1, .inl ⟨rfl, xs, SqL.of h2⟩, ?_⟩
      refine q B ρ env st σ H _ R (ROk.mono (SOk.toS h) fun m ρ1 st1 H1 E1 k1 p ys H2 np e2 hly rys => ?_)
      subst e2
      have EE : EPost X.K B ρ1 env σ H1 ρ1 st1 (upd H1 p (.lst ys)) := .ext E1.rep (.new np)
      have k1 := SOk.shift EE.post k1
      have rys := EE.post.rvs rys
      obtain ⟨z', xs', g1, g2, g3, g4⟩ := EE.rep.slot i _ e0
      rw [h1] at g1
      cases g1
      by_cases hl : l.length + m.length ≤ LINE
      · rw [if_pos hl] at k1
        have hl2 : (xs' ++ ys).length ≤ LINE := by rw [List.length_append, g4.len, rys.len]; exact hl
        exact ⟨z, p, xs', ys, rfl, rfl, g2, upd_same, by rw [← LINE_eq, ← List.length_append]; exact hl2, k1 ρ1 σ _ (EE.rep.ownWrite e0 h1 hl2 (g4.append rys))⟩
      · rw [if_neg hl] at k1
        exact k1.elim
/-- a[k] = v, a thing of the store -/
theorem ms_setG (he : ME X W e fe) (ho : ME X W o fo) (hk : ME X W k fk)
    (ha : ∀ v, assign (.Subscript o k pos') X.env v = (do
      let ov ← holding [v] (eval o X.env)
      let iv ← holding [v, ov] (eval k X.env)
      standAt pos'
      holding [v, ov, iv] (setItem ov iv v)
      release [v, ov, iv] []) := by intro _; rfl)
    (hs : swapsWithSole [.Subscript o k pos'] e pos.line X.env = pure false := by rfl) (hw : swappedStores [.Subscript o k pos'] e X.env = pure none := by rfl)
    (h1 : (assignEach [.Subscript o k pos'] X.env).map (·.2) = [assign (.Subscript o k pos') X.env] := by rfl) : MS X W (.Assign [.Subscript o k pos'] e pos) (sSetG fo fk fe) := by
  obtain ⟨t1, p1, q1⟩ := he
  obtain ⟨t2, p2, q2⟩ := ho
  obtain ⟨t3, p3, q3⟩ := hk
  refine ⟨_, ps_asg p1 (pg_sub p2 p3 set_list ha) hs hw h1, fun B ρ env st σ H D R h => ?_⟩
  refine q1 B ρ env st σ H _ R (ROk.mono (SOk.toS h) fun v ρ1 st1 H1 E1 h1 u ru => ?_)
  refine q2 B ρ1 env st1 σ H1 _ E1.rep (ROk.mono (SOk.toS h1) fun a ρ2 st2 H2 E2 h2 w rw' => ?_)
  refine q3 B ρ2 env st2 σ H2 _ E2.rep (ROk.mono (SOk.toS h2) fun c ρ3 st3 H3 E3 h3 y ry => ?_)
  cases a with
  | gl n =>
    cases c with
    | int j =>
      dsimp only at h3
      cases es : st3[n]? with
      | none => rw [es] at h3; exact h3.elim
      | some cl =>
        rw [es] at h3
        cases cl with
        | dead => exact h3.elim
        | lst l =>
          dsimp only at h3
          cases ei : ixN l.length j with
          | none => rw [ei] at h3; exact h3.elim
          | some jj =>
            rw [ei] at h3
            obtain ⟨z, rfl, hz⟩ := rv_gl (E3.post.rv rw')
            have ey := rv_int ry
            subst ey
            obtain ⟨xs, c1, c2, c3⟩ := E3.rep.cell n _ z es hz
            refine ⟨z, xs, j, jj, rfl, rfl, c1, by rw [c3.len]; exact ei, h3 ρ3 σ _ (E3.rep.cellWrite es hz (by rw [List.length_set]; exact c2) (RVs.set ((E2.trans E3).post.rv ru) jj c3))⟩
    | _ => exact h3.elim
  | _ => cases c <;> exact h3.elim
/-! ### a[k] -/
theorem atI_rv {K : PySem.W.Frag} {N : Addr → Prop} {ρ : List Addr} {H : Hp} {l : List PV} {xs : List V} {j : Int} {p : PV} (r : RVs K N ρ H l xs) (h : atI l j = some p) : ∃ v, atI xs j = some v ∧ RV K N ρ H p v := by
  unfold atI at h ⊢
  rw [r.len]
  cases e : ixN l.length j with
  | none => rw [e] at h; cases h
  | some n =>
    rw [e] at h
    exact r.get h
theorem m_ixs (ha : MB X W a fa) (hb : ME X W b fb) (hs : PlainIx b) : ME X W (.Subscript a b pos) (eIx fa fb) := by
  obtain ⟨ta, pa, qa⟩ := ha
  obtain ⟨tb, pb, qb⟩ := hb
  refine ⟨_, pe_ix ix_seq pa pb hs, fun B ρ env st σ H Q R h => ?_⟩
  refine qa B ρ env st σ H _ R (ROk.mono (ROk.bind h) fun p ρ1 st1 H1 E1 h1 x rx => ?_)
  refine qb B ρ1 env st1 σ H1 _ E1.rep (ROk.mono (ROk.bind h1) fun c ρ2 st2 H2 E2 h2 y ry => ?_)
  cases c with
  | int j =>
    have ey := rv_int ry
    subst ey
    obtain ⟨z, e, hz⟩ := ROk.of E2.rep h2
    have rx2 := (RVl.on E2 E2.fr rx).1
    cases p with
    | tup l =>
      obtain ⟨t, xs, rfl, n, g1, g2, g3⟩ := rvb_tup rx2
      obtain ⟨v, e1, r1⟩ := atI_rv g3 e
      exact .inr (.inl ⟨t, xs, j, v, rfl, rfl, SqT.of g1, e1, hz H2 Ext.refl v r1⟩)
    | lst l =>
      obtain ⟨t, xs, rfl, g1, g2, g3⟩ := rvb_lst rx2
      obtain ⟨v, e1, r1⟩ := atI_rv g3 e
      exact .inl ⟨t, xs, j, v, rfl, rfl, SqL.of g1, e1, hz H2 Ext.refl v r1⟩
    | scr l =>
      obtain ⟨t, rfl, g1⟩ := rvb_scr rx2
      have e : (atI l j).map PV.int = some z := e
      cases e1 : atI l j with
      | none => rw [e1] at e; cases e
      | some m =>
        rw [e1] at e
        cases e
        have e2 : atI (l.map V.int) j = some (.int m) := by
          unfold atI at e1 ⊢
          rw [List.length_map]
          cases e3 : ixN l.length j with
          | none => rw [e3] at e1; cases e1
          | some n =>
            rw [e3] at e1
            have e1 : l[n]? = some m := e1
            show (l.map V.int)[n]? = some (.int m)
            rw [List.getElem?_map, e1]
            rfl
        exact .inl ⟨t, _, j, .int m, rfl, rfl, g1.sq, e2, hz H2 Ext.refl _ mk_int⟩
    | gl n =>
      obtain ⟨t, rfl, g1⟩ := rv_gl (show RV X.K (Excl B ρ2 env σ) ρ2 H2 (PV.gl n) x from rx2)
      have e : (match st2[n]? with
        | some (.lst l) => atI l j
        | _ => none) = some z := e
      cases e1 : st2[n]? with
      | none => rw [e1] at e; cases e
      | some cl =>
        rw [e1] at e
        cases cl with
        | dead => cases e
        | lst l =>
          obtain ⟨xs, c1, c2, c3⟩ := E2.rep.cell n _ t e1 g1
          obtain ⟨v, e3, r1⟩ := atI_rv c3 e
          exact .inl ⟨t, xs, j, v, rfl, rfl, SqL.of c1, e3, hz H2 Ext.refl v r1⟩
    | non => cases e
    | bl _ => cases e
    | int _ => cases e
    | str _ => cases e
  | _ => exact h2.elim
end
/-! ### defs -/
/-- a def's promise: it computes F -/
def spF (K : PySem.W.Frag) (n : Nat) (F : Fn) : Sp := fun vs H Q E => ∃ B ρ st ps, Rep K B ρ [] st [] H ∧ RVs K (Excl B ρ [] []) ρ H ps vs ∧ ps.length = n ∧
  ROk K (fun cls d _ H' => E cls d H') B ρ [] [] H (F ps st) fun p ρ' st' H' => ∀ u, RV K (Excl B ρ' [] []) ρ' H' p u → Q u H'
structure FnG (P : Program) (w : World) (K : PySem.W.Frag) (mg : Str → Option Value) (base : Heap) (k : Nat) (f : Addr) (fd : FuncData) (ps : List Str) (sp : Sp) : Prop where
  len : ∀ vs H Q E, sp vs H Q E → vs.length = ps.length
  run : ∀ (A : Around) (outer : List PySem.Env) (s : Shared) (H : Hp) (args : Args) (us : List Value) (vs : List V) (Q : VK) (E : XK), Room k A → A.guards = some [] → Env0 P w K mg base A outer s H →
    BindsTo s fd args (ps.zip us) → Vals vs us → sp vs H Q E → codeAny (model P w) A (.call (.ref f) args) (CR (L2.CX P w) outer P w H s Q E) s
/-- a def by its name, what it computes -/
def Cal (P : Program) (w : World) (K : PySem.W.Frag) (mg : Str → Option Value) (base : Heap) (k : Nat) (x : Str) (ps : List Str) (F : Fn) : Prop :=
  ∃ f fd, FnG P w K mg base k f fd ps (spF K ps.length F) ∧ mg x = some (.ref f) ∧ PySem.W.keepIn K (.ref f) = true ∧ Binds K fd ps []
section
variable {P : Program} {w : World} {K : PySem.W.Frag} {mg : Str → Option Value} {base : Heap} {B : Addr → Prop} {ρ ρ' : List Addr} {env : Env} {st st' : Sto} {σ : L2.St} {H H' : Hp}
theorem FnG.mono {j k : Nat} {f : Addr} {fd : FuncData} {ps : List Str} {sp : Sp} (F : FnG P w K mg base j f fd ps sp) (h : j ≤ k) : FnG P w K mg base k f fd ps sp :=
  ⟨F.len, fun A outer s H args us vs Q E hr hg => F.run A outer s H args us vs Q E (hr.mono h) hg⟩
theorem Cal.mono {j k : Nat} {x : Str} {ps : List Str} {F : Fn} (c : Cal P w K mg base j x ps F) (h : j ≤ k) : Cal P w K mg base k x ps F := by
  obtain ⟨f, fd, c1, c2⟩ := c
  exact ⟨f, fd, c1.mono h, c2⟩
/-- what a callee must leave -/
def Outer (B : Addr → Prop) (env : Env) (σ : L2.St) (a : Addr) : Prop := B a ∨ Owned env σ a
theorem no_own {a : Addr} : ¬ Owned [] ([] : L2.St) a := fun ⟨j, m, e, _⟩ => by simp at e
theorem excl_outer : Excl (Outer B env σ) ρ [] [] = Excl B ρ env σ := by
  funext a
  refine propext ⟨fun h => ?_, fun h => ?_⟩
  · rcases h with (h | h) | h | h
    · exact .inl h
    · exact .inr (.inr h)
    · exact .inr (.inl h)
    · exact (no_own h).elim
  · rcases h with h | h | h
    · exact .inl (.inl h)
    · exact .inr (.inl h)
    · exact .inl (.inr h)
theorem Rep.call (R : Rep K B ρ env st σ H) : Rep K (Outer B env σ) ρ [] st [] H := by
  refine ⟨rfl, R.lenC, R.nd, fun n c a h1 h2 => ?_, R.rT, fun a h z => ?_, fun a h => ?_, fun i e h => by simp at h, fun a h => (no_own h).elim, fun i j l l' a h => by simp at h⟩
  · rw [excl_outer]
    exact R.cell n c a h1 h2
  · rcases z with z | z
    · exact R.rB a h z
    · exact (R.oR a z).1 h
  · rcases h with h | h
    · exact R.bT a h
    · exact R.tr (.inr (.inr h))
theorem EPost.called (R : Rep K B ρ env st σ H) (E : EPost K (Outer B env σ) ρ [] [] H ρ' st' H') : EPost K B ρ env σ H ρ' st' H' :=
  ⟨Rep.back R E.rep E.pre E.kp E.fr (fun _ _ => rfl) (fun _ _ e _ => e) (fun a n => by rw [excl_outer]; exact n) fun a h z => E.rep.rB a h (.inl z), E.pre, E.kp, E.tr, E.fr⟩
end
section
variable {X : Cx} {W : WX} {k : Nat} {x : Str} {ps : List Str} {F : Fn} {p pos : Pos} {e : Expr} {es : List Expr} {g : EF (List PV)}
theorem ExR.imp {K : PySem.W.Frag} {N N' : Addr → Prop} {ρ : List Addr} {H : Hp} {y : Ex} {cls : Value} {d : Option Addr} (h : ExR K N ρ H y cls d) (e : N = N') : ExR K N' ρ H y cls d := by
  rw [← e]
  exact h
/-- the callee runs -/
theorem runG {pins : List (Addr × Obj)} {σ : L2.St} {H : Hp} {s : Shared} {Q : VK} {us : List Value} {vs : List V} {f : Addr} {fd : FuncData} {sp : Sp} (G : FnG X.prog X.w X.K X.mg X.base k f fd ps sp) (hr : Room k X.A) (hgd : X.A.guards = some []) (hb : Binds X.K fd ps []) (tk : Takes X W)
    (I : Inv X pins σ H s) (r : Vals vs us) (h : sp vs H Q fun cls d H' => W cls d σ H') : wpAny (model X.prog X.w) X.A (call (.ref f) us) (EP X pins σ Q) X.xe s := by
  have hl : (us ++ []).length = ps.length := by rw [List.append_nil, ← r.length]; exact G.len _ _ _ _ h
  have hb' := hb s us I.kIn hl
  rw [List.append_nil] at hb'
  refine wpAny_call (codeAny_mono (G.run X.A X.stack s H ⟨us, []⟩ us vs Q _ hr hgd I.env0 hb' r h) fun r s' hq => ?_)
  cases r with
  | error e => exact tk e s' (XE.of_call I (fun _ _ _ h => h) hq)
  | ok fl =>
    cases fl with
    | ret u => exact I.after hq
    | next => exact False.elim hq
    | brk => exact False.elim hq
    | cont => exact False.elim hq
theorem spF_of {K : PySem.W.Frag} {B : Addr → Prop} {ρ : List Addr} {env : Env} {st : Sto} {σ : L2.St} {H : Hp} {n : Nat} {Q : VK} {vl : List PV} {vs : List V} (R : Rep K B ρ env st σ H) (r : RVs K (Excl B ρ env σ) ρ H vl vs) (hn : vl.length = n)
    (h : ROk K W B ρ env σ H (F vl st) fun p ρ' st' H' => ∀ u, RV K (Excl B ρ' env σ) ρ' H' p u → Q u H') : spF K n F vs H Q fun cls d H' => W cls d σ H' := by
  refine ⟨Outer B env σ, ρ, st, vl, R.call, by rw [excl_outer]; exact r, hn, ?_⟩
  cases hF : F vl st with
  | ok v st' =>
    rw [hF] at h
    exact fun ρ' H' E u ru => h ρ' H' (.called R E) u (by rw [excl_outer] at ru; exact ru)
  | exc y st' =>
    rw [hF] at h
    exact fun ρ' H' cls d E hx => h ρ' H' cls d (.called R E) (hx.imp excl_outer)
  | stuck => rw [hF] at h; exact h.elim
theorem m_call (c : Cal X.prog X.w X.K X.mg X.base k x ps F) (hr : Room k X.A) (hgd : X.A.guards = some []) (tk : Takes X W) (hg : Gl X x) (ha : MA X W (e :: es) g) (hn : (e :: es).length = ps.length := by rfl) (hlen : ∀ en st l st', g en st = .ok l st' → l.length = (e :: es).length)
    (hdb : (x == ("__debug__" : Str)) = false := by decide) (he : starEach (e :: es) X.env = (false, eval e X.env) :: starEach es X.env := by rfl) (hpl : (backTo pos (starEach es X.env)).any (·.1) = false := by rfl) : ME X W (.Call (.Name x p) (e :: es) [] pos) (eCall F g) := by
  obtain ⟨f, fd, G, gm, kp, hb⟩ := c
  obtain ⟨t, pa, q⟩ := ha
  refine ⟨fun σ H Q => t σ H fun vs H1 => spF X.K ps.length F vs H1 Q fun cls d H' => W cls d σ H', ⟨fun pins s σ H Q I h => ?_⟩, fun B ρ env st σ H Q R h => ?_⟩
  · refine wpAny_Call_Name_kw (ld_glob I hg gm ?_ hdb)
    refine PySem.W.callWith_K (h₀ := X.base) I.ok.mod.kin kp (thn (pa.run pos pins s σ H _ I h) fun us s1 ⟨vs, H1, I1, r, q⟩ => ⟨I1.kIn, ?_⟩) he hpl
    exact runG G hr hgd hb tk I1 r q
  · refine q B ρ env st σ H _ R ?_
    have h := ROk.bind h
    cases hg : g env st with
    | ok l st' =>
      rw [hg] at h
      exact fun ρ1 H1 E1 us rus => spF_of E1.rep rus ((hlen _ _ _ _ hg).trans hn) (h ρ1 H1 E1)
    | exc y st' => rw [hg] at h; exact h
    | stuck => rw [hg] at h; exact h
theorem m_call0 (c : Cal X.prog X.w X.K X.mg X.base k x [] F) (hr : Room k X.A) (hgd : X.A.guards = some []) (tk : Takes X W) (hg : Gl X x) (hdb : (x == ("__debug__" : Str)) = false := by decide) : ME X W (.Call (.Name x p) [] [] pos) (eCall F aNil) := by
  obtain ⟨f, fd, G, gm, kp, hb⟩ := c
  refine ⟨fun σ H Q => spF X.K 0 F [] H Q fun cls d H' => W cls d σ H', ⟨fun pins s σ H Q I h => ?_⟩, fun B ρ env st σ H Q R h => ?_⟩
  · refine wpAny_Call_Name_kw (ld_glob I hg gm ?_ hdb)
    exact PySem.W.callWith_K0 I.kIn kp (runG (us := []) G hr hgd hb tk I .nil h)
  · exact spF_of R .nil rfl h
end
end PL
/-! PLh: a def by its body; the law at the end. -/
namespace PL
open PySem PySem.Spec L2
section
variable {P : Program} {w : World} {K : PySem.W.Frag} {mg : Str → Option Value} {base : Heap} {B : Addr → Prop} {ρ ρ' : List Addr} {env env' : Env} {st st' : Sto} {σ σ' : L2.St} {H H' : Hp}
theorem excl_drop {a : Addr} (h : Excl B ρ [] ([] : L2.St) a) : Excl B ρ env σ a := by
  rcases h with h | h | h
  · exact .inl h
  · exact .inr (.inl h)
  · exact (no_own h).elim
theorem Rep.drop (R : Rep K B ρ env st σ H) : Rep K B ρ [] st [] H := by
  refine ⟨rfl, R.lenC, R.nd, fun n c a h1 h2 => ?_, R.rT, R.rB, R.bT, fun i e h => by simp at h, fun a h => (no_own h).elim, fun i j l l' a h => by simp at h⟩
  have q := R.cell n c a h1 h2
  cases c with
  | dead => trivial
  | lst l =>
    obtain ⟨xs, q1, q2, q3⟩ := q
    exact ⟨xs, q1, q2, RVs.carry (fun a _ _ n => excl_drop n) (fun _ _ e _ => e) List.prefix_rfl _ _ q3⟩
theorem Post.drop (P : Post K B ρ env σ H ρ' env' st' σ' H') (no : ∀ a, ¬ Owned env σ a) : EPost K B ρ [] [] H ρ' st' H' :=
  ⟨P.rep.drop, P.pre, fun a o e n => P.kp a o e n (no a), P.tr, P.fr⟩
def env0 (m : Nat) (ps : List PV) : Env := ps.map .val ++ List.replicate (m - ps.length) .non
theorem no_own0 {m : Nat} {ps : List PV} {σ : L2.St} (a : Addr) : ¬ Owned (env0 m ps) σ a := by
  rintro ⟨j, l, h, _⟩
  unfold env0 at h
  by_cases hj : j < ps.length
  · rw [List.getElem?_append_left (by rw [List.length_map]; exact hj), List.getElem?_map] at h
    cases e : ps[j]? with
    | none => rw [e] at h; cases h
    | some p => rw [e] at h; cases h
  · rw [List.getElem?_append_right (by rw [List.length_map]; omega), List.getElem?_replicate] at h
    split at h <;> cases h
theorem Rep.enter {N : List Str} {ps : List PV} {vs : List V} (R : Rep K B ρ [] st [] H) (r : RVs K (Excl B ρ [] []) ρ H ps vs) (hn : ps.length ≤ N.length) : Rep K B ρ (env0 N.length ps) st (L2.start N vs) H := by
  have el := r.len
  have eq : ∀ a, Excl B ρ (env0 N.length ps) (L2.start N vs) a → Excl B ρ [] ([] : L2.St) a := fun a h => by
    rcases h with h | h | h
    · exact .inl h
    · exact .inr (.inl h)
    · exact (no_own0 a h).elim
  refine ⟨?_, R.lenC, R.nd, fun n c a h1 h2 => ?_, R.rT, R.rB, R.bT, fun i e h => ?_, fun a h => (no_own0 a h).elim, fun i j l l' a h1 h2 h3 h4 => (no_own0 a ⟨i, l, h1, h3⟩).elim⟩
  · unfold env0 L2.start
    simp only [List.length_append, List.length_map, List.length_replicate]
    omega
  · have q := R.cell n c a h1 h2
    cases c with
    | dead => trivial
    | lst l =>
      obtain ⟨xs, q1, q2, q3⟩ := q
      exact ⟨xs, q1, q2, RVs.carry (fun a _ _ n => eq a n) (fun _ _ e _ => e) List.prefix_rfl _ _ q3⟩
  · unfold env0 at h
    by_cases hj : i < ps.length
    · rw [List.getElem?_append_left (by rw [List.length_map]; exact hj), List.getElem?_map, List.getElem?_eq_getElem hj] at h
      cases h
      obtain ⟨v, h1, h2⟩ := r.get (List.getElem?_eq_getElem hj)
      refine ⟨v, ?_, RV.carry (fun a _ _ n => eq a n) (fun _ _ e _ => e) List.prefix_rfl _ _ h2⟩
      unfold L2.start
      rw [List.getElem?_append_left (by rw [List.length_map, el]; exact hj), List.getElem?_map, h1]
      rfl
    · rw [List.getElem?_append_right (by rw [List.length_map]; omega), List.getElem?_replicate] at h
      split at h
      · cases h; trivial
      · cases h
/-- the ways out of a body are those of its function -/
theorem sok_fn {W : WX} {E : XK} {ps : List PV} {σ0 : L2.St} {body : SF} {m : Nat} {Q : VK} (hE : ∀ cls d σ H, W cls d σ H = E cls d H)
    (h : ROk K (fun cls d _ H' => E cls d H') B ρ [] [] H (mkFn m body ps st) fun p ρ' st' H' => ∀ u, RV K (Excl B ρ' [] []) ρ' H' p u → Q u H') :
    SOk K W B ρ (env0 m ps) σ0 H (body (env0 m ps) st) { nx := fun _ H' => Q .non H', rt := Q } := by
  have h : ROk K (fun cls d _ H' => E cls d H') B ρ [] [] H (match body (env0 m ps) st with
    | .nx _ st => .ok .non st
    | .rt v st => .ok v st
    | .exc x _ st => .exc x st
    | _ => .stuck) fun p ρ' st' H' => ∀ u, RV K (Excl B ρ' [] []) ρ' H' p u → Q u H' := h
  cases hb : body (env0 m ps) st with
  | nx e st' => rw [hb] at h; exact fun ρ' σ' H' P => h ρ' H' (P.drop no_own0) _ mk_non
  | rt v st' => rw [hb] at h; exact fun ρ' e' σ' H' u P ru => h ρ' H' (P.drop no_own0) u ru
  | bk e st' => rw [hb] at h; exact h.elim
  | ct e st' => rw [hb] at h; exact h.elim
  | stuck => rw [hb] at h; exact h.elim
  | exc x e st' =>
    rw [hb] at h
    refine fun ρ' σ' H' cls d P hx => ?_
    rw [hE]
    refine h ρ' H' cls d (P.drop no_own0) ⟨hx.1, hx.2.imp id ?_⟩
    rintro ⟨dd, fvs, e1, e2, e3, e4⟩
    exact ⟨dd, fvs, e1, e2, e3, RVs.carry (fun a _ _ n => excl_drop n) (fun _ _ e _ => e) List.prefix_rfl _ _ e4⟩
abbrev WE (E : XK) : WX := fun cls d _ H' => E cls d H'
/-- THE RULE for a def -/
theorem fnG_of {k : Nat} {f : Addr} {fd : FuncData} {x qual : Str} {params : Arguments} {body : List Stmt} {scope : Scope} {dvs : List V} {kws : List (Str × V)} {N ps : List Str} {g : SF}
    (F : FunD K x qual params body scope dvs kws f fd) (S : FnScope N ps scope) (hN : Nat.ble ps.length N.length = true)
    (hbody : ∀ (cdv : Value) (A : Around) (outer : List PySem.Env) (s : Shared) (H : Hp) (E : XK), Room k (A.deeper (PyProof.Rows.envOfC qual scope s.heap.objs.size f cdv)) → A.guards = some [] →
      MSs (cxOf (L2.CX P w) P w K mg base N qual scope f cdv A outer s H E) (WE E) body g) : FnG P w K mg base (k + 1) f fd ps (spF K ps.length (mkFn N.length g)) := by
  obtain ⟨oc, od, dV, kV, doc, pm, an, cdv, ct, osl, rfl, lk, hcd, _, _⟩ := F.ex
  have len : ∀ vs H Q E, spF K ps.length (mkFn N.length g) vs H Q E → vs.length = ps.length := fun vs H Q E ⟨B, ρ, st, pl, _, r, h, _⟩ => r.len.trans h
  refine ⟨len, ?_⟩
  intro A outer s H args us vs Q E hr hg e0 hb r hsp
  have hlen := len _ _ _ _ hsp
  have inK : K.In s.heap := e0.mod.kin.keeps (fun b o e => (e0.bs b o e).1)
  have noLim : s.heap.NoLimit := e0.mod.nolimit.keeps (fun b o e => (e0.bs b o e).1)
  have kinds : ∀ y ∈ ps.zip us, scope.names.lookup y.1 = some .local ∨ (scope.names.lookup y.1 = some .cell ∧ ((cellsFrom (s.heap.objs.size + 1) scope.names []).lookup y.1).isSome = true) := by
    rintro ⟨n, v⟩ hy
    rcases S.par n (List.of_mem_zip hy).1 with q | q
    · exact Or.inl q
    · exact Or.inr ⟨q, PySem.W.cellsFrom_some _ _ _ (.inl q)⟩
  refine codeAny_call_function hr.depth (inK _ _ lk) rfl S.co S.gen rfl (PySem.W.codeRec_of inK hcd) (hb _ _ _ _ ?_)
  refine wpAny_newFunctionEnv_cells S.kind kinds fun env he s1 xx => ?_
  subst he
  refine ⟨noLim.keeps xx.toInCall.keep, codeAny_func ?_⟩
  obtain ⟨t, ht, hq⟩ := hbody cdv A outer s H E (hr.deeper _) hg
  obtain ⟨B, ρ, st, pl, R, rp, hpl, hF⟩ := hsp
  have I := inv_start (CX := L2.CX P w) (E := E) S hr.hd e0 hlen r xx
  have RE0 : Rep K B ρ (env0 N.length pl) st (L2.start N vs) H := R.enter rp (by rw [hpl]; exact Nat.le_of_ble_eq_true hN)
  refine wpAny_mono (ht.run [] s1 (L2.start N vs) H { nx := fun _ H' => Q .non H', rt := Q } I (hq B ρ _ st _ H _ RE0 (sok_fn (fun _ _ _ _ => rfl) hF))) (fun fl s' hs => ?_) (fun e s' hs => hs)
  have out : ∀ {σ2 : L2.St} {H2 : Hp} {v : V} {u : Value}, Inv (cxOf (L2.CX P w) P w K mg base N qual scope f cdv A outer s H E) [] σ2 H2 s' → RelV v u → Q v H2 → CE outer P w H s Q u s' :=
    fun {σ2 H2 v u} J rv q => ⟨v, H2, J.os, J.bare, J.base, J.hok, rv, q⟩
  cases fl with
  | brk => exact hs.elim fun _ ⟨_, _, q⟩ => False.elim q
  | cont => exact hs.elim fun _ ⟨_, _, q⟩ => False.elim q
  | next =>
    obtain ⟨σ2, H2, J, q⟩ := hs
    exact out (v := V.non) (u := Value.none) J rfl q
  | ret u =>
    obtain ⟨v, σ2, H2, J, rv, q⟩ := hs
    exact out J rv q
end
/-! ### the law -/
section
variable {P : Program} {w : World} {K : PySem.W.Frag} {mg mb : Str → Option Value} {k : Nat} {fa a : Addr} {fd : FuncData} {x : Str} {sp : Sp} {s₁ : Shared} {vs : List Value} {ns : List Int}
/-- from an abstract heap in which at most the script is tracked -/
theorem law_from {H : Hp} (KX : K.In s₁.heap) (hns : s₁.heap.Ns mainGlobals mg) (hb : s₁.heap.Ns builtinsNs mb) (hbb : ∀ x : Str, x ≠ "__name__" → mb x = bootBuiltins x) (hlim : s₁.heap.NoLimit) (hg : s₁.gens = #[])
    (ha : s₁.heap.get? a = some { cls := .type "list", data := .seq vs.toArray }) (hr : Room k callerA) (hbind : ∀ (s : Shared) (u : Value), BindsTo s fd ⟨[u], []⟩ [(x, u)])
    (F : ∀ base : Heap, K.In base → base.Ns mainGlobals mg → FnG P w K mg base k fa fd [x] sp) (hO : Only H) (hok : HOk P w H s₁.heap) (hA : ∀ b, H b ≠ none → b = a) (hK : H a ≠ none → K.lookup a = none)
    (hsp : sp [.ref a] H (fun v _ => v = .bl true) fun _ _ _ => False) :
    codeAny (model P w) callerA (.call (.ref fa) ⟨[.ref a], []⟩) (fun r s' => r = .ok (.ret (.bool true)) ∧ PySem.OldK s₁.heap s'.heap ∧ s'.os = s₁.os ∧ PyProof.Rows.AllBare s'.gens) s₁ := by
  have there : ∀ {b : Addr}, H b ≠ none → s₁.heap.get? b = some { cls := .type "list", data := .seq vs.toArray } := fun {b} h => by rw [hA b h]; exact ha
  have hidden : ∀ {b : Addr} {o : Obj}, s₁.heap.get? b = some o → H b = none → (hidT s₁.heap H).get? b = some o := fun e n => hidT_get e n
  have plain : ∀ {b : Addr} {o : Obj} {es : Array DictEntry} {ep : Nat}, s₁.heap.get? b = some o → o.data = .dict es ep → H b = none := fun {b o es ep} e d => by
    refine Classical.byContradiction fun h => ?_
    rw [there h] at e
    cases e
    cases d
  have names : ∀ {b : Addr} {m : Str → Option Value}, s₁.heap.Ns b m → (hidT s₁.heap H).Ns b m := fun {b m} h => by
    obtain ⟨o, es, ep, e, d, r⟩ := h
    exact ⟨o, es, ep, hidden e (plain e d), d, r⟩
  have kin : K.In (hidT s₁.heap H) := fun b o e => hidden (KX b o e) (by
    refine Classical.byContradiction fun h => ?_
    have e2 := hA b h
    subst e2
    rw [hK h] at e
    cases e)
  have hM : Mod K mg (hidT s₁.heap H) := ⟨kin, names hns, ⟨mb, names hb, hbb⟩, let ⟨mc, h1, h2⟩ := hlim; ⟨mc, names h1, h2⟩⟩
  have e0 : Env0 P w K mg (hidT s₁.heap H) callerA [] s₁ H := ⟨rfl, hM, fun b o e => of_hidT e, Nat.le_of_eq (hidT_size _ _), trivial, fun b hb => absurd (show b ∈ ([] : List Addr) from hb) (by simp), hok, .of_eq hg⟩
  refine codeAny_mono ((F _ kin (names hns)).run callerA [] s₁ H ⟨[.ref a], []⟩ [.ref a] [.ref a] _ _ hr rfl e0 (hbind s₁ (.ref a)) (.cons rfl .nil) hsp) fun r s' h => ?_
  cases r with
  | error e =>
    obtain ⟨_, _, _, _, _, _, _, _, _, _, _, _, z⟩ := h
    exact z.elim
  | ok fl =>
    cases fl with
    | next => exact False.elim h
    | brk => exact False.elim h
    | cont => exact False.elim h
    | ret u =>
      obtain ⟨v, H', os, bare, un, hok', r', q⟩ := h
      have q' : v = .bl true := q
      subst q'
      obtain rfl : u = Value.bool true := r'
      refine ⟨rfl, PySem.OldK.of_keep fun b o e => ?_, os, bare⟩
      rcases hO b with z | ⟨ob, xs, z⟩
      · exact un.keep b o e z (by intro y; exact absurd (show b ∈ ([] : List Addr) from y) (by simp)) (by simp)
      · obtain ⟨e1, _⟩ := hok b _ z
        obtain ⟨e2, _⟩ := hok' b _ (un.frzs b ob _ z)
        rw [e] at e1
        cases e1
        exact e2
theorem law_G (KX : K.In s₁.heap) (hns : s₁.heap.Ns mainGlobals mg) (hb : s₁.heap.Ns builtinsNs mb) (hbb : ∀ x : Str, x ≠ "__name__" → mb x = bootBuiltins x) (hlim : s₁.heap.NoLimit) (hg : s₁.gens = #[])
    (ha : s₁.heap.get? a = some { cls := .type "list", data := .seq vs.toArray }) (hi : PyProof.Rows.IntsAre vs ns) (hl : ns.length ≤ LINE) (hr : Room k callerA) (hbind : ∀ (s : Shared) (u : Value), BindsTo s fd ⟨[u], []⟩ [(x, u)])
    (F : ∀ base : Heap, K.In base → base.Ns mainGlobals mg → FnG P w K mg base k fa fd [x] sp)
    (hsp : ∀ H : Hp, Only H → ScrAt K (fun _ => False) H a ns → sp [.ref a] H (fun v _ => v = .bl true) fun _ _ _ => False) :
    codeAny (model P w) callerA (.call (.ref fa) ⟨[.ref a], []⟩) (fun r s' => r = .ok (.ret (.bool true)) ∧ PySem.OldK s₁.heap s'.heap ∧ s'.os = s₁.os ∧ PyProof.Rows.AllBare s'.gens) s₁ := by
  have rv := vals_ints hi
  have lenV := hi.length
  have hl' : ns.length ≤ sizeLine := by rw [← LINE_eq]; exact hl
  cases hk : K.lookup a with
  | some o =>
    have e := KX a o hk
    rw [ha] at e
    cases e
    have hO : Only (fun _ => none) := fun _ => .inl rfl
    exact law_from KX hns hb hbb hlim hg ha hr hbind F hO (fun b u z => by cases (show (none : Option HO) = some u from z)) (fun b z => absurd rfl z) (fun z => absurd rfl z)
      (hsp _ hO ⟨hl, .inr ⟨_, vs.toArray, _, hk, rfl, rfl, rfl, by rw [List.size_toArray, lenV]; exact hl', by simpa using rv⟩⟩)
  | none =>
    let H : Hp := fun b => if b = a then some (.frz { cls := .type "list", data := .seq vs.toArray } (.lst (ns.map V.int))) else none
    have Ha : H a = some (.frz { cls := .type "list", data := .seq vs.toArray } (.lst (ns.map V.int))) := if_pos rfl
    have Hn : ∀ {b}, b ≠ a → H b = none := fun h => if_neg h
    have hO : Only H := fun b => by
      by_cases hb : b = a
      · exact .inr ⟨_, _, by rw [hb]; exact Ha⟩
      · exact .inl (Hn hb)
    refine law_from KX hns hb hbb hlim hg ha hr hbind F hO (fun b u z => ?_) (fun b z => ?_) (fun _ => hk) (hsp H hO ⟨hl, .inl ⟨_, Ha, fun z => z⟩⟩)
    · by_cases hb : b = a
      · subst hb
        rw [Ha] at z
        cases z
        exact ⟨ha, by rw [List.length_map]; exact hl', vs, _, rv, ha⟩
      · rw [Hn hb] at z
        cases z
    · refine Classical.byContradiction fun hb => z (Hn hb)
end
/-- the end of a law's proof: what its function says at every script -/
theorem walk_G {l : PySem.W.OpenLaw} {n k : Nat} {q : Program} {loose : List Str} {XP : (Str → Option Value) → Heap → Prop} {YP : World → Heap → Prop} {d : PySem.DefRec} {x : Str} {F : Fn}
    (hn : l.most = some n) (hn2 : n ≤ LINE) (hdf : d.params.defaults = []) (hr : Room k callerA)
    (G : ∀ (w : World) (mg : Str → Option Value) (fa : Addr) (h : Heap), YP w h → h.Ns mainGlobals mg → mg d.name = some (.ref fa) →
      ∃ (K : PySem.W.Frag) (fd : FuncData), K.In h ∧ (∀ (s : Shared) (u : Value), BindsTo s fd ⟨[u], []⟩ [(x, u)]) ∧ ∀ base : Heap, K.In base → base.Ns mainGlobals mg → FnG l.prog w K mg base k fa fd [x] (spF K 1 F))
    (law : ∀ ns : List Int, ns.length ≤ n → ∃ st, F [.scr ns] [] = .ok (.bl true) st) :
    PySem.W.WalkO q loose XP YP l.row.toRowW d [] (fun f vs => PySem.call f vs) := by
  refine Att.attach_call hn hdf fun w s₀ s₁ mg mb fa o pm cd doc a vs ns T Y ho hd hcd hmg hobj hints hlen hg => ?_
  obtain ⟨K, fd, KX, hb, hF⟩ := G w mg fa _ Y T.T.g hmg
  refine law_G KX T.T.g T.T.b T.T.builtins T.T.nolimit hg hobj hints (Nat.le_trans hlen hn2) hr hb hF fun H hO hS => ?_
  obtain ⟨st, e⟩ := law ns hlen
  refine ⟨fun _ => False, [], [], [.scr ns], ?_, .cons ?_ .nil, rfl, ?_⟩
  · exact ⟨rfl, rfl, List.nodup_nil, fun n c a h => by simp at h, fun a h => by simp at h, fun a h => by simp at h, fun a h => h.elim, fun i e h => by simp at h, fun a h => (no_own h).elim, fun i j l l' a h => by simp at h⟩
  · unfold RV
    refine ⟨a, rfl, hS.1, hS.2.imp (fun ⟨o, h1, _⟩ => ⟨o, h1, fun z => ?_⟩) id⟩
    rcases z with z | z | z
    · exact z
    · simp at z
    · exact no_own z
  · rw [e]
    exact fun ρ' H' E u ru => rv_bl ru
end PL
/-! PLi: the built-in operations on values. -/
namespace PL
open PySem PySem.Spec L2
/-! ### values as data -/
mutual
def toD : PV → Option PyData
  | .non => some .none
  | .bl b => some (.bool b)
  | .int i => some (.int i)
  | .str x => some (.str x)
  | .tup l => (toDs l).map .tuple
  | .lst l => (toDs l).map .list
  | .scr _ => none
  | .gl _ => none
def toDs : List PV → Option (List PyData)
  | [] => some []
  | p :: ps => match toD p, toDs ps with
    | some d, some ds => some (d :: ds)
    | _, _ => none
end
section
variable {K : PySem.W.Frag} {N : Addr → Prop} {ρ : List Addr} {H : Hp}
mutual
theorem RV.dp : ∀ (p : PV) (v : V) (d : PyData), RV K N ρ H p v → toD p = some d → Dp K H v d
  | .non, v, d, h, e => by
    have h := rv_non h
    subst h
    unfold toD at e
    cases e
    exact .non
  | .bl b, v, d, h, e => by
    have h := rv_bl h
    subst h
    unfold toD at e
    cases e
    exact .bl b
  | .int i, v, d, h, e => by
    have h := rv_int h
    subst h
    unfold toD at e
    cases e
    exact .int i
  | .str x, v, d, h, e => by
    have h := rv_str h
    subst h
    unfold toD at e
    cases e
    exact .str x
  | .tup l, v, d, h, e => by
    obtain ⟨a, xs, rfl, _, h1, _, h2⟩ := rv_tup h
    unfold toD at e
    cases e1 : toDs l with
    | none => rw [e1] at e; cases e
    | some ds =>
      rw [e1] at e
      cases e
      exact .tup (SqT.of h1) (RVs.dp l xs ds h2 e1)
  | .lst l, v, d, h, e => by
    obtain ⟨a, xs, rfl, _, h1, _, h2⟩ := rv_lst h
    unfold toD at e
    cases e1 : toDs l with
    | none => rw [e1] at e; cases e
    | some ds =>
      rw [e1] at e
      cases e
      exact .lst (SqL.of h1) (RVs.dp l xs ds h2 e1)
  | .scr _, _, _, _, e => by
    unfold toD at e
    cases e
  | .gl _, _, _, _, e => by
    unfold toD at e
    cases e
theorem RVs.dp : ∀ (l : List PV) (xs : List V) (ds : List PyData), RVs K N ρ H l xs → toDs l = some ds → DpAll K H xs ds
  | [], xs, ds, h, e => by
    rw [h.unnil]
    unfold toDs at e
    cases e
    exact .nil
  | p :: ps, xs, ds, h, e => by
    obtain ⟨v, vs, rfl, h1, h2⟩ := h.uncons
    unfold toDs at e
    cases e1 : toD p with
    | none => rw [e1] at e; cases e
    | some d =>
      cases e2 : toDs ps with
      | none => rw [e1, e2] at e; cases e
      | some ds' =>
        rw [e1, e2] at e
        cases e
        exact .cons (RV.dp p v d h1 e1) (RVs.dp ps vs ds' h2 e2)
end
theorem RVb.dp {p : PV} {v : V} {d : PyData} (h : RVb K N ρ H p v) (e : toD p = some d) : Dp K H v d := by
  cases p with
  | lst l =>
    obtain ⟨a, xs, rfl, h1, _, h2⟩ := rvb_lst h
    unfold toD at e
    cases e1 : toDs l with
    | none => rw [e1] at e; cases e
    | some ds =>
      rw [e1] at e
      cases e
      exact .lst (SqL.of h1) (RVs.dp l xs ds h2 e1)
  | non => exact RV.dp _ v d h e
  | bl _ => exact RV.dp _ v d h e
  | int _ => exact RV.dp _ v d h e
  | str _ => exact RV.dp _ v d h e
  | tup _ => exact RV.dp _ v d h e
  | scr _ => exact RV.dp _ v d h e
  | gl _ => exact RV.dp _ v d h e
end
def intsOf : List PV → Option (List Int)
  | [] => some []
  | .int i :: ps => (intsOf ps).map (i :: ·)
  | _ :: _ => none
def blsOf : List PV → Option (List Bool)
  | [] => some []
  | .bl i :: ps => (blsOf ps).map (i :: ·)
  | _ :: _ => none
theorem intsOf_eq : ∀ {l : List PV} {ns : List Int}, intsOf l = some ns → l = ns.map PV.int
  | [], ns, e => by cases e; rfl
  | .int i :: ps, ns, e => by
    unfold intsOf at e
    cases e1 : intsOf ps with
    | none => rw [e1] at e; cases e
    | some ms =>
      rw [e1] at e
      cases e
      rw [intsOf_eq e1]
      rfl
  | .non :: _, _, e => by cases e
  | .bl _ :: _, _, e => by cases e
  | .str _ :: _, _, e => by cases e
  | .tup _ :: _, _, e => by cases e
  | .lst _ :: _, _, e => by cases e
  | .scr _ :: _, _, e => by cases e
  | .gl _ :: _, _, e => by cases e
theorem intsOf_map : ∀ (ns : List Int), intsOf (ns.map PV.int) = some ns
  | [] => rfl
  | i :: ns => by
    show (intsOf (ns.map PV.int)).map (i :: ·) = some (i :: ns)
    rw [intsOf_map ns]
    rfl
theorem blsOf_eq : ∀ {l : List PV} {ns : List Bool}, blsOf l = some ns → l = ns.map PV.bl
  | [], ns, e => by cases e; rfl
  | .bl i :: ps, ns, e => by
    unfold blsOf at e
    cases e1 : blsOf ps with
    | none => rw [e1] at e; cases e
    | some ms =>
      rw [e1] at e
      cases e
      rw [blsOf_eq e1]
      rfl
  | .non :: _, _, e => by cases e
  | .int _ :: _, _, e => by cases e
  | .str _ :: _, _, e => by cases e
  | .tup _ :: _, _, e => by cases e
  | .lst _ :: _, _, e => by cases e
  | .scr _ :: _, _, e => by cases e
  | .gl _ :: _, _, e => by cases e
theorem blsOf_map : ∀ (ns : List Bool), blsOf (ns.map PV.bl) = some ns
  | [] => rfl
  | i :: ns => by
    show (blsOf (ns.map PV.bl)).map (i :: ·) = some (i :: ns)
    rw [blsOf_map ns]
    rfl
/-! ### what the operations give -/
def mulB (i j : Int) : Bool := decide ((-(2 ^ 64) < i ∧ i < 2 ^ 64) ∨ (-(2 ^ 64) < j ∧ j < 2 ^ 64))
def addF : PV → PV → Option PV
  | .int i, .int j => some (.int (i + j))
  | .str x, .str y => if x.length + y.length ≤ LINE then some (.str (x ++ y)) else none
  | .tup l, .tup m => if l.length + m.length ≤ LINE then some (.tup (l ++ m)) else none
  | .lst l, .lst m => if l.length + m.length ≤ LINE then some (.lst (l ++ m)) else none
  | _, _ => none
def subF : PV → PV → Option PV
  | .int i, .int j => some (.int (i - j))
  | _, _ => none
def mulF : PV → PV → Option PV
  | .int i, .int j => if mulB i j = true then some (.int (i * j)) else none
  | _, _ => none
def divF : PV → PV → Option PV
  | .int i, .int j => if 0 < j ∧ j < 1073741824 then some (.int (i / j)) else none
  | _, _ => none
def modF : PV → PV → Option PV
  | .int i, .int j => if 0 < j then some (.int (i % j)) else none
  | _, _ => none
def powF : PV → PV → Option PV
  | .int i, .int j => if 0 ≤ j ∧ j ≤ 1000 ∧ i.natAbs < 18446744073709551616 then some (.int (i ^ j.toNat)) else none
  | _, _ => none
def negF : PV → Option PV
  | .int i => some (.int (-i))
  | _ => none
def cmpF (f : Int → Int → Bool) : PV → PV → Option PV
  | .int i, .int j => some (.bl (f i j))
  | _, _ => none
def ltF : PV → PV → Option PV
  | .int i, .int j => some (.bl (decide (i < j)))
  | .tup l, .tup m => match intsOf l, intsOf m with
    | some ns, some ms => some (.bl (HT.lexLt ns ms))
    | _, _ => none
  | _, _ => none
def eqG (p q : PV) : Option PV := match toD p, toD q with
  | some d, some e => if SeqAt.shaped d = true ∧ SeqAt.shaped e = true then some (.bl (PyData.eqv d e)) else none
  | _, _ => none
def neG (p q : PV) : Option PV := match toD p, toD q with
  | some d, some e => if SeqAt.shaped d = true ∧ SeqAt.shaped e = true then some (.bl (!PyData.eqv d e)) else none
  | _, _ => none
def eqF : PV → PV → Option PV
  | .str x, .str y => some (.bl (decide (x = y)))
  | p, q => eqG p q
def neF : PV → PV → Option PV
  | .str x, .str y => some (.bl (!decide (x = y)))
  | p, q => neG p q
def isNonB : PV → Bool
  | .non => true
  | _ => false
def isF : PV → PV → Option PV
  | p, .non => some (.bl (isNonB p))
  | _, _ => none
def isntF : PV → PV → Option PV
  | p, .non => some (.bl (!isNonB p))
  | _, _ => none
def flatB : PV → Bool
  | .non => true
  | .bl _ => true
  | .int _ => true
  | .str _ => true
  | _ => false
def eqFl : PV → PV → Bool
  | .non, .non => true
  | .bl a, .bl b => a == b
  | .bl a, .int b => (if a then 1 else 0) == b
  | .int a, .bl b => a == (if b then 1 else 0)
  | .int a, .int b => a == b
  | .str a, .str b => a == b
  | _, _ => false
def inF (p q : PV) : Option PV := match seqOf q with
  | some l => if flatB p = true ∧ l.all flatB = true then some (.bl (l.any fun y => eqFl y p)) else none
  | none => none
def notInF (p q : PV) : Option PV := match seqOf q with
  | some l => if flatB p = true ∧ l.all flatB = true then some (.bl (!l.any fun y => eqFl y p)) else none
  | none => none
section
variable {X : Cx}
/-- an operation of two ints alone -/
theorem opp_int {f : Value → Value → Sem Value} {op : PV → PV → Option PV} {C : Int → Int → Prop} {g : Int → Int → V} (h : OpR X f (rI C g)) (e : ∀ p q z, op p q = some z → ∃ i j, p = .int i ∧ q = .int j ∧ C i j ∧ ∀ K N ρ H, RV K N ρ H z (g i j)) : OpP X f op := by
  refine ⟨_, h, fun N ρ H x y p q z Q hN hx hy ho hQ => ?_⟩
  obtain ⟨i, j, rfl, rfl, c, r⟩ := e p q z ho
  exact ⟨i, j, rvb_int hx, rvb_int hy, c, hQ H _ Ext.refl (r _ _ _ _)⟩
theorem opp_int0 {f : Value → Value → Sem Value} {op : PV → PV → Option PV} {g : Int → Int → V} (h : OpR X f (rI0 g)) (e : ∀ p q z, op p q = some z → ∃ i j, p = .int i ∧ q = .int j ∧ ∀ K N ρ H, RV K N ρ H z (g i j)) : OpP X f op := by
  refine ⟨_, h, fun N ρ H x y p q z Q hN hx hy ho hQ => ?_⟩
  obtain ⟨i, j, rfl, rfl, r⟩ := e p q z ho
  exact ⟨i, j, rvb_int hx, rvb_int hy, hQ H _ Ext.refl (r _ _ _ _)⟩
theorem p_sub : OpP X (binaryOp .Sub) subF := opp_int0 op_sub fun p q z h => by
  unfold subF at h
  split at h
  · cases h; exact ⟨_, _, rfl, rfl, fun _ _ _ _ => mk_int⟩
  · cases h
theorem p_mul : OpP X (binaryOp .Mult) mulF := opp_int op_mul fun p q z h => by
  unfold mulF at h
  split at h
  · split at h
    · rename_i hm
      cases h
      unfold mulB at hm
      have hm2 := of_decide_eq_true hm
      exact ⟨_, _, rfl, rfl, hm2, fun _ _ _ _ => mk_int⟩
    · cases h
  · cases h
theorem p_div : OpP X (binaryOp .FloorDiv) divF := opp_int op_fdiv fun p q z h => by
  unfold divF at h
  split at h
  · split at h
    · rename_i hm
      cases h
      exact ⟨_, _, rfl, rfl, hm, fun _ _ _ _ => mk_int⟩
    · cases h
  · cases h
theorem p_mod : OpP X (binaryOp .Mod) modF := opp_int op_mod fun p q z h => by
  unfold modF at h
  split at h
  · split at h
    · rename_i hm
      cases h
      exact ⟨_, _, rfl, rfl, hm, fun _ _ _ _ => mk_int⟩
    · cases h
  · cases h
theorem p_pow : OpP X (binaryOp .Pow) powF := opp_int op_pow fun p q z h => by
  unfold powF at h
  split at h
  · split at h
    · rename_i hm
      cases h
      exact ⟨_, _, rfl, rfl, ⟨hm.1, by omega, by have := hm.2.2; exact this⟩, fun _ _ _ _ => mk_int⟩
    · cases h
  · cases h
theorem p_neg : UnP X (unaryOp .USub) negF := by
  refine ⟨_, un_neg, fun N ρ H x p z Q hN hx ho hQ => ?_⟩
  unfold negF at ho
  split at ho
  · cases ho
    exact ⟨_, rvb_int hx, hQ H _ Ext.refl mk_int⟩
  · cases ho
theorem p_cmp {f : Value → Value → Sem Value} {g : Int → Int → Bool} (h : OpR X f (rI0 fun i j => .bl (g i j))) : OpP X f (cmpF g) := opp_int0 h fun p q z h => by
  unfold cmpF at h
  split at h
  · cases h; exact ⟨_, _, rfl, rfl, fun _ _ _ _ => mk_bl⟩
  · cases h
theorem p_le : OpP X (compareOp .LtE) (cmpF fun i j => decide (i ≤ j)) := p_cmp op_le
theorem p_gt : OpP X (compareOp .Gt) (cmpF fun i j => decide (j < i)) := p_cmp op_gt
theorem p_ge : OpP X (compareOp .GtE) (cmpF fun i j => decide (j ≤ i)) := p_cmp op_ge
theorem p_lt (hu : X.A.units < cLine) : OpP X (compareOp .Lt) ltF := by
  refine ⟨_, op_lt.or (op_ltT hu), fun N ρ H x y p q z Q hN hx hy ho hQ => ?_⟩
  unfold ltF at ho
  split at ho
  · cases ho
    exact .inl ⟨_, _, rvb_int hx, rvb_int hy, hQ H _ Ext.refl mk_bl⟩
  · split at ho
    · rename_i ns ms e1 e2
      cases ho
      obtain ⟨a, xs, rfl, _, h1, _, h2⟩ := rvb_tup hx
      obtain ⟨b, ys, rfl, _, h3, _, h4⟩ := rvb_tup hy
      rw [intsOf_eq e1] at h2
      rw [intsOf_eq e2] at h4
      rw [h2.ints] at h1
      rw [h4.ints] at h3
      exact .inr ⟨a, b, ns, ms, rfl, rfl, SqT.of h1, SqT.of h3, hQ H _ Ext.refl mk_bl⟩
    · cases ho
  · cases ho
theorem p_add : OpP X (binaryOp .Add) addF := by
  refine ⟨_, op_add.or (op_add_str.or (op_catA.or op_cat)), fun N ρ H x y p q z Q hN hx hy ho hQ => ?_⟩
  unfold addF at ho
  split at ho
  · cases ho
    exact .inl ⟨_, _, rvb_int hx, rvb_int hy, hQ H _ Ext.refl mk_int⟩
  · split at ho
    · rename_i hl
      cases ho
      exact .inr (.inl ⟨_, _, rvb_str hx, rvb_str hy, by rw [← LINE_eq]; exact hl, hQ H _ Ext.refl mk_str⟩)
    · cases ho
  · split at ho
    · rename_i l m hl
      cases ho
      obtain ⟨a, xs, rfl, na, h1, h1', h2⟩ := rvb_tup hx
      obtain ⟨b, ys, rfl, nb, h3, h3', h4⟩ := rvb_tup hy
      have ll : (xs ++ ys).length ≤ LINE := by rw [List.length_append, h2.len, h4.len]; exact hl
      refine .inr (.inr (.inl ⟨a, b, xs, ys, rfl, rfl, SqT.of h1, SqT.of h3, by rw [← LINE_eq, ← List.length_append]; exact ll, fun e => ?_, fun _ e => ?_, fun _ _ p np => ?_⟩))
      · subst e
        have e2 : l = [] := List.eq_nil_of_length_eq_zero (by rw [← h2.len]; rfl)
        subst e2
        exact hQ H _ Ext.refl (mk_tup nb h3 h3' h4)
      · subst e
        have e2 : m = [] := List.eq_nil_of_length_eq_zero (by rw [← h4.len]; rfl)
        subst e2
        exact hQ H _ Ext.refl (mk_tup na h1 h1' (by rw [List.append_nil]; exact h2))
      · exact hQ _ _ (.new np) (mk_tup (fun z => hN p z np) upd_same ll (RVs.ext (.new np) (h2.append h4)))
    · cases ho
  · split at ho
    · rename_i l m hl
      cases ho
      obtain ⟨a, xs, rfl, h1, h1', h2⟩ := rvb_lst hx
      obtain ⟨b, ys, rfl, h3, h3', h4⟩ := rvb_lst hy
      have ll : (xs ++ ys).length ≤ LINE := by rw [List.length_append, h2.len, h4.len]; exact hl
      refine .inr (.inr (.inr ⟨a, b, xs, ys, rfl, rfl, h1, h3, by rw [← LINE_eq, ← List.length_append]; exact ll, fun p np => ?_⟩))
      exact hQ _ _ (.new np) (mk_lst (fun z => hN p z np) upd_same ll (RVs.ext (.new np) (h2.append h4)))
    · cases ho
  · cases ho
theorem dec_str {x y : Str} : decide (V.str x = V.str y) = decide (x = y) := by
  by_cases h : x = y
  · rw [decide_eq_true h, decide_eq_true (by rw [h])]
  · rw [decide_eq_false h, decide_eq_false (fun e => h (by cases e; rfl))]
theorem p_eq (hu : X.A.units + 64 < cLine) : OpP X (compareOp .Eq) eqF := by
  refine ⟨_, op_eq.or (op_eqD hu), fun N ρ H x y p q z Q hN hx hy ho hQ => ?_⟩
  unfold eqF at ho
  split at ho
  · cases ho
    have h1 := rvb_str hx
    have h2 := rvb_str hy
    subst h1 h2
    exact .inl ⟨rfl, by rw [dec_str]; exact hQ H _ Ext.refl mk_bl⟩
  · unfold eqG at ho
    split at ho
    · rename_i d e e1 e2
      split at ho
      · rename_i hs
        cases ho
        exact .inr ⟨d, e, hx.dp e1, hy.dp e2, hs.1, hs.2, hQ H _ Ext.refl mk_bl⟩
      · cases ho
    · cases ho
theorem p_ne (hu : X.A.units + 64 < cLine) : OpP X (compareOp .NotEq) neF := by
  refine ⟨_, op_ne.or (op_neD hu), fun N ρ H x y p q z Q hN hx hy ho hQ => ?_⟩
  unfold neF at ho
  split at ho
  · cases ho
    have h1 := rvb_str hx
    have h2 := rvb_str hy
    subst h1 h2
    exact .inl ⟨rfl, by rw [dec_str]; exact hQ H _ Ext.refl mk_bl⟩
  · unfold neG at ho
    split at ho
    · rename_i d e e1 e2
      split at ho
      · rename_i hs
        cases ho
        exact .inr ⟨d, e, hx.dp e1, hy.dp e2, hs.1, hs.2, hQ H _ Ext.refl mk_bl⟩
      · cases ho
    · cases ho
theorem non_iff {K : PySem.W.Frag} {N : Addr → Prop} {ρ : List Addr} {H : Hp} {p : PV} {x : V} (h : RVb K N ρ H p x) : decide (x = .non) = isNonB p := by
  cases p with
  | non => rw [rvb_non h]; rfl
  | bl b => rw [rvb_bl h]; rfl
  | int b => rw [rvb_int h]; rfl
  | str b => rw [rvb_str h]; rfl
  | tup l => obtain ⟨a, xs, rfl, _⟩ := rvb_tup h; rfl
  | lst l => obtain ⟨a, xs, rfl, _⟩ := rvb_lst h; rfl
  | scr l => obtain ⟨a, rfl, _⟩ := rvb_scr h; rfl
  | gl n => obtain ⟨a, rfl, _⟩ := rv_gl (show RV K N ρ H (.gl n) x from h); rfl
theorem p_is : OpP X (compareOp .Is) isF := by
  refine ⟨_, op_isN, fun N ρ H x y p q z Q hN hx hy ho hQ => ?_⟩
  cases q with
  | non =>
    cases ho
    exact ⟨rvb_non hy, by rw [non_iff hx]; exact hQ H _ Ext.refl mk_bl⟩
  | _ => cases ho
theorem p_isnt : OpP X (compareOp .IsNot) isntF := by
  refine ⟨_, op_notN, fun N ρ H x y p q z Q hN hx hy ho hQ => ?_⟩
  cases q with
  | non =>
    cases ho
    exact ⟨rvb_non hy, by rw [non_iff hx]; exact hQ H _ Ext.refl mk_bl⟩
  | _ => cases ho
section
variable {K : PySem.W.Frag} {N : Addr → Prop} {ρ : List Addr} {H : Hp}
theorem flat_rv {p : PV} {x : V} (h : RVb K N ρ H p x) (f : flatB p = true) : flatV x = true := by
  cases p with
  | non => rw [rvb_non h]; rfl
  | bl b => rw [rvb_bl h]; rfl
  | int b => rw [rvb_int h]; rfl
  | str b => rw [rvb_str h]; rfl
  | _ => cases f
theorem eqFl_rv {p q : PV} {x y : V} (h : RVb K N ρ H p x) (k : RVb K N ρ H q y) (f : flatB p = true) (g : flatB q = true) : eqV x y = eqFl p q := by
  cases p with
  | non => rw [rvb_non h]; cases q with
    | non => rw [rvb_non k]; rfl
    | bl b => rw [rvb_bl k]; rfl
    | int b => rw [rvb_int k]; rfl
    | str b => rw [rvb_str k]; rfl
    | _ => cases g
  | bl b => rw [rvb_bl h]; cases q with
    | non => rw [rvb_non k]; rfl
    | bl b => rw [rvb_bl k]; rfl
    | int b => rw [rvb_int k]; rfl
    | str b => rw [rvb_str k]; rfl
    | _ => cases g
  | int b => rw [rvb_int h]; cases q with
    | non => rw [rvb_non k]; rfl
    | bl b => rw [rvb_bl k]; rfl
    | int b => rw [rvb_int k]; rfl
    | str b => rw [rvb_str k]; rfl
    | _ => cases g
  | str b => rw [rvb_str h]; cases q with
    | non => rw [rvb_non k]; rfl
    | bl b => rw [rvb_bl k]; rfl
    | int b => rw [rvb_int k]; rfl
    | str b => rw [rvb_str k]; rfl
    | _ => cases g
  | _ => cases f
theorem flats_rv : ∀ {l : List PV} {xs : List V}, RVs K N ρ H l xs → l.all flatB = true → xs.all flatV = true
  | [], _, h, _ => by rw [h.unnil]; rfl
  | p :: ps, _, h, f => by
    obtain ⟨v, vs, rfl, h1, h2⟩ := h.uncons
    rw [List.all_cons, Bool.and_eq_true] at f ⊢
    exact ⟨flat_rv h1.b f.1, flats_rv h2 f.2⟩
theorem inV_rv {p : PV} {x : V} (k : RVb K N ρ H p x) (g : flatB p = true) : ∀ {l : List PV} {xs : List V}, RVs K N ρ H l xs → l.all flatB = true → inV x xs = l.any fun y => eqFl y p
  | [], _, h, _ => by rw [h.unnil]; rfl
  | q :: ps, _, h, f => by
    obtain ⟨v, vs, rfl, h1, h2⟩ := h.uncons
    rw [List.all_cons, Bool.and_eq_true] at f
    have ih := inV_rv k g h2 f.2
    unfold inV at ih ⊢
    rw [List.any_cons, List.any_cons, ih, eqFl_rv h1.b k f.1 g]
end
theorem p_in : OpP X (compareOp .In) inF := by
  refine ⟨_, op_in_seq, fun N ρ H x y p q z Q hN hx hy ho hQ => ?_⟩
  unfold inF at ho
  cases q with
  | tup l =>
    dsimp only [seqOf] at ho
    split at ho
    · rename_i hf
      cases ho
      obtain ⟨a, xs, rfl, _, h1, _, h2⟩ := rvb_tup hy
      refine ⟨a, xs, rfl, .inr (SqT.of h1), flat_rv hx hf.1, flats_rv h2 hf.2, ?_⟩
      rw [inV_rv hx hf.1 h2 hf.2]
      exact hQ H _ Ext.refl mk_bl
    · cases ho
  | lst l =>
    dsimp only [seqOf] at ho
    split at ho
    · rename_i hf
      cases ho
      obtain ⟨a, xs, rfl, h1, _, h2⟩ := rvb_lst hy
      refine ⟨a, xs, rfl, .inl (SqL.of h1), flat_rv hx hf.1, flats_rv h2 hf.2, ?_⟩
      rw [inV_rv hx hf.1 h2 hf.2]
      exact hQ H _ Ext.refl mk_bl
    · cases ho
  | _ => cases ho
theorem p_notIn : OpP X (compareOp .NotIn) notInF := by
  refine ⟨_, op_notIn_seq, fun N ρ H x y p q z Q hN hx hy ho hQ => ?_⟩
  unfold notInF at ho
  cases q with
  | tup l =>
    dsimp only [seqOf] at ho
    split at ho
    · rename_i hf
      cases ho
      obtain ⟨a, xs, rfl, _, h1, _, h2⟩ := rvb_tup hy
      refine ⟨a, xs, rfl, .inr (SqT.of h1), flat_rv hx hf.1, flats_rv h2 hf.2, ?_⟩
      rw [inV_rv hx hf.1 h2 hf.2]
      exact hQ H _ Ext.refl mk_bl
    · cases ho
  | lst l =>
    dsimp only [seqOf] at ho
    split at ho
    · rename_i hf
      cases ho
      obtain ⟨a, xs, rfl, h1, _, h2⟩ := rvb_lst hy
      refine ⟨a, xs, rfl, .inl (SqL.of h1), flat_rv hx hf.1, flats_rv h2 hf.2, ?_⟩
      rw [inV_rv hx hf.1 h2 hf.2]
      exact hQ H _ Ext.refl mk_bl
    · cases ho
  | _ => cases ho
end
end PL
/-! PLj: built-ins that are called; two names at once; what enumerate and zip walk. -/
namespace PL
open PySem PySem.Spec L2
/-! ### built-ins -/
def lenF : List PV → Option PV
  | [.tup l] => some (.int l.length)
  | [.lst l] => some (.int l.length)
  | [.scr l] => some (.int l.length)
  | [.str x] => if x.length ≤ LINE then some (.int x.length) else none
  | _ => none
def allF : List PV → Option PV
  | [.lst l] => (blsOf l).map fun bs => .bl (bs.all id)
  | _ => none
def anyF : List PV → Option PV
  | [.lst l] => (blsOf l).map fun bs => .bl (bs.any id)
  | _ => none
def sumF : List PV → Option PV
  | [.lst l] => (intsOf l).map fun ns => .int ns.sum
  | _ => none
def minL : List Int → Option Int
  | [] => none
  | i :: l => some (l.foldl (fun a b => if b < a then b else a) i)
def maxL : List Int → Option Int
  | [] => none
  | i :: l => some (l.foldl (fun a b => if a < b then b else a) i)
def minF : List PV → Option PV
  | [.lst l] => (intsOf l).bind fun ns => (minL ns).map .int
  | [.int i, .int j] => some (.int (if j < i then j else i))
  | _ => none
def maxF : List PV → Option PV
  | [.lst l] => (intsOf l).bind fun ns => (maxL ns).map .int
  | [.int i, .int j] => some (.int (if j > i then j else i))
  | _ => none
def tupF : List PV → Option PV
  | [.lst l] => some (.tup l)
  | [.tup l] => some (.tup l)
  | _ => none
def listF : List PV → Option (List PV)
  | [.lst l] => some l
  | [.tup l] => some l
  | _ => none
def reprF : List PV → Option PV
  | [p] => match toD p with
    | some d => if d.showable = true ∧ d.hasDict = false ∧ d.shown.length ≤ LINE ∧ d.depth ≤ 30 then some (.str d.shown) else none
    | none => none
  | _ => none
inductive Ty where
  | int
  | bool
  | tuple
  | list
  | str
def Ty.name : Ty → String
  | .int => "int"
  | .bool => "bool"
  | .tuple => "tuple"
  | .list => "list"
  | .str => "str"
def isiB : Ty → PV → Option Bool
  | .int, .int _ => some true
  | .int, .bl _ => some true
  | .bool, .bl _ => some true
  | .tuple, .tup _ => some true
  | .list, .lst _ => some true
  | .str, .str _ => some true
  | _, .scr _ => none
  | _, .gl _ => none
  | _, _ => some false
def isiF (T : Ty) (p : PV) : Option PV := (isiB T p).map .bl
section
variable {K : PySem.W.Frag} {N : Addr → Prop} {ρ : List Addr} {H : Hp}
def tyN : PV → String
  | .non => "NoneType"
  | .bl _ => "bool"
  | .int _ => "int"
  | .str _ => "str"
  | .tup _ => "tuple"
  | .lst _ => "list"
  | _ => ""
theorem ty_of {p : PV} {x : V} (h : RVb K N ρ H p x) (hs : ∀ l, p ≠ .scr l) (hg : ∀ n, p ≠ .gl n) : TyX K H x (.type (tyN p)) := by
  cases p with
  | non => rw [rvb_non h]; exact .base .non
  | bl b => rw [rvb_bl h]; exact .base (.bl b)
  | int b => rw [rvb_int h]; exact .base (.int b)
  | str b => rw [rvb_str h]; exact .base (.str b)
  | tup l => obtain ⟨a, xs, rfl, _, e, _⟩ := rvb_tup h; exact .base (.tup e)
  | lst l => obtain ⟨a, xs, rfl, e, _⟩ := rvb_lst h; exact .base (.lst e)
  | scr l => exact absurd rfl (hs l)
  | gl n => exact absurd rfl (hg n)
theorem isi_kit {T : Ty} {p : PV} {b : Bool} (h : isiB T p = some b) : kitB (tyN p) T.name = some b ∧ (∀ l, p ≠ .scr l) ∧ ∀ n, p ≠ .gl n := by
  cases T <;> cases p <;> cases h <;> refine ⟨?_, (fun _ z => by cases z), (fun _ z => by cases z)⟩ <;> dsimp only [tyN, Ty.name] <;> decide +kernel
theorem foldl_min : ∀ (l : List Int) (i : Int), (l.foldl (fun a b => if b < a then b else a) i = i ∨ l.foldl (fun a b => if b < a then b else a) i ∈ l) ∧ l.foldl (fun a b => if b < a then b else a) i ≤ i ∧ ∀ y ∈ l, l.foldl (fun a b => if b < a then b else a) i ≤ y
  | [], i => ⟨.inl rfl, Int.le_refl _, fun y h => by simp at h⟩
  | x :: l, i => by
    obtain ⟨h1, h2, h3⟩ := foldl_min l (if x < i then x else i)
    rw [List.foldl_cons]
    have hx : (if x < i then x else i) ≤ i ∧ (if x < i then x else i) ≤ x ∧ ((if x < i then x else i) = i ∨ (if x < i then x else i) = x) := by
      split
      · exact ⟨by omega, by omega, .inr rfl⟩
      · exact ⟨by omega, by omega, .inl rfl⟩
    refine ⟨?_, by omega, fun y hy => ?_⟩
    · rcases h1 with h1 | h1
      · rcases hx.2.2 with e | e
        · exact .inl (h1.trans e)
        · exact .inr (by rw [h1.trans e]; exact List.mem_cons_self)
      · exact .inr (List.mem_cons_of_mem _ h1)
    · rcases List.mem_cons.mp hy with e | e
      · rw [e]; omega
      · exact h3 y e
theorem foldl_max : ∀ (l : List Int) (i : Int), (l.foldl (fun a b => if a < b then b else a) i = i ∨ l.foldl (fun a b => if a < b then b else a) i ∈ l) ∧ i ≤ l.foldl (fun a b => if a < b then b else a) i ∧ ∀ y ∈ l, y ≤ l.foldl (fun a b => if a < b then b else a) i
  | [], i => ⟨.inl rfl, Int.le_refl _, fun y h => by simp at h⟩
  | x :: l, i => by
    obtain ⟨h1, h2, h3⟩ := foldl_max l (if i < x then x else i)
    rw [List.foldl_cons]
    have hx : i ≤ (if i < x then x else i) ∧ x ≤ (if i < x then x else i) ∧ ((if i < x then x else i) = i ∨ (if i < x then x else i) = x) := by
      split
      · exact ⟨by omega, by omega, .inr rfl⟩
      · exact ⟨by omega, by omega, .inl rfl⟩
    refine ⟨?_, by omega, fun y hy => ?_⟩
    · rcases h1 with h1 | h1
      · rcases hx.2.2 with e | e
        · exact .inl (h1.trans e)
        · exact .inr (by rw [h1.trans e]; exact List.mem_cons_self)
      · exact .inr (List.mem_cons_of_mem _ h1)
    · rcases List.mem_cons.mp hy with e | e
      · rw [e]; omega
      · exact h3 y e
theorem minL_ok {ns : List Int} {m : Int} (h : minL ns = some m) : m ∈ ns ∧ ∀ y ∈ ns, m ≤ y := by
  cases ns with
  | nil => cases h
  | cons i l =>
    have h := Option.some.inj h
    obtain ⟨h1, h2, h3⟩ := foldl_min l i
    rw [h] at h1 h2 h3
    refine ⟨h1.elim (fun e => by rw [e]; exact List.mem_cons_self) (List.mem_cons_of_mem _), fun y hy => ?_⟩
    rcases List.mem_cons.mp hy with e | e
    · rw [e]; exact h2
    · exact h3 y e
theorem maxL_ok {ns : List Int} {m : Int} (h : maxL ns = some m) : m ∈ ns ∧ ∀ y ∈ ns, y ≤ m := by
  cases ns with
  | nil => cases h
  | cons i l =>
    have h := Option.some.inj h
    obtain ⟨h1, h2, h3⟩ := foldl_max l i
    rw [h] at h1 h2 h3
    refine ⟨h1.elim (fun e => by rw [e]; exact List.mem_cons_self) (List.mem_cons_of_mem _), fun y hy => ?_⟩
    rcases List.mem_cons.mp hy with e | e
    · rw [e]; exact h2
    · exact h3 y e
theorem one_of {g : PV → Option PV} {ps : List PV} {z : PV} : True := trivial
end
section
variable {X : Cx}
theorem c_len : CallP X (.builtin "len") lenF := by
  refine ⟨_, call_len, fun N ρ H xs ps z Q hN hx ho hQ => ?_⟩
  unfold lenF at ho
  split at ho
  · cases ho
    obtain ⟨v, rfl, r, _⟩ := hx.one
    obtain ⟨a, ys, rfl, _, h1, _, h2⟩ := rvb_tup r
    exact ⟨_, ys.length, rfl, .inr ⟨ys, SqT.of h1, rfl⟩, by rw [h2.len]; exact hQ H _ Ext.refl mk_int⟩
  · cases ho
    obtain ⟨v, rfl, r, _⟩ := hx.one
    obtain ⟨a, ys, rfl, h1, _, h2⟩ := rvb_lst r
    exact ⟨_, ys.length, rfl, .inl ⟨ys, SqL.of h1, rfl⟩, by rw [h2.len]; exact hQ H _ Ext.refl mk_int⟩
  · cases ho
    obtain ⟨v, rfl, r, _⟩ := hx.one
    obtain ⟨a, rfl, h1⟩ := rvb_scr r
    exact ⟨_, _, rfl, .inl ⟨_, h1.sq, rfl⟩, by rw [List.length_map]; exact hQ H _ Ext.refl mk_int⟩
  · split at ho
    · rename_i hl
      cases ho
      obtain ⟨v, rfl, r, _⟩ := hx.one
      have e := rvb_str r
      subst e
      exact ⟨_, _, rfl, ⟨by rw [← LINE_eq]; exact hl, rfl⟩, hQ H _ Ext.refl mk_int⟩
    · cases ho
  · cases ho
theorem c_all (hc : X.calm = true) : CallP X (.builtin "all") allF := by
  refine ⟨_, cr_all hc, fun N ρ H xs ps z Q hN hx ho hQ => ?_⟩
  unfold allF at ho
  split at ho
  · rename_i l
    cases e : blsOf l with
    | none => rw [e] at ho; cases ho
    | some bs =>
      rw [e] at ho
      cases ho
      obtain ⟨v, rfl, r, _⟩ := hx.one
      obtain ⟨a, ys, rfl, h1, _, h2⟩ := rvb_lst r
      rw [blsOf_eq e] at h2
      rw [h2.bls] at h1
      exact ⟨a, bs, rfl, SqL.of h1, hQ H _ Ext.refl mk_bl⟩
  · cases ho
theorem c_any (hc : X.calm = true) : CallP X (.builtin "any") anyF := by
  refine ⟨_, cr_any hc, fun N ρ H xs ps z Q hN hx ho hQ => ?_⟩
  unfold anyF at ho
  split at ho
  · rename_i l
    cases e : blsOf l with
    | none => rw [e] at ho; cases ho
    | some bs =>
      rw [e] at ho
      cases ho
      obtain ⟨v, rfl, r, _⟩ := hx.one
      obtain ⟨a, ys, rfl, h1, _, h2⟩ := rvb_lst r
      rw [blsOf_eq e] at h2
      rw [h2.bls] at h1
      exact ⟨a, bs, rfl, SqL.of h1, hQ H _ Ext.refl mk_bl⟩
  · cases ho
theorem c_sum (hc : X.calm = true) : CallP X (.builtin "sum") sumF := by
  refine ⟨_, cr_sum hc, fun N ρ H xs ps z Q hN hx ho hQ => ?_⟩
  unfold sumF at ho
  split at ho
  · rename_i l
    cases e : intsOf l with
    | none => rw [e] at ho; cases ho
    | some bs =>
      rw [e] at ho
      cases ho
      obtain ⟨v, rfl, r, _⟩ := hx.one
      obtain ⟨a, ys, rfl, h1, _, h2⟩ := rvb_lst r
      rw [intsOf_eq e] at h2
      rw [h2.ints] at h1
      exact ⟨a, bs, rfl, SqL.of h1, hQ H _ Ext.refl mk_int⟩
  · cases ho
theorem CallR.or {f : Value} {r r' : List V → Hp → VK → Prop} (h : CallR X f r) (h' : CallR X f r') : CallR X f (fun xs H Q => r xs H Q ∨ r' xs H Q) :=
  fun pins s σ H xs us Q I v q => q.elim (h pins s σ H xs us Q I v) (h' pins s σ H xs us Q I v)
theorem c_min (hc : X.calm = true) : CallP X (.builtin "min") minF := by
  refine ⟨_, CallR.or (cr_min hc) (call_min2 hc), fun N ρ H xs ps z Q hN hx ho hQ => ?_⟩
  unfold minF at ho
  split at ho
  · rename_i l
    cases e : intsOf l with
    | none => rw [e] at ho; cases ho
    | some bs =>
      rw [e] at ho
      have ho : (minL bs).map PV.int = some z := ho
      cases em : minL bs with
      | none => rw [em] at ho; cases ho
      | some m =>
        rw [em] at ho
        cases ho
        obtain ⟨v, rfl, r, _⟩ := hx.one
        obtain ⟨a, ys, rfl, h1, _, h2⟩ := rvb_lst r
        rw [intsOf_eq e] at h2
        rw [h2.ints] at h1
        obtain ⟨m1, m2⟩ := minL_ok em
        refine .inl ⟨a, bs, rfl, SqL.of h1, List.length_pos_of_mem m1, fun k k1 k2 => ?_⟩
        have ek : k = m := Int.le_antisymm (k2 m m1) (m2 k k1)
        rw [ek]
        exact hQ H _ Ext.refl mk_int
  · cases ho
    obtain ⟨v, w, rfl, r1, r2⟩ := hx.two
    exact .inr ⟨_, _, by rw [rvb_int r1.1, rvb_int r2.1], hQ H _ Ext.refl mk_int⟩
  · cases ho
theorem c_max (hc : X.calm = true) : CallP X (.builtin "max") maxF := by
  refine ⟨_, CallR.or (cr_max hc) (call_max2 hc), fun N ρ H xs ps z Q hN hx ho hQ => ?_⟩
  unfold maxF at ho
  split at ho
  · rename_i l
    cases e : intsOf l with
    | none => rw [e] at ho; cases ho
    | some bs =>
      rw [e] at ho
      have ho : (maxL bs).map PV.int = some z := ho
      cases em : maxL bs with
      | none => rw [em] at ho; cases ho
      | some m =>
        rw [em] at ho
        cases ho
        obtain ⟨v, rfl, r, _⟩ := hx.one
        obtain ⟨a, ys, rfl, h1, _, h2⟩ := rvb_lst r
        rw [intsOf_eq e] at h2
        rw [h2.ints] at h1
        obtain ⟨m1, m2⟩ := maxL_ok em
        refine .inl ⟨a, bs, rfl, SqL.of h1, List.length_pos_of_mem m1, fun k k1 k2 => ?_⟩
        have ek : k = m := Int.le_antisymm (m2 k k1) (k2 m m1)
        rw [ek]
        exact hQ H _ Ext.refl mk_int
  · cases ho
    obtain ⟨v, w, rfl, r1, r2⟩ := hx.two
    exact .inr ⟨_, _, by rw [rvb_int r1.1, rvb_int r2.1], hQ H _ Ext.refl mk_int⟩
  · cases ho
theorem c_tuple : CallP X (.type "tuple") tupF := by
  refine ⟨_, call_tuple_of, fun N ρ H xs ps z Q hN hx ho hQ => ?_⟩
  unfold tupF at ho
  split at ho
  · cases ho
    obtain ⟨v, rfl, r, _⟩ := hx.one
    obtain ⟨a, ys, rfl, h1, h1', h2⟩ := rvb_lst r
    exact ⟨a, ys, rfl, .inl ⟨SqL.of h1, fun l nl => hQ _ _ (.new nl) (mk_tup (fun z => hN l z nl) upd_same h1' (RVs.ext (.new nl) h2))⟩⟩
  · cases ho
    obtain ⟨v, rfl, r, _⟩ := hx.one
    obtain ⟨a, ys, rfl, n, h1, h1', h2⟩ := rvb_tup r
    exact ⟨a, ys, rfl, .inr ⟨SqT.of h1, hQ H _ Ext.refl (mk_tup n h1 h1' h2)⟩⟩
  · cases ho
theorem c_list : CallL X (.type "list") listF := by
  refine ⟨_, call_list_of, fun N ρ H xs ps z Q hN hx ho hQ => ?_⟩
  unfold listF at ho
  split at ho
  · cases ho
    obtain ⟨v, rfl, r, _⟩ := hx.one
    obtain ⟨a, ys, rfl, h1, h1', h2⟩ := rvb_lst r
    exact ⟨a, ys, rfl, .inl (SqL.of h1), fun l nl => hQ H l ys _ Ext.refl nl rfl h1' h2⟩
  · cases ho
    obtain ⟨v, rfl, r, _⟩ := hx.one
    obtain ⟨a, ys, rfl, n, h1, h1', h2⟩ := rvb_tup r
    exact ⟨a, ys, rfl, .inr (SqT.of h1), fun l nl => hQ H l ys _ Ext.refl nl rfl h1' h2⟩
  · cases ho
/-- repr of data -/
theorem c_repr (hg : X.A.guards = some []) (hu : X.A.units + 64 < cLine) : CallP X (.builtin "repr") reprF := by
  refine ⟨fun xs H Q => ∃ x d, xs = [x] ∧ Dp X.K H x d ∧ d.showable = true ∧ d.hasDict = false ∧ d.shown.length ≤ LINE ∧ d.depth ≤ 30 ∧ Q (.str d.shown) H, fun pins s σ H xs us Q I r h => ?_, fun N ρ H xs ps z Q hN hx ho hQ => ?_⟩
  · obtain ⟨x, d, rfl, hd, h1, h2, h3, h4, q⟩ := h
    obtain ⟨u, rfl, ru⟩ := vals1 r
    have h3' : d.shown.length ≤ sizeLine := by rw [← LINE_eq]; exact h3
    obtain ⟨as, rd⟩ := Dp.reads I d x u hd ru
    have fin : ∀ (h' : Heap) (t : Tok) (tk : Nat), (∀ b o, s.heap.get? b = some o → h'.get? b = some o) → EP X pins σ Q (.str d.shown t) { s with heap := h', toks := tk } := fun h' t tk kk => ⟨.str d.shown, H, I.kept (t' := tk) kk, ⟨t, rfl⟩, q⟩
    cases rd with
    | none => exact P.repr_of_none (by have := fin s.heap s.toks (s.toks + 1) (fun _ _ e => e); simpa [PyData.shown] using this)
    | bool b => exact P.repr_of_bool (by have := fin s.heap s.toks (s.toks + 1) (fun _ _ e => e); simpa [PyData.shown] using this)
    | int i t => exact P.repr_of_int (by simpa [PyData.showable] using h1) (by have := fin s.heap s.toks (s.toks + 1) (fun _ _ e => e); simpa [PyData.shown] using this)
    | str y t => exact P.repr_of_str (by have := fin s.heap s.toks (s.toks + 1) (fun _ _ e => e); simpa [PyData.shown] using this) (by simpa [PyData.shown] using h3')
    | list a1 a2 a3 a4 => exact repr_of_reads' (.list a1 a2 a3 a4) h1 (PyData.noDict_hsm h2) hg (by omega) (fun _ _ e => e) (fun h' t tk kk => fin h' t tk kk) h3'
    | tuple a1 a2 a3 a4 => exact repr_of_reads' (.tuple a1 a2 a3 a4) h1 (PyData.noDict_hsm h2) hg (by omega) (fun _ _ e => e) (fun h' t tk kk => fin h' t tk kk) h3'
    | dict a1 a2 a3 a4 a5 => simp [PyData.hasDict] at h2
  · unfold reprF at ho
    split at ho
    · split at ho
      · rename_i p _ d e
        split at ho
        · rename_i hd
          cases ho
          obtain ⟨v, rfl, r, _⟩ := hx.one
          exact ⟨v, d, rfl, r.dp e, hd.1, hd.2.1, hd.2.2.1, hd.2.2.2, hQ H _ Ext.refl mk_str⟩
        · cases ho
      · cases ho
    · cases ho
end
section
variable {X : Cx} {W : WX} {a b e : Expr} {fa : EF PV} {p p2 p3 pos : Pos}
/-- isinstance(a, T) -/
theorem m_isi {T : Ty} {n : Str} (ha : MB X W a fa) (hg : Gl X "isinstance") (hm : X.mg "isinstance" = none) (hg2 : Gl X n) (hm2 : X.mg n = none) (hv : bootBuiltins n = some (.type T.name)) (hn : n ≠ "__name__" := by decide) (hd : (n == ("__debug__" : Str)) = false := by decide)
    (h1 : starEach [a, .Name n p2] X.env = (false, eval a X.env) :: starEach [.Name n p2] X.env := by rfl) (h2 : starEach [.Name n p2] X.env = (false, eval (.Name n p2) X.env) :: starEach [] X.env := by rfl)
    (hpl : (backTo pos (starEach [.Name n p2] X.env)).any (·.1) = false := by rfl) : ME X W (.Call (.Name "isinstance" p) [a, .Name n p2] [] pos) (eUn (isiF T) fa) := by
  obtain ⟨ta, pa, qa⟩ := ha
  refine ⟨_, pe_callB call_isi hg hm (by decide +kernel) (pa_cons pa (pa_cons (pe_bltn (v := .ty T.name) hg2 hm2 hv rfl hn hd) pa_nil h2) h1) (by decide) (by decide) h1 hpl, fun B ρ env st σ H Q R h => ?_⟩
  refine qa B ρ env st σ H _ R (ROk.mono (ROk.bind h) fun q ρ1 st1 H1 E1 h1 x rx => ?_)
  obtain ⟨z, ez, hz⟩ := ROk.of E1.rep h1
  unfold isiF at ez
  cases eb : isiB T q with
  | none => rw [eb] at ez; cases ez
  | some k =>
    rw [eb] at ez
    cases ez
    obtain ⟨k1, k2, k3⟩ := isi_kit eb
    exact ⟨x, .ty T.name, .type (tyN q), .type T.name, k, rfl, .ty T.name, ty_of rx.1 k2 k3, kit_ty k1, hz H1 Ext.refl _ mk_bl⟩
def rngL (f : EF PV) : EF (List PV) := fun e st => (f e st).bind fun v st => match v with
  | .int n => if -LINE ≤ n ∧ n ≤ LINE then .ok (rangeF 0 n.toNat) st else .stuck
  | _ => .stuck
/-- list(range(a)) -/
theorem ml_listRg (ha : ME X W a fa) (hc : X.calm = true) (hg : Gl X "list") (hm : X.mg "list" = none) (hg2 : Gl X "range") (hm2 : X.mg "range" = none) (na : starEach [a] X.env = (false, eval a X.env) :: starEach [] X.env := by rfl)
    (nb : starEach [.Call (.Name "range" p2) [a] [] p3] X.env = (false, eval (.Call (.Name "range" p2) [a] [] p3) X.env) :: starEach [] X.env := by rfl) : ML X W (.Call (.Name "list" p) [.Call (.Name "range" p2) [a] [] p3] [] pos) (rngL fa) := by
  obtain ⟨ta, pa, qa⟩ := ha
  refine ⟨_, pe_listRg hc hg hm (prg_1 hg2 hm2 pa na) nb, fun B ρ env st σ H Q R h => ?_⟩
  refine qa B ρ env st σ H _ R (ROk.mono (ROk.bind h) fun q ρ1 st1 H1 E1 h1 x rx => ?_)
  cases q with
  | int n =>
    have ex := rv_int rx
    subst ex
    dsimp only at h1
    by_cases hn : -LINE ≤ n ∧ n ≤ LINE
    · rw [if_pos hn] at h1
      have l62 := line62
      have hL : LINE = 2 ^ 24 := by decide
      refine ⟨n, rfl, ⟨by decide, by decide, by omega, by omega, by omega⟩, fun l nl => ?_⟩
      refine h1 ρ1 H1 (.refl E1.rep) l (rgV 0 n) _ nl rfl (by rw [rgV_length]; omega) ?_
      have hr : ∀ (m : List Nat), RVs X.K (Excl B ρ1 env σ) ρ1 H1 (m.map fun (i : Nat) => PV.int (0 + i)) (m.map fun (i : Nat) => V.int (0 + i)) := fun m => by
        induction m with
        | nil => exact .nil
        | cons i m ih => exact .cons mk_int ih
      have e0 : (n - 0).toNat = n.toNat := by omega
      unfold rangeF rgV
      rw [e0]
      exact hr _
    · rw [if_neg hn] at h1
      exact h1.elim
  | _ => exact h1.elim
end
end PL
/-! PLk: enumerate and zip; two names at once; list.remove. -/
namespace PL
open PySem PySem.Spec L2
/-! ### enumerate of a tuple -/
theorem enum1_meets {v : Value} {o : Obj} {G : Heap → Prop} (B : Begins v o G) :
    Meets (Builtin.«enumerate.__new__» ⟨[.type "enumerate", v], []⟩) (fun _ R s => G s.heap ∧ R (.ok (.ret (.ref (s.heap.push o).objs.size)))
      { s with heap := (s.heap.push o).push { cls := .type "enumerate", data := .fields #[.none, .bool false, .ref s.heap.objs.size, rawInt 0, .none, .none] } }) :=
  .of_wp fun prog w A R s h => by
    obtain ⟨hp, g, d, tk, os⟩ := s
    obtain ⟨h1, h⟩ := h
    have hsub := sub_enumerate
    have q1 : ∀ {A' : Around} {E : Value → Shared → Prop} {Q : Value → Shared → Prop}, Q (.ref hp.objs.size) ⟨hp.push o, g, d, tk, os⟩ → wpAny (model prog w) A' (pyIter v) Q E ⟨hp, g, d, tk, os⟩ := fun q => B.iter prog w _ _ ⟨hp, g, d, tk, os⟩ _ h1 q
    wp_walk using q1
    refine wpAny_stack_any fun st => wpAny_pure ?_
    split
    · rename_i c _ _ _ _ _
      cases (c == Value.type "enumerate")
      all_goals
        wp_walk using q1
        exact ⟨_, rfl, h⟩
    · wp_walk using q1
      exact ⟨_, rfl, h⟩
theorem enum1_begins {prog : Program} {w : World} {A : Around} {E : Value → Shared → Prop} {s : Shared} {v : Value} {o : Obj} {G : Heap → Prop} {Q : Value → Shared → Prop} (B : Begins v o G) (h1 : G s.heap)
    (h : ∀ h', IsEnum h' (s.heap.objs.size + 1) s.heap.objs.size 0 .none → h'.get? s.heap.objs.size = some o → h'.objs.size = s.heap.objs.size + 2 → (∀ b o, s.heap.get? b = some o → h'.get? b = some o) → Q (.ref (s.heap.objs.size + 1)) { s with heap := h' }) :
    wpAny (model prog w) A (call (.type "enumerate") [v]) Q E s := by
  refine callType_new F.called_enumerate (by decide) (F.typeCall_enumerate_1 _) (F.newCall_enumerate_1 _) (fun obj => F.args_object_init_2 obj _) F.entry_enumerate_new (enum1_meets B) ⟨h1, ?_⟩
  have hz : (s.heap.push o).objs.size = s.heap.objs.size + 1 := Heap.size_push ..
  show _ ∧ _
  rw [hz]
  have he := Heap.get?_push_size (s.heap.push o) (o := { cls := .type "enumerate", data := .fields #[.none, .bool false, .ref s.heap.objs.size, rawInt 0, .none, .none] }) rfl
  rw [hz] at he
  exact ⟨⟨_, he, rfl⟩, h _ he (Heap.get?_push_of_some _ (Heap.get?_push_size _ B.free)) (by rw [Heap.size_push, hz]) fun b u x => Heap.get?_push_of_some _ (Heap.get?_push_of_some _ x)⟩
def IteT (K : PySem.W.Frag) (a : Addr) : It :=
  ⟨fun i H => ∃ (xs : List V) (x : V), SqT K H a xs ∧ xs[i]? = some x, fun i H v H' => ∃ T x, v = .ref T ∧ H T = none ∧ H' = upd H T (.tup [.int (i : Nat), x]) ∧ ∀ xs, SqT K H a xs → xs[i]? = some x,
    fun i H => ∃ xs : List V, SqT K H a xs ∧ xs.length = i⟩
theorem turn_enumT {P : Program} {w : World} {K : PySem.W.Frag} {elts : List Expr} {kk : Nat} {tpos : Pos} (a e it : Addr) (hai : a ≠ it) (hea : e ≠ a) :
    Turn P w K (.Tuple elts kk tpos) (IteT K a) [e, it] e (fun i h => (∃ old, IsEnum h e it ((i : Nat) : Int) old) ∧ h.IsTupleIter it a i ∧ e ≠ it) where
  mem := by simp
  obj := fun i h st b hb => by
    obtain ⟨⟨old, he⟩, ⟨o, ho, hc, hd⟩, _⟩ := st
    have e' : b = e ∨ b = it := by simpa using hb
    rcases e' with z | z
    · exact ⟨_, by rw [z]; exact he, fun v q => by have q' : Data.fields _ = Data.cell v := q; cases q'⟩
    · exact ⟨o, by rw [z]; exact ho, fun v q => by rw [hd] at q; cases q⟩
  keep := fun i h h' st k => by
    obtain ⟨⟨old, he⟩, hi, hne⟩ := st
    exact ⟨⟨old, k e (by simp) _ he⟩, hi.at fun o q => k it (by simp) o q, hne⟩
  item := by
    intro X hP hw hK hc i pins s σ H E I hf st hg
    subst hP hw hK
    obtain ⟨⟨old, he⟩, hit, hne⟩ := st
    obtain ⟨xs, x, hq, hx⟩ := hg
    obtain ⟨its, rv, p, hz⟩ := I.tuple hq
    obtain ⟨u, hu, ru⟩ := rv.get hx
    have hel : e < s.heap.objs.size := Heap.lt_size he
    have hil : it < s.heap.objs.size := by obtain ⟨_, q, _⟩ := hit; exact Heap.lt_size q
    have hlt : i < its.toArray.size := by
      rw [List.size_toArray]
      exact (List.getElem?_eq_some_iff.mp hu).1
    have hef : e ∉ [it, a] := by simp only [List.mem_cons, List.not_mem_nil, or_false, not_or]; exact ⟨hne, hea⟩
    refine wpAny_pyNext_enum_itemD (Draws.tuple (A := X.A.in1) (prog := X.prog) (w := X.w) (I.ok.hd hc) it a hai its.toArray) he ⟨hit, p⟩ hlt hne hef fun x' h' tk hx' ho hit' hT hsz hk => ?_
    have ex : x' = u := by
      have q : its.toArray[i]? = some x' := hx'
      rw [List.getElem?_toArray, hu] at q
      cases q
      rfl
    subst ex
    refine ⟨_, rfl, wpAny_letOwnedTupleGo_enum (s := { s with heap := h', toks := tk + 1 }) ho fun h'' he' sb => ?_⟩
    have hT2 : h''.get? s.heap.objs.size = some { cls := .type "tuple", data := .seq #[.int i tk, x'] } := (sb.2 _ (Nat.ne_of_gt hel)).trans hT
    have new : ObjOk X.prog X.w (upd H s.heap.objs.size (.tup [.int (i : Nat), x])) h'' s.heap.objs.size (.tup [.int (i : Nat), x]) :=
      ⟨by show 2 ≤ sizeLine; decide, [.int i tk, x'], .cons ⟨_, rfl⟩ (.cons ru .nil), ⟨_, hT2, rfl, _, rfl⟩⟩
    have I1 : Inv X pins σ (upd H s.heap.objs.size (.tup [.int (i : Nat), x])) { s with heap := h'', toks := tk + 1 } :=
      I.turnedNew (ch := [e, it]) (fun b ob hb q => (sb.2 b (fun z => hb (by simp [z]))).trans (hk b ob (fun z => hb (by simp [z])) (fun z => hb (by simp [z])) q)) hf (Nat.le_refl _) new
    refine ⟨.ref s.heap.objs.size, _, I1, rfl, ⟨_, x, rfl, I.hok.fresh (Nat.le_refl _), rfl, fun ys hy => by rw [I.tuple_inj hy hq]; exact hx⟩, ⟨⟨x', ?_⟩, hit'.1.at fun o q => (sb.2 it (Ne.symm hne)).trans q, hne⟩, fun b hb => ?_⟩
    · rw [show ((i + 1 : Nat) : Int) = (i : Int) + 1 by omega]
      exact he'
    · have hb' : b < s.heap.objs.size := by
        have e' : b = e ∨ b = it := by simpa using hb
        rcases e' with z | z <;> rw [z] <;> assumption
      rw [upd_ne (Nat.ne_of_lt hb')]
      exact (hf b hb).1
  done := by
    intro X hP hw hK hc i pins s σ H E I hf st hg
    subst hP hw hK
    obtain ⟨⟨old, he⟩, hit, hne⟩ := st
    obtain ⟨xs, hq, hx⟩ := hg
    obtain ⟨its, rv, p, hz⟩ := I.tuple hq
    obtain ⟨f0, f1, f2, f3, f4, f5⟩ := hf it (by simp)
    have hn : its.toArray.size = i := by rw [List.size_toArray, ← rv.length]; exact hx
    exact wpAny_pyNext_enum_endD (Draws.tuple (A := X.A.in1) (prog := X.prog) (w := X.w) (I.ok.hd hc) it a hai its.toArray) he (by rw [hn]; exact ⟨hit, p⟩) fun h' eb => ⟨rfl, I.turned (t' := s.toks) (fun b o hb q => eb b o hb q) f0 f1 f3 f4 f5⟩
  self := fun A i s Q E st h => by
    obtain ⟨⟨_, he⟩, _⟩ := st
    exact wpAny_pyIter_enum he h
/-- enumerate(t), t a tuple -/
def iEnumT (K : PySem.W.Frag) (ta : TA) : TI := fun σ H R => ta σ H fun vs H1 => ∃ a xs, vs = [.ref a] ∧ SqT K H1 a xs ∧ R (IteT K a) H1
theorem pi_enumT {X : Cx} {e : Expr} {ta : TA} {p pos tpos : Pos} {elts : List Expr} {kk : Nat} (hg : Gl X "enumerate") (hm : X.mg "enumerate" = none) (ha : PA X [e] ta) (hs : starEach [e] X.env = [(false, eval e X.env)] := by rfl) :
    PI X (.Tuple elts kk tpos) (.Call (.Name "enumerate" p) [e] [] pos) (iEnumT X.K ta) := by
  refine ⟨fun pins s σ H R I h => ?_⟩
  refine PyProof.Rows.Call_ (ld_blt I hg hm PyProof.Rows.boot_enumerate (PyProof.Rows.callWith_type1 (thn (ha.run pos pins s σ H _ I h) fun us s1 ⟨vs, H1, I1, r1, q1⟩ => ?_) hs rfl))
  obtain ⟨a, xs, rfl, hq, q⟩ := q1
  obtain ⟨u, rfl, ru⟩ := vals1 r1
  cases ru
  obtain ⟨its, rv, p', hz⟩ := I1.tuple hq
  have hal : a < s1.heap.objs.size := p'.lt
  refine enum1_begins (begins_tuple a its.toArray) p' fun h' he hit hsz hk => wpAny_pyIter_enum he ?_
  have I2 : Inv X pins σ H1 { s1 with heap := h' } := I1.kept (t' := s1.toks) hk
  refine ⟨s1.heap.objs.size + 1, [s1.heap.objs.size + 1, s1.heap.objs.size], _, _, H1, rfl, I2, turn_enumT a (s1.heap.objs.size + 1) s1.heap.objs.size (Nat.ne_of_lt hal) (Nat.ne_of_gt (Nat.lt_succ_of_lt hal)), ⟨⟨.none, he⟩, ⟨_, hit, rfl, rfl⟩, Nat.succ_ne_self _⟩, fun b hb => ?_, q⟩
  have hle : s1.heap.objs.size ≤ b := by
    have e' : b = s1.heap.objs.size + 1 ∨ b = s1.heap.objs.size := by simpa using hb
    rcases e' with z | z
    · rw [z]; exact Nat.le_succ _
    · rw [z]; exact Nat.le_refl _
  exact I1.fpOk hle (I1.hok.fresh hle)
theorem walk_enumT {K : PySem.W.Frag} {a : Addr} {xs : List V} : Walk (IteT K a) xs.length (fun H => SqT K H a xs) (YPair (fun i => some (.int (i : Nat))) (fun i => xs[i]?)) := by
  refine ⟨fun i _ hi q => ⟨xs, xs[i], q, by simp [hi]⟩, fun _ q => ⟨xs, q, rfl⟩, fun i H v H' _ q y => ?_⟩
  obtain ⟨T, x, h1, h2, h3, h4⟩ := y
  exact ⟨T, .int (i : Nat), x, h1, h2, h3, rfl, h4 xs q⟩
theorem walk_zipT {K : PySem.W.Frag} {a b : Addr} {xs ys : List V} {n : Nat} (hn : n = min xs.length ys.length) : Walk (RZ.ItzT K a b) n (fun H => SqT K H a xs ∧ SqT K H b ys) (YPair (fun i => xs[i]?) (fun i => ys[i]?)) := by
  subst hn
  refine ⟨fun i _ hi q => ⟨xs, ys, xs[i]'(by omega), ys[i]'(by omega), q.1, q.2, by simp, by simp⟩, fun _ q => ⟨xs, ys, q.1, q.2, by omega⟩, fun i H v H' _ q y => ?_⟩
  obtain ⟨T, x, z, h1, h2, h3, h4, h5⟩ := y
  exact ⟨T, x, z, h1, h2, h3, h4 xs q.1, h5 ys q.2⟩
/-! ### their items -/
theorem enumF_len : ∀ (l : List PV) (n : Nat), (enumF n l).length = l.length
  | [], _ => rfl
  | _ :: l, n => by unfold enumF; rw [List.length_cons, List.length_cons, enumF_len l]
theorem enumF_get : ∀ (l : List PV) (n i : Nat) (p : PV), (enumF n l)[i]? = some p → ∃ q, l[i]? = some q ∧ p = .tup [.int ((n + i : Nat) : Int), q]
  | [], _, _, _, h => by simp [enumF] at h
  | x :: l, n, 0, p, h => by
    unfold enumF at h
    have h' : PV.tup [.int n, x] = p := by simpa using h
    exact ⟨x, rfl, by rw [← h']; rfl⟩
  | x :: l, n, i + 1, p, h => by
    unfold enumF at h
    obtain ⟨q, h1, h2⟩ := enumF_get l (n + 1) i p (by simpa using h)
    refine ⟨q, by simpa using h1, ?_⟩
    rw [h2, show n + 1 + i = n + (i + 1) by omega]
theorem zipF_len : ∀ (l m : List PV), (zipF l m).length = min l.length m.length
  | [], _ => by simp [zipF]
  | _ :: _, [] => by simp [zipF]
  | _ :: l, _ :: m => by
    unfold zipF
    rw [List.length_cons, List.length_cons, List.length_cons, zipF_len l m]
    omega
theorem zipF_get : ∀ (l m : List PV) (i : Nat) (p : PV), (zipF l m)[i]? = some p → ∃ q r, l[i]? = some q ∧ m[i]? = some r ∧ p = .tup [q, r]
  | [], _, _, _, h => by simp [zipF] at h
  | _ :: _, [], _, _, h => by simp [zipF] at h
  | x :: l, y :: m, 0, p, h => by
    unfold zipF at h
    have h' : PV.tup [x, y] = p := by simpa using h
    exact ⟨x, y, rfl, rfl, h'.symm⟩
  | x :: l, y :: m, i + 1, p, h => by
    unfold zipF at h
    obtain ⟨q, r, h1, h2, h3⟩ := zipF_get l m i p (by simpa using h)
    exact ⟨q, r, by simpa using h1, by simpa using h2, h3⟩
section
variable {K : PySem.W.Frag} {N M : Addr → Prop} {ρ : List Addr} {H0 : Hp}
theorem enum_items {l : List PV} {xs : List V} (r : RVs K N ρ H0 l xs) (i : Nat) (p : PV) (x y : V) (hp : (enumF 0 l)[i]? = some p) (hx : some (V.int (i : Nat)) = some x) (hy : xs[i]? = some y) : ∃ q s, p = .tup [q, s] ∧ RV K N ρ H0 q x ∧ RV K N ρ H0 s y := by
  obtain ⟨q, h1, h2⟩ := enumF_get l 0 i p hp
  obtain ⟨v, h3, h4⟩ := r.get h1
  rw [hy] at h3
  cases h3
  cases hx
  exact ⟨_, _, h2, by rw [Nat.zero_add]; exact mk_int, h4⟩
theorem zip_items {l m : List PV} {xs ys : List V} (r : RVs K N ρ H0 l xs) (s : RVs K N ρ H0 m ys) (i : Nat) (p : PV) (x y : V) (hp : (zipF l m)[i]? = some p) (hx : xs[i]? = some x) (hy : ys[i]? = some y) : ∃ q t, p = .tup [q, t] ∧ RV K N ρ H0 q x ∧ RV K N ρ H0 t y := by
  obtain ⟨q, t, h1, h2, h3⟩ := zipF_get l m i p hp
  obtain ⟨v, h4, h5⟩ := r.get h1
  obtain ⟨w, h6, h7⟩ := s.get h2
  rw [hx] at h4
  rw [hy] at h6
  cases h4
  cases h6
  exact ⟨q, t, h3, h5, h7⟩
end
def iEnum1 (g : EF (List PV)) : EF (List PV) := fun e st => (g e st).bind fun vs st => match vs with
  | [.tup l] => .ok (enumF 0 l) st
  | [.lst l] => .ok (enumF 0 l) st
  | _ => .stuck
def iZip2 (g : EF (List PV)) : EF (List PV) := fun e st => (g e st).bind fun vs st => match vs with
  | [.tup l, .tup m] => .ok (zipF l m) st
  | [.lst l, .lst m] => .ok (zipF l m) st
  | _ => .stuck
section
variable {X : Cx} {W : WX} {e e2 : Expr} {g : EF (List PV)} {p pos tpos : Pos} {elts : List Expr} {kk : Nat}
theorem mi_enum (hg : Gl X "enumerate") (hm : X.mg "enumerate" = none) (ha : MA X W [e] g) (hs : starEach [e] X.env = [(false, eval e X.env)] := by rfl) : MI X W (.Tuple elts kk tpos) (.Call (.Name "enumerate" p) [e] [] pos) (iEnum1 g) := by
  obtain ⟨t, pt, q⟩ := ha
  refine ⟨_, PI.or (pi_enum hg hm pt hs) (pi_enumT hg hm pt hs), fun B ρ env st σ H R Rp h => ?_⟩
  unfold iEnum1 at h
  cases hf : g env st with
  | stuck => rw [hf] at h; exact h.elim
  | exc x st1 =>
    rw [hf] at h
    refine .inl (q B ρ env st σ H _ Rp ?_)
    rw [hf]
    exact h
  | ok vl st1 =>
    rw [hf] at h
    have h : ROk X.K W B ρ env σ H (match vl with
      | [.tup l] => RE.ok (enumF 0 l) st1
      | [.lst l] => .ok (enumF 0 l) st1
      | _ => .stuck) _ := h
    split at h
    · rename_i l
      refine .inr (q B ρ env st σ H _ Rp ?_)
      rw [hf]
      intro ρ1 H1 E1 us rus
      obtain ⟨u, rfl, ru⟩ := rus.one
      obtain ⟨z, xs, rfl, n, h1, h2, h3⟩ := rv_tup ru
      exact ⟨z, xs, rfl, SqT.of h1, h ρ1 H1 E1 _ H1 Ext.refl (iter_pair walk_enumT (fun H k => SqT.of (k z _ h1 n)) (by rw [enumF_len, h3.len]) h2 (enum_items h3))⟩
    · rename_i l
      refine .inl (q B ρ env st σ H _ Rp ?_)
      rw [hf]
      intro ρ1 H1 E1 us rus
      obtain ⟨u, rfl, ru⟩ := rus.one
      obtain ⟨z, xs, rfl, n, h1, h2, h3⟩ := rv_lst ru
      exact ⟨z, xs, rfl, SqL.of h1, h ρ1 H1 E1 _ H1 Ext.refl (iter_pair walk_enum (fun H k => SqL.of (k z _ h1 n)) (by rw [enumF_len, h3.len]) h2 (enum_items h3))⟩
    · exact h.elim
theorem mi_zip (hg : Gl X "zip") (hm : X.mg "zip" = none) (ha : MA X W [e, e2] g) (hs : starEach [e, e2] X.env = (false, eval e X.env) :: starEach [e2] X.env := by rfl) (hpl : (backTo pos (starEach [e2] X.env)).any (·.1) = false := by rfl) :
    MI X W (.Tuple elts kk tpos) (.Call (.Name "zip" p) [e, e2] [] pos) (iZip2 g) := by
  obtain ⟨t, pt, q⟩ := ha
  refine ⟨_, RZ.pi_zipA hg hm pt hs hpl, fun B ρ env st σ H R Rp h => ?_⟩
  refine q B ρ env st σ H _ Rp (ROk.mono (ROk.bind h) fun vl ρ1 st1 H1 E1 h us rus => ?_)
  split at h
  · rename_i l m
    obtain ⟨u, v, rfl, ru, rv⟩ := rus.two
    obtain ⟨z, xs, rfl, n, h1, h2, h3⟩ := rv_tup ru
    obtain ⟨y, ys, rfl, n', h1', h2', h3'⟩ := rv_tup rv
    exact ⟨z, y, xs, ys, rfl, .inr ⟨SqT.of h1, SqT.of h1', h ρ1 H1 (.refl E1.rep) _ H1 Ext.refl (iter_pair (walk_zipT rfl) (fun H k => ⟨SqT.of (k z _ h1 n), SqT.of (k y _ h1' n')⟩) (by rw [zipF_len, h3.len, h3'.len]) (Nat.le_trans (Nat.min_le_left _ _) h2) (zip_items h3 h3'))⟩⟩
  · rename_i l m
    obtain ⟨u, v, rfl, ru, rv⟩ := rus.two
    obtain ⟨z, xs, rfl, n, h1, h2, h3⟩ := rv_lst ru
    obtain ⟨y, ys, rfl, n', h1', h2', h3'⟩ := rv_lst rv
    exact ⟨z, y, xs, ys, rfl, .inl ⟨SqL.of h1, SqL.of h1', h ρ1 H1 (.refl E1.rep) _ H1 Ext.refl (iter_pair (walk_zip rfl) (fun H k => ⟨SqL.of (k z _ h1 n), SqL.of (k y _ h1' n')⟩) (by rw [zipF_len, h3.len, h3'.len]) (Nat.le_trans (Nat.min_le_left _ _) h2) (zip_items h3 h3'))⟩⟩
  · exact h.elim
end
end PL
/-! PLl: several names at once; lists cut; an item taken out. -/
namespace PL
open PySem PySem.Spec L2
/-- what is put in a name: a value, or a new list -/
def NewE (K : PySem.W.Frag) (N : Addr → Prop) (ρ : List Addr) (Hv : Hp) : EV → V → Hp → Hp → Prop
  | .non, _, _, _ => False
  | .val v, u, H, H' => H' = H ∧ RV K N ρ Hv v u
  | .own l, u, H, H' => ∃ p xs, u = .ref p ∧ H p = none ∧ H' = upd H p (.lst xs) ∧ xs.length ≤ LINE ∧ RVs K N ρ Hv l xs
def NewEs (K : PySem.W.Frag) (N : Addr → Prop) (ρ : List Addr) (Hv : Hp) : List EV → List V → Hp → Hp → Prop
  | [], us, H, H' => us = [] ∧ H' = H
  | x :: xs, us, H, H' => ∃ u ws H1, us = u :: ws ∧ NewE K N ρ Hv x u H H1 ∧ NewEs K N ρ Hv xs ws H1 H'
def setEs : List Nat → List EV → Env → Option Env
  | [], [], e => some e
  | i :: is, x :: xs, e => if i < e.length then setEs is xs (e.set i x) else none
  | _, _, _ => none
def eVal (f : EF PV) : EF EV := fun e st => (f e st).bind fun v st => .ok (.val v) st
def eNew (f : EF (List PV)) : EF EV := fun e st => (f e st).bind fun v st => .ok (.own v) st
def nNil : EF (List EV) := fun _ st => .ok [] st
def nCons (f : EF EV) (r : EF (List EV)) : EF (List EV) := fun e st => (f e st).bind fun x st => (r e st).bind fun xs st => .ok (x :: xs) st
def sPar (is : List Nat) (f : EF (List EV)) : SF := fun e st => (f e st).toS e fun xs st => match setEs is xs e with
  | some e1 => .nx e1 st
  | none => .stuck
section
variable {K : PySem.W.Frag} {B : Addr → Prop} {N : Addr → Prop} {ρ ρ1 ρ2 : List Addr} {env : Env} {st st1 st2 : Sto} {σ : L2.St} {H H1 H2 H3 Hv : Hp}
theorem NewE.ext {x : EV} {u : V} (h : NewE K N ρ Hv x u H H1) : Ext H H1 := by
  cases x with
  | non => exact h.elim
  | val v => obtain ⟨rfl, _⟩ := h; exact Ext.refl
  | own l => obtain ⟨p, xs, rfl, h1, rfl, _⟩ := h; exact Ext.new h1
theorem NewEs.ext : ∀ {xs : List EV} {us : List V} {H H1 : Hp}, NewEs K N ρ Hv xs us H H1 → Ext H H1
  | [], _, _, _, h => by obtain ⟨_, rfl⟩ := h; exact Ext.refl
  | x :: xs, _, _, _, h => by
    obtain ⟨u, ws, H2, rfl, h1, h2⟩ := h
    exact h1.ext.trans (NewEs.ext h2)
theorem NewE.re {N' : Addr → Prop} {ρ' : List Addr} {Hv' : Hp} (f : ∀ p v, RV K N ρ Hv p v → RV K N' ρ' Hv' p v) (g : ∀ p v, RVs K N ρ Hv p v → RVs K N' ρ' Hv' p v) {x : EV} {u : V} (h : NewE K N ρ Hv x u H H1) : NewE K N' ρ' Hv' x u H H1 := by
  cases x with
  | non => exact h.elim
  | val v => exact ⟨h.1, f _ _ h.2⟩
  | own l => obtain ⟨p, xs, h0, h1, h2, h3, h4⟩ := h; exact ⟨p, xs, h0, h1, h2, h3, g _ _ h4⟩
theorem NewEs.re {N' : Addr → Prop} {ρ' : List Addr} {Hv' : Hp} (f : ∀ p v, RV K N ρ Hv p v → RV K N' ρ' Hv' p v) (g : ∀ p v, RVs K N ρ Hv p v → RVs K N' ρ' Hv' p v) : ∀ {xs : List EV} {us : List V} {H H1 : Hp}, NewEs K N ρ Hv xs us H H1 → NewEs K N' ρ' Hv' xs us H H1
  | [], _, _, _, h => h
  | x :: xs, _, _, _, h => by
    obtain ⟨u, ws, H2, e, h1, h2⟩ := h
    exact ⟨u, ws, H2, e, h1.re f g, NewEs.re f g h2⟩
theorem Rep.setNew (R : Rep K B ρ env st σ H) {i : Nat} {x : EV} {u : V} (hi : i < env.length) (h : NewE K (Excl B ρ env σ) ρ H x u H H1) : Post K B ρ env σ H ρ (env.set i x) st (σ.set i (some u)) H1 := by
  cases x with
  | non => exact h.elim
  | val v => obtain ⟨rfl, r⟩ := h; exact R.setVal hi r
  | own l => obtain ⟨p, xs, rfl, h1, rfl, h3, h4⟩ := h; exact R.setOwn hi h1 h3 h4
/-- the names' slots filled -/
def setVs : List Nat → List V → L2.St → L2.St
  | i :: is, u :: us, σ => setVs is us (σ.set i (some u))
  | _, _, σ => σ
theorem Rep.setNews : ∀ {is : List Nat} {xs : List EV} {us : List V} {env env1 : Env} {σ : L2.St} {H H1 : Hp}, Rep K B ρ env st σ H → setEs is xs env = some env1 → NewEs K (Excl B ρ env σ) ρ H xs us H H1 →
    Post K B ρ env σ H ρ env1 st (setVs is us σ) H1
  | [], [], us, env, env1, σ, H, H1, R, e, h => by
    cases e
    obtain ⟨rfl, rfl⟩ := h
    exact .refl R
  | i :: is, x :: xs, us, env, env1, σ, H, H1, R, e, h => by
    obtain ⟨u, ws, H2, rfl, h1, h2⟩ := h
    unfold setEs at e
    split at e
    · rename_i hi
      have P1 := R.setNew hi h1
      exact P1.trans (Rep.setNews P1.rep e (h2.re (fun _ _ => P1.rv) (fun _ _ => P1.rvs)))
    · cases e
  | [], _ :: _, _, _, _, _, _, _, _, e, _ => by cases e
  | _ :: _, [], _, _, _, _, _, _, _, e, _ => by cases e
/-- a new list that stands aside -/
theorem EPost.aside {p : Addr} {xs : List V} (R1 : Rep K B ρ1 env st1 σ H1) (np : H1 p = none) (E : EPost K (Inner B env σ [] p) ρ1 env σ (upd H1 p (.lst xs)) ρ2 st2 H2) :
    ∃ Hz : Hp, Hz p = none ∧ H2 = upd Hz p (.lst xs) ∧ EPost K B ρ1 env σ H1 ρ2 st2 Hz ∧ (∀ a o, H2 a = some o → ¬ Excl (Inner B env σ [] p) ρ2 env σ a → Hz a = some o) ∧ ∀ a, Excl B ρ2 env σ a → Excl (Inner B env σ [] p) ρ2 env σ a := by
  let Hz : Hp := fun a => if a = p then none else H2 a
  have zD : Hz p = none := if_pos rfl
  have zn : ∀ {a}, a ≠ p → Hz a = H2 a := fun h => if_neg h
  have pR : p ∉ ρ1 := fun z => R1.rT p z np
  have hD : H2 p = some (.lst xs) := E.kp p _ upd_same pR
  have nR : ∀ a ∈ ρ2, a ≠ p := fun a h z => E.rep.rB a h (.inr (.inl z))
  have EX : Ext H1 (upd H1 p (.lst xs)) := .new np
  have k0 : ∀ a o, H1 a = some o → a ∉ ρ1 → Hz a = some o := fun a o e n => by
    rw [zn (ne_of_none e np)]
    exact E.kp a o (EX a o e) n
  have k1 : ∀ a o, H2 a = some o → ¬ Excl (Inner B env σ [] p) ρ2 env σ a → Hz a = some o := fun a o e n => by
    rw [zn (fun z => n (by rw [z]; exact .inl (.inr (.inl rfl))))]
    exact e
  have less : ∀ a, Excl B ρ2 env σ a → Excl (Inner B env σ [] p) ρ2 env σ a := fun a n => (excl_inner (vs := [])).mpr (.inl n)
  have fr : ∀ a ∈ ρ2, a ∉ ρ1 → H1 a = none := fun a h n => by
    have q := E.fr a h n
    rw [upd_ne (nR a h)] at q
    exact q
  have trz : ∀ a, H1 a ≠ none → Hz a ≠ none := fun a h => by
    rw [zn (fun z => h (by rw [z]; exact np))]
    exact E.tr a fun z => by
      cases e : H1 a with
      | none => exact h e
      | some o => rw [EX a o e] at z; cases z
  refine ⟨Hz, zD, ?_, ⟨Rep.back R1 E.rep E.pre k0 fr (fun a h => zn (nR a h)) k1 less fun a h z => E.rep.rB a h (.inl z), E.pre, k0, trz, fr⟩, k1, less⟩
  funext a
  by_cases ha : a = p
  · rw [ha, upd_same, hD]
  · rw [upd_ne ha, zn ha]
end
def MN (X : Cx) (W : WX) (e : Expr) (f : EF EV) : Prop := ∃ t, PE X e t ∧ ∀ B ρ env st σ H Q, Rep X.K B ρ env st σ H →
  ROk X.K W B ρ env σ H (f env st) (fun x ρ' st' H' => ∀ u H'', NewE X.K (Excl B ρ' env σ) ρ' H' x u H' H'' → Q u H'') → t σ H Q
def MNs (X : Cx) (W : WX) (es : List Expr) (f : EF (List EV)) : Prop := ∃ t, PA X es t ∧ ∀ B ρ env st σ H Q, Rep X.K B ρ env st σ H →
  ROk X.K W B ρ env σ H (f env st) (fun xs ρ' st' H' => ∀ us H'', NewEs X.K (Excl B ρ' env σ) ρ' H' xs us H' H'' → Q us H'') → t σ H Q
section
variable {X : Cx} {W : WX} {e a b : Expr} {es : List Expr} {f : EF PV} {fl : EF (List PV)} {fe : EF EV} {fs : EF (List EV)}
theorem ME.mn (h : ME X W e f) : MN X W e (eVal f) := by
  obtain ⟨t, p, q⟩ := h
  refine ⟨t, p, fun B ρ env st σ H Q R h => q B ρ env st σ H Q R (ROk.mono (ROk.bind h) fun v ρ1 st1 H1 E1 h1 u ru => ?_)⟩
  exact h1 ρ1 H1 (.refl E1.rep) u H1 ⟨rfl, ru⟩
theorem ML.mn (h : ML X W e fl) : MN X W e (eNew fl) := by
  obtain ⟨t, p, q⟩ := h
  refine ⟨t, p, fun B ρ env st σ H Q R h => q B ρ env st σ H Q R (ROk.mono (ROk.bind h) fun v ρ1 st1 H1 E1 h1 p xs H2 np e2 hl rxs => ?_)⟩
  exact h1 ρ1 H1 (.refl E1.rep) (.ref p) H2 ⟨p, xs, rfl, np, e2, hl, rxs⟩
theorem mns_nil : MNs X W [] nNil := ⟨tNil, pa_nil, fun B ρ env st σ H Q R h => h ρ H (.refl R) [] H ⟨rfl, rfl⟩⟩
theorem mns_cons (he : MN X W e fe) (hr : MNs X W es fs) (hs : starEach (e :: es) X.env = (false, eval e X.env) :: starEach es X.env := by rfl) : MNs X W (e :: es) (nCons fe fs) := by
  obtain ⟨t, p, q⟩ := he
  obtain ⟨t2, p2, q2⟩ := hr
  refine ⟨_, pa_cons p p2 hs, fun B ρ env st σ H Q R h => ?_⟩
  refine q B ρ env st σ H _ R (ROk.mono (ROk.bind h) fun x ρ1 st1 H1 E1 h1 u H2 hn => ?_)
  cases x with
  | non => exact hn.elim
  | val v =>
    obtain ⟨rfl, ru⟩ := hn
    refine q2 B ρ1 env st1 σ H2 _ E1.rep (ROk.mono (ROk.bind h1) fun xs ρ2 st2 H3 E2 h2 us H4 hns => ?_)
    exact h2 ρ2 H3 (.refl E2.rep) (u :: us) H4 ⟨u, us, H3, rfl, ⟨rfl, E2.post.rv ru⟩, hns⟩
  | own l =>
    obtain ⟨p, xv, rfl, np, rfl, hl, rl⟩ := hn
    have R1 := E1.rep
    have RI : Rep X.K (Inner B env σ [] p) ρ1 env st1 σ (upd H1 p (.lst xv)) := R1.wiped np []
    refine q2 (Inner B env σ [] p) ρ1 env st1 σ (upd H1 p (.lst xv)) _ RI ?_
    cases hf : fs env st1 with
    | stuck => rw [hf] at h1; exact h1.elim
    | exc y st2 =>
      rw [hf] at h1
      intro ρ2 H2 cls d E2 hx
      obtain ⟨Hz, z1, z2, EZ, k1, less⟩ := E2.aside R1 np
      have EE : EPost X.K B ρ2 env σ Hz ρ2 st2 H2 := by rw [z2]; exact .ext EZ.rep (.new z1)
      refine h1 ρ2 H2 cls d (EZ.trans EE) ⟨hx.1, hx.2.imp id ?_⟩
      rintro ⟨dd, fvs, e1, e2, e3, e4⟩
      exact ⟨dd, fvs, e1, e2, e3, RVs.carry (fun a _ _ n => less a n) (fun _ _ e _ => e) List.prefix_rfl _ _ e4⟩
    | ok xs st2 =>
      rw [hf] at h1
      intro ρ2 H2 E2 us H4 hns
      obtain ⟨Hz, z1, z2, EZ, k1, less⟩ := E2.aside R1 np
      have h2 := h1 ρ2 Hz EZ
      refine h2 (.ref p :: us) H4 ⟨.ref p, us, H2, rfl, ⟨p, xv, rfl, z1, z2, hl, EZ.post.rvs rl⟩, ?_⟩
      exact hns.re (fun q v r => RV.carry (fun a _ _ n => less a n) k1 List.prefix_rfl q v r) (fun q v r => RVs.carry (fun a _ _ n => less a n) k1 List.prefix_rfl q v r)
theorem NewEs.two {K : PySem.W.Frag} {N : Addr → Prop} {ρ : List Addr} {Hv H H' : Hp} {x y : EV} {us : List V} (h : NewEs K N ρ Hv [x, y] us H H') : ∃ u w, us = [u, w] := by
  obtain ⟨u, ws, H1, rfl, _, w, ws2, H2, rfl, _, rfl, _⟩ := h
  exact ⟨u, w, rfl⟩
theorem setEs_len : ∀ {is : List Nat} {xs : List EV} {e e1 : Env}, setEs is xs e = some e1 → xs.length = is.length
  | [], [], _, _, _ => rfl
  | i :: is, x :: xs, e, e1, h => by
    unfold setEs at h
    split at h
    · rw [List.length_cons, List.length_cons, setEs_len h]
    · cases h
  | [], _ :: _, _, _, h => by cases h
  | _ :: _, [], _, _, h => by cases h
theorem NewEs.len {K : PySem.W.Frag} {N : Addr → Prop} {ρ : List Addr} {Hv : Hp} : ∀ {xs : List EV} {us : List V} {H H' : Hp}, NewEs K N ρ Hv xs us H H' → us.length = xs.length
  | [], _, _, _, h => by rw [h.1]; rfl
  | _ :: _, _, _, _, h => by
    obtain ⟨u, ws, H1, rfl, _, h2⟩ := h
    rw [List.length_cons, List.length_cons, NewEs.len h2]
/-- a, b = x, y, the names plain -/
theorem ms_par {i j : Nat} {x y : Str} {px py pt pos : Pos} {kt k2 pt2} (h : MNs X W [a, b] fs) (hc : X.calm = true) (hN : X.N.Nodup) (hi : X.N[i]? = some x) (hj : X.N[j]? = some y) (hij : i ≠ j)
    (hx : X.env.scope.names.lookup x = some .local) (hy : X.env.scope.names.lookup y = some .local)
    (hw : swappedStores [.Tuple [.Name x px, .Name y py] kt pt] (.Tuple [a, b] k2 pt2) X.env = pure (some [x, y]))
    (hs : swapsWithSole [.Tuple [.Name x px, .Name y py] kt pt] (.Tuple [a, b] k2 pt2) pos.line X.env = pure false := by rfl) :
    MS X W (.Assign [.Tuple [.Name x px, .Name y py] kt pt] (.Tuple [a, b] k2 pt2) pos) (sPar [i, j] fs) := by
  obtain ⟨t, p, q⟩ := h
  refine ⟨_, ps_par hc hN hi hj hij hx hy p hw hs, fun B ρ env st σ H D R h => ?_⟩
  refine q B ρ env st σ H _ R (ROk.mono (SOk.toS h) fun xs ρ1 st1 H1 E1 h1 us H2 hn => ?_)
  cases e : setEs [i, j] xs env with
  | none => rw [e] at h1; exact h1.elim
  | some env1 =>
    rw [e] at h1
    have hl : us.length = 2 := hn.len.trans (setEs_len e)
    match us, hl with
    | [u, w], _ => exact ⟨u, w, rfl, h1 ρ1 _ H2 (E1.rep.setNews e hn)⟩
/-- .. stored from the left -/
theorem ms_parU {i j : Nat} {x y : Str} {px py pt pos : Pos} {kt k2 pt2} (h : MNs X W [a, b] fs) (hc : X.calm = true) (hN : X.N.Nodup) (hi : X.N[i]? = some x) (hj : X.N[j]? = some y)
    (hx : Loc X.env.scope x) (hy : Loc X.env.scope y) (hfx : X.fn x = true ∨ X.env.scope.names.lookup x = some .local) (hfy : X.fn y = true ∨ X.env.scope.names.lookup y = some .local)
    (hw : swappedStores [.Tuple [.Name x px, .Name y py] kt pt] (.Tuple [a, b] k2 pt2) X.env = pure none)
    (hs : swapsWithSole [.Tuple [.Name x px, .Name y py] kt pt] (.Tuple [a, b] k2 pt2) pos.line X.env = pure false := by rfl)
    (h1 : (assignEach [.Tuple [.Name x px, .Name y py] kt pt] X.env).map (·.2) = [assign (.Tuple [.Name x px, .Name y py] kt pt) X.env] := by rfl)
    (h2 : (assignEach [.Name x px, .Name y py] X.env).map (·.2) = assign (.Name x px) X.env :: (assignEach [.Name y py] X.env).map (·.2) := by rfl)
    (h3 : (assignEach [.Name y py] X.env).map (·.2) = assign (.Name y py) X.env :: (assignEach [] X.env).map (·.2) := by rfl)
    (hst : (assignEach [.Name x px, .Name y py] X.env).findIdx? (·.1) = none := by rfl) (hn : (assignEach [.Name x px, .Name y py] X.env).length = 2 := by rfl) :
    MS X W (.Assign [.Tuple [.Name x px, .Name y py] kt pt] (.Tuple [a, b] k2 pt2) pos) (sPar [i, j] fs) := by
  obtain ⟨t, p, q⟩ := h
  refine ⟨_, ps_asg (pe_tup p) (pg_tup (n := 2) hc (pgs_cons (pg_name hN hi hx hfx) (pgs_cons (pg_name hN hj hy hfy) pgs_nil h3) h2) hn hst) hs hw h1, fun B ρ env st σ H D R h => ?_⟩
  refine q B ρ env st σ H _ R (ROk.mono (SOk.toS h) fun xs ρ1 st1 H1 E1 h1 us H2 hn => ?_)
  cases e : setEs [i, j] xs env with
  | none => rw [e] at h1; exact h1.elim
  | some env1 =>
    rw [e] at h1
    have hl : us.length = 2 := hn.len.trans (setEs_len e)
    match us, hl with
    | [u, w], _ =>
      refine ⟨by rw [← LINE_eq]; show 2 ≤ 16777216; decide, fun T nT => ⟨T, [u, w], rfl, SqT.of upd_same, rfl, u, [w], rfl, w, [], rfl, rfl, ?_⟩⟩
      have P := E1.rep.setNews e hn
      exact h1 ρ1 _ _ (P.trans (EPost.ext P.rep (.new nT)).post)
end
end PL
/-! PLm: slices; an item taken out of a list. -/
namespace PL
open PySem PySem.Spec L2
/-! ### a[lo:hi] -/
def cutF (l : List PV) (lo hi : Option Int) : List PV := (l.drop (HT.sIx l.length 0 lo)).take (HT.sIx l.length l.length hi - HT.sIx l.length 0 lo)
def oNone : EF (Option Int) := fun _ st => .ok none st
def oSome (f : EF PV) : EF (Option Int) := fun e st => (f e st).bind fun v st => match v with
  | .int i => .ok (some i) st
  | _ => .stuck
def slF : PV → Option Int → Option Int → Option PV
  | .tup l, lo, hi => some (.tup (cutF l lo hi))
  | .lst l, lo, hi => some (.lst (cutF l lo hi))
  | _, _, _ => none
def eSl (f : EF PV) (lo hi : EF (Option Int)) : EF PV := fun e st => (f e st).bind fun v st => (lo e st).bind fun i st => (hi e st).bind fun j st => .of (slF v i j) st
def MO (X : Cx) (W : WX) (o : Option Expr) (f : EF (Option Int)) : Prop := ∃ t, PO X o t ∧ ∀ B ρ env st σ H Q, Rep X.K B ρ env st σ H →
  ROk X.K W B ρ env σ H (f env st) (fun k ρ' st' H' => Q k H') → t σ H Q
section
variable {X : Cx} {W : WX} {e : Expr} {lo hi : Option Expr} {f : EF PV} {fl fh : EF (Option Int)} {pos p2 : Pos}
theorem mo_none : MO X W none oNone := ⟨_, po_none, fun B ρ env st σ H Q R h => h ρ H (.refl R)⟩
theorem mo_some (h : ME X W e f) : MO X W (some e) (oSome f) := by
  obtain ⟨t, p, q⟩ := h
  refine ⟨_, po_some p, fun B ρ env st σ H Q R h => q B ρ env st σ H _ R (ROk.mono (ROk.bind h) fun v ρ1 st1 H1 E1 h1 u ru => ?_)⟩
  cases v with
  | int i => exact ⟨i, rv_int ru, h1 ρ1 H1 (.refl E1.rep)⟩
  | _ => exact h1.elim
theorem RVs.cut {K : PySem.W.Frag} {N : Addr → Prop} {ρ : List Addr} {H : Hp} {l : List PV} {xs : List V} (r : RVs K N ρ H l xs) (lo hi : Option Int) : RVs K N ρ H (cutF l lo hi) (cutV xs lo hi) := by
  unfold cutF cutV
  rw [r.len]
  exact (r.drop _).take _
theorem sIx_le (n d : Nat) (o : Option Int) (h : d ≤ n) : HT.sIx n d o ≤ n := by
  unfold HT.sIx
  split
  · exact h
  · split <;> omega
theorem cut_whole {l : List V} {lo hi : Option Int} (h1 : HT.sIx l.length 0 lo = 0) (h2 : HT.sIx l.length l.length hi = l.length) : cutV l lo hi = l := by
  unfold cutV
  rw [h1, h2, List.drop_zero, Nat.sub_zero, List.take_length]
theorem cutF_whole {l : List PV} {lo hi : Option Int} (h1 : HT.sIx l.length 0 lo = 0) (h2 : HT.sIx l.length l.length hi = l.length) : cutF l lo hi = l := by
  unfold cutF
  rw [h1, h2, List.drop_zero, Nat.sub_zero, List.take_length]
theorem m_slice (ha : MB X W e f) (hl : MO X W lo fl) (hh : MO X W hi fh) : ME X W (.Subscript e (.Slice lo hi none p2) pos) (eSl f fl fh) := by
  obtain ⟨ta, pa, qa⟩ := ha
  obtain ⟨tl, pl, ql⟩ := hl
  obtain ⟨th, ph, qh⟩ := hh
  refine ⟨_, pe_slice (SlR.or sl_tupA sl_list) pa pl ph, fun B ρ env st σ H Q R h => ?_⟩
  refine qa B ρ env st σ H _ R (ROk.mono (ROk.bind h) fun p ρ1 st1 H1 E1 h1 x rx => ?_)
  refine ql B ρ1 env st1 σ H1 _ E1.rep (ROk.mono (ROk.bind h1) fun i ρ2 st2 H2 E2 h2 => ?_)
  refine qh B ρ2 env st2 σ H2 _ E2.rep (ROk.mono (ROk.bind h2) fun j ρ3 st3 H3 E3 h3 => ?_)
  obtain ⟨z, e, hz⟩ := ROk.of E3.rep h3
  have E23 := E2.trans E3
  have rx2 := (RVl.on E23 E23.fr rx).1
  cases p with
  | tup l =>
    cases e
    obtain ⟨t, xs, rfl, n, g1, g2, g3⟩ := rvb_tup rx2
    have hl : (cutV xs i j).length ≤ LINE := Nat.le_trans (cutV_length xs i j) g2
    refine .inl ⟨t, xs, rfl, SqT.of g1, fun hw => ?_, fun _ p np => ?_⟩
    · rw [g3.len] at hw
      refine hz H3 Ext.refl _ (mk_tup n g1 g2 ?_)
      rw [cutF_whole hw.1 hw.2]
      exact g3
    · exact hz _ (.new np) _ (mk_tup (E3.rep.fresh np) upd_same hl (RVs.ext (.new np) (g3.cut i j)))
  | lst l =>
    cases e
    obtain ⟨t, xs, rfl, g1, g2, g3⟩ := rvb_lst rx2
    have hl : (cutV xs i j).length ≤ LINE := Nat.le_trans (cutV_length xs i j) g2
    exact .inr ⟨t, xs, rfl, SqL.of g1, fun p np => hz _ (.new np) _ (mk_lst (E3.rep.fresh np) upd_same hl (RVs.ext (.new np) (g3.cut i j)))⟩
  | _ => cases e
end
/-! ### x.remove(k), x's own list of ints -/
def sRem (i : Nat) (a : EF PV) : SF := fun e st => match e[i]? with
  | some (.own l) => (a e st).toS e fun v st => match v, intsOf l with
    | .int k, some ns => if ns.idxOf k < ns.length then .nx (e.set i (.own ((ns.eraseIdx (ns.idxOf k)).map PV.int))) st else .stuck
    | _, _ => .stuck
  | _ => .stuck
/-- x.append(y.pop(k)), x and y own lists -/
def popAt (l : List PV) (k : Int) : Option (PV × List PV) := match ixN l.length k with
  | some j => match l[j]? with
    | some y => some (y, l.eraseIdx j)
    | none => none
  | none => none
section
variable {X : Cx} {W : WX} {e : Expr} {fe : EF PV} {pos apos cpos pos' : Pos} {i : Nat} {x : Str}
theorem ms_rem (h : ME X W e fe) (hN : X.N[i]? = some x) (hv : Vis X.env.scope x) (hd : (x == ("__debug__" : Str)) = false := by decide) (hcd : (x == ("__classdict__" : Str)) = false := by decide)
    (hbase : attributeBase (.Name x pos') "remove" X.env (eval (.Name x pos') X.env) = eval (.Name x pos') X.env := by rfl)
    (hfew : ((backTo cpos (starEach [e] X.env)).all (fun x => !x.1) && (backToKw cpos (keywordEach [] X.env)).all (fun x => x.1.isSome) && decide ([e].length + ([] : List Keyword).length + (if ([] : List Keyword).isEmpty then 0 else 1) < 30)) = true := by rfl)
    (hline : (apos.endLine == cpos.line) = true := by rfl) (hs : starEach [e] X.env = (false, eval e X.env) :: starEach [] X.env := by rfl) (hplain : (backTo cpos (starEach [] X.env)).any (·.1) = false := by rfl)
    (hsw : swapsWith (.Call (.Attribute (.Name x pos') "remove" apos) [e] [] cpos) none pos.line X.env = pure false := by rfl) :
    MS X W (.Expr (.Call (.Attribute (.Name x pos') "remove" apos) [e] [] cpos) pos) (sRem i fe) := by
  obtain ⟨t, p, q⟩ := h
  refine ⟨_, ps_expr (pe_bm PySem.F.plainAttrs_list PySem.F.slot_list_remove PySem.F.type_list_remove mt_remove (pe_var hN hv hd hcd) (pa_cons p pa_nil hs) hbase hfew hline hs hplain) hsw, fun B ρ env st σ H D R h => ?_⟩
  unfold sRem at h
  cases e0 : env[i]? with
  | none => rw [e0] at h; exact h.elim
  | some ev =>
    rw [e0] at h
    cases ev with
    | non => exact h.elim
    | val _ => exact h.elim
    | own l =>
      obtain ⟨z, xs, h1, h2, h3, h4⟩ := R.slot i _ e0
      refine ⟨.ref z, h1, .inl ⟨rfl, xs, SqL.of h2⟩, ?_⟩
      refine q B ρ env st σ H _ R (ROk.mono (SOk.toS h) fun v ρ1 st1 H1 E1 k1 u ru => ?_)
      obtain ⟨z', xs', g1, g2, g3, g4⟩ := E1.rep.slot i _ e0
      rw [h1] at g1
      cases g1
      cases v with
      | int k =>
        cases e1 : intsOf l with
        | none => rw [e1] at k1; exact k1.elim
        | some ns =>
          rw [e1] at k1
          dsimp only at k1
          by_cases hl : ns.idxOf k < ns.length
          · rw [if_pos hl] at k1
            have ru := rv_int ru
            subst ru
            have el := intsOf_eq e1
            rw [el] at g4
            have ex := g4.ints
            subst ex
            have hl2 : ((ns.eraseIdx (ns.idxOf k)).map V.int).length ≤ LINE := by
              rw [List.length_map] at g3 ⊢
              exact Nat.le_trans (List.length_eraseIdx_le _ _) g3
            refine ⟨z, ns, k, ns.idxOf k, rfl, rfl, g2, by rw [List.getElem?_eq_getElem hl, List.getElem_idxOf hl], fun m hm e => ?_, k1 ρ1 σ _ (E1.rep.ownWrite e0 h1 hl2 (RVs.ofInts _))⟩
            have hm2 : m < ns.length := Nat.lt_trans hm hl
            rw [List.getElem?_eq_getElem hm2] at e
            cases e
            have q := List.not_of_lt_findIdx (p := (· == ns[m])) (xs := ns) hm
            simp at q
          · rw [if_neg hl] at k1
            exact k1.elim
      | _ => exact k1.elim
end
end PL
/-! PLn: the rules, with their small conditions filled in. -/
namespace PL
open PySem PySem.Spec L2
def leF : PV → PV → Option PV := cmpF fun i j => decide (i ≤ j)
def gtF : PV → PV → Option PV := cmpF fun i j => decide (j < i)
def geF : PV → PV → Option PV := cmpF fun i j => decide (j ≤ i)
def ALen (g : EF (List PV)) (n : Nat) : Prop := ∀ en st l st', g en st = .ok l st' → l.length = n
theorem alen_nil : ALen aNil 0 := fun en st l st' h => by cases h; rfl
theorem alen_cons {f : EF PV} {g : EF (List PV)} {n : Nat} (h : ALen g n) : ALen (aCons f g) (n + 1) := fun en st l st' e => by
  have e : ((f en st).bind fun x st => (g en st).bind fun xs st => .ok (x :: xs) st) = .ok l st' := e
  cases hf : f en st with
  | stuck => rw [hf] at e; cases e
  | exc _ _ => rw [hf] at e; cases e
  | ok x st1 =>
    rw [hf] at e
    have e : ((g en st1).bind fun xs st => RE.ok (x :: xs) st) = .ok l st' := e
    cases hg : g en st1 with
    | stuck => rw [hg] at e; cases e
    | exc _ _ => rw [hg] at e; cases e
    | ok xs st2 =>
      rw [hg] at e
      cases e
      rw [List.length_cons, h _ _ _ _ hg]
section
variable {X : Cx} {W : WX} {a b c e : Expr} {es : List Expr} {fa fb fc f : EF PV} {g : EF (List PV)} {pos p : Pos}
theorem takes_F : Takes X WF := fun u s' ⟨_, _, _, _, _, _, _, _, _, _, _, _, _, _, _, _, z⟩ => z.elim
theorem gv (i : Nat) {x : Str} (hN : X.N[i]? = some x := by rfl) (hv : Vis X.env.scope x := by first | exact .inl rfl | exact .inr (.inl rfl) | exact .inr (.inr rfl)) (hd : (x == ("__debug__" : Str)) = false := by decide) (hcd : (x == ("__classdict__" : Str)) = false := by decide) : ME X W (.Name x pos) (eVar i) := m_var hN hv hd hcd
theorem go (i : Nat) {x : Str} (hN : X.N[i]? = some x := by rfl) (hv : Vis X.env.scope x := by first | exact .inl rfl | exact .inr (.inl rfl) | exact .inr (.inr rfl)) (hd : (x == ("__debug__" : Str)) = false := by decide) (hcd : (x == ("__classdict__" : Str)) = false := by decide) : MB X W (.Name x pos) (eOwn i) := mb_own hN hv hd hcd
theorem gI {x : Str} {i : Int} (hm : ∃ t, X.mg x = some (.int i t)) (hg : Gl X x := by rfl) (hd : (x == ("__debug__" : Str)) = false := by decide) : ME X W (.Name x pos) (eC (.int i)) := m_globI hg hm hd
theorem gS {x : Str} {i : Str} (hm : ∃ t, X.mg x = some (.str i t)) (hg : Gl X x := by rfl) (hd : (x == ("__debug__" : Str)) = false := by decide) : ME X W (.Name x pos) (eC (.str i)) := m_globS hg hm hd
theorem o_lt {k : Nat} (r : Room k X.A) : OpP X (compareOp .Lt) ltF := p_lt r.units0
theorem o_le : OpP X (compareOp .LtE) leF := p_le
theorem o_gt : OpP X (compareOp .Gt) gtF := p_gt
theorem o_ge : OpP X (compareOp .GtE) geF := p_ge
theorem o_eq {k : Nat} (r : Room k X.A) : OpP X (compareOp .Eq) eqF := p_eq r.units
theorem o_ne {k : Nat} (r : Room k X.A) : OpP X (compareOp .NotEq) neF := p_ne r.units
theorem g_cmp {op : CmpOp} {k : PV → PV → Option PV} (ho : OpP X (compareOp op) k) (ha : MB X W a fa) (hb : MB X W b fb) (h1 : op ≠ .In := by decide) (h2 : op ≠ .NotIn := by decide) : ME X W (.Compare a [op] [b] pos) (eOp k fa fb) := m_cmp ho ha hb (nomark b h1 h2)
theorem g_in {op : CmpOp} {k : PV → PV → Option PV} (ho : OpP X (compareOp op) k) (ha : MB X W a fa) (hb : MB X W b fb) (h1 : behindInMarks op b = false := by with_unfolding_all rfl) : ME X W (.Compare a [op] [b] pos) (eOp k fa fb) := m_cmp ho ha hb h1
theorem gt_cmp {op : CmpOp} {k : PV → PV → Option PV} (ho : OpP X (compareOp op) k) (ha : MB X W a fa) (hb : MB X W b fb) (h1 : op ≠ .In := by decide) (h2 : op ≠ .NotIn := by decide) : MT X W (.Compare a [op] [b] pos) (tV (eOp k fa fb)) := mt_cmp ho ha hb (nomark b h1 h2)
theorem gt_in {op : CmpOp} {k : PV → PV → Option PV} (ho : OpP X (compareOp op) k) (ha : MB X W a fa) (hb : MB X W b fb) (h1 : behindInMarks op b = false := by with_unfolding_all rfl) : MT X W (.Compare a [op] [b] pos) (tV (eOp k fa fb)) := mt_cmp ho ha hb h1
theorem g_ix (ha : MB X W a fa) (hb : ME X W b fb) (hs : PlainIx b := by exact fun _ _ => rfl) : ME X W (.Subscript a b pos) (eIx fa fb) := m_ixs ha hb hs
theorem g_call {k j : Nat} {x : Str} {ps : List Str} {F : Fn} (c : Cal X.prog X.w X.K X.mg X.base k x ps F) (hr : Room j X.A) (hgd : X.A.guards = some []) (tk : Takes X W) (ha : MA X W (e :: es) g) (hlen : ALen g (e :: es).length) (hk : k ≤ j := by decide) (hn : (e :: es).length = ps.length := by rfl) (hg : Gl X x := by rfl)
    (hdb : (x == ("__debug__" : Str)) = false := by decide) (he : starEach (e :: es) X.env = (false, eval e X.env) :: starEach es X.env := by rfl) (hpl : (backTo pos (starEach es X.env)).any (·.1) = false := by rfl) : ME X W (.Call (.Name x p) (e :: es) [] pos) (eCall F g) := m_call (c.mono hk) hr hgd tk hg ha hn hlen hdb he hpl
theorem g_len (hm : X.mg "len" = none) (ha : MAb X W (e :: es) g) (hg : Gl X "len" := by rfl) (he : starEach (e :: es) X.env = (false, eval e X.env) :: starEach es X.env := by rfl) (hpl : (backTo pos (starEach es X.env)).any (·.1) = false := by rfl) : ME X W (.Call (.Name "len" p) (e :: es) [] pos) (eB lenF g) := m_callB c_len hg hm (by decide +kernel) ha (by decide) (by decide) he hpl
theorem g_all (hm : X.mg "all" = none) (ha : MAb X W (e :: es) g) (hc : X.calm = true := by rfl) (hg : Gl X "all" := by rfl) (he : starEach (e :: es) X.env = (false, eval e X.env) :: starEach es X.env := by rfl) (hpl : (backTo pos (starEach es X.env)).any (·.1) = false := by rfl) : ME X W (.Call (.Name "all" p) (e :: es) [] pos) (eB allF g) := m_callB (c_all hc) hg hm (by decide +kernel) ha (by decide) (by decide) he hpl
theorem g_any (hm : X.mg "any" = none) (ha : MAb X W (e :: es) g) (hc : X.calm = true := by rfl) (hg : Gl X "any" := by rfl) (he : starEach (e :: es) X.env = (false, eval e X.env) :: starEach es X.env := by rfl) (hpl : (backTo pos (starEach es X.env)).any (·.1) = false := by rfl) : ME X W (.Call (.Name "any" p) (e :: es) [] pos) (eB anyF g) := m_callB (c_any hc) hg hm (by decide +kernel) ha (by decide) (by decide) he hpl
theorem g_sum (hm : X.mg "sum" = none) (ha : MAb X W (e :: es) g) (hc : X.calm = true := by rfl) (hg : Gl X "sum" := by rfl) (he : starEach (e :: es) X.env = (false, eval e X.env) :: starEach es X.env := by rfl) (hpl : (backTo pos (starEach es X.env)).any (·.1) = false := by rfl) : ME X W (.Call (.Name "sum" p) (e :: es) [] pos) (eB sumF g) := m_callB (c_sum hc) hg hm (by decide +kernel) ha (by decide) (by decide) he hpl
theorem g_min (hm : X.mg "min" = none) (ha : MAb X W (e :: es) g) (hc : X.calm = true := by rfl) (hg : Gl X "min" := by rfl) (he : starEach (e :: es) X.env = (false, eval e X.env) :: starEach es X.env := by rfl) (hpl : (backTo pos (starEach es X.env)).any (·.1) = false := by rfl) : ME X W (.Call (.Name "min" p) (e :: es) [] pos) (eB minF g) := m_callB (c_min hc) hg hm (by decide +kernel) ha (by decide) (by decide) he hpl
theorem g_max (hm : X.mg "max" = none) (ha : MAb X W (e :: es) g) (hc : X.calm = true := by rfl) (hg : Gl X "max" := by rfl) (he : starEach (e :: es) X.env = (false, eval e X.env) :: starEach es X.env := by rfl) (hpl : (backTo pos (starEach es X.env)).any (·.1) = false := by rfl) : ME X W (.Call (.Name "max" p) (e :: es) [] pos) (eB maxF g) := m_callB (c_max hc) hg hm (by decide +kernel) ha (by decide) (by decide) he hpl
theorem g_repr {k : Nat} (r : Room k X.A) (hgd : X.A.guards = some []) (hm : X.mg "repr" = none) (ha : MAb X W (e :: es) g) (hg : Gl X "repr" := by rfl) (he : starEach (e :: es) X.env = (false, eval e X.env) :: starEach es X.env := by rfl) (hpl : (backTo pos (starEach es X.env)).any (·.1) = false := by rfl) : ME X W (.Call (.Name "repr" p) (e :: es) [] pos) (eB reprF g) := m_callB (c_repr hgd r.units) hg hm (by decide +kernel) ha (by decide) (by decide) he hpl
theorem g_tuple (hm : X.mg "tuple" = none) (ha : MAb X W (e :: es) g) (hg : Gl X "tuple" := by rfl) (he : starEach (e :: es) X.env = (false, eval e X.env) :: starEach es X.env := by rfl) (hpl : (backTo pos (starEach es X.env)).any (·.1) = false := by rfl) : ME X W (.Call (.Name "tuple" p) (e :: es) [] pos) (eB tupF g) := m_callTy c_tuple hg hm (by decide +kernel) ha (by decide) (by decide) he hpl
theorem g_list (hm : X.mg "list" = none) (ha : MAb X W (e :: es) g) (hg : Gl X "list" := by rfl) (he : starEach (e :: es) X.env = (false, eval e X.env) :: starEach es X.env := by rfl) (hpl : (backTo pos (starEach es X.env)).any (·.1) = false := by rfl) : ML X W (.Call (.Name "list" p) (e :: es) [] pos) (lB listF g) := ml_callTy c_list hg hm (by decide +kernel) ha (by decide) (by decide) he hpl
theorem g_listR {p2 p3 : Pos} (hm : X.mg "list" = none) (hm2 : X.mg "range" = none) (ha : ME X W a fa) (hc : X.calm = true := by rfl) (hg : Gl X "list" := by rfl) (hg2 : Gl X "range" := by rfl) (na : starEach [a] X.env = (false, eval a X.env) :: starEach [] X.env := by rfl)
    (nb : starEach [.Call (.Name "range" p2) [a] [] p3] X.env = (false, eval (.Call (.Name "range" p2) [a] [] p3) X.env) :: starEach [] X.env := by rfl) : ML X W (.Call (.Name "list" p) [.Call (.Name "range" p2) [a] [] p3] [] pos) (rngL fa) := ml_listRg ha hc hg hm hg2 hm2 na nb
theorem g_isi (T : Ty) {n : Str} {p2 : Pos} (hm : X.mg "isinstance" = none) (hm2 : X.mg n = none) (ha : MB X W a fa) (hg : Gl X "isinstance" := by rfl) (hg2 : Gl X n := by rfl) (hv : bootBuiltins n = some (.type T.name) := by decide +kernel) (hn : n ≠ "__name__" := by decide) (hd : (n == ("__debug__" : Str)) = false := by decide)
    (h1 : starEach [a, .Name n p2] X.env = (false, eval a X.env) :: starEach [.Name n p2] X.env := by rfl) (h2 : starEach [.Name n p2] X.env = (false, eval (.Name n p2) X.env) :: starEach [] X.env := by rfl)
    (hpl : (backTo pos (starEach [.Name n p2] X.env)).any (·.1) = false := by rfl) : ME X W (.Call (.Name "isinstance" p) [a, .Name n p2] [] pos) (eUn (isiF T) fa) := m_isi ha hg hm hg2 hm2 hv hn hd h1 h2 hpl
end
/-! ### statements -/
section
variable {X : Cx} {W : WX} {s : Stmt} {rest body : List Stmt} {a b e tg iter c : Expr} {f g : SF} {fe : EF PV} {fl it : EF (List PV)} {fc : EF Bool} {bf : BF} {vs : List Nat} {pos pos' : Pos}
theorem g_set (i : Nat) {x : Str} (hN : X.N.Nodup) (h : ME X W e fe) (hi : X.N[i]? = some x := by rfl) (hx : Loc X.env.scope x := by first | exact .inl rfl | exact .inr rfl) (hs : swapsWith e (some (.Name x pos')) pos.line X.env = pure false := by rfl) (hf : X.fn x = true ∨ X.env.scope.names.lookup x = some .local := by first | exact .inr rfl | exact .inl rfl) :
    MS X W (.Assign [.Name x pos'] e pos) (sAsg (bName i) fe) := ms_set h hN hi hx hs hf
theorem g_setO (i : Nat) {x : Str} (hN : X.N.Nodup) (h : ML X W e fl) (hi : X.N[i]? = some x := by rfl) (hx : Loc X.env.scope x := by first | exact .inl rfl | exact .inr rfl) (hs : swapsWith e (some (.Name x pos')) pos.line X.env = pure false := by rfl) (hf : X.fn x = true ∨ X.env.scope.names.lookup x = some .local := by first | exact .inr rfl | exact .inl rfl) :
    MS X W (.Assign [.Name x pos'] e pos) (sAsgO i fl) := ms_setO h hN hi hx hs hf
theorem g_nm (i : Nat) {x : Str} (hN : X.N.Nodup) (hi : X.N[i]? = some x := by rfl) (hx : Loc X.env.scope x := by first | exact .inl rfl | exact .inr rfl) (hf : X.fn x = true ∨ X.env.scope.names.lookup x = some .local := by first | exact .inr rfl | exact .inl rfl) : MG X (.Name x pos) (bName i) [i] := mg_name hN hi hx hf
theorem g_asg (h : ME X W e fe) (hg : MG X tg bf vs) (hs : swapsWithSole [tg] e pos.line X.env = pure false := by rfl) (hw : swappedStores [tg] e X.env = pure none := by rfl)
    (h1 : (assignEach [tg] X.env).map (·.2) = [assign tg X.env] := by rfl) : MS X W (.Assign [tg] e pos) (sAsg bf fe) := ms_asg h hg hs hw h1
theorem g_app (i : Nat) {x : Str} {apos cpos : Pos} (h : ME X W e fe) (hN : X.N[i]? = some x := by rfl) (hv : Vis X.env.scope x := by first | exact .inl rfl | exact .inr (.inl rfl) | exact .inr (.inr rfl)) (hd : (x == ("__debug__" : Str)) = false := by decide) (hcd : (x == ("__classdict__" : Str)) = false := by decide)
    (hbase : attributeBase (.Name x pos') "append" X.env (eval (.Name x pos') X.env) = eval (.Name x pos') X.env := by rfl)
    (hfew : ((backTo cpos (starEach [e] X.env)).all (fun x => !x.1) && (backToKw cpos (keywordEach [] X.env)).all (fun x => x.1.isSome) && decide ([e].length + ([] : List Keyword).length + (if ([] : List Keyword).isEmpty then 0 else 1) < 30)) = true := by rfl)
    (hline : (apos.endLine == cpos.line) = true := by rfl) (hs : starEach [e] X.env = (false, eval e X.env) :: starEach [] X.env := by rfl) (hplain : (backTo cpos (starEach [] X.env)).any (·.1) = false := by rfl)
    (hsw : swapsWith (.Call (.Attribute (.Name x pos') "append" apos) [e] [] cpos) none pos.line X.env = pure false := by rfl) :
    MS X W (.Expr (.Call (.Attribute (.Name x pos') "append" apos) [e] [] cpos) pos) (sApp i fe) := ms_app h hN hv hd hcd hbase hfew hline hs hplain hsw
theorem g_ext (i : Nat) {x : Str} {apos cpos : Pos} (h : ML X W e fl) (hN : X.N[i]? = some x := by rfl) (hv : Vis X.env.scope x := by first | exact .inl rfl | exact .inr (.inl rfl) | exact .inr (.inr rfl)) (hd : (x == ("__debug__" : Str)) = false := by decide) (hcd : (x == ("__classdict__" : Str)) = false := by decide)
    (hbase : attributeBase (.Name x pos') "extend" X.env (eval (.Name x pos') X.env) = eval (.Name x pos') X.env := by rfl)
    (hfew : ((backTo cpos (starEach [e] X.env)).all (fun x => !x.1) && (backToKw cpos (keywordEach [] X.env)).all (fun x => x.1.isSome) && decide ([e].length + ([] : List Keyword).length + (if ([] : List Keyword).isEmpty then 0 else 1) < 30)) = true := by rfl)
    (hline : (apos.endLine == cpos.line) = true := by rfl) (hs : starEach [e] X.env = (false, eval e X.env) :: starEach [] X.env := by rfl) (hplain : (backTo cpos (starEach [] X.env)).any (·.1) = false := by rfl)
    (hsw : swapsWith (.Call (.Attribute (.Name x pos') "extend" apos) [e] [] cpos) none pos.line X.env = pure false := by rfl) :
    MS X W (.Expr (.Call (.Attribute (.Name x pos') "extend" apos) [e] [] cpos) pos) (sExt i fl) := ms_ext h hN hv hd hcd hbase hfew hline hs hplain hsw
theorem g_rem (i : Nat) {x : Str} {apos cpos : Pos} (h : ME X W e fe) (hN : X.N[i]? = some x := by rfl) (hv : Vis X.env.scope x := by first | exact .inl rfl | exact .inr (.inl rfl) | exact .inr (.inr rfl)) (hd : (x == ("__debug__" : Str)) = false := by decide) (hcd : (x == ("__classdict__" : Str)) = false := by decide)
    (hbase : attributeBase (.Name x pos') "remove" X.env (eval (.Name x pos') X.env) = eval (.Name x pos') X.env := by rfl)
    (hfew : ((backTo cpos (starEach [e] X.env)).all (fun x => !x.1) && (backToKw cpos (keywordEach [] X.env)).all (fun x => x.1.isSome) && decide ([e].length + ([] : List Keyword).length + (if ([] : List Keyword).isEmpty then 0 else 1) < 30)) = true := by rfl)
    (hline : (apos.endLine == cpos.line) = true := by rfl) (hs : starEach [e] X.env = (false, eval e X.env) :: starEach [] X.env := by rfl) (hplain : (backTo cpos (starEach [] X.env)).any (·.1) = false := by rfl)
    (hsw : swapsWith (.Call (.Attribute (.Name x pos') "remove" apos) [e] [] cpos) none pos.line X.env = pure false := by rfl) :
    MS X W (.Expr (.Call (.Attribute (.Name x pos') "remove" apos) [e] [] cpos) pos) (sRem i fe) := ms_rem h hN hv hd hcd hbase hfew hline hs hplain hsw
end
end PL
/-! PLp: how functions are reckoned out. -/
namespace PL
open PySem PySem.Spec L2
section
variable {α β : Type} {e : Env} {st : Sto}
@[simp] theorem bind_ok (a : α) (st : Sto) (f : α → Sto → RE β) : (RE.ok a st).bind f = f a st := rfl
@[simp] theorem bind_stuck (f : α → Sto → RE β) : (RE.stuck : RE α).bind f = .stuck := rfl
@[simp] theorem toS_ok (a : α) (st : Sto) (e : Env) (f : α → Sto → RS) : (RE.ok a st).toS e f = f a st := rfl
@[simp] theorem thn_nx (e : Env) (st : Sto) (f : Env → Sto → RS) : (RS.nx e st).thn f = f e st := rfl
@[simp] theorem thn_rt (v : PV) (st : Sto) (f : Env → Sto → RS) : (RS.rt v st).thn f = .rt v st := rfl
@[simp] theorem thn_bk (e : Env) (st : Sto) (f : Env → Sto → RS) : (RS.bk e st).thn f = .bk e st := rfl
@[simp] theorem thn_ct (e : Env) (st : Sto) (f : Env → Sto → RS) : (RS.ct e st).thn f = .ct e st := rfl
@[simp] theorem of_some (a : α) (st : Sto) : RE.of (some a) st = .ok a st := rfl
@[simp] theorem noE_okk (a : α) (st : Sto) : (RE.ok a st).noE = .ok a st := rfl
@[simp] theorem eC_e (v : PV) : eC v e st = .ok v st := rfl
@[simp] theorem eVar_e (i : Nat) : eVar i e st = (match e[i]? with | some (.val v) => RE.ok v st | _ => .stuck) := rfl
@[simp] theorem eOwn_e (i : Nat) : eOwn i e st = (match e[i]? with | some (.own l) => RE.ok (.lst l) st | _ => .stuck) := rfl
@[simp] theorem eOp_e (op : PV → PV → Option PV) (a b : EF PV) : eOp op a b e st = (a e st).bind fun x st => (b e st).bind fun y st => .of (op x y) st := rfl
@[simp] theorem eUn_e (op : PV → Option PV) (a : EF PV) : eUn op a e st = (a e st).bind fun x st => .of (op x) st := rfl
@[simp] theorem aNil_e : aNil e st = .ok [] st := rfl
@[simp] theorem aCons_e (a : EF PV) (r : EF (List PV)) : aCons a r e st = (a e st).bind fun x st => (r e st).bind fun xs st => .ok (x :: xs) st := rfl
@[simp] theorem eTup_e (a : EF (List PV)) : eTup a e st = (a e st).bind fun xs st => if xs.length ≤ LINE then .ok (.tup xs) st else .stuck := rfl
@[simp] theorem eLst_e (a : EF (List PV)) : eLst a e st = (a e st).bind fun xs st => .ok (.lst xs) st := rfl
@[simp] theorem lDisp_e (a : EF (List PV)) : lDisp a e st = (a e st).bind fun xs st => if xs.length ≤ LINE then .ok xs st else .stuck := rfl
@[simp] theorem eB_e (g : List PV → Option PV) (a : EF (List PV)) : eB g a e st = (a e st).bind fun xs st => .of (g xs) st := rfl
@[simp] theorem lB_e (g : List PV → Option (List PV)) (a : EF (List PV)) : lB g a e st = (a e st).bind fun xs st => .of (g xs) st := rfl
@[simp] theorem eCall_e (F : Fn) (a : EF (List PV)) : eCall F a e st = (a e st).bind fun xs st => F xs st := rfl
@[simp] theorem eIf_e (c : EF Bool) (a b : EF PV) : eIf c a b e st = (c e st).bind fun k st => if k = true then a e st else b e st := rfl
@[simp] theorem eAnd_e (a b : EF PV) : eAnd a b e st = (a e st).bind fun x st => match x with | .bl true => b e st | .bl false => .ok (.bl false) st | _ => .stuck := rfl
@[simp] theorem eOr_e (a b : EF PV) : eOr a b e st = (a e st).bind fun x st => match x with | .bl true => .ok (.bl true) st | .bl false => b e st | _ => .stuck := rfl
@[simp] theorem eNot_e (a : EF PV) : eNot a e st = (a e st).bind fun x st => match x with | .bl k => .ok (.bl (!k)) st | _ => .stuck := rfl
@[simp] theorem eChain_e (op op' : PV → PV → Option PV) (a b c : EF PV) : eChain op op' a b c e st = (a e st).bind fun x st => (b e st).bind fun y st => match op x y with | some (.bl true) => (c e st).bind fun z st => .of (op' y z) st | some (.bl false) => .ok (.bl false) st | _ => .stuck := rfl
@[simp] theorem tV_e (a : EF PV) : tV a e st = (a e st).bind fun x st => match x with | .bl k => .ok k st | _ => .stuck := rfl
@[simp] theorem tAndF_e (a b : EF Bool) : tAndF a b e st = (a e st).bind fun k st => if k = true then b e st else .ok false st := rfl
@[simp] theorem tOrF_e (a b : EF Bool) : tOrF a b e st = (a e st).bind fun k st => if k = true then .ok true st else b e st := rfl
@[simp] theorem tNotF_e (a : EF Bool) : tNotF a e st = (a e st).bind fun k st => .ok (!k) st := rfl
@[simp] theorem tYesF_e : tYesF e st = .ok true st := rfl
@[simp] theorem bName_e (i : Nat) (v : PV) : bName i v e = if i < e.length then some (e.set i (.val v)) else none := rfl
@[simp] theorem bTup_e (bs : List BF) (l : List PV) : bTup bs (.tup l) e = bSeq bs l e := rfl
@[simp] theorem bSeq_nil : bSeq [] [] e = some e := rfl
@[simp] theorem bSeq_cons (b : BF) (bs : List BF) (v : PV) (vs : List PV) : bSeq (b :: bs) (v :: vs) e = (match b v e with | some e1 => bSeq bs vs e1 | none => none) := rfl
@[simp] theorem sNil_e : sNil e st = .nx e st := rfl
@[simp] theorem sSeq_e (a b : SF) : sSeq a b e st = (a e st).thn b := rfl
@[simp] theorem sAsg_e (b : BF) (a : EF PV) : sAsg b a e st = (a e st).toS e fun v st => match b v e with | some e1 => .nx e1 st | none => .stuck := rfl
@[simp] theorem sAsgO_e (i : Nat) (a : EF (List PV)) : sAsgO i a e st = (a e st).toS e fun l st => if i < e.length then .nx (e.set i (.own l)) st else .stuck := rfl
@[simp] theorem sDrop_e (a : EF PV) : sDrop a e st = (a e st).toS e fun _ st => .nx e st := rfl
@[simp] theorem sRet_e (a : EF PV) : sRet a e st = (a e st).toS e fun v st => .rt v st := rfl
@[simp] theorem sRetN_e : sRetN e st = .rt .non st := rfl
@[simp] theorem sRetG_e (a : EF (List PV)) : sRetG a e st = (a e st).toS e fun l st => .rt (.gl st.length) (st ++ [.lst l]) := rfl
@[simp] theorem sRetO_e (i : Nat) : sRetO i e st = (match e[i]? with | some (.own l) => RS.rt (.lst l) st | _ => .stuck) := rfl
@[simp] theorem sIf_e (c : EF Bool) (a b : SF) : sIf c a b e st = (c e st).toS e fun k st => if k = true then a e st else b e st := rfl
@[simp] theorem sFrz_e (i : Nat) : sFrz i e st = (match e[i]? with | some (.own l) => RS.nx (e.set i (.val (.lst l))) st | _ => .nx e st) := rfl
@[simp] theorem sApp_e (i : Nat) (a : EF PV) : sApp i a e st = (match e[i]? with | some (.own l) => (a e st).toS e fun v st => if l.length < LINE then .nx (e.set i (.own (l ++ [v]))) st else .stuck | _ => .stuck) := rfl
@[simp] theorem sExt_e (i : Nat) (a : EF (List PV)) : sExt i a e st = (match e[i]? with | some (.own l) => (a e st).toS e fun m st => if l.length + m.length ≤ LINE then .nx (e.set i (.own (l ++ m))) st else .stuck | _ => .stuck) := rfl
@[simp] theorem sRem_e (i : Nat) (a : EF PV) : sRem i a e st = (match e[i]? with | some (.own l) => (a e st).toS e fun v st => (match v, intsOf l with | .int k, some ns => if ns.idxOf k < ns.length then .nx (e.set i (.own ((ns.eraseIdx (ns.idxOf k)).map PV.int))) st else .stuck | _, _ => .stuck) | _ => .stuck) := rfl
@[simp] theorem sFor_e (it : EF (List PV)) (b : BF) (t : SF) : sFor it b t e st = (it e st).toS e fun xs st => forLoop b t xs e st := rfl
@[simp] theorem sWhile_e (n : Nat) (c : EF Bool) (t : SF) : sWhile n c t e st = whileLoop c t n e st := rfl
@[simp] theorem lLc_e (it : EF (List PV)) (b : BF) (vs : List Nat) (c : EF Bool) (t : EF PV) : lLc it b vs c t e st = (it e st).bind fun xs st => lcLoop b c t (wipeE e vs) xs st := rfl
@[simp] theorem wipeE_nil : wipeE e [] = e := rfl
@[simp] theorem wipeE_cons (v : Nat) (vs : List Nat) : wipeE e (v :: vs) = (wipeE e vs).set v .non := rfl
@[simp] theorem sPar_e (is : List Nat) (f : EF (List EV)) : sPar is f e st = (f e st).toS e fun xs st => match setEs is xs e with | some e1 => .nx e1 st | none => .stuck := rfl
@[simp] theorem nNil_e : nNil e st = .ok [] st := rfl
@[simp] theorem nCons_e (f : EF EV) (r : EF (List EV)) : nCons f r e st = (f e st).bind fun x st => (r e st).bind fun xs st => .ok (x :: xs) st := rfl
@[simp] theorem eVal_e (f : EF PV) : eVal f e st = (f e st).bind fun v st => .ok (.val v) st := rfl
@[simp] theorem eNew_e (f : EF (List PV)) : eNew f e st = (f e st).bind fun v st => .ok (.own v) st := rfl
@[simp] theorem setEs_nil : setEs [] [] e = some e := rfl
@[simp] theorem setEs_cons (i : Nat) (is : List Nat) (x : EV) (xs : List EV) : setEs (i :: is) (x :: xs) e = if i < e.length then setEs is xs (e.set i x) else none := rfl
@[simp] theorem sSetG_e (a k v : EF PV) : sSetG a k v e st = (v e st).toS e fun v st => (a e st).toS e fun a st => (k e st).toS e fun k st => match a, k with
  | .gl n, .int i => match st[n]? with
    | some (.lst l) => match ixN l.length i with
      | some j => .nx e (st.set n (.lst (l.set j v)))
      | none => .stuck
    | _ => .stuck
  | _, _ => .stuck := rfl
@[simp] theorem eIx_e (a k : EF PV) : eIx a k e st = (a e st).bind fun a st => (k e st).bind fun k st => match k with | .int i => .of (ixF st a i) st | _ => .stuck := rfl
@[simp] theorem eSl_e (f : EF PV) (lo hi : EF (Option Int)) : eSl f lo hi e st = (f e st).bind fun v st => (lo e st).bind fun i st => (hi e st).bind fun j st => .of (slF v i j) st := rfl
@[simp] theorem oNone_e : oNone e st = .ok none st := rfl
@[simp] theorem oSome_e (f : EF PV) : oSome f e st = (f e st).bind fun v st => match v with | .int i => .ok (some i) st | _ => .stuck := rfl
@[simp] theorem iSeq_e (f : EF PV) : iSeq f e st = (f e st).bind fun v st => match v with | .tup l => .ok l st | .lst l => .ok l st | _ => .stuck := rfl
@[simp] theorem iRng1_e (g : EF (List PV)) : iRng1 g e st = (g e st).bind fun vs st => match int1 vs with | some j => if -LINE ≤ j ∧ j ≤ LINE then .ok (rangeF 0 j.toNat) st else .stuck | none => .stuck := rfl
@[simp] theorem int1_e (j : Int) : int1 [.int j] = some j := rfl
@[simp] theorem rngL_e (f : EF PV) : rngL f e st = (f e st).bind fun v st => match v with | .int n => if -LINE ≤ n ∧ n ≤ LINE then .ok (rangeF 0 n.toNat) st else .stuck | _ => .stuck := rfl
@[simp] theorem iEnum1_e (g : EF (List PV)) : iEnum1 g e st = (g e st).bind fun vs st => match vs with | [.tup l] => .ok (enumF 0 l) st | [.lst l] => .ok (enumF 0 l) st | _ => .stuck := rfl
@[simp] theorem iZip2_e (g : EF (List PV)) : iZip2 g e st = (g e st).bind fun vs st => match vs with | [.tup l, .tup m] => .ok (zipF l m) st | [.lst l, .lst m] => .ok (zipF l m) st | _ => .stuck := rfl
@[simp] theorem lenF_tup (l : List PV) : lenF [.tup l] = some (.int l.length) := rfl
@[simp] theorem lenF_lst (l : List PV) : lenF [.lst l] = some (.int l.length) := rfl
@[simp] theorem ixF_tup (st : Sto) (l : List PV) (i : Int) : ixF st (.tup l) i = atI l i := rfl
@[simp] theorem ixF_lst (st : Sto) (l : List PV) (i : Int) : ixF st (.lst l) i = atI l i := rfl
@[simp] theorem ixF_gl (st : Sto) (n : Nat) (i : Int) : ixF st (.gl n) i = (match st[n]? with | some (.lst l) => atI l i | _ => none) := rfl
@[simp] theorem addF_int (i j : Int) : addF (.int i) (.int j) = some (.int (i + j)) := rfl
@[simp] theorem subF_int (i j : Int) : subF (.int i) (.int j) = some (.int (i - j)) := rfl
@[simp] theorem ltF_int (i j : Int) : ltF (.int i) (.int j) = some (.bl (decide (i < j))) := rfl
@[simp] theorem leF_int (i j : Int) : leF (.int i) (.int j) = some (.bl (decide (i ≤ j))) := rfl
@[simp] theorem gtF_int (i j : Int) : gtF (.int i) (.int j) = some (.bl (decide (j < i))) := rfl
@[simp] theorem geF_int (i j : Int) : geF (.int i) (.int j) = some (.bl (decide (j ≤ i))) := rfl
theorem eqv_int (i j : Int) : PyData.eqv (.int i) (.int j) = decide (i = j) := by
  first
    | rfl
    | simp [PyData.eqv]
@[simp] theorem eqF_int (i j : Int) : eqF (.int i) (.int j) = some (.bl (decide (i = j))) := by
  show (if SeqAt.shaped (.int i) = true ∧ SeqAt.shaped (.int j) = true then some (PV.bl (PyData.eqv (.int i) (.int j))) else none) = _
  rw [if_pos ⟨rfl, rfl⟩, eqv_int]
theorem mulF_r {i j : Int} (h1 : -(2 ^ 64) < j) (h2 : j < 2 ^ 64) : mulF (.int i) (.int j) = some (.int (i * j)) := by
  unfold mulF mulB
  dsimp only
  rw [if_pos (decide_eq_true (.inr ⟨h1, h2⟩))]
theorem mulF_l {i j : Int} (h1 : -(2 ^ 64) < i) (h2 : i < 2 ^ 64) : mulF (.int i) (.int j) = some (.int (i * j)) := by
  unfold mulF mulB
  dsimp only
  rw [if_pos (decide_eq_true (.inl ⟨h1, h2⟩))]
theorem modF_ok {i j : Int} (h : 0 < j) : modF (.int i) (.int j) = some (.int (i % j)) := by
  unfold modF
  dsimp only
  rw [if_pos h]
theorem divF_ok {i j : Int} (h : 0 < j) (h2 : j < 1073741824) : divF (.int i) (.int j) = some (.int (i / j)) := by
  unfold divF
  dsimp only
  rw [if_pos ⟨h, h2⟩]
theorem atI_nat {α : Type} {l : List α} {i : Nat} (h : i < l.length) : atI l (i : Int) = some l[i] := by
  unfold atI ixN
  simp [h]
theorem rangeF_len (lo : Int) (n : Nat) : (rangeF lo n).length = n := by unfold rangeF; rw [List.length_map, List.length_range]
end
theorem iRng1_ok {g : EF (List PV)} {e : Env} {st st' : Sto} {j : Int} (h : g e st = .ok [.int j] st') (h1 : -(LINE : Int) ≤ j) (h2 : j ≤ LINE) : iRng1 g e st = .ok (rangeF 0 j.toNat) st' := by
  rw [iRng1_e, h, bind_ok, int1_e]
  dsimp only
  rw [if_pos ⟨h1, h2⟩]
/-! ### repr of small values -/
mutual
def smB : PV → Bool
  | .non => true
  | .bl _ => true
  | .int i => decide (-999999999999 ≤ i ∧ i ≤ 999999999999)
  | .tup l => smBs l
  | .lst l => smBs l
  | .str _ => false
  | .scr _ => false
  | .gl _ => false
def smBs : List PV → Bool
  | [] => true
  | p :: ps => smB p && smBs ps
end
mutual
def wtN : PV → Nat
  | .int _ => 40
  | .tup l => wtNs l
  | .lst l => wtNs l
  | _ => 0
def wtNs : List PV → Nat
  | [] => 0
  | p :: ps => wtN p + 1 + wtNs ps
end
mutual
def dpN : PV → Nat
  | .tup l => dpNs l + 1
  | .lst l => dpNs l + 1
  | _ => 0
def dpNs : List PV → Nat
  | [] => 0
  | p :: ps => max (dpN p) (dpNs ps)
end
theorem log_le {i : Int} (h : -999999999999 ≤ i ∧ i ≤ 999999999999) (h0 : i ≠ 0) : i.natAbs.log2 + 1 ≤ 40 := by
  have : i.natAbs < 2 ^ 40 := by omega
  have := (Nat.log2_lt (by omega)).mpr this
  omega
mutual
theorem sm_data : ∀ (p : PV), smB p = true → ∃ d, toD p = some d ∧ d.canLay0 = true ∧ d.intsShort 13 = true ∧ d.showable = true ∧ d.hasDict = false ∧ d.depth = dpN p ∧ d.weight ≤ wtN p
  | .non, _ => ⟨.none, by unfold toD; rfl, rfl, rfl, rfl, rfl, rfl, Nat.le_refl _⟩
  | .bl b, _ => ⟨.bool b, by unfold toD; rfl, rfl, rfl, rfl, rfl, rfl, Nat.le_refl _⟩
  | .int i, h => by
    have h : decide (-999999999999 ≤ i ∧ i ≤ 999999999999) = true := by unfold smB at h; exact h
    have h := of_decide_eq_true h
    refine ⟨.int i, by unfold toD; rfl, rfl, ?_, ?_, rfl, rfl, ?_⟩
    · exact decide_eq_true (PySem.PyData.shown_int_le2 h.1 h.2)
    · refine decide_eq_true ?_
      by_cases h0 : i = 0
      · subst h0
        decide
      · have := log_le h h0
        omega
    · show (if i == 0 then 0 else i.natAbs.log2 + 1) ≤ 40
      by_cases h0 : i = 0
      · subst h0
        decide
      · have := log_le h h0
        rw [if_neg (by simpa using h0)]
        omega
  | .tup l, h => by
    have h : smBs l = true := by unfold smB at h; exact h
    obtain ⟨ds, e, h1, h2, h3, h4, h5, h6⟩ := sm_datas l h
    exact ⟨.tuple ds, by unfold toD; rw [e]; rfl, h1, h2, h3, h4, by unfold dpN; rw [← h5]; rfl, by unfold wtN; exact h6⟩
  | .lst l, h => by
    have h : smBs l = true := by unfold smB at h; exact h
    obtain ⟨ds, e, h1, h2, h3, h4, h5, h6⟩ := sm_datas l h
    exact ⟨.list ds, by unfold toD; rw [e]; rfl, h1, h2, h3, h4, by unfold dpN; rw [← h5]; rfl, by unfold wtN; exact h6⟩
  | .str _, h => by unfold smB at h; cases h
  | .scr _, h => by unfold smB at h; cases h
  | .gl _, h => by unfold smB at h; cases h
theorem sm_datas : ∀ (l : List PV), smBs l = true → ∃ ds, toDs l = some ds ∧ PyData.canLayAll0 ds = true ∧ PyData.intsShortAll 13 ds = true ∧ PyData.showableAll ds = true ∧ PyData.hasDictAll ds = false ∧ PyData.depthAll ds = dpNs l ∧ PyData.weightAll ds ≤ wtNs l
  | [], _ => ⟨[], by unfold toDs; rfl, rfl, rfl, rfl, rfl, rfl, Nat.le_refl _⟩
  | p :: ps, h => by
    have h : (smB p && smBs ps) = true := by unfold smBs at h; exact h
    rw [Bool.and_eq_true] at h
    obtain ⟨d, e, h1, h2, h3, h4, h5, h6⟩ := sm_data p h.1
    obtain ⟨ds, e', k1, k2, k3, k4, k5, k6⟩ := sm_datas ps h.2
    refine ⟨d :: ds, by unfold toDs; rw [e, e'], ?_, ?_, ?_, ?_, ?_, ?_⟩
    · show (d.canLay0 && PyData.canLayAll0 ds) = true
      rw [h1, k1]; rfl
    · show (d.intsShort 13 && PyData.intsShortAll 13 ds) = true
      rw [h2, k2]; rfl
    · show (d.showable && PyData.showableAll ds) = true
      rw [h3, k3]; rfl
    · show (d.hasDict || PyData.hasDictAll ds) = false
      rw [h4, k4]; rfl
    · show max d.depth (PyData.depthAll ds) = dpNs (p :: ps)
      unfold dpNs
      rw [h5, k5]
    · show d.weight + 1 + PyData.weightAll ds ≤ wtNs (p :: ps)
      unfold wtNs
      omega
end
theorem repr_sm {p : PV} (h1 : smB p = true) (h2 : dpN p ≤ 30) (h3 : wtN p ≤ 1048576) : ∃ x, reprF [p] = some (.str x) := by
  obtain ⟨d, e, k1, k2, k3, k4, k5, k6⟩ := sm_data p h1
  have hs := PyProof.Rows.shown_le13 (d := d) (by
    show (PyData.canLay0 d && decide (PyData.depth d ≤ 64) && decide (PyData.weight d ≤ 2 ^ 20)) = true
    simp only [Bool.and_eq_true, decide_eq_true_eq]
    exact ⟨⟨k1, by omega⟩, by omega⟩) k2
  refine ⟨d.shown, ?_⟩
  unfold reprF
  dsimp only
  rw [e]
  dsimp only
  rw [if_pos ⟨k3, k4, by show _ ≤ 16777216; omega, by omega⟩]
theorem for_inv {b : BF} {t : SF} (I : List PV → Env → Sto → Prop) (step : ∀ x xs e st, I (x :: xs) e st → ∃ e1 e2 st2, b x e = some e1 ∧ t e1 st = .nx e2 st2 ∧ I xs e2 st2) :
    ∀ (xs : List PV) (e : Env) (st : Sto), I xs e st → ∃ e' st', forLoop b t xs e st = .nx e' st' ∧ I [] e' st'
  | [], e, st, h => ⟨e, st, rfl, h⟩
  | x :: xs, e, st, h => by
    obtain ⟨e1, e2, st2, h1, h2, h3⟩ := step x xs e st h
    obtain ⟨e', st', h4, h5⟩ := for_inv I step xs e2 st2 h3
    refine ⟨e', st', ?_, h5⟩
    unfold forLoop
    rw [h1]
    dsimp only
    rw [h2]
    exact h4
/-- a comprehension whose block changes nothing of the store -/
theorem lc_map {b : BF} {c : EF Bool} {t : EF PV} {e : Env} {st : Sto} {α : Type} (v : α → PV) (p : α → Bool) (g : α → PV) :
    ∀ (l : List α), (∀ x ∈ l, ∃ e1, b (v x) e = some e1 ∧ c e1 st = .ok (p x) st ∧ (p x = true → t e1 st = .ok (g x) st)) → lcLoop b c t e (l.map v) st = .ok ((l.filter p).map g) st
  | [], _ => rfl
  | x :: l, h => by
    obtain ⟨e1, h1, h2, h3⟩ := h x (List.mem_cons_self ..)
    have ih := lc_map v p g l fun y hy => h y (List.mem_cons_of_mem _ hy)
    rw [List.map_cons]
    unfold lcLoop
    rw [h1]
    dsimp only
    rw [h2]
    cases hp : p x with
    | false =>
      rw [List.filter_cons_of_neg (by rw [hp]; exact Bool.false_ne_true)]
      simpa using ih
    | true =>
      rw [List.filter_cons_of_pos hp, List.map_cons]
      simp only [noE_okk, bind_ok, if_true, h3 hp, ih]
end PL
/-! PLq: enumerate over a zip of two tuples: the zip's pairs are held by the enumerate's, so they are made anew. -/
namespace PL
open PySem PySem.Spec L2
/-- a zip's object, whatever it knows of its pair -/
abbrev ZipObj (h : Heap) (z TI TO : Addr) (own : Value) (k : Bool) : Prop :=
  h.get? z = some { cls := .type "zip", dict := none, data := .fields #[own, .bool k, .bool false, .ref TI, .ref TO], slots := #[] }
def OwnOk (v : Value) : Prop := v = .none ∨ ∃ T : Nat, v = rawInt T
section
variable {prog : Program} {w : World} {A : Around} {E : Value → Shared → Prop} {s : Shared}
theorem alive_any {a : Addr} {Q : Option Obj → Shared → Prop} (h : Q (s.heap.get? a) s) : wpAny (model prog w) A (loadIfAlive a) Q E s := fun _ _ _ => h
theorem zip_free {z TI TO : Addr} {own : Value} {k : Bool} {Q : Bool → Shared → Prop} (hz : ZipObj s.heap z TI TO own k) (ho : OwnOk own) (yes : Q true s)
    (no : ∀ g, ZipObj g z TI TO own true → Heap.SameBut z s.heap g → Q false { s with heap := g }) : wpAny (model prog w) A (Builtin.SmallTypes.ownedTupleIsFree (.ref z)) Q E s := by
  unfold Builtin.SmallTypes.ownedTupleIsFree
  rcases ho with e | ⟨T, e⟩
  · subst e
    exact wpAny_bind (wpAny_field hz rfl (x := Value.none) rfl (wpAny_pure yes))
  · subst e
    refine wpAny_bind (wpAny_field hz rfl (x := rawInt T) rfl ?_)
    refine (show wpAny (model prog w) A (loadIfAlive ((T : Int).toNat) >>= _) Q E s from ?_)
    rw [Int.toNat_natCast]
    refine wpAny_bind (alive_any ?_)
    cases s.heap.get? T with
    | none => exact wpAny_pure yes
    | some o =>
      refine wpAny_bind (wpAny_field hz rfl (x := Value.bool k) rfl ?_)
      cases k with
      | true => exact wpAny_pure (no s.heap hz (.refl _ _))
      | false => exact wpAny_bind (wpAny_setField_rec hz (by simp) fun g y c => wpAny_pure (no g y c))
variable {z TI TO i1 i2 l1 l2 : Addr} {k1 k2 : Nat} {xs ys : Array Value} {x y a b own : Value} {k : Bool}
theorem zip_any_item {Q : Value → Shared → Prop} (D : ZipApart z TI TO i1 i2 l1 l2) (hz : ZipObj s.heap z TI TO own k) (ho : OwnOk own) (pI : IsPair s.heap TI (.ref i1) (.ref i2)) (pO : IsPair s.heap TO a b)
    (t1 : s.heap.IsTupleIter i1 l1 k1) (t2 : s.heap.IsTupleIter i2 l2 k2) (q1 : s.heap.IsTuple l1 xs) (q2 : s.heap.IsTuple l2 ys) (hx : xs[k1]? = some x) (hy : ys[k2]? = some y)
    (hQ : ∀ g own' k', OwnOk own' → ZipObj g z TI TO own' k' → (∃ a b, IsPair g TO a b) → g.IsTupleIter i1 l1 (k1 + 1) → g.IsTupleIter i2 l2 (k2 + 1) → IsPair g s.heap.objs.size x y → g.objs.size = s.heap.objs.size + 1 →
      (∀ c o, c ≠ z → c ≠ TO → c ≠ i1 → c ≠ i2 → s.heap.get? c = some o → g.get? c = some o) → Q (.ref s.heap.objs.size) { s with heap := g }) :
    wpAny (model prog w) A (Builtin.«zip.__next__» ⟨[.ref z], []⟩) (fun fin s' => ∃ v, fin = .done (.ret v) ∧ Q v s') E s := by
  refine (show wpAny (model prog w) A (field (.ref z) 2 >>= _) _ E s from wpAny_bind (wpAny_field hz rfl (x := Value.bool false) rfl ?_))
  refine (show wpAny (model prog w) A (field (.ref z) 3 >>= _) _ E s from wpAny_bind (wpAny_field hz rfl (x := Value.ref TI) rfl ?_))
  refine wpAny_bind (wpAny_seqItems pI rfl ?_)
  refine (show wpAny (model prog w) A (Builtin.SmallTypes.ownedTupleIsFree (.ref z) >>= _) _ E s from wpAny_bind (zip_free hz ho ?_ fun g1 y1 c1 => ?_))
  · -- its own pair again
    simp only [if_true]
    refine wpAny_bind (wpAny_rule (wpAny_bind (wpAny_field hz rfl (x := Value.ref TO) rfl (wpAny_bind (wpAny_setField_rec hz (by simp) fun g1 y1 c1 => ?_)))))
    replace y1 : ZipObj g1 z TI TO .ellipsis k := y1
    refine wpAny_bind ?_
    simp only [List.zipIdx_cons, List.zipIdx_nil, List.forIn_cons, List.forIn_nil]
    refine wpAny_bind (wpAny_bind (wpAny_onRaise (show wpAny (model prog w) A (Builtin.SmallTypes.nextOf (.ref i1) >>= _) _ _ _ from wpAny_bind (RZ.nextOf_tuple_item (t1.extBut c1.extBut D.i1z) (q1.extBut c1.extBut D.l1z) hx fun g2 u1 c2 => wpAny_pure ?_))))
    have w2 : IsPair g2 TO a b := c2.extBut _ _ D.TOi1 (c1.extBut _ _ D.TOz pO)
    refine wpAny_bind (wpAny_seqItems w2 rfl (wpAny_bind (wpAny_updateSeq_pair w2 fun g3 w3 c3 => ?_)))
    replace w3 : IsPair g3 TO x b := w3
    refine wpAny_bind (wpAny_letGo (wpAny_pure (wpAny_bind (wpAny_bind (wpAny_onRaise ?_)))))
    refine (show wpAny (model prog w) A (Builtin.SmallTypes.nextOf (.ref i2) >>= _) _ _ _ from wpAny_bind (RZ.nextOf_tuple_item (((t2.extBut c1.extBut D.i2z).extBut c2.extBut D.i12.symm).extBut c3.extBut D.TOi2.symm)
      (((q2.extBut c1.extBut D.l2z).extBut c2.extBut D.l2i1).extBut c3.extBut D.l2TO) hy fun g4 u2 c4 => wpAny_pure ?_))
    have w4 : IsPair g4 TO x b := c4.extBut _ _ D.TOi2 w3
    refine wpAny_bind (wpAny_seqItems w4 rfl (wpAny_bind (wpAny_updateSeq_pair w4 fun g5 w5 c5 => ?_)))
    replace w5 : IsPair g5 TO x y := w5
    refine wpAny_bind (wpAny_letGo (wpAny_pure (wpAny_pure (wpAny_bind (wpAny_seqItems w5 rfl (wpAny_bind (wpAny_newTuple ?_)))))))
    have es : g5.objs.size = s.heap.objs.size := by rw [c5.1, c4.1, c3.1, c2.1, c1.1]
    have y5 : ZipObj g5 z TI TO .ellipsis k := c5.extBut _ _ D.TOz.symm (c4.extBut _ _ D.i2z.symm (c3.extBut _ _ D.TOz.symm (c2.extBut _ _ D.i1z.symm y1)))
    have kp : ∀ c o, c ≠ z → c ≠ TO → c ≠ i1 → c ≠ i2 → s.heap.get? c = some o → g5.get? c = some o := fun c o n1 n2 n3 n4 e => c5.extBut _ _ n2 (c4.extBut _ _ n4 (c3.extBut _ _ n2 (c2.extBut _ _ n3 (c1.extBut _ _ n1 e))))
    have v1 : g5.IsTupleIter i1 l1 (k1 + 1) := ((u1.extBut c3.extBut D.TOi1.symm).extBut c4.extBut D.i12).extBut c5.extBut D.TOi1.symm
    have v2 : g5.IsTupleIter i2 l2 (k2 + 1) := u2.extBut c5.extBut D.TOi2.symm
    have zl : z < g5.objs.size := Heap.lt_size y5
    refine (show wpAny (model prog w) A (Builtin.SmallTypes.ownedTupleHandOut (.ref z) (.ref g5.objs.size) >>= _) _ _ _ from wpAny_bind ?_)
    unfold Builtin.SmallTypes.ownedTupleHandOut
    have y6 : ZipObj (g5.push { cls := .type "tuple", data := .seq #[x, y] }) z TI TO .ellipsis k := Heap.get?_push_of_some _ y5
    refine wpAny_bind (wpAny_setField_rec y6 (by simp) fun g7 y7 c7 => ?_)
    replace y7 : ZipObj g7 z TI TO (rawInt g5.objs.size) k := y7
    refine wpAny_setField_rec y7 (by simp) fun g8 y8 c8 => ?_
    replace y8 : ZipObj g8 z TI TO (rawInt g5.objs.size) false := y8
    have up : ∀ c o, c ≠ z → g5.get? c = some o → g8.get? c = some o := fun c o n e => c8.extBut _ _ n (c7.extBut _ _ n (Heap.get?_push_of_some _ e))
    have pT : IsPair g8 g5.objs.size x y := c8.extBut _ _ (Nat.ne_of_gt zl) (c7.extBut _ _ (Nat.ne_of_gt zl) (Heap.get?_push_size _ rfl))
    have z8 : g8.objs.size = g5.objs.size + 1 := by rw [c8.1, c7.1, Heap.size_push]
    refine wpAny_pure ⟨_, rfl, (show Q (.ref g5.objs.size) _ from ?_)⟩
    rw [es] at pT z8 ⊢
    exact hQ g8 _ _ (.inr ⟨g5.objs.size, rfl⟩) y8 ⟨x, y, up _ _ D.TOz w5⟩ (v1.at fun o e => up _ o D.i1z e) (v2.at fun o e => up _ o D.i2z e) pT z8 fun c o n1 n2 n3 n4 e => up c o n1 (kp c o n1 n2 n3 n4 e)
  · -- a new pair
    simp only [Bool.false_eq_true, if_false]
    refine wpAny_bind ?_
    rw [← Array.forIn_toList]
    simp only [List.forIn_cons, List.forIn_nil]
    refine wpAny_bind (wpAny_bind (wpAny_holding (show wpAny (model prog w) A (Builtin.SmallTypes.nextOf (.ref i1) >>= _) _ _ _ from wpAny_bind (RZ.nextOf_tuple_item (s := { s with heap := g1 }) (t1.extBut c1.extBut D.i1z) (q1.extBut c1.extBut D.l1z) hx fun g2 u1 c2 => wpAny_pure (wpAny_pure ?_)))))
    refine wpAny_bind (wpAny_bind (wpAny_holding (show wpAny (model prog w) A (Builtin.SmallTypes.nextOf (.ref i2) >>= _) _ _ _ from wpAny_bind (RZ.nextOf_tuple_item (s := { s with heap := g2 }) ((t2.extBut c1.extBut D.i2z).extBut c2.extBut D.i12.symm) ((q2.extBut c1.extBut D.l2z).extBut c2.extBut D.l2i1) hy fun g3 u2 c3 => wpAny_pure (wpAny_pure (wpAny_pure ?_))))))
    refine (show wpAny (model prog w) A (newTuple [x, y] >>= _) _ _ _ from wpAny_bind (wpAny_newTuple ?_))
    have es : g3.objs.size = s.heap.objs.size := by rw [c3.1, c2.1, c1.1]
    have y3 : ZipObj g3 z TI TO own true := c3.extBut _ _ D.i2z.symm (c2.extBut _ _ D.i1z.symm y1)
    have kp : ∀ c o, c ≠ z → c ≠ i1 → c ≠ i2 → s.heap.get? c = some o → g3.get? c = some o := fun c o n1 n2 n3 e => c3.extBut _ _ n3 (c2.extBut _ _ n2 (c1.extBut _ _ n1 e))
    have v1 : g3.IsTupleIter i1 l1 (k1 + 1) := u1.extBut c3.extBut D.i12
    have pT : IsPair (g3.push { cls := .type "tuple", data := .seq #[x, y] }) g3.objs.size x y := Heap.get?_push_size _ rfl
    have z4 : (g3.push { cls := .type "tuple", data := .seq #[x, y] }).objs.size = g3.objs.size + 1 := Heap.size_push ..
    refine wpAny_pure ⟨_, rfl, (show Q (.ref g3.objs.size) _ from ?_)⟩
    rw [es] at pT z4 ⊢
    exact hQ _ _ _ ho (Heap.get?_push_of_some _ y3) ⟨a, b, Heap.get?_push_of_some _ (kp _ _ D.TOz D.TOi1 D.TOi2 pO)⟩ (v1.at fun o e => Heap.get?_push_of_some _ e) (u2.at fun o e => Heap.get?_push_of_some _ e) pT z4 fun c o n1 _ n3 n4 e => Heap.get?_push_of_some _ (kp c o n1 n3 n4 e)
theorem zip_any_end {Q : Fin → Shared → Prop} (hh : A.handled = none) (D : ZipApart z TI TO i1 i2 l1 l2) (hz : ZipObj s.heap z TI TO own k) (ho : OwnOk own) (pI : IsPair s.heap TI (.ref i1) (.ref i2)) (pO : IsPair s.heap TO a b)
    (t1 : s.heap.IsTupleIter i1 l1 k1) (t2 : s.heap.IsTupleIter i2 l2 k2) (q1 : s.heap.IsTuple l1 xs) (q2 : s.heap.IsTuple l2 ys) (hend : xs[k1]? = none ∨ ys[k2]? = none)
    (hE : ∀ g e, (∀ c o, c ≠ z → c ≠ TO → c ≠ i1 → c ≠ i2 → s.heap.get? c = some o → g.get? c = some o) → (∃ o, g.get? e = some o ∧ o.cls = .type "StopIteration") → E (.ref e) { s with heap := g }) :
    wpAny (model prog w) A (Builtin.«zip.__next__» ⟨[.ref z], []⟩) Q E s := by
  refine (show wpAny (model prog w) A (field (.ref z) 2 >>= _) _ E s from wpAny_bind (wpAny_field hz rfl (x := Value.bool false) rfl ?_))
  refine (show wpAny (model prog w) A (field (.ref z) 3 >>= _) _ E s from wpAny_bind (wpAny_field hz rfl (x := Value.ref TI) rfl ?_))
  refine wpAny_bind (wpAny_seqItems pI rfl ?_)
  have second : ∀ {x}, xs[k1]? = some x → ys[k2]? = none := fun {x} hx => hend.elim (fun z => by rw [hx] at z; cases z) id
  refine (show wpAny (model prog w) A (Builtin.SmallTypes.ownedTupleIsFree (.ref z) >>= _) _ E s from wpAny_bind (zip_free hz ho ?_ fun g1 y1 c1 => ?_))
  · simp only [if_true]
    refine wpAny_bind (wpAny_rule (wpAny_bind (wpAny_field hz rfl (x := Value.ref TO) rfl (wpAny_bind (wpAny_setField_rec hz (by simp) fun g1 y1 c1 => ?_)))))
    replace y1 : ZipObj g1 z TI TO .ellipsis k := y1
    refine wpAny_bind ?_
    simp only [List.zipIdx_cons, List.zipIdx_nil, List.forIn_cons, List.forIn_nil]
    refine wpAny_bind (wpAny_bind (wpAny_onRaise (show wpAny (model prog w) A (Builtin.SmallTypes.nextOf (.ref i1) >>= _) _ _ _ from ?_)))
    cases hx : xs[k1]? with
    | none =>
      refine wpAny_bind (RZ.nextOf_tuple_end hh (t1.extBut c1.extBut D.i1z) (q1.extBut c1.extBut D.l1z) hx fun g2 e c2 he => ?_)
      obtain ⟨oe, e1, e2⟩ := he
      have y2 : ZipObj g2 z TI TO .ellipsis k := c2 _ _ D.i1z.symm y1
      have nz : e ≠ z := fun q => by subst q; rw [y2] at e1; cases e1; simp at e2
      exact wpAny_setField_rec y2 (by simp) fun g3 _ c3 => hE g3 e (fun c o n1 _ n3 _ q => c3.extBut _ _ n1 (c2 _ _ n3 (c1.extBut _ _ n1 q))) ⟨oe, c3.extBut _ _ nz e1, e2⟩
    | some x =>
      refine wpAny_bind (RZ.nextOf_tuple_item (t1.extBut c1.extBut D.i1z) (q1.extBut c1.extBut D.l1z) hx fun g2 u1 c2 => wpAny_pure ?_)
      have w2 : IsPair g2 TO a b := c2.extBut _ _ D.TOi1 (c1.extBut _ _ D.TOz pO)
      refine wpAny_bind (wpAny_seqItems w2 rfl (wpAny_bind (wpAny_updateSeq_pair w2 fun g3 w3 c3 => ?_)))
      refine wpAny_bind (wpAny_letGo (wpAny_pure (wpAny_bind (wpAny_bind (wpAny_onRaise ?_)))))
      refine (show wpAny (model prog w) A (Builtin.SmallTypes.nextOf (.ref i2) >>= _) _ _ _ from wpAny_bind (RZ.nextOf_tuple_end hh (((t2.extBut c1.extBut D.i2z).extBut c2.extBut D.i12.symm).extBut c3.extBut D.TOi2.symm)
        (((q2.extBut c1.extBut D.l2z).extBut c2.extBut D.l2i1).extBut c3.extBut D.l2TO) (second hx) fun g4 e c4 he => ?_))
      obtain ⟨oe, e1, e2⟩ := he
      have y4 : ZipObj g4 z TI TO .ellipsis k := c4 _ _ D.i2z.symm (c3.extBut _ _ D.TOz.symm (c2.extBut _ _ D.i1z.symm y1))
      have nz : e ≠ z := fun q => by subst q; rw [y4] at e1; cases e1; simp at e2
      exact wpAny_setField_rec y4 (by simp) fun g5 _ c5 => hE g5 e (fun c o n1 n2 n3 n4 q => c5.extBut _ _ n1 (c4 _ _ n4 (c3.extBut _ _ n2 (c2.extBut _ _ n3 (c1.extBut _ _ n1 q))))) ⟨oe, c5.extBut _ _ nz e1, e2⟩
  · simp only [Bool.false_eq_true, if_false]
    refine wpAny_bind ?_
    rw [← Array.forIn_toList]
    simp only [List.forIn_cons, List.forIn_nil]
    refine wpAny_bind (wpAny_bind (wpAny_holding (show wpAny (model prog w) A (Builtin.SmallTypes.nextOf (.ref i1) >>= _) _ _ _ from ?_)))
    cases hx : xs[k1]? with
    | none => exact wpAny_bind (RZ.nextOf_tuple_end (s := { s with heap := g1 }) hh (t1.extBut c1.extBut D.i1z) (q1.extBut c1.extBut D.l1z) hx fun g2 e c2 he => hE g2 e (fun c o n1 _ n3 _ q => c2 _ _ n3 (c1.extBut _ _ n1 q)) he)
    | some x =>
      refine wpAny_bind (RZ.nextOf_tuple_item (s := { s with heap := g1 }) (t1.extBut c1.extBut D.i1z) (q1.extBut c1.extBut D.l1z) hx fun g2 u1 c2 => wpAny_pure (wpAny_pure ?_))
      refine wpAny_bind (wpAny_bind (wpAny_holding (show wpAny (model prog w) A (Builtin.SmallTypes.nextOf (.ref i2) >>= _) _ _ _ from ?_)))
      exact wpAny_bind (RZ.nextOf_tuple_end (s := { s with heap := g2 }) hh ((t2.extBut c1.extBut D.i2z).extBut c2.extBut D.i12.symm) ((q2.extBut c1.extBut D.l2z).extBut c2.extBut D.l2i1) (second hx) fun g3 e c3 he => hE g3 e (fun c o n1 _ n3 n4 q => c3 _ _ n4 (c2.extBut _ _ n3 (c1.extBut _ _ n1 q))) he)
/-! ### an enumerate over it -/
theorem enumz_next {e : Addr} {i : Nat} {old : Value} {Q : Value → Shared → Prop} (D : ZipApart z TI TO i1 i2 l1 l2) (ez : e ≠ z) (eO : e ≠ TO) (e1 : e ≠ i1) (e2 : e ≠ i2) (he : IsEnum s.heap e z i old) (hz : ZipObj s.heap z TI TO own k) (ho : OwnOk own)
    (pI : IsPair s.heap TI (.ref i1) (.ref i2)) (pO : IsPair s.heap TO a b) (t1 : s.heap.IsTupleIter i1 l1 k1) (t2 : s.heap.IsTupleIter i2 l2 k2) (q1 : s.heap.IsTuple l1 xs) (q2 : s.heap.IsTuple l2 ys) (hx : xs[k1]? = some x) (hy : ys[k2]? = some y)
    (hQ : ∀ g own' k', OwnOk own' → ZipObj g z TI TO own' k' → (∃ a b, IsPair g TO a b) → g.IsTupleIter i1 l1 (k1 + 1) → g.IsTupleIter i2 l2 (k2 + 1) → IsPair g s.heap.objs.size x y → IsEnumOut g e z ((i : Int) + 1) (.ref s.heap.objs.size) (s.heap.objs.size + 1) →
      g.get? (s.heap.objs.size + 1) = some { cls := .type "tuple", data := .seq #[.int i s.toks, .ref s.heap.objs.size] } → (∀ c o, c ≠ e → c ≠ z → c ≠ TO → c ≠ i1 → c ≠ i2 → s.heap.get? c = some o → g.get? c = some o) →
      Q (.ref (s.heap.objs.size + 1)) { s with heap := g, toks := s.toks + 1 }) :
    wpAny (model prog w) A (Builtin.«enumerate.__next__» ⟨[.ref e], []⟩) (fun fin s' => ∃ v, fin = .done (.ret v) ∧ Q v s') E s := by
  obtain ⟨hp, g, d, tk, os⟩ := s
  have tZ : (⟨hp, g, d, tk, os⟩ : Shared).TypeIs (.ref z) "zip" := ⟨_, hz, rfl⟩
  refine (show wpAny (model prog w) A (field (.ref e) 2 >>= _) _ E _ from wpAny_bind (wpAny_field he rfl (x := Value.ref z) rfl ?_))
  refine wpAny_bind ?_
  unfold Builtin.SmallTypes.nextOf
  refine wpAny_bind (wpAny_callSpecial?_slot (name := Str.ofString "__next__") tZ F.slot_zip_next (wpAny_call_entry F.slot_zip_next tZ F.entry_zip_next (zip_any_item D hz ho pI pO t1 t2 q1 q2 hx hy fun g1 own' k' ho' y1 pO' v1 v2 pN zs kp => wpAny_pure ?_) (F.args_zip_next_1 _)))
  replace zs : g1.objs.size = hp.objs.size + 1 := zs
  replace pN : IsPair g1 hp.objs.size x y := pN
  replace kp : ∀ c o, c ≠ z → c ≠ TO → c ≠ i1 → c ≠ i2 → hp.get? c = some o → g1.get? c = some o := kp
  have n1 : IsEnum g1 e z i old := kp _ _ ez eO e1 e2 he
  have el : e < hp.objs.size := Heap.lt_size he
  refine (show wpAny (model prog w) A (field (.ref e) 3 >>= _) _ E ⟨g1, g, d, tk, os⟩ from wpAny_bind (wpAny_field n1 rfl (x := rawInt i) rfl ?_))
  refine (show wpAny (model prog w) A (field (.ref e) 4 >>= _) _ E ⟨g1, g, d, tk, os⟩ from wpAny_bind (wpAny_field n1 rfl (x := Value.none) rfl ?_))
  refine (show wpAny (model prog w) A (mkInt i >>= _) _ E ⟨g1, g, d, tk, os⟩ from wpAny_bind (wpAny_mkInt ?_))
  refine (show wpAny (model prog w) A (setField (.ref e) 3 (rawInt ((i : Int) + 1)) >>= _) _ E ⟨g1, g, d, tk + 1, os⟩ from wpAny_bind (wpAny_setField_rec n1 (by simp) fun g2 n2 c2 => ?_))
  replace c2 : Heap.SameBut e g1 g2 := c2
  replace n2 : IsEnum g2 e z ((i : Int) + 1) old := n2
  refine (show wpAny (model prog w) A (setField (.ref e) 4 .none >>= _) _ E ⟨g2, g, d, tk + 1, os⟩ from wpAny_bind (wpAny_setField_rec n2 (by simp) fun g3 n3 c3 => ?_))
  replace c3 : Heap.SameBut e g2 g3 := c3
  replace n3 : IsEnum g3 e z ((i : Int) + 1) old := n3
  refine (show wpAny (model prog w) A (newTuple [.int i tk, .ref hp.objs.size] >>= _) _ E ⟨g3, g, d, tk + 1, os⟩ from wpAny_bind (wpAny_newTuple ?_))
  have es : g3.objs.size = hp.objs.size + 1 := by rw [c3.1, c2.1, zs]
  have n4 : IsEnum (g3.push { cls := .type "tuple", data := .seq #[.int i tk, .ref hp.objs.size] }) e z ((i : Int) + 1) old := Heap.get?_push_of_some _ n3
  have p4 : (g3.push { cls := .type "tuple", data := .seq #[.int i tk, .ref hp.objs.size] }).get? (hp.objs.size + 1) = some { cls := .type "tuple", data := .seq #[.int i tk, .ref hp.objs.size] } := by rw [← es]; exact Heap.get?_push_size _ rfl
  have up4 : ∀ c o, c ≠ e → g1.get? c = some o → (g3.push { cls := .type "tuple", data := .seq #[.int i tk, .ref hp.objs.size] }).get? c = some o := fun c o n q => Heap.get?_push_of_some _ (c3.extBut c o n (c2.extBut c o n q))
  generalize g3.push { cls := .type "tuple", data := .seq #[.int i tk, .ref hp.objs.size] } = g4 at n4 p4 up4
  refine (show wpAny (model prog w) A (Builtin.SmallTypes.ownedTupleIsFree (.ref e) >>= _) _ E ⟨g4, g, d, tk + 1, os⟩ from ?_)
  rw [es]
  refine wpAny_bind ?_
  unfold Builtin.SmallTypes.ownedTupleIsFree
  refine wpAny_bind (wpAny_field n4 rfl (x := Value.none) rfl (wpAny_pure ?_))
  simp only [if_true]
  refine wpAny_bind (wpAny_rule (wpAny_bind (wpAny_field n4 rfl (x := old) rfl (wpAny_bind (wpAny_setField_rec n4 (by simp) fun g5 n5 c5 => ?_)))))
  replace c5 : Heap.SameBut e g4 g5 := c5
  replace n5 : IsEnum g5 e z ((i : Int) + 1) (.ref hp.objs.size) := n5
  refine (show wpAny (model prog w) A (Builtin.SmallTypes.ownedTupleHandOut (.ref e) (.ref (hp.objs.size + 1)) >>= _) _ E ⟨g5, g, d, tk + 1, os⟩ from wpAny_bind ?_)
  unfold Builtin.SmallTypes.ownedTupleHandOut
  refine wpAny_bind (wpAny_setField_rec n5 (by simp) fun g6 n6 c6 => ?_)
  replace c6 : Heap.SameBut e g5 g6 := c6
  replace n6 : IsEnumOut g6 e z ((i : Int) + 1) (.ref hp.objs.size) (hp.objs.size + 1) := n6
  refine wpAny_setField_rec n6 (by simp) fun g7 n7 c7 => ?_
  replace c7 : Heap.SameBut e g6 g7 := c7
  replace n7 : IsEnumOut g7 e z ((i : Int) + 1) (.ref hp.objs.size) (hp.objs.size + 1) := n7
  have up5 : ∀ c o, c ≠ e → g4.get? c = some o → g7.get? c = some o := fun c o n q => c7.extBut c o n (c6.extBut c o n (c5.extBut c o n q))
  have up : ∀ c o, c ≠ e → g1.get? c = some o → g7.get? c = some o := fun c o n q => up5 c o n (up4 c o n q)
  obtain ⟨a', b', pO''⟩ := pO'
  refine wpAny_bind (wpAny_letGo (wpAny_pure ⟨_, rfl, hQ g7 own' k' ho' (up _ _ (Ne.symm ez) y1) ⟨a', b', up _ _ (Ne.symm eO) pO''⟩ (v1.at fun o q => up _ o (Ne.symm e1) q) (v2.at fun o q => up _ o (Ne.symm e2) q) (up _ _ (Nat.ne_of_gt el) pN) n7
    (up5 _ _ (Nat.ne_of_gt (Nat.lt_succ_of_lt el)) p4) fun c o m1 m2 m3 m4 m5 q => up c o m1 (kp c o m2 m3 m4 m5 q)⟩))
theorem enumz_item {e : Addr} {i : Nat} {old : Value} {Q : Option Value → Shared → Prop} (D : ZipApart z TI TO i1 i2 l1 l2) (ez : e ≠ z) (eO : e ≠ TO) (e1 : e ≠ i1) (e2 : e ≠ i2) (he : IsEnum s.heap e z i old) (hz : ZipObj s.heap z TI TO own k) (ho : OwnOk own)
    (pI : IsPair s.heap TI (.ref i1) (.ref i2)) (pO : IsPair s.heap TO a b) (t1 : s.heap.IsTupleIter i1 l1 k1) (t2 : s.heap.IsTupleIter i2 l2 k2) (q1 : s.heap.IsTuple l1 xs) (q2 : s.heap.IsTuple l2 ys) (hx : xs[k1]? = some x) (hy : ys[k2]? = some y)
    (hQ : ∀ g own' k', OwnOk own' → ZipObj g z TI TO own' k' → (∃ a b, IsPair g TO a b) → g.IsTupleIter i1 l1 (k1 + 1) → g.IsTupleIter i2 l2 (k2 + 1) → IsPair g s.heap.objs.size x y → IsEnumOut g e z ((i : Int) + 1) (.ref s.heap.objs.size) (s.heap.objs.size + 1) →
      g.get? (s.heap.objs.size + 1) = some { cls := .type "tuple", data := .seq #[.int i s.toks, .ref s.heap.objs.size] } → (∀ c o, c ≠ e → c ≠ z → c ≠ TO → c ≠ i1 → c ≠ i2 → s.heap.get? c = some o → g.get? c = some o) →
      Q (some (.ref (s.heap.objs.size + 1))) { s with heap := g, toks := s.toks + 1 }) :
    wpAny (model prog w) A (pyNext (.ref e)) Q E s := by
  have tE : s.TypeIs (.ref e) "enumerate" := ⟨_, he, rfl⟩
  unfold pyNext
  exact wpAny_bind (wpAny_attempt (wpAny_callSpecial?_slot (name := Str.ofString "__next__") tE F.slot_enumerate_next (wpAny_call_entry F.slot_enumerate_next tE F.entry_enumerate_next
    (enumz_next D ez eO e1 e2 he hz ho pI pO t1 t2 q1 q2 hx hy fun g own' k' w1 w2 w3 w4 w5 w6 w7 w8 w9 => wpAny_pure (hQ g own' k' w1 w2 w3 w4 w5 w6 w7 w8 w9)) (F.args_enumerate_next_1 _))))
theorem enumz_end {e : Addr} {i : Int} {old : Value} {Q : Option Value → Shared → Prop} (hh : A.handled = none) (D : ZipApart z TI TO i1 i2 l1 l2) (he : IsEnum s.heap e z i old) (hz : ZipObj s.heap z TI TO own k) (ho : OwnOk own)
    (pI : IsPair s.heap TI (.ref i1) (.ref i2)) (pO : IsPair s.heap TO a b) (t1 : s.heap.IsTupleIter i1 l1 k1) (t2 : s.heap.IsTupleIter i2 l2 k2) (q1 : s.heap.IsTuple l1 xs) (q2 : s.heap.IsTuple l2 ys) (hend : xs[k1]? = none ∨ ys[k2]? = none)
    (hQ : ∀ g, (∀ c o, c ≠ z → c ≠ TO → c ≠ i1 → c ≠ i2 → s.heap.get? c = some o → g.get? c = some o) → Q none { s with heap := g }) : wpAny (model prog w) A (pyNext (.ref e)) Q E s := by
  have tE : s.TypeIs (.ref e) "enumerate" := ⟨_, he, rfl⟩
  have tZ : s.TypeIs (.ref z) "zip" := ⟨_, hz, rfl⟩
  unfold pyNext
  refine wpAny_bind (wpAny_attempt (wpAny_callSpecial?_slot (name := Str.ofString "__next__") tE F.slot_enumerate_next (wpAny_call_entry F.slot_enumerate_next tE F.entry_enumerate_next ?_ (F.args_enumerate_next_1 _))))
  refine (show wpAny (model prog w) A.in1 (field (.ref e) 2 >>= _) _ _ s from wpAny_bind (wpAny_field he rfl (x := Value.ref z) rfl ?_))
  refine wpAny_bind ?_
  unfold Builtin.SmallTypes.nextOf
  refine wpAny_bind (wpAny_callSpecial?_slot (name := Str.ofString "__next__") tZ F.slot_zip_next (wpAny_call_entry F.slot_zip_next tZ F.entry_zip_next (zip_any_end hh D hz ho pI pO t1 t2 q1 q2 hend fun g x kp hx => ?_) (F.args_zip_next_1 _)))
  obtain ⟨o, e1, e2⟩ := hx
  refine wpAny_bind (wpAny_isInstance (T := "StopIteration") (b := true) ⟨o, e1, e2⟩ isSubtype_stop ?_)
  exact wpAny_pure (hQ _ kp)
end
/-! ### enumerate(zip(a, b)) is made -/
theorem enumz_meets (z TI TO : Addr) : Meets (Builtin.«enumerate.__new__» ⟨[.type "enumerate", .ref z], []⟩) (fun _ R s => IsZip s.heap z TI TO .none ∧ R (.ok (.ret (.ref s.heap.objs.size)))
      { s with heap := s.heap.push { cls := .type "enumerate", data := .fields #[.none, .bool false, .ref z, rawInt 0, .none, .none] } }) :=
  .of_wp fun prog w A R s h => by
    obtain ⟨hp, g, d, tk, os⟩ := s
    obtain ⟨h1, h⟩ := h
    have hsub := sub_enumerate
    have q1 : ∀ {A' : Around} {E : Value → Shared → Prop} {Q : Value → Shared → Prop}, Q (.ref z) ⟨hp, g, d, tk, os⟩ → wpAny (model prog w) A' (pyIter (.ref z)) Q E ⟨hp, g, d, tk, os⟩ := fun q => wpAny_pyIter_zip (s := ⟨hp, g, d, tk, os⟩) h1 q
    wp_walk using q1
    refine wpAny_stack_any fun st => wpAny_pure ?_
    split
    · rename_i c _ _ _ _ _
      cases (c == Value.type "enumerate")
      all_goals
        wp_walk using q1
        exact ⟨_, rfl, h⟩
    · wp_walk using q1
      exact ⟨_, rfl, h⟩
theorem enumz_call {prog : Program} {w : World} {A : Around} {E : Value → Shared → Prop} {s : Shared} {z TI TO : Addr} {Q : Value → Shared → Prop} (hz : IsZip s.heap z TI TO .none)
    (h : ∀ g, IsEnum g s.heap.objs.size z 0 .none → g.objs.size = s.heap.objs.size + 1 → (∀ b o, s.heap.get? b = some o → g.get? b = some o) → Q (.ref s.heap.objs.size) { s with heap := g }) :
    wpAny (model prog w) A (call (.type "enumerate") [.ref z]) Q E s := by
  refine callType_new F.called_enumerate (by decide) (F.typeCall_enumerate_1 _) (F.newCall_enumerate_1 _) (fun obj => F.args_object_init_2 obj _) F.entry_enumerate_new (enumz_meets z TI TO) ⟨hz, ?_⟩
  have he := Heap.get?_push_size s.heap (o := { cls := .type "enumerate", data := .fields #[.none, .bool false, .ref z, rawInt 0, .none, .none] }) rfl
  exact ⟨⟨_, he, rfl⟩, h _ he (Heap.size_push ..) fun b u x => Heap.get?_push_of_some _ x⟩
/-! ### its turns -/
def ItzE (K : PySem.W.Frag) (a b : Addr) : It :=
  ⟨fun i H => ∃ (xs ys : List V) (x y : V), SqT K H a xs ∧ SqT K H b ys ∧ xs[i]? = some x ∧ ys[i]? = some y,
    fun i H v H' => ∃ T U x y, v = .ref U ∧ H T = none ∧ (upd H T (.tup [x, y])) U = none ∧ H' = upd (upd H T (.tup [x, y])) U (.tup [.int (i : Nat), .ref T]) ∧ (∀ xs, SqT K H a xs → xs[i]? = some x) ∧ ∀ ys, SqT K H b ys → ys[i]? = some y,
    fun i H => ∃ xs ys : List V, SqT K H a xs ∧ SqT K H b ys ∧ (xs.length ≤ i ∨ ys.length ≤ i)⟩
def zeState (a b e z TI TO i1 i2 : Addr) (i : Nat) (h : Heap) : Prop :=
  (∃ old, IsEnum h e z ((i : Nat) : Int) old) ∧ (∃ own k, OwnOk own ∧ ZipObj h z TI TO own k) ∧ IsPair h TI (.ref i1) (.ref i2) ∧ (∃ x y, IsPair h TO x y) ∧ h.IsTupleIter i1 a i ∧ h.IsTupleIter i2 b i
theorem turn_enumZ {P : Program} {w : World} {K : PySem.W.Frag} {elts : List Expr} {kk : Nat} {tpos : Pos} {a b e z TI TO i1 i2 : Addr} (D : ZipApart z TI TO i1 i2 a b) (ez : e ≠ z) (eI : e ≠ TI) (eO : e ≠ TO) (e1 : e ≠ i1) (e2 : e ≠ i2) :
    Turn P w K (.Tuple elts kk tpos) (ItzE K a b) [e, z, TI, TO, i1, i2] e (zeState a b e z TI TO i1 i2) where
  mem := by simp
  obj := fun i h st c hc => by
    obtain ⟨⟨old, he⟩, ⟨own, k, _, hz⟩, pI, ⟨x, y, pO⟩, ⟨o1, f1, _, d1⟩, ⟨o2, f2, _, d2⟩⟩ := st
    have e' : c = e ∨ c = z ∨ c = TI ∨ c = TO ∨ c = i1 ∨ c = i2 := by simpa using hc
    rcases e' with q | q | q | q | q | q
    · rw [q]; exact ⟨_, he, fun v q => nomatch q⟩
    · rw [q]; exact ⟨_, hz, fun v q => nomatch q⟩
    · rw [q]; exact ⟨_, pI, fun v q => nomatch q⟩
    · rw [q]; exact ⟨_, pO, fun v q => nomatch q⟩
    · rw [q]; exact ⟨o1, f1, fun v q => by rw [d1] at q; cases q⟩
    · rw [q]; exact ⟨o2, f2, fun v q => by rw [d2] at q; cases q⟩
  keep := fun i h h' st k => by
    obtain ⟨⟨old, he⟩, ⟨own, k', ho, hz⟩, pI, ⟨x, y, pO⟩, h1, h2⟩ := st
    exact ⟨⟨old, k e (by simp) _ he⟩, ⟨own, k', ho, k z (by simp) _ hz⟩, k TI (by simp) _ pI, ⟨x, y, k TO (by simp) _ pO⟩, h1.at fun o q => k i1 (by simp) o q, h2.at fun o q => k i2 (by simp) o q⟩
  item := by
    intro X hP hw hK hc i pins s σ H E I hf st hg
    subst hP hw hK
    obtain ⟨⟨old, he⟩, ⟨own, k, ho, hz⟩, pI, ⟨x0, y0, pO⟩, h1, h2⟩ := st
    obtain ⟨xs, ys, x, y, hqx, hqy, hx, hy⟩ := hg
    obtain ⟨its, rv, p, _⟩ := I.tuple hqx
    obtain ⟨its2, rv2, p2, _⟩ := I.tuple hqy
    obtain ⟨u, hu, ru⟩ := rv.get hx
    obtain ⟨u2, hu2, ru2⟩ := rv2.get hy
    have el : e < s.heap.objs.size := Heap.lt_size he
    have lt6 : ∀ c ∈ [e, z, TI, TO, i1, i2], c < s.heap.objs.size := fun c hc => by
      have e' : c = e ∨ c = z ∨ c = TI ∨ c = TO ∨ c = i1 ∨ c = i2 := by simpa using hc
      rcases e' with q | q | q | q | q | q
      · rw [q]; exact el
      · rw [q]; exact Heap.lt_size hz
      · rw [q]; exact Heap.lt_size pI
      · rw [q]; exact Heap.lt_size pO
      · rw [q]; obtain ⟨_, f, _⟩ := h1; exact Heap.lt_size f
      · rw [q]; obtain ⟨_, f, _⟩ := h2; exact Heap.lt_size f
    refine enumz_item D ez eO e1 e2 he hz ho pI pO h1 h2 p p2 (x := u) (y := u2) (by simpa using hu) (by simpa using hu2) fun g own' k' ho' y1 pO' v1 v2 pN nE pU kp => ?_
    refine ⟨_, rfl, wpAny_letOwnedTupleGo_enum (s := { s with heap := g, toks := s.toks + 1 }) nE fun g' nE' sb => ?_⟩
    replace sb : Heap.SameBut e g g' := sb
    have pN2 : g'.get? s.heap.objs.size = some { cls := .type "tuple", data := .seq #[u, u2] } := (sb.2 _ (Nat.ne_of_gt el)).trans pN
    have pU2 : g'.get? (s.heap.objs.size + 1) = some { cls := .type "tuple", data := .seq #[.int i s.toks, .ref s.heap.objs.size] } := (sb.2 _ (Nat.ne_of_gt (Nat.lt_succ_of_lt el))).trans pU
    have I1 : Inv X pins σ (upd H s.heap.objs.size (.tup [x, y])) { s with heap := s.heap.push { cls := .type "tuple", data := .seq #[u, u2] } } :=
      I.laid (t' := s.toks) (fun b o q => Heap.get?_push_of_some _ q) (Nat.le_refl _) ⟨by show 2 ≤ sizeLine; decide, [u, u2], .cons ru (.cons ru2 .nil), ⟨_, Heap.get?_push_size _ rfl, rfl, _, rfl⟩⟩
    have hf1 : ∀ b ∈ [e, z, TI, TO, i1, i2], FpOk X pins (upd H s.heap.objs.size (.tup [x, y])) b := fun b hb => ⟨by rw [upd_ne (Nat.ne_of_lt (lt6 b hb))]; exact (hf b hb).1, (hf b hb).2⟩
    have zp : (s.heap.push { cls := .type "tuple", data := .seq #[u, u2] }).objs.size = s.heap.objs.size + 1 := Heap.size_push ..
    have I2 : Inv X pins σ (upd (upd H s.heap.objs.size (.tup [x, y])) (s.heap.objs.size + 1) (.tup [.int (i : Nat), .ref s.heap.objs.size])) { s with heap := g', toks := s.toks + 1 } :=
      I1.turnedNew (t' := s.toks + 1) (ch := [e, z, TI, TO, i1, i2]) (fun c o hb q => by
        rcases Heap.get?_push_cases q with ⟨q1, q2⟩ | q1
        · rw [q1, q2]
          exact pN2
        · exact (sb.2 c (fun z => hb (by simp [z]))).trans (kp c o (fun z => hb (by simp [z])) (fun z => hb (by simp [z])) (fun z => hb (by simp [z])) (fun z => hb (by simp [z])) (fun z => hb (by simp [z])) q1)) hf1 (Nat.le_of_eq zp)
        ⟨by show 2 ≤ sizeLine; decide, [.int i s.toks, .ref s.heap.objs.size], .cons ⟨_, rfl⟩ (.cons rfl .nil), ⟨_, pU2, rfl, _, rfl⟩⟩
    refine ⟨.ref (s.heap.objs.size + 1), _, I2, rfl, ⟨s.heap.objs.size, s.heap.objs.size + 1, x, y, rfl, I.hok.fresh (Nat.le_refl _), ?_, rfl, fun l hl => by rw [I.tuple_inj hl hqx]; exact hx, fun l hl => by rw [I.tuple_inj hl hqy]; exact hy⟩, ⟨⟨.ref s.heap.objs.size, ?_⟩, ⟨own', k', ho', (sb.2 _ (Ne.symm ez)).trans y1⟩, ?_, ?_, ?_, ?_⟩, fun c hc => ?_⟩
    · rw [upd_ne (Nat.succ_ne_self _)]
      exact I.hok.fresh (Nat.le_succ _)
    · rw [show ((i + 1 : Nat) : Int) = (i : Int) + 1 by omega]
      exact nE'
    · exact (sb.2 _ (Ne.symm eI)).trans (kp _ _ (Ne.symm eI) D.TIz D.TITO D.TIi1 D.TIi2 pI)
    · obtain ⟨a', b', q⟩ := pO'
      exact ⟨a', b', (sb.2 _ (Ne.symm eO)).trans q⟩
    · exact v1.at fun o q => (sb.2 _ (Ne.symm e1)).trans q
    · exact v2.at fun o q => (sb.2 _ (Ne.symm e2)).trans q
    · have := lt6 c hc
      rw [upd_ne (Nat.ne_of_lt (Nat.lt_succ_of_lt this)), upd_ne (Nat.ne_of_lt this)]
      exact (hf c hc).1
  done := by
    intro X hP hw hK hc i pins s σ H E I hf st hg
    subst hP hw hK
    obtain ⟨⟨old, he⟩, ⟨own, k, ho, hz⟩, pI, ⟨x0, y0, pO⟩, h1, h2⟩ := st
    obtain ⟨xs, ys, hqx, hqy, hend⟩ := hg
    obtain ⟨its, rv, p, _⟩ := I.tuple hqx
    obtain ⟨its2, rv2, p2, _⟩ := I.tuple hqy
    have l1 := rv.length
    have l2 := rv2.length
    have hE : its.toArray[i]? = none ∨ its2.toArray[i]? = none := by
      rcases hend with q | q
      · exact .inl (by simp; omega)
      · exact .inr (by simp; omega)
    exact enumz_end (I.ok.hd hc) D he hz ho pI pO h1 h2 p p2 hE fun g kp => ⟨rfl, I.turnedL (t' := s.toks) (ch := [e, z, TI, TO, i1, i2]) (fun c o hb q =>
      kp c o (fun z => hb (by simp [z])) (fun z => hb (by simp [z])) (fun z => hb (by simp [z])) (fun z => hb (by simp [z])) q) hf⟩
  self := fun A i s Q E st h => by
    obtain ⟨⟨_, he⟩, _⟩ := st
    exact wpAny_pyIter_enum he h
def iEnumZ (K : PySem.W.Frag) (ta : TA) : TI := fun σ H R => ta σ H fun vs H1 => ∃ a b xs ys, vs = [.ref a, .ref b] ∧ SqT K H1 a xs ∧ SqT K H1 b ys ∧ R (ItzE K a b) H1
theorem pi_enumZ {X : Cx} {c d : Expr} {ta : TA} {p pos p2 pos2 tpos : Pos} {elts : List Expr} {kk : Nat} (hg : Gl X "enumerate") (hm : X.mg "enumerate" = none) (hg2 : Gl X "zip") (hm2 : X.mg "zip" = none) (ha : PA X [c, d] ta)
    (hs : starEach [c, d] X.env = (false, eval c X.env) :: starEach [d] X.env := by rfl) (hpl : (backTo pos2 (starEach [d] X.env)).any (·.1) = false := by rfl)
    (hs2 : starEach [.Call (.Name "zip" p2) [c, d] [] pos2] X.env = (false, eval (.Call (.Name "zip" p2) [c, d] [] pos2) X.env) :: starEach [] X.env := by rfl) :
    PI X (.Tuple elts kk tpos) (.Call (.Name "enumerate" p) [.Call (.Name "zip" p2) [c, d] [] pos2] [] pos) (iEnumZ X.K ta) := by
  refine ⟨fun pins s σ H R I h => ?_⟩
  refine PyProof.Rows.Call_ (ld_blt I hg hm PyProof.Rows.boot_enumerate (PyProof.Rows.callWith_type1 (PyProof.Rows.spliced_more ?_ hs2) hs2 rfl))
  refine PyProof.Rows.Call_ (ld_blt I hg2 hm2 PyProof.Rows.boot_zip (PyProof.Rows.callWith_type1 (thn (ha.run pos2 pins s σ H _ I h) fun us s1 ⟨vs, H1, I1, r1, q1⟩ => ?_) hs hpl))
  obtain ⟨a, b, xs, ys, rfl, hqx, hqy, q⟩ := q1
  cases r1 with
  | cons r rr =>
    cases rr with
    | cons r' rr =>
      cases rr
      cases r
      cases r'
      obtain ⟨its, rv, p1, _⟩ := I1.tuple hqx
      obtain ⟨its2, rv2, p2', _⟩ := I1.tuple hqy
      have la := p1.lt
      have lb := p2'.lt
      refine RZ.call_zipT (show s1.heap.IsTuple a its.toArray from p1) (show s1.heap.IsTuple b its2.toArray from p2') fun h' hz hTI hTO h1 h2 hsz hk => PyProof.Rows.spliced_none ?_
      refine enumz_call (s := { s1 with heap := h' }) hz fun g he hgz hk2 => wpAny_pyIter_enum he ?_
      replace he : IsEnum g h'.objs.size (s1.heap.objs.size + 4) 0 .none := he
      replace hk2 : ∀ b o, h'.get? b = some o → g.get? b = some o := hk2
      have I2 : Inv X pins σ H1 { s1 with heap := g } := I1.kept (t' := s1.toks) fun b o q => hk2 b o (hk b o q)
      replace hsz : h'.objs.size = s1.heap.objs.size + 5 := hsz
      have m4 : h'.objs.size ≠ s1.heap.objs.size + 4 := by rw [hsz]; exact Nat.ne_of_gt (Nat.add_lt_add_left (by decide) _)
      have m3 : h'.objs.size ≠ s1.heap.objs.size + 3 := by rw [hsz]; exact Nat.ne_of_gt (Nat.add_lt_add_left (by decide) _)
      have m2 : h'.objs.size ≠ s1.heap.objs.size + 2 := by rw [hsz]; exact Nat.ne_of_gt (Nat.add_lt_add_left (by decide) _)
      have m1 : h'.objs.size ≠ s1.heap.objs.size + 1 := by rw [hsz]; exact Nat.ne_of_gt (Nat.add_lt_add_left (by decide) _)
      have m0 : h'.objs.size ≠ s1.heap.objs.size := by rw [hsz]; exact Nat.ne_of_gt (Nat.lt_add_of_pos_right (by decide))
      refine ⟨h'.objs.size, [h'.objs.size, s1.heap.objs.size + 4, s1.heap.objs.size + 2, s1.heap.objs.size + 3, s1.heap.objs.size, s1.heap.objs.size + 1], _, _, H1, rfl, I2, turn_enumZ (PySem.W.ktu_apart s1.heap.objs.size a b la lb) m4 m2 m3 m0 m1, ⟨⟨.none, he⟩, ⟨.none, false, .inl rfl, hk2 _ _ hz⟩, hk2 _ _ hTI, ⟨_, _, hk2 _ _ hTO⟩, h1.at fun o q => hk2 _ o q, h2.at fun o q => hk2 _ o q⟩, fun c hc => ?_, q⟩
      have hle : s1.heap.objs.size ≤ c := by
        simp only [List.mem_cons, List.not_mem_nil, or_false] at hc
        rcases hc with e | e | e | e | e | e
        · rw [e]
          show s1.heap.objs.size ≤ h'.objs.size
          rw [hsz]
          exact Nat.le_add_right _ _
        · rw [e]; exact Nat.le_add_right _ _
        · rw [e]; exact Nat.le_add_right _ _
        · rw [e]; exact Nat.le_add_right _ _
        · rw [e]; exact Nat.le_refl _
        · rw [e]; exact Nat.le_add_right _ _
      exact I1.fpOk hle (I1.hok.fresh hle)
/-! ### as a function -/
theorem iter_nest {K : PySem.W.Frag} {N M : Addr → Prop} {ρ : List Addr} {H0 : Hp} {a b : Addr} {xs ys : List V} {l m : List PV} (qa : ∀ H, Keep M H0 H → SqT K H a xs) (qb : ∀ H, Keep M H0 H → SqT K H b ys) (hl : l.length ≤ LINE) (r : RVs K N ρ H0 l xs) (t : RVs K N ρ H0 m ys) :
    IterOk K N M ρ (ItzE K a b) (enumF 0 (zipF l m)) H0 := by
  have e1 := r.len
  have e2 := t.len
  have el : (enumF 0 (zipF l m)).length = min l.length m.length := by rw [enumF_len, zipF_len]
  refine ⟨by rw [el]; omega, fun i H hi k => ?_, fun H k => ⟨xs, ys, qa H k, qb H k, by rw [el]; omega⟩, fun i H v H' hi k y => ?_⟩
  · rw [el] at hi
    exact ⟨xs, ys, xs[i]'(by omega), ys[i]'(by omega), qa H k, qb H k, by simp, by simp⟩
  · obtain ⟨T, U, x, y, rfl, nT, nU, rfl, gx, gy⟩ := y
    have hx := gx xs (qa H k)
    have hy := gy ys (qb H k)
    have E1 : Ext H (upd H T (.tup [x, y])) := .new nT
    have E2 : Ext (upd H T (.tup [x, y])) (upd (upd H T (.tup [x, y])) U (.tup [.int (i : Nat), .ref T])) := .new nU
    refine ⟨E1.trans E2, fun p N' ρ' hp L => ?_⟩
    obtain ⟨q, h1, rfl⟩ := enumF_get _ 0 i p hp
    obtain ⟨c, d, h2, h3, rfl⟩ := zipF_get l m i q h1
    obtain ⟨v1, g1, g2⟩ := r.get h2
    obtain ⟨v2, g3, g4⟩ := t.get h3
    rw [hx] at g1
    rw [hy] at g3
    cases g1
    cases g3
    have nT' : ¬ N' T := fun z => L.tr T z nT
    have nU' : ¬ N' U := fun z => L.tr U z (by
      by_cases e : U = T
      · rw [e]; exact nT
      · rw [upd_ne e] at nU; exact nU)
    have e12 : (E1.trans E2) = (E1.trans E2) := rfl
    refine mk_tup nU' upd_same (by show 2 ≤ 16777216; decide) (.cons (by rw [Nat.zero_add]; exact mk_int) (.cons ?_ .nil))
    exact mk_tup nT' (E2 _ _ upd_same) (by show 2 ≤ 16777216; decide) (.cons (RV.ext (E1.trans E2) (L.rv g2)) (.cons (RV.ext (E1.trans E2) (L.rv g4)) .nil))
def iEnumZip (g : EF (List PV)) : EF (List PV) := fun e st => (g e st).bind fun vs st => match vs with
  | [.tup l, .tup m] => .ok (enumF 0 (zipF l m)) st
  | _ => .stuck
theorem mi_enumZip {X : Cx} {W : WX} {c d : Expr} {g : EF (List PV)} {p pos p2 pos2 tpos : Pos} {elts : List Expr} {kk : Nat} (hg : Gl X "enumerate") (hm : X.mg "enumerate" = none) (hg2 : Gl X "zip") (hm2 : X.mg "zip" = none) (ha : MA X W [c, d] g)
    (hs : starEach [c, d] X.env = (false, eval c X.env) :: starEach [d] X.env := by rfl) (hpl : (backTo pos2 (starEach [d] X.env)).any (·.1) = false := by rfl)
    (hs2 : starEach [.Call (.Name "zip" p2) [c, d] [] pos2] X.env = (false, eval (.Call (.Name "zip" p2) [c, d] [] pos2) X.env) :: starEach [] X.env := by rfl) :
    MI X W (.Tuple elts kk tpos) (.Call (.Name "enumerate" p) [.Call (.Name "zip" p2) [c, d] [] pos2] [] pos) (iEnumZip g) := by
  obtain ⟨t, pt, q⟩ := ha
  refine ⟨_, pi_enumZ hg hm hg2 hm2 pt hs hpl hs2, fun B ρ env st σ H R Rp h => ?_⟩
  refine q B ρ env st σ H _ Rp (ROk.mono (ROk.bind h) fun vl ρ1 st1 H1 E1 h us rus => ?_)
  split at h
  · rename_i l m
    obtain ⟨u, v, rfl, ru, rv⟩ := rus.two
    obtain ⟨z, xs, rfl, n, h1, h2, h3⟩ := rv_tup ru
    obtain ⟨y, ys, rfl, n', h1', h2', h3'⟩ := rv_tup rv
    exact ⟨z, y, xs, ys, rfl, SqT.of h1, SqT.of h1', h ρ1 H1 (.refl E1.rep) _ H1 Ext.refl (iter_nest (fun H k => SqT.of (k z _ h1 n)) (fun H k => SqT.of (k y _ h1' n')) (by rw [← h3.len]; exact h2) h3 h3')⟩
  · exact h.elim
end PL
/-! PLr: sorted of a tuple of ints; an item popped and appended. -/
namespace PL
open PySem PySem.Spec L2
section
open PyProof.Rows SrtO
variable {prog : Program} {w : World} {A : Around} {E : Value → Shared → Prop} {s : Shared}
theorem collect_tupG {l : Addr} {vs : List Value} {Q : List Value → Shared → Prop} (hl : s.heap.IsTuple l vs.toArray) (hz : vs.length ≤ sizeLine)
    (h : Q vs { s with heap := (s.heap.push (seqObj "list" #[] 0)).update s.heap.objs.size (Obj.mapSeq (· ++ vs.toArray)) }) : wpAny (model prog w) A (collect (.ref l)) Q E s := by
  obtain ⟨o, ho, hc, n, hd⟩ := id hl
  unfold collect
  refine wpAny_bind (wpAny_runValue (codeAny_builtin entry_proto_collect' ?_))
  refine (show wpAny (model prog w) _ (newList [] >>= fun v => again (.builtin "list.__iadd__" ⟨[v, .ref l], []⟩)) _ _ s from wpAny_bind (wpAny_newList (wpAny_pure ⟨Code.quiet_builtin _ (by decide +kernel), codeAny_builtin entry_list_iadd' ?_⟩)))
  refine (show wpAny (model prog w) _ (Builtin.List.listExtendWith (.ref s.heap.objs.size) (.ref l) (.ref s.heap.objs.size)) _ _ { s with heap := s.heap.push (seqObj "list" #[] 0) } from ?_)
  unfold Builtin.List.listExtendWith
  have ho2 : (s.heap.push (seqObj "list" #[] 0)).get? l = some o := Heap.get?_push_of_some _ ho
  refine wpAny_bind (wpAny_typeOf (T := "tuple") ⟨o, ho2, hc⟩ ?_)
  rw [if_pos (by simp)]
  refine wpAny_bind (listItems_at ho2 hd (wpAny_bind (listItems_at (xs := #[]) (n := 0) (Heap.get?_push_size _ rfl) rfl ?_)))
  rw [if_neg (by simp)]
  refine wpAny_bind (listUpdate_at (xs := #[]) (n := 0) (Heap.get?_push_size _ rfl) rfl ?_ (Nat.zero_le _) (by show (#[] ++ vs.toArray).size ≤ sizeLine + 1; simp only [Array.size_append, List.size_toArray, List.length_nil]; omega))
  refine wpAny_pure (wpAny_bind (wpAny_load (get?_update_seq (Heap.get?_push_size _ rfl) _) ?_))
  refine (show wpAny (model prog w) A (pure ((#[] : Array Value) ++ vs.toArray).toList) Q E _ from ?_)
  rw [show ((#[] : Array Value) ++ vs.toArray).toList = vs by simp]
  exact wpAny_pure h
theorem sorted_tup {l : Addr} {vs : List Value} {ltv : Value → Value → Bool} {Q : Value → Shared → Prop} (O : Swo ltv) (hl : s.heap.IsTuple l vs.toArray) (hz : vs.length ≤ sizeLine)
    (hS : 2 ≤ vs.length → ∀ (g : Heap) (a : Addr), g.get? a = some (seqObj "list" vs.toArray 0) → (∀ b o, s.heap.get? b = some o → b ≠ a ∧ g.get? b = some o) → SortableO prog w A.in1.in1 { s with heap := g } a vs ltv)
    (h : ∀ out : List Value, Srtd ltv out → Stb ltv out vs → Q (.ref (s.heap.objs.size + 1)) { s with heap := sortedAll s.heap vs out.toArray }) : wpAny (model prog w) A (call (.builtin "sorted") [.ref l]) Q E s := by
  refine Calls.call_function_entry kind_sorted plain_sorted entry_sorted (args_sorted1 _) ?_
  unfold Builtin.«sorted»
  refine wpAny_bind (m := checkCount "sorted" 1 1 _) (wpAny_pure (wpAny_bind (collect_tupG hl hz (wpAny_bind (wpAny_newList ?_ hz)))))
  have es : ((s.heap.push (seqObj "list" #[] 0)).update s.heap.objs.size (Obj.mapSeq (· ++ vs.toArray))).objs.size = s.heap.objs.size + 1 := by rw [Heap.size_update, size_push']
  generalize eg : ((s.heap.push (seqObj "list" #[] 0)).update s.heap.objs.size (Obj.mapSeq (· ++ vs.toArray))) = g0 at es
  have oL : (g0.push (seqObj "list" vs.toArray 0)).get? (s.heap.objs.size + 1) = some (seqObj "list" vs.toArray 0) := by rw [← es]; exact Heap.get?_push_size _ rfl
  have keep : ∀ b o, s.heap.get? b = some o → b ≠ s.heap.objs.size + 1 ∧ (g0.push (seqObj "list" vs.toArray 0)).get? b = some o := fun b o q => by
    have lt : b < s.heap.objs.size := Heap.lt_size q
    refine ⟨Nat.ne_of_lt (Nat.lt_succ_of_lt lt), Heap.get?_push_of_some _ ?_⟩
    rw [← eg, Heap.get?_update_ne _ _ _ _ (Nat.ne_of_lt lt)]
    exact Heap.get?_push_of_some _ q
  refine (show wpAny _ _ _ _ _ { s with heap := g0.push (seqObj "list" vs.toArray 0) } from ?_)
  rw [es]
  refine wpAny_bind (wpAny_holding (wpAny_call_entry slot_list_sort ⟨_, oL, rfl⟩ entry_list_sort (list_sort_ord O oL hz (fun h2 => hS h2 _ _ oL keep) fun out hs hb => ⟨_, rfl, ?_⟩) (args_list_sort _)))
  have q := h out hs hb
  unfold sortedAll at q
  rw [eg] at q
  exact wpAny_pure ⟨_, rfl, q⟩
end
/-! ### ints in their order -/
def insI (x : Int) : List Int → List Int
  | [] => [x]
  | y :: l => if x ≤ y then x :: y :: l else y :: insI x l
def isort : List Int → List Int
  | [] => []
  | x :: l => insI x (isort l)
theorem insI_perm (x : Int) : ∀ l, (insI x l).Perm (x :: l)
  | [] => .refl _
  | y :: l => by
    unfold insI
    split
    · exact .refl _
    · exact ((insI_perm x l).cons y).trans (.swap x y l)
theorem isort_perm : ∀ l, (isort l).Perm l
  | [] => .refl _
  | x :: l => (insI_perm x (isort l)).trans ((isort_perm l).cons x)
theorem insI_sorted (x : Int) : ∀ l, l.Pairwise (· ≤ ·) → (insI x l).Pairwise (· ≤ ·)
  | [], _ => by unfold insI; simp
  | y :: l, h => by
    unfold insI
    obtain ⟨h1, h2⟩ := List.pairwise_cons.mp h
    split
    · rename_i hxy
      refine List.pairwise_cons.mpr ⟨fun z hz => ?_, h⟩
      rcases List.mem_cons.mp hz with e | e
      · rw [e]; exact hxy
      · exact Int.le_trans hxy (h1 z e)
    · rename_i hxy
      refine List.pairwise_cons.mpr ⟨fun z hz => ?_, insI_sorted x l h2⟩
      rcases List.mem_cons.mp ((insI_perm x l).subset hz) with e | e
      · rw [e]; omega
      · exact h1 z e
theorem isort_sorted : ∀ l, (isort l).Pairwise (· ≤ ·)
  | [] => .nil
  | x :: l => insI_sorted x _ (isort_sorted l)
theorem sorted_unique : ∀ {l m : List Int}, l.Perm m → l.Pairwise (· ≤ ·) → m.Pairwise (· ≤ ·) → l = m
  | [], m, p, _, _ => (List.Perm.nil_eq p)
  | x :: l, [], p, _, _ => by have := p.length_eq; simp at this
  | x :: l, y :: m, p, h, k => by
    obtain ⟨h1, h2⟩ := List.pairwise_cons.mp h
    obtain ⟨k1, k2⟩ := List.pairwise_cons.mp k
    have e : x = y := by
      have a : x ≤ y := by
        rcases List.mem_cons.mp (p.symm.subset (List.mem_cons_self ..)) with z | z
        · omega
        · exact h1 y z
      have b : y ≤ x := by
        rcases List.mem_cons.mp (p.subset (List.mem_cons_self ..)) with z | z
        · omega
        · exact k1 x z
      omega
    subst e
    rw [sorted_unique (List.Perm.cons_inv p) h2 k2]
theorem isort_of {l m : List Int} (p : l.Perm m) (h : l.Pairwise (· ≤ ·)) : l = isort m := sorted_unique (p.trans (isort_perm m).symm) h (isort_sorted m)
def sortedF : List PV → Option (List PV)
  | [.tup l] => (intsOf l).map fun ns => (isort ns).map .int
  | [.lst l] => (intsOf l).map fun ns => (isort ns).map .int
  | _ => none
def rSortTup (K : PySem.W.Frag) : List V → Hp → VK → Prop := fun vs H Q => ∃ (a : Addr) (ns : List Int), vs = [V.ref a] ∧ SqT K H a (ns.map V.int) ∧
  ∀ (ms : List Int) (p : Addr), ms.Perm ns → ms.Pairwise (· ≤ ·) → H p = none → Q (.ref p) (upd H p (.lst (ms.map V.int)))
section
variable {X : Cx}
open SrtO in
theorem cr_sortTup : CallR X (.builtin "sorted") (rSortTup X.K) := by
  intro pins s σ H vs us Q I r h
  obtain ⟨a, ns, rfl, hs, q⟩ := h
  obtain ⟨its, rv, hl, hz⟩ := I.tuple hs
  rw [Vals.ref1 r]
  have hi := rv.ints
  refine sorted_tup swo_int hl (by rw [← rv.length]; exact hz) (fun h2 g a' _ _ => ints_sortable hi h2) fun out o1 o2 => ?_
  obtain ⟨k1, k2, k3⟩ := ints_out hi o1 o2
  obtain ⟨ep, he⟩ := PyProof.Rows.sortedAll_at s.heap its out.toArray
  have hlen : ((out.map iv).map V.int).length ≤ sizeLine := by
    rw [List.length_map] at hz
    rw [List.length_map, k2.length_eq]
    exact hz
  refine ⟨.ref _, upd H (s.heap.objs.size + 1) (.lst ((out.map iv).map V.int)), ?_, rfl, q _ _ k2 k3 (I.hok.fresh (Nat.le_succ _))⟩
  exact I.laid (t' := s.toks) (fun _ _ => PyProof.Rows.sortedAll_old) (Nat.le_succ _) ⟨hlen, out, ep, vals_of_ints k1, he⟩
theorem c_sorted : CallL X (.builtin "sorted") sortedF := by
  refine ⟨_, CallR.or cr_sortTup cr_sortedI, fun N ρ H xs ps z Q hN hx ho hQ => ?_⟩
  unfold sortedF at ho
  split at ho
  · rename_i l
    cases e : intsOf l with
    | none => rw [e] at ho; cases ho
    | some ns =>
      rw [e] at ho
      cases ho
      obtain ⟨v, rfl, r, _⟩ := hx.one
      obtain ⟨a, ys, rfl, n, h1, h1', h2⟩ := rvb_tup r
      rw [intsOf_eq e] at h2
      have ey := h2.ints
      subst ey
      rw [List.length_map] at h1'
      exact .inl ⟨a, ns, rfl, SqT.of h1, fun ms p pm hs np => by
        have e2 := isort_of pm hs
        subst e2
        exact hQ H p _ _ Ext.refl np rfl (by rw [List.length_map, (isort_perm ns).length_eq]; exact h1') (RVs.ofInts _)⟩
  · rename_i l
    cases e : intsOf l with
    | none => rw [e] at ho; cases ho
    | some ns =>
      rw [e] at ho
      cases ho
      obtain ⟨v, rfl, r, _⟩ := hx.one
      obtain ⟨a, ys, rfl, h1, h1', h2⟩ := rvb_lst r
      rw [intsOf_eq e] at h2
      have ey := h2.ints
      subst ey
      rw [List.length_map] at h1'
      exact .inr ⟨a, ns, rfl, SqL.of h1, fun ms p pm hs np => by
        have e2 := isort_of pm hs
        subst e2
        exact hQ H p _ _ Ext.refl np rfl (by rw [List.length_map, (isort_perm ns).length_eq]; exact h1') (RVs.ofInts _)⟩
  · cases ho
end
section
variable {X : Cx} {W : WX} {e : Expr} {es : List Expr} {g : EF (List PV)} {p pos : Pos}
theorem g_sorted (hm : X.mg "sorted" = none) (ha : MAb X W (e :: es) g) (hg : Gl X "sorted" := by rfl) (he : starEach (e :: es) X.env = (false, eval e X.env) :: starEach es X.env := by rfl) (hpl : (backTo pos (starEach es X.env)).any (·.1) = false := by rfl) : ML X W (.Call (.Name "sorted" p) (e :: es) [] pos) (lB sortedF g) := ml_callB c_sorted hg hm (by decide +kernel) ha (by decide) (by decide) he hpl
end
/-! ### x.append(y.pop(k)), own lists both -/
def sAppPop (i j : Nat) (a : EF PV) : SF := fun e st => match e[i]?, e[j]? with
  | some (.own l), some (.own m) => (a e st).toS e fun v st => match v with
    | .int k => match popAt m k with
      | some (y, m') => if l.length < LINE then .nx ((e.set j (.own m')).set i (.own (l ++ [y]))) st else .stuck
      | none => .stuck
    | _ => .stuck
  | _, _ => .stuck
theorem RVs.eraseIdx {K : PySem.W.Frag} {N : Addr → Prop} {ρ : List Addr} {H : Hp} : ∀ {l : List PV} {xs : List V} (i : Nat), RVs K N ρ H l xs → RVs K N ρ H (l.eraseIdx i) (xs.eraseIdx i)
  | [], _, i, h => by rw [h.unnil]; exact .nil
  | p :: ps, _, 0, h => by
    obtain ⟨v, vs, rfl, _, t⟩ := h.uncons
    exact t
  | p :: ps, _, i + 1, h => by
    obtain ⟨v, vs, rfl, r, t⟩ := h.uncons
    exact .cons r (RVs.eraseIdx i t)
section
variable {X : Cx} {W : WX} {e : Expr} {fe : EF PV} {pos apos cpos pos' apos2 cpos2 pos2 : Pos} {i j : Nat} {x y : Str}
theorem ms_appPop (h : ME X W e fe) (hij : i ≠ j) (hN : X.N[i]? = some x) (hv : Vis X.env.scope x) (hN2 : X.N[j]? = some y) (hv2 : Vis X.env.scope y) (hd : (x == ("__debug__" : Str)) = false := by decide) (hcd : (x == ("__classdict__" : Str)) = false := by decide) (hd2 : (y == ("__debug__" : Str)) = false := by decide) (hcd2 : (y == ("__classdict__" : Str)) = false := by decide)
    (hbase : attributeBase (.Name x pos') "append" X.env (eval (.Name x pos') X.env) = eval (.Name x pos') X.env := by rfl)
    (hfew : ((backTo cpos (starEach [.Call (.Attribute (.Name y pos2) "pop" apos2) [e] [] cpos2] X.env)).all (fun x => !x.1) && (backToKw cpos (keywordEach [] X.env)).all (fun x => x.1.isSome) && decide ([Expr.Call (.Attribute (.Name y pos2) "pop" apos2) [e] [] cpos2].length + ([] : List Keyword).length + (if ([] : List Keyword).isEmpty then 0 else 1) < 30)) = true := by rfl)
    (hline : (apos.endLine == cpos.line) = true := by rfl) (hs : starEach [.Call (.Attribute (.Name y pos2) "pop" apos2) [e] [] cpos2] X.env = (false, eval (.Call (.Attribute (.Name y pos2) "pop" apos2) [e] [] cpos2) X.env) :: starEach [] X.env := by rfl) (hplain : (backTo cpos (starEach [] X.env)).any (·.1) = false := by rfl)
    (hbase2 : attributeBase (.Name y pos2) "pop" X.env (eval (.Name y pos2) X.env) = eval (.Name y pos2) X.env := by rfl)
    (hfew2 : ((backTo cpos2 (starEach [e] X.env)).all (fun x => !x.1) && (backToKw cpos2 (keywordEach [] X.env)).all (fun x => x.1.isSome) && decide ([e].length + ([] : List Keyword).length + (if ([] : List Keyword).isEmpty then 0 else 1) < 30)) = true := by rfl)
    (hline2 : (apos2.endLine == cpos2.line) = true := by rfl) (hs2 : starEach [e] X.env = (false, eval e X.env) :: starEach [] X.env := by rfl) (hplain2 : (backTo cpos2 (starEach [] X.env)).any (·.1) = false := by rfl)
    (hsw : swapsWith (.Call (.Attribute (.Name x pos') "append" apos) [.Call (.Attribute (.Name y pos2) "pop" apos2) [e] [] cpos2] [] cpos) none pos.line X.env = pure false := by rfl) :
    MS X W (.Expr (.Call (.Attribute (.Name x pos') "append" apos) [.Call (.Attribute (.Name y pos2) "pop" apos2) [e] [] cpos2] [] cpos) pos) (sAppPop i j fe) := by
  obtain ⟨t, p, q⟩ := h
  refine ⟨_, ps_expr (pe_bm PySem.F.plainAttrs_list PySem.F.slot_list_append PySem.F.type_list_append mt_append (pe_var hN hv hd hcd) (pa_cons (pe_bm PySem.F.plainAttrs_list PySem.F.slot_list_pop PySem.F.type_list_pop mt_popAt (pe_var hN2 hv2 hd2 hcd2) (pa_cons p pa_nil hs2) hbase2 hfew2 hline2 hs2 hplain2) pa_nil hs) hbase hfew hline hs hplain) hsw, fun B ρ env st σ H D R h => ?_⟩
  unfold sAppPop at h
  cases e0 : env[i]? with
  | none => rw [e0] at h; exact h.elim
  | some ev =>
    cases e1 : env[j]? with
    | none => rw [e0, e1] at h; cases ev <;> exact h.elim
    | some ew =>
      rw [e0, e1] at h
      cases ev with
      | non => exact h.elim
      | val _ => exact h.elim
      | own l =>
        cases ew with
        | non => exact h.elim
        | val _ => exact h.elim
        | own m =>
          obtain ⟨z, xs, h1, h2, h3, h4⟩ := R.slot i _ e0
          obtain ⟨z2, ys, k1, k2, k3, k4⟩ := R.slot j _ e1
          refine ⟨.ref z, h1, .inl ⟨rfl, xs, SqL.of h2⟩, .ref z2, k1, .inl ⟨rfl, ys, SqL.of k2⟩, ?_⟩
          refine q B ρ env st σ H _ R (ROk.mono (SOk.toS h) fun v ρ1 st1 H1 E1 n1 u ru => ?_)
          obtain ⟨z', ws, g1, g2, g3, g4⟩ := E1.rep.slot j _ e1
          rw [k1] at g1
          cases g1
          cases v with
          | int k =>
            dsimp only at n1
            cases ep : popAt m k with
            | none => rw [ep] at n1; exact n1.elim
            | some r =>
              obtain ⟨pv, m'⟩ := r
              rw [ep] at n1
              dsimp only at n1
              unfold popAt at ep
              cases ei : ixN m.length k with
              | none => rw [ei] at ep; cases ep
              | some jj =>
                rw [ei] at ep
                dsimp only at ep
                cases eg : m[jj]? with
                | none => rw [eg] at ep; cases ep
                | some y0 =>
                  rw [eg] at ep
                  cases ep
                  by_cases hl : l.length < LINE
                  · rw [if_pos hl] at n1
                    obtain ⟨yv, b1, b2⟩ := g4.get eg
                    have lw := g4.len
                    obtain ⟨c1, c2, c3, c4⟩ := ixN_seq ei
                    have eu := rv_int ru
                    subst eu
                    have hL : LINE = 16777216 := rfl
                    refine ⟨z2, ws, k, jj, yv, rfl, rfl, g2, by omega, by omega, by rw [lw]; exact c1, b1, ?_⟩
                    have P1 := E1.rep.ownWrite (m := m.eraseIdx jj) (ys := ws.eraseIdx jj) e1 k1 (Nat.le_trans (List.length_eraseIdx_le _ _) g3) (g4.eraseIdx jj)
                    have e0' : (env.set j (.own (m.eraseIdx jj)))[i]? = some (.own l) := by rw [List.getElem?_set_ne (Ne.symm hij)]; exact e0
                    obtain ⟨z'', xs', d1, d2, d3, d4⟩ := P1.rep.slot i _ e0'
                    rw [h1] at d1
                    cases d1
                    have hl2 : (xs' ++ [yv]).length ≤ LINE := by rw [List.length_append, d4.len, List.length_singleton]; omega
                    exact ⟨z, xs', yv, rfl, rfl, d2, by rw [← LINE_eq, d4.len]; exact hl, n1 ρ1 σ _ (P1.trans (P1.rep.ownWrite e0' h1 hl2 (d4.append (.cons (P1.rv b2) .nil))))⟩
                  · rw [if_neg hl] at n1
                    exact n1.elim
          | _ => exact n1.elim
theorem g_appPop (i j : Nat) (h : ME X W e fe) (hij : i ≠ j := by decide) (hN : X.N[i]? = some x := by rfl) (hv : Vis X.env.scope x := by first | exact .inl rfl | exact .inr (.inl rfl)) (hN2 : X.N[j]? = some y := by rfl) (hv2 : Vis X.env.scope y := by first | exact .inl rfl | exact .inr (.inl rfl)) (hd : (x == ("__debug__" : Str)) = false := by decide) (hcd : (x == ("__classdict__" : Str)) = false := by decide) (hd2 : (y == ("__debug__" : Str)) = false := by decide) (hcd2 : (y == ("__classdict__" : Str)) = false := by decide)
    (hbase : attributeBase (.Name x pos') "append" X.env (eval (.Name x pos') X.env) = eval (.Name x pos') X.env := by rfl)
    (hfew : ((backTo cpos (starEach [.Call (.Attribute (.Name y pos2) "pop" apos2) [e] [] cpos2] X.env)).all (fun x => !x.1) && (backToKw cpos (keywordEach [] X.env)).all (fun x => x.1.isSome) && decide ([Expr.Call (.Attribute (.Name y pos2) "pop" apos2) [e] [] cpos2].length + ([] : List Keyword).length + (if ([] : List Keyword).isEmpty then 0 else 1) < 30)) = true := by rfl)
    (hline : (apos.endLine == cpos.line) = true := by rfl) (hs : starEach [.Call (.Attribute (.Name y pos2) "pop" apos2) [e] [] cpos2] X.env = (false, eval (.Call (.Attribute (.Name y pos2) "pop" apos2) [e] [] cpos2) X.env) :: starEach [] X.env := by rfl) (hplain : (backTo cpos (starEach [] X.env)).any (·.1) = false := by rfl)
    (hbase2 : attributeBase (.Name y pos2) "pop" X.env (eval (.Name y pos2) X.env) = eval (.Name y pos2) X.env := by rfl)
    (hfew2 : ((backTo cpos2 (starEach [e] X.env)).all (fun x => !x.1) && (backToKw cpos2 (keywordEach [] X.env)).all (fun x => x.1.isSome) && decide ([e].length + ([] : List Keyword).length + (if ([] : List Keyword).isEmpty then 0 else 1) < 30)) = true := by rfl)
    (hline2 : (apos2.endLine == cpos2.line) = true := by rfl) (hs2 : starEach [e] X.env = (false, eval e X.env) :: starEach [] X.env := by rfl) (hplain2 : (backTo cpos2 (starEach [] X.env)).any (·.1) = false := by rfl)
    (hsw : swapsWith (.Call (.Attribute (.Name x pos') "append" apos) [.Call (.Attribute (.Name y pos2) "pop" apos2) [e] [] cpos2] [] cpos) none pos.line X.env = pure false := by rfl) :
    MS X W (.Expr (.Call (.Attribute (.Name x pos') "append" apos) [.Call (.Attribute (.Name y pos2) "pop" apos2) [e] [] cpos2] [] cpos) pos) (sAppPop i j fe) := ms_appPop h hij hN hv hN2 hv2 hd hcd hd2 hcd2 hbase hfew hline hs hplain hbase2 hfew2 hline2 hs2 hplain2 hsw
end
section
variable {e : Env} {st : Sto}
@[simp] theorem sAppPop_e (i j : Nat) (a : EF PV) : sAppPop i j a e st = (match e[i]?, e[j]? with
  | some (.own l), some (.own m) => (a e st).toS e fun v st => match v with
    | .int k => match popAt m k with
      | some (y, m') => if l.length < LINE then .nx ((e.set j (.own m')).set i (.own (l ++ [y]))) st else .stuck
      | none => .stuck
    | _ => .stuck
  | _, _ => .stuck) := rfl
@[simp] theorem iEnumZip_e (g : EF (List PV)) : iEnumZip g e st = (g e st).bind fun vs st => match vs with
  | [.tup l, .tup m] => .ok (enumF 0 (zipF l m)) st
  | _ => .stuck := rfl
end
end PL
/-! Ord: steps behind one another: which orders save most. -/
namespace Ord
def QQ (s : Nat → Int) : List Nat → Int
  | [] => 1
  | x :: r => (100 - s x) * QQ s r
def VV (s a : Nat → Int) : List Nat → Int
  | [] => 0
  | x :: r => 100 * a x * QQ s r + 100 * VV s a r
/-- i may stand ahead of j -/
def Le (s a : Nat → Int) (i j : Nat) : Prop := a i * s j ≤ a j * s i
/-- all steps are steps -/
structure Good (s a : Nat → Int) : Prop where
  s0 : ∀ i, 0 ≤ s i
  s1 : ∀ i, s i < 100
  a0 : ∀ i, 0 ≤ a i
  ne : ∀ i, s i = 0 → a i ≠ 0
def lexp : Nat → List Nat → List (List Nat)
  | 0, _ => [[]]
  | n + 1, l => l.flatMap fun x => (lexp n (l.erase x)).map (x :: ·)
section
variable {s a : Nat → Int}
theorem QQ_pos (g : Good s a) : ∀ l, 0 < QQ s l
  | [] => by show (0 : Int) < 1; decide
  | x :: r => by
    have h := QQ_pos g r
    have := g.s1 x
    show 0 < (100 - s x) * QQ s r
    exact Int.mul_pos (by omega) h
theorem QQ_perm {l m : List Nat} (h : l.Perm m) : QQ s l = QQ s m := by
  induction h with
  | nil => rfl
  | cons x _ ih => show (100 - s x) * _ = (100 - s x) * _; rw [ih]
  | swap x y l => show (100 - s y) * ((100 - s x) * QQ s l) = (100 - s x) * ((100 - s y) * QQ s l); exact Int.mul_left_comm ..
  | trans _ _ h1 h2 => exact h1.trans h2
theorem VV_two (i j : Nat) (r : List Nat) : VV s a (i :: j :: r) - VV s a (j :: i :: r) = 100 * QQ s r * (a j * s i - a i * s j) := by
  show (100 * a i * ((100 - s j) * QQ s r) + 100 * (100 * a j * QQ s r + 100 * VV s a r)) - (100 * a j * ((100 - s i) * QQ s r) + 100 * (100 * a i * QQ s r + 100 * VV s a r)) = _
  grind
/-- two neighbours that stand wrong: exchanged they save more -/
theorem VV_swap (g : Good s a) {i j : Nat} (h : ¬ Le s a i j) (r : List Nat) : ∀ p, VV s a (p ++ i :: j :: r) < VV s a (p ++ j :: i :: r)
  | [] => by
    have e := VV_two (s := s) (a := a) i j r
    have q := QQ_pos g r
    have h' : 0 < a i * s j - a j * s i := by unfold Le at h; omega
    have m := Int.mul_pos (Int.mul_pos (show (0 : Int) < 100 by decide) q) h'
    have e2 : 100 * QQ s r * (a j * s i - a i * s j) = - (100 * QQ s r * (a i * s j - a j * s i)) := by rw [← Int.mul_neg]; congr 1; omega
    show VV s a (i :: j :: r) < VV s a (j :: i :: r)
    omega
  | x :: p => by
    have ih := VV_swap g h r p
    have eq : QQ s (p ++ i :: j :: r) = QQ s (p ++ j :: i :: r) := QQ_perm (List.Perm.append_left p (List.Perm.swap j i r))
    show 100 * a x * QQ s (p ++ i :: j :: r) + 100 * VV s a (p ++ i :: j :: r) < 100 * a x * QQ s (p ++ j :: i :: r) + 100 * VV s a (p ++ j :: i :: r)
    rw [eq]
    omega
/-- a step that ties with all ahead of it may go to the front -/
theorem VV_front {x : Nat} (r : List Nat) : ∀ p, (∀ y ∈ p, a y * s x = a x * s y) → VV s a (p ++ x :: r) = VV s a (x :: (p ++ r))
  | [], _ => rfl
  | y :: p, h => by
    have ih := VV_front r p fun z hz => h z (List.mem_cons_of_mem _ hz)
    have e := VV_two (s := s) (a := a) y x (p ++ r)
    rw [h y (List.mem_cons_self ..), Int.sub_self, Int.mul_zero] at e
    have eq : QQ s (p ++ x :: r) = QQ s (x :: (p ++ r)) := QQ_perm List.perm_middle
    have e1 : VV s a (y :: p ++ x :: r) = VV s a (y :: x :: (p ++ r)) := by
      show 100 * a y * QQ s (p ++ x :: r) + 100 * VV s a (p ++ x :: r) = 100 * a y * QQ s (x :: (p ++ r)) + 100 * VV s a (x :: (p ++ r))
      rw [eq, ih]
    rw [e1]
    show _ = VV s a (x :: y :: (p ++ r))
    omega
theorem Le.trans (g : Good s a) {i j k : Nat} (h1 : Le s a i j) (h2 : Le s a j k) : Le s a i k := by
  unfold Le at *
  by_cases hj : s j = 0
  · have haj : 0 < a j := by have := g.a0 j; have := g.ne j hj; omega
    rw [hj, Int.mul_zero] at h2
    have hk : s k = 0 := by
      have := g.s0 k
      rcases Int.lt_or_eq_of_le this with q | q
      · have := Int.mul_pos haj q
        omega
      · exact q.symm
    rw [hk, Int.mul_zero]
    exact Int.mul_nonneg (g.a0 k) (g.s0 i)
  · have hj : 0 < s j := by have := g.s0 j; omega
    have m1 := Int.mul_le_mul_of_nonneg_right h1 (g.s0 k)
    have m2 := Int.mul_le_mul_of_nonneg_right h2 (g.s0 i)
    have : a i * s k * s j ≤ a k * s i * s j := by grind
    exact Int.le_of_mul_le_mul_right this hj
theorem Le.total (i j : Nat) : Le s a i j ∨ Le s a j i := by
  unfold Le
  omega
theorem Le.refl (i : Nat) : Le s a i i := by
  unfold Le
  omega
/-- no two neighbours stand wrong -/
def Sorted (s a : Nat → Int) (o : List Nat) : Prop := ∀ p i j r, o = p ++ i :: j :: r → Le s a i j
theorem Sorted.tail {x : Nat} {o : List Nat} (h : Sorted s a (x :: o)) : Sorted s a o := fun p i j r e => h (x :: p) i j r (by rw [e]; rfl)
theorem Sorted.all (g : Good s a) : ∀ {x : Nat} {o : List Nat}, Sorted s a (x :: o) → ∀ y ∈ o, Le s a x y
  | _, [], _, y, hy => by cases hy
  | x, z :: o, h, y, hy => by
    have hz := h [] x z o rfl
    rcases List.mem_cons.mp hy with e | e
    · rw [e]; exact hz
    · exact hz.trans g (Sorted.all g h.tail y e)
theorem Sorted.mid (g : Good s a) {x : Nat} {r : List Nat} : ∀ {p : List Nat}, Sorted s a (p ++ x :: r) → ∀ y ∈ p, Le s a y x
  | [], _, y, hy => by cases hy
  | z :: p, h, y, hy => by
    rcases List.mem_cons.mp hy with e | e
    · rw [e]
      exact Sorted.all g (x := z) (o := p ++ x :: r) h x (by simp)
    · exact Sorted.mid g (p := p) (Sorted.tail (x := z) h) y e
def Opt (s a : Nat → Int) (l o : List Nat) : Prop := o.Perm l ∧ ∀ o', o'.Perm l → VV s a o' ≤ VV s a o
theorem Opt.sorted (g : Good s a) {l o : List Nat} (h : Opt s a l o) : Sorted s a o := fun p i j r e => by
  refine Classical.byContradiction fun hn => ?_
  subst e
  have h1 := VV_swap g hn r p
  have h2 := h.2 (p ++ j :: i :: r) ((List.Perm.append_left p (List.Perm.swap i j r)).trans h.1)
  omega
theorem exists_min (g : Good s a) : ∀ (l : List Nat), l ≠ [] → ∃ x ∈ l, ∀ y ∈ l, Le s a x y
  | [], h => absurd rfl h
  | [x], _ => ⟨x, List.mem_cons_self .., fun y hy => by
      have e : y = x := by simpa using hy
      rw [e]
      exact .refl x⟩
  | x :: y :: l, _ => by
    obtain ⟨z, hz, hm⟩ := exists_min g (y :: l) (by simp)
    rcases Le.total (s := s) (a := a) x z with q | q
    · refine ⟨x, List.mem_cons_self .., fun w hw => ?_⟩
      rcases List.mem_cons.mp hw with e | e
      · rw [e]; exact .refl x
      · exact q.trans g (hm w e)
    · refine ⟨z, List.mem_cons_of_mem _ hz, fun w hw => ?_⟩
      rcases List.mem_cons.mp hw with e | e
      · rw [e]; exact q
      · exact hm w e
instance (i j : Nat) : Decidable (Le s a i j) := by unfold Le; infer_instance
/-- ahead of which none has to stand -/
def ableB (s a : Nat → Int) (l : List Nat) (x : Nat) : Bool := l.all fun y => decide (Le s a x y)
def greedy (s a : Nat → Int) : Nat → List Nat → List Nat
  | 0, _ => []
  | n + 1, l => match l.filter (ableB s a l) with
    | [] => []
    | x :: _ => x :: greedy s a n (l.erase x)
theorem mem_lexp : ∀ (n : Nat) (l o : List Nat), l.length = n → (o ∈ lexp n l ↔ o.Perm l)
  | 0, l, o, hl => by
    have e : l = [] := List.eq_nil_of_length_eq_zero hl
    subst e
    unfold lexp
    simp
  | n + 1, l, o, hl => by
    unfold lexp
    simp only [List.mem_flatMap, List.mem_map]
    constructor
    · rintro ⟨x, hx, o', ho, rfl⟩
      have q := (mem_lexp n (l.erase x) o' (by rw [List.length_erase_of_mem hx]; omega)).mp ho
      exact (q.cons x).trans (List.perm_cons_erase hx).symm
    · intro h
      cases o with
      | nil =>
        have := h.length_eq
        rw [hl] at this
        simp at this
      | cons x o' =>
        have hx : x ∈ l := h.subset (List.mem_cons_self ..)
        refine ⟨x, hx, o', (mem_lexp n (l.erase x) o' (by rw [List.length_erase_of_mem hx]; omega)).mpr ?_, rfl⟩
        exact (List.cons_perm_iff_perm_erase.mp h).2
theorem filter_split {p : Nat → Bool} : ∀ {l : List Nat} {x : Nat} {r : List Nat}, l.filter p = x :: r → ∃ l1 l2, l = l1 ++ x :: l2 ∧ p x = true ∧ ∀ y ∈ l1, p y = false
  | [], _, _, h => by simp at h
  | z :: l, x, r, h => by
    cases hp : p z with
    | true =>
      rw [List.filter_cons_of_pos hp] at h
      cases h
      exact ⟨[], l, rfl, hp, fun _ h => by cases h⟩
    | false =>
      rw [List.filter_cons_of_neg (by rw [hp]; exact Bool.false_ne_true)] at h
      obtain ⟨l1, l2, e, h1, h2⟩ := filter_split h
      refine ⟨z :: l1, l2, by rw [e]; rfl, h1, fun y hy => ?_⟩
      rcases List.mem_cons.mp hy with q | q
      · rw [q]; exact hp
      · exact h2 y q
theorem head_flatMap {α β : Type} {f : α → List β} {l1 l2 : List α} {x : α} {b : β} (h1 : ∀ y ∈ l1, f y = []) (h2 : (f x).head? = some b) : ((l1 ++ x :: l2).flatMap f).head? = some b := by
  rw [List.flatMap_append, List.flatMap_cons]
  have e : l1.flatMap f = [] := by
    rw [List.flatMap_eq_nil_iff]
    exact h1
  rw [e, List.nil_append, List.head?_append, h2]
  rfl
/-- the first of the orders that save most -/
theorem head_lexp (g : Good s a) : ∀ (n : Nat) (l : List Nat) (M : Int), l.length = n → (∀ o, o.Perm l → VV s a o ≤ M) → (∃ o, o.Perm l ∧ VV s a o = M) → ((lexp n l).filter fun o => decide (VV s a o = M)).head? = some (greedy s a n l)
  | 0, l, M, hl, h1, h2 => by
    have e : l = [] := List.eq_nil_of_length_eq_zero hl
    subst e
    obtain ⟨o, ho, hv⟩ := h2
    have e2 : o = [] := List.Perm.eq_nil ho
    subst e2
    show (List.filter (fun o => decide (VV s a o = M)) [[]]).head? = some []
    rw [List.filter_cons_of_pos (by simpa using hv)]
    rfl
  | n + 1, l, M, hl, h1, ⟨o, ho, hv⟩ => by
    have hopt : ∀ o', o'.Perm l → VV s a o' = M → Opt s a l o' := fun o' h e => ⟨h, fun o'' h'' => by rw [e]; exact h1 o'' h''⟩
    have hne : l ≠ [] := fun e => by rw [e] at hl; simp at hl
    obtain ⟨xm, hxm, hmin⟩ := exists_min g l hne
    have hf : xm ∈ l.filter (ableB s a l) := List.mem_filter.mpr ⟨hxm, List.all_eq_true.mpr fun y hy => decide_eq_true (hmin y hy)⟩
    cases hF : l.filter (ableB s a l) with
    | nil => rw [hF] at hf; cases hf
    | cons x r =>
      obtain ⟨l1, l2, el, hx, hl1⟩ := filter_split hF
      have hxl : x ∈ l := by rw [el]; simp
      have hle : ∀ y ∈ l, Le s a x y := fun y hy => of_decide_eq_true (List.all_eq_true.mp hx y hy)
      have hlen : (l.erase x).length = n := by rw [List.length_erase_of_mem hxl]; omega
      -- an order that saves most and begins with x
      have so := (hopt o ho hv).sorted g
      obtain ⟨p, q, eo⟩ := List.append_of_mem (ho.symm.subset hxl)
      have ties : ∀ y ∈ p, a y * s x = a x * s y := fun y hy => by
        have k1 : Le s a y x := by rw [eo] at so; exact so.mid g y hy
        have k2 := hle y (ho.subset (by rw [eo]; simp [hy]))
        unfold Le at k1 k2
        omega
      have hv2 : VV s a (x :: (p ++ q)) = M := by rw [← VV_front q p ties, ← eo]; exact hv
      have hp2 : (x :: (p ++ q)).Perm l := (List.perm_middle.symm.trans (by rw [← eo])).trans ho
      have hp3 : (p ++ q).Perm (l.erase x) := (List.cons_perm_iff_perm_erase.mp hp2).2
      have eqv : ∀ o', o'.Perm (l.erase x) → (VV s a (x :: o') = M ↔ VV s a o' = VV s a (p ++ q)) := fun o' h' => by
        have e1 : QQ s o' = QQ s (p ++ q) := QQ_perm (h'.trans hp3.symm)
        have e2 : 100 * a x * QQ s (p ++ q) + 100 * VV s a (p ++ q) = M := hv2
        show 100 * a x * QQ s o' + 100 * VV s a o' = M ↔ _
        rw [e1]
        constructor <;> intro z <;> omega
      have up : ∀ o', o'.Perm (l.erase x) → VV s a o' ≤ VV s a (p ++ q) := fun o' h' => by
        have k := h1 (x :: o') ((h'.cons x).trans (List.perm_cons_erase hxl).symm)
        have e1 : QQ s o' = QQ s (p ++ q) := QQ_perm (h'.trans hp3.symm)
        have e2 : 100 * a x * QQ s (p ++ q) + 100 * VV s a (p ++ q) = M := hv2
        have k : 100 * a x * QQ s o' + 100 * VV s a o' ≤ M := k
        rw [e1] at k
        omega
      have ih := head_lexp g n (l.erase x) (VV s a (p ++ q)) hlen up ⟨p ++ q, hp3, rfl⟩
      show ((l.flatMap fun x => (lexp n (l.erase x)).map (x :: ·)).filter fun o => decide (VV s a o = M)).head? = some (greedy s a (n + 1) l)
      have eg : greedy s a (n + 1) l = x :: greedy s a n (l.erase x) := by
        show (match l.filter (ableB s a l) with | [] => [] | x :: _ => x :: greedy s a n (l.erase x)) = _
        rw [hF]
      rw [eg, List.filter_flatMap]
      have hE : ∀ l', (l' = l1 ++ x :: l2) → (l'.flatMap fun b => ((lexp n (l.erase b)).map (b :: ·)).filter fun o => decide (VV s a o = M)).head? = some (x :: greedy s a n (l.erase x)) := fun l' e => by
        rw [e]
        refine head_flatMap (fun y hy => ?_) ?_
        · rw [List.filter_eq_nil_iff]
          intro o' ho'
          obtain ⟨o'', h'', rfl⟩ := List.mem_map.mp ho'
          rw [decide_eq_true_eq]
          intro e2
          have hyl : y ∈ l := by rw [el]; simp [hy]
          have hp' : (y :: o'').Perm l := (((mem_lexp n (l.erase y) o'' (by rw [List.length_erase_of_mem hyl]; omega)).mp h'').cons y).trans (List.perm_cons_erase hyl).symm
          have sy := (hopt _ hp' e2).sorted g
          have hall : ableB s a l y = true := List.all_eq_true.mpr fun z hz => decide_eq_true (by
            rcases List.mem_cons.mp (hp'.symm.subset hz) with q | q
            · rw [q]; exact .refl y
            · exact sy.all g z q)
          rw [hl1 y hy] at hall
          cases hall
        · rw [List.filter_map, List.head?_map]
          have ef : (lexp n (l.erase x)).filter ((fun o => decide (VV s a o = M)) ∘ (x :: ·)) = (lexp n (l.erase x)).filter fun o => decide (VV s a o = VV s a (p ++ q)) := by
            refine List.filter_congr fun o' ho' => ?_
            have := eqv o' ((mem_lexp n (l.erase x) o' hlen).mp ho')
            show decide (VV s a (x :: o') = M) = decide _
            exact decide_eq_decide.mpr this
          rw [ef, ih]
          rfl
      exact hE l el
end
end Ord
/-! Ord2: orders in which no neighbours stand wrong; how far an order is from one. -/
namespace Ord
section
variable {s a : Nat → Int}
theorem VV_keep (g : Good s a) {i j : Nat} (h : Le s a i j) (r : List Nat) : ∀ p, VV s a (p ++ j :: i :: r) ≤ VV s a (p ++ i :: j :: r)
  | [] => by
    have e := VV_two (s := s) (a := a) i j r
    have q := QQ_pos g r
    have h' : 0 ≤ a j * s i - a i * s j := by unfold Le at h; omega
    have m := Int.mul_nonneg (Int.mul_nonneg (show (0 : Int) ≤ 100 by decide) (Int.le_of_lt q)) h'
    show VV s a (j :: i :: r) ≤ VV s a (i :: j :: r)
    omega
  | x :: p => by
    have ih := VV_keep g h r p
    have eq : QQ s (p ++ j :: i :: r) = QQ s (p ++ i :: j :: r) := QQ_perm (List.Perm.append_left p (List.Perm.swap i j r))
    show 100 * a x * QQ s (p ++ j :: i :: r) + 100 * VV s a (p ++ j :: i :: r) ≤ 100 * a x * QQ s (p ++ i :: j :: r) + 100 * VV s a (p ++ i :: j :: r)
    rw [eq]
    omega
abbrev PW (s a : Nat → Int) (o : List Nat) : Prop := o.Pairwise (Le s a)
theorem PW_unique : ∀ {o o' : List Nat}, o.Perm o' → PW s a o → PW s a o' → VV s a o = VV s a o'
  | [], o', h, _, _ => by rw [List.Perm.nil_eq h]
  | x :: r, o', h, k, k' => by
    obtain ⟨p, q, e⟩ := List.append_of_mem (h.subset (List.mem_cons_self ..))
    subst e
    obtain ⟨k1, k2⟩ := List.pairwise_cons.mp k
    obtain ⟨k3, k4, k5⟩ := List.pairwise_append.mp k'
    have ties : ∀ y ∈ p, a y * s x = a x * s y := fun y hy => by
      have t1 : Le s a y x := k5 y hy x (List.mem_cons_self ..)
      have t2 : Le s a x y := by
        rcases List.mem_cons.mp (h.symm.subset (List.mem_append_left _ hy)) with z | z
        · rw [z]; exact Le.refl x
        · exact k1 y z
      unfold Le at t1 t2
      omega
    have hp : r.Perm (p ++ q) := (List.Perm.cons_inv (h.trans List.perm_middle))
    have kq : PW s a (p ++ q) := List.pairwise_append.mpr ⟨k3, (List.pairwise_cons.mp k4).2, fun y hy z hz => k5 y hy z (List.mem_cons_of_mem _ hz)⟩
    have ih := PW_unique hp k2 kq
    rw [VV_front q p ties]
    show 100 * a x * QQ s r + 100 * VV s a r = 100 * a x * QQ s (p ++ q) + 100 * VV s a (p ++ q)
    rw [QQ_perm hp, ih]
/-- pairs that stand wrong -/
def inv (s a : Nat → Int) : List Nat → Nat
  | [] => 0
  | x :: r => (r.filter fun y => decide (¬ Le s a x y)).length + inv s a r
theorem cnt_perm (x : Nat) {l m : List Nat} (h : l.Perm m) : (l.filter fun y => decide (¬ Le s a x y)).length = (m.filter fun y => decide (¬ Le s a x y)).length := (h.filter _).length_eq
theorem inv_swap {i j : Nat} (h : ¬ Le s a i j) (r : List Nat) : ∀ p, inv s a (p ++ j :: i :: r) + 1 = inv s a (p ++ i :: j :: r)
  | [] => by
    have h2 : Le s a j i := (Le.total (s := s) (a := a) i j).resolve_left h
    show ((i :: r).filter fun y => decide (¬ Le s a j y)).length + ((r.filter fun y => decide (¬ Le s a i y)).length + inv s a r) + 1 = ((j :: r).filter fun y => decide (¬ Le s a i y)).length + ((r.filter fun y => decide (¬ Le s a j y)).length + inv s a r)
    rw [List.filter_cons_of_neg (by simpa using h2), List.filter_cons_of_pos (by simpa using h), List.length_cons]
    omega
  | x :: p => by
    have ih := inv_swap h r p
    have e := cnt_perm (s := s) (a := a) x (List.Perm.append_left p (List.Perm.swap i j r))
    show ((p ++ j :: i :: r).filter fun y => decide (¬ Le s a x y)).length + inv s a (p ++ j :: i :: r) + 1 = ((p ++ i :: j :: r).filter fun y => decide (¬ Le s a x y)).length + inv s a (p ++ i :: j :: r)
    omega
theorem inv_le : ∀ o : List Nat, 2 * inv s a o ≤ o.length * (o.length - 1)
  | [] => Nat.le_refl 0
  | x :: r => by
    have ih := inv_le r
    have c := List.length_filter_le (fun y => decide (¬ Le s a x y)) r
    show 2 * ((r.filter fun y => decide (¬ Le s a x y)).length + inv s a r) ≤ (r.length + 1) * (r.length + 1 - 1)
    rw [Nat.add_sub_cancel]
    have e : (r.length + 1) * r.length = 2 * r.length + r.length * (r.length - 1) := by
      cases hr : r.length with
      | zero => rfl
      | succ n => rw [Nat.add_sub_cancel]; grind
    omega
/-- the first wrong neighbours, from k on -/
def fwx (s a : Nat → Int) : Nat → List Nat → Option Nat
  | k, i :: j :: r => if Le s a i j then fwx s a (k + 1) (j :: r) else some k
  | _, _ => none
theorem fwx_none (g : Good s a) : ∀ (o : List Nat) (k : Nat), fwx s a k o = none → PW s a o
  | [], _, _ => .nil
  | [x], _, _ => List.pairwise_singleton ..
  | i :: j :: r, k, h => by
    unfold fwx at h
    split at h
    · rename_i hle
      have ih := fwx_none g (j :: r) (k + 1) h
      refine List.pairwise_cons.mpr ⟨fun y hy => ?_, ih⟩
      rcases List.mem_cons.mp hy with z | z
      · rw [z]; exact hle
      · exact hle.trans g ((List.pairwise_cons.mp ih).1 y z)
    · cases h
theorem fwx_of_PW : ∀ (o : List Nat) (k : Nat), PW s a o → fwx s a k o = none
  | [], _, _ => rfl
  | [x], _, _ => rfl
  | i :: j :: r, k, h => by
    obtain ⟨h1, h2⟩ := List.pairwise_cons.mp h
    unfold fwx
    rw [if_pos (h1 j (List.mem_cons_self ..))]
    exact fwx_of_PW (j :: r) (k + 1) h2
theorem fwx_some : ∀ (o : List Nat) (k q : Nat), fwx s a k o = some q → ∃ p i j r, o = p ++ i :: j :: r ∧ q = k + p.length ∧ ¬ Le s a i j
  | [], _, _, h => by unfold fwx at h; cases h
  | [_], _, _, h => by unfold fwx at h; cases h
  | i :: j :: r, k, q, h => by
    unfold fwx at h
    split at h
    · obtain ⟨p, i', j', r', e, h1, h2⟩ := fwx_some (j :: r) (k + 1) q h
      exact ⟨i :: p, i', j', r', by rw [e]; rfl, by rw [h1, List.length_cons]; omega, h2⟩
    · rename_i hle
      cases h
      exact ⟨[], i, j, r, rfl, rfl, hle⟩
theorem greedy_ok (g : Good s a) : ∀ (n : Nat) (l : List Nat), l.length = n → (greedy s a n l).Perm l ∧ PW s a (greedy s a n l)
  | 0, l, h => by
    have e : l = [] := List.eq_nil_of_length_eq_zero h
    subst e
    exact ⟨.refl _, .nil⟩
  | n + 1, l, hl => by
    have hne : l ≠ [] := fun e => by rw [e] at hl; simp at hl
    obtain ⟨xm, hxm, hmin⟩ := exists_min g l hne
    have hf : xm ∈ l.filter (ableB s a l) := List.mem_filter.mpr ⟨hxm, List.all_eq_true.mpr fun y hy => decide_eq_true (hmin y hy)⟩
    cases hF : l.filter (ableB s a l) with
    | nil => rw [hF] at hf; cases hf
    | cons x r =>
      have hx := List.mem_filter.mp (show x ∈ l.filter (ableB s a l) by rw [hF]; exact List.mem_cons_self ..)
      have hle : ∀ y ∈ l, Le s a x y := fun y hy => of_decide_eq_true (List.all_eq_true.mp hx.2 y hy)
      obtain ⟨i1, i2⟩ := greedy_ok g n (l.erase x) (by rw [List.length_erase_of_mem hx.1]; omega)
      have e : greedy s a (n + 1) l = x :: greedy s a n (l.erase x) := by
        show (match l.filter (ableB s a l) with | [] => [] | x :: _ => x :: greedy s a n (l.erase x)) = _
        rw [hF]
      rw [e]
      exact ⟨(i1.cons x).trans (List.perm_cons_erase hx.1).symm, List.pairwise_cons.mpr ⟨fun y hy => hle y (List.mem_of_mem_erase (i1.subset hy)), i2⟩⟩
/-- no order saves more -/
theorem PW_best (g : Good s a) {low : List Nat} (hl : PW s a low) : ∀ (n : Nat) (o : List Nat), inv s a o ≤ n → o.Perm low → VV s a o ≤ VV s a low
  | n, o, hn, hp => by
    cases hf : fwx s a 0 o with
    | none => exact Int.le_of_eq (PW_unique hp (fwx_none g o 0 hf) hl)
    | some q =>
      obtain ⟨p, i, j, r, e, _, hle⟩ := fwx_some o 0 q hf
      subst e
      have e1 := inv_swap (s := s) (a := a) hle r p
      have e2 := VV_swap g hle r p
      cases n with
      | zero => omega
      | succ n =>
        have ih := PW_best g hl n (p ++ j :: i :: r) (by omega) ((List.Perm.append_left p (List.Perm.swap i j r)).trans hp)
        omega
end
end Ord
/-! Q44F: what the defs compute. -/
namespace Q44
open PySem PySem.Spec L2 PL
def f_is_integer : SF := (sSeq (sRet (eAnd (eUn (isiF .int) (eVar 0)) (eNot (eUn (isiF .bool) (eVar 0))))) sNil)
def F_is_integer : Fn := mkFn 1 f_is_integer
def f_is_between : SF := (sSeq (sRet (eAnd (eCall F_is_integer (aCons (eVar 0) aNil)) (eChain leF leF (eVar 1) (eVar 0) (eVar 2)))) sNil)
def F_is_between : Fn := mkFn 3 f_is_between
def l_is_pair_0 : EF (List PV) := (lLc (iSeq (eVar 0)) (bName 1) [1] tYesF (eCall F_is_integer (aCons (eVar 1) aNil)))
def f_is_pair : SF := (sSeq (sRet (eAnd (eUn (isiF .tuple) (eVar 0)) (eAnd (eOp eqF (eB lenF (aCons (eVar 0) aNil)) (eC (.int 2))) (eB allF (aCons (eLst l_is_pair_0) aNil))))) sNil)
def F_is_pair : Fn := mkFn 2 f_is_pair
def f_is_step : SF := (sSeq (sIf (tOrF (tNotF (tV (eCall F_is_pair (aCons (eVar 0) aNil)))) (tOrF (tNotF (tV (eChain leF ltF (eC (.int 0)) (eIx (eVar 0) (eC (.int 0))) (eC (.int 100))))) (tNotF (tV (eChain leF leF (eC (.int 0)) (eIx (eVar 0) (eC (.int 1))) (eC (.int 9999))))))) (sSeq (sRet (eC (.bl false))) sNil) sNil) (sSeq (sRet (eOp neF (eVar 0) (eTup (aCons (eC (.int 0)) (aCons (eC (.int 0)) aNil))))) sNil))
def F_is_step : Fn := mkFn 1 f_is_step
def l_are_steps_0 : EF (List PV) := (lLc (iSeq (eVar 0)) (bName 1) [1] tYesF (eCall F_is_step (aCons (eVar 1) aNil)))
def f_are_steps : SF := (sSeq (sRet (eAnd (eUn (isiF .tuple) (eVar 0)) (eAnd (eChain leF leF (eC (.int 1)) (eB lenF (aCons (eVar 0) aNil)) (eC (.int 5))) (eB allF (aCons (eLst l_are_steps_0) aNil))))) sNil)
def F_are_steps : Fn := mkFn 2 f_are_steps
def l_is_order_0 : EF (List PV) := (lLc (iSeq (eVar 1)) (bName 2) [2] tYesF (eCall F_is_between (aCons (eVar 2) (aCons (eC (.int 0)) (aCons (eOp subF (eB lenF (aCons (eVar 0) aNil)) (eC (.int 1))) aNil)))))
def f_is_order : SF := (sSeq (sIf (tOrF (tNotF (tV (eUn (isiF .tuple) (eVar 1)))) (tNotF (tV (eB allF (aCons (eLst l_is_order_0) aNil))))) (sSeq (sRet (eC (.bl false))) sNil) sNil) (sSeq (sRet (eOp eqF (eLst (lB sortedF (aCons (eVar 1) aNil))) (eLst (rngL (eB lenF (aCons (eVar 0) aNil)))))) sNil))
def F_is_order : Fn := mkFn 3 f_is_order
def f_need_steps : SF := (sSeq (sIf (tNotF (tV (eCall F_are_steps (aCons (eVar 0) aNil)))) (sSeq sNever sNil) sNil) sNil)
def F_need_steps : Fn := mkFn 1 f_need_steps
def f_need_order : SF := (sSeq (sDrop (eCall F_need_steps (aCons (eVar 0) aNil))) (sSeq (sIf (tNotF (tV (eCall F_is_order (aCons (eVar 0) (aCons (eVar 1) aNil))))) (sSeq sNever sNil) sNil) sNil))
def F_need_order : Fn := mkFn 2 f_need_order
def t_after_0 : SF := (sSeq (sAsg (bTup ((bName 6) :: ((bName 7) :: []))) (eIx (eVar 0) (eVar 5))) (sSeq (sAsg (bName 3) (eOp mulF (eVar 3) (eC (.int 100)))) (sSeq (sAsg (bName 4) (eOp subF (eOp mulF (eVar 4) (eOp subF (eC (.int 100)) (eVar 6))) (eOp mulF (eVar 7) (eVar 3)))) sNil)))
def w_after_0 : SF := (sFor (iSeq (eVar 1)) (bName 5) t_after_0)
def f_after : SF := (sSeq (sDrop (eCall F_need_order (aCons (eVar 0) (aCons (eVar 1) aNil)))) (sSeq (sIf (tNotF (tV (eCall F_is_between (aCons (eVar 2) (aCons (eC (.int 0)) (aCons (eC (.int 9999)) aNil)))))) (sSeq sNever sNil) sNil) (sSeq (sPar [3, 4] (nCons (eVal (eC (.int 1))) (nCons (eVal (eVar 2)) nNil))) (sSeq w_after_0 (sSeq (sRet (eVar 4)) sNil)))))
def F_after : Fn := mkFn 8 f_after
def f_is_better_first : SF := (sSeq (sRet (eOp ltF (eOp mulF (eIx (eVar 0) (eC (.int 1))) (eIx (eVar 1) (eC (.int 0)))) (eOp mulF (eIx (eVar 1) (eC (.int 1))) (eIx (eVar 0) (eC (.int 0)))))) sNil)
def F_is_better_first : Fn := mkFn 2 f_is_better_first
def t_first_wrong_0 : SF := (sSeq (sIf (tV (eCall F_is_better_first (aCons (eIx (eVar 0) (eVar 4)) (aCons (eIx (eVar 0) (eVar 3)) aNil)))) (sSeq (sRet (eVar 2)) sNil) sNil) sNil)
def w_first_wrong_0 : SF := (sFor (iEnumZip (aCons (eVar 1) (aCons (eSl (eVar 1) (oSome (eC (.int 1))) oNone) aNil))) (bTup ((bName 2) :: ((bTup ((bName 3) :: ((bName 4) :: []))) :: []))) t_first_wrong_0)
def f_first_wrong : SF := (sSeq w_first_wrong_0 (sSeq (sRet (eC .non)) sNil))
def F_first_wrong : Fn := mkFn 5 f_first_wrong
def f_wrong : SF := (sSeq (sDrop (eCall F_need_order (aCons (eVar 0) (aCons (eVar 1) aNil)))) (sSeq (sRet (eCall F_first_wrong (aCons (eVar 0) (aCons (eVar 1) aNil)))) sNil))
def F_wrong : Fn := mkFn 2 f_wrong
def l_cheapest_0 : EF (List PV) := (lLc (iSeq (eOwn 1)) (bName 5) [5] tYesF (eCall F_is_better_first (aCons (eIx (eVar 0) (eVar 5)) (aCons (eIx (eVar 0) (eVar 4)) aNil))))
def l_cheapest_1 : EF (List PV) := (lLc (iSeq (eOwn 1)) (bName 4) [4] (tNotF (tV (eB anyF (aCons (eLst l_cheapest_0) aNil)))) (eVar 4))
def t_cheapest_0 : SF := (sSeq (sAsg (bName 3) (eLst l_cheapest_1)) (sSeq (sApp 2 (eIx (eVar 3) (eC (.int 0)))) (sSeq (sRem 1 (eIx (eVar 3) (eC (.int 0)))) sNil)))
def w_cheapest_0 : SF := (sWhile 100 (tV (eOp neF (eOwn 1) (eLst (lDisp aNil)))) t_cheapest_0)
def f_cheapest : SF := (sSeq (sDrop (eCall F_need_steps (aCons (eVar 0) aNil))) (sSeq (sPar [1, 2] (nCons (eNew (rngL (eB lenF (aCons (eVar 0) aNil)))) (nCons (eNew (lDisp aNil)) nNil))) (sSeq w_cheapest_0 (sSeq (sRet (eB tupF (aCons (eOwn 2) aNil))) sNil))))
def F_cheapest : Fn := mkFn 6 f_cheapest
def f_is_cheapest : SF := (sSeq (sDrop (eCall F_need_steps (aCons (eVar 0) aNil))) (sSeq (sRet (eAnd (eCall F_is_order (aCons (eVar 0) (aCons (eVar 1) aNil))) (eOp isF (eCall F_first_wrong (aCons (eVar 0) (aCons (eVar 1) aNil))) (eC .non)))) sNil))
def F_is_cheapest : Fn := mkFn 2 f_is_cheapest
def f__law_cell_at : SF := (sSeq (sIf (tV (eOp ltF (eVar 1) (eB lenF (aCons (eVar 0) aNil)))) (sSeq (sRet (eIx (eVar 0) (eVar 1))) sNil) sNil) (sSeq (sRet (eC (.int 0))) sNil))
def F__law_cell_at : Fn := mkFn 2 f__law_cell_at
def f__law_pen : SF := (sSeq (sRetG (lDisp (aCons (eB maxF (aCons (eC (.int 0)) (aCons (eOp subF (eVar 0) (eOp powF (eC (.int 10)) (eC (.int 18)))) aNil))) (aCons (eOp modF (eVar 0) (eC (.int 1000000007))) (aCons (eC (.int 0)) aNil))))) sNil)
def F__law_pen : Fn := mkFn 1 f__law_pen
def f__law_draw : SF := (sSeq (sIf (tV (eOp gtF (eIx (eVar 0) (eC (.int 0))) (eC (.int 0)))) (sSeq (sAsg (bName 2) (eOp modF (eIx (eVar 0) (eC (.int 0))) (eVar 1))) (sSeq (sSetG (eVar 0) (eC (.int 0)) (eOp divF (eIx (eVar 0) (eC (.int 0))) (eVar 1))) (sSeq (sRet (eVar 2)) sNil))) sNil) (sSeq (sSetG (eVar 0) (eC (.int 2)) (eOp addF (eIx (eVar 0) (eC (.int 2))) (eC (.int 1)))) (sSeq (sAsg (bName 3) (eOp modF (eOp mulF (eOp addF (eIx (eVar 0) (eC (.int 1))) (eOp mulF (eC (.int 17)) (eIx (eVar 0) (eC (.int 2))))) (eOp addF (eC (.int 69621)) (eOp mulF (eC (.int 2)) (eIx (eVar 0) (eC (.int 2)))))) (eC (.int 2147483647)))) (sSeq (sAsg (bName 3) (eOp modF (eOp addF (eOp addF (eOp mulF (eVar 3) (eVar 3)) (eOp mulF (eC (.int 40503)) (eIx (eVar 0) (eC (.int 2))))) (eC (.int 5))) (eC (.int 2147483629)))) (sSeq (sRet (eOp modF (eOp divF (eOp modF (eOp mulF (eVar 3) (eC (.int 48271))) (eC (.int 2147483647))) (eC (.int 32))) (eVar 1))) sNil)))))
def F__law_draw : Fn := mkFn 4 f__law_draw
def f__law_pick : SF := (sSeq (sRet (eIx (eVar 1) (eCall F__law_draw (aCons (eVar 0) (aCons (eB lenF (aCons (eVar 1) aNil)) aNil))))) sNil)
def F__law_pick : Fn := mkFn 2 f__law_pick
def t__law_mixed_0 : SF := (sSeq (sAppPop 3 2 (eCall F__law_draw (aCons (eVar 0) (aCons (eB lenF (aCons (eOwn 2) aNil)) aNil)))) sNil)
def w__law_mixed_0 : SF := (sFor (iRng1 (aCons (eB lenF (aCons (eVar 1) aNil)) aNil)) (bName 4) t__law_mixed_0)
def f__law_mixed : SF := (sSeq (sPar [2, 3] (nCons (eNew (lB listF (aCons (eVar 1) aNil))) (nCons (eNew (lDisp aNil)) nNil))) (sSeq w__law_mixed_0 (sSeq (sRetO 3) sNil)))
def F__law_mixed : Fn := mkFn 5 f__law_mixed
def t__law_steps_0 : SF := (sSeq (sPar [4, 5] (nCons (eVal (eOp mulF (eC (.int 10)) (eCall F__law_draw (aCons (eVar 0) (aCons (eC (.int 4)) aNil))))) (nCons (eVal (eOp mulF (eC (.int 5)) (eCall F__law_draw (aCons (eVar 0) (aCons (eC (.int 4)) aNil))))) nNil))) (sSeq (sIf (tV (eOp eqF (eVar 2) (eC (.int 1)))) (sSeq (sPar [4, 5] (nCons (eVal (eCall F__law_draw (aCons (eVar 0) (aCons (eC (.int 100)) aNil)))) (nCons (eVal (eCall F__law_draw (aCons (eVar 0) (aCons (eC (.int 10000)) aNil)))) nNil))) sNil) sNil) (sSeq (sIf (tV (eOp eqF (eVar 2) (eC (.int 2)))) (sSeq (sPar [4, 5] (nCons (eVal (eCall F__law_pick (aCons (eVar 0) (aCons (eLst (lDisp (aCons (eC (.int 0)) (aCons (eC (.int 99)) (aCons (eC (.int 50)) aNil))))) aNil)))) (nCons (eVal (eCall F__law_pick (aCons (eVar 0) (aCons (eLst (lDisp (aCons (eC (.int 0)) (aCons (eC (.int 9999)) (aCons (eC (.int 100)) aNil))))) aNil)))) nNil))) sNil) sNil) (sSeq (sApp 1 (eIf (tV (eOp neF (eTup (aCons (eVar 4) (aCons (eVar 5) aNil))) (eTup (aCons (eC (.int 0)) (aCons (eC (.int 0)) aNil))))) (eTup (aCons (eVar 4) (aCons (eVar 5) aNil))) (eTup (aCons (eC (.int 1)) (aCons (eC (.int 0)) aNil))))) sNil))))
def w__law_steps_0 : SF := (sFor (iRng1 (aCons (eOp addF (eC (.int 1)) (eCall F__law_draw (aCons (eVar 0) (aCons (eC (.int 5)) aNil)))) aNil)) (bName 3) t__law_steps_0)
def f__law_steps : SF := (sSeq (sPar [1, 2] (nCons (eNew (lDisp aNil)) (nCons (eVal (eCall F__law_draw (aCons (eVar 0) (aCons (eC (.int 3)) aNil)))) nNil))) (sSeq w__law_steps_0 (sSeq (sRet (eB tupF (aCons (eOwn 1) aNil))) sNil)))
def F__law_steps : Fn := mkFn 6 f__law_steps
def f__law_exchanged : SF := (sSeq (sRet (eOp addF (eOp addF (eSl (eVar 0) oNone (oSome (eVar 1))) (eTup (aCons (eIx (eVar 0) (eOp addF (eVar 1) (eC (.int 1)))) (aCons (eIx (eVar 0) (eVar 1)) aNil)))) (eSl (eVar 0) (oSome (eOp addF (eVar 1) (eC (.int 2)))) oNone))) sNil)
def F__law_exchanged : Fn := mkFn 2 f__law_exchanged
def l__law_is_sorted_0 : EF (List PV) := (lLc (iSeq (eVar 2)) (bName 8) [8] tYesF (eTup (aCons (eCall F_after (aCons (eVar 0) (aCons (eVar 1) (aCons (eVar 8) aNil)))) (aCons (eCall F_after (aCons (eVar 0) (aCons (eVar 5) (aCons (eVar 8) aNil)))) aNil))))
def l__law_is_sorted_1 : EF (List PV) := (lLc (iSeq (eVar 6)) (bTup ((bName 9) :: ((bName 10) :: []))) [9, 10] (tV (eOp neF (eVar 9) (eVar 10))) (eC (.int 1)))
def l__law_is_sorted_2 : EF (List PV) := (lLc (iSeq (eVar 2)) (bName 8) [8] (tV (eOp geF (eCall F_after (aCons (eVar 0) (aCons (eVar 7) (aCons (eVar 8) aNil)))) (eCall F_after (aCons (eVar 0) (aCons (eVar 1) (aCons (eVar 8) aNil)))))) (eC (.int 1)))
def t__law_is_sorted_0 : SF := (sSeq (sAsg (bName 4) (eCall F_wrong (aCons (eVar 0) (aCons (eVar 1) aNil)))) (sSeq (sIf (tV (eOp neF (eCall F_is_cheapest (aCons (eVar 0) (aCons (eVar 1) aNil))) (eOp isF (eVar 4) (eC .non)))) (sSeq (sRet (eC (.bl false))) sNil) sNil) (sSeq (sIf (tV (eOp isF (eVar 4) (eC .non))) (sSeq (sAsg (bName 5) (eCall F_cheapest (aCons (eVar 0) aNil))) (sSeq (sAsg (bName 6) (eLst l__law_is_sorted_0)) (sSeq (sRet (eOp eqF (eLst l__law_is_sorted_1) (eLst (lDisp aNil)))) sNil))) sNil) (sSeq (sAsg (bName 7) (eCall F__law_exchanged (aCons (eVar 1) (aCons (eVar 4) aNil)))) (sSeq (sIf (tV (eOp neF (eLst l__law_is_sorted_2) (eLst (lDisp aNil)))) (sSeq (sRet (eC (.bl false))) sNil) sNil) (sSeq (sAsg (bName 1) (eVar 7)) sNil))))))
def w__law_is_sorted_0 : SF := (sFor (iRng1 (aCons (eC (.int 11)) aNil)) (bName 3) t__law_is_sorted_0)
def f__law_is_sorted : SF := (sSeq w__law_is_sorted_0 (sSeq (sRet (eC (.bl false))) sNil))
def F__law_is_sorted : Fn := mkFn 11 f__law_is_sorted
def l__law_right_0 : EF (List PV) := (lLc (iSeq (eVar 3)) (bName 6) [6] (tV (eOp ltF (eCall F_after (aCons (eVar 1) (aCons (eVar 5) (aCons (eVar 6) aNil)))) (eCall F_after (aCons (eVar 1) (aCons (eVar 2) (aCons (eVar 6) aNil)))))) (eC (.int 1)))
def t__law_right_0 : SF := (sSeq (sAsg (bName 5) (eB tupF (aCons (eCall F__law_mixed (aCons (eVar 0) (aCons (eLst (rngL (eB lenF (aCons (eVar 1) aNil)))) aNil))) aNil))) (sSeq (sIf (tV (eOp neF (eLst l__law_right_0) (eLst (lDisp aNil)))) (sSeq (sRet (eC (.bl false))) sNil) sNil) (sSeq (sIf (tNotF (tV (eCall F__law_is_sorted (aCons (eVar 1) (aCons (eVar 5) (aCons (eVar 3) aNil)))))) (sSeq (sRet (eC (.bl false))) sNil) sNil) sNil)))
def w__law_right_0 : SF := (sFor (iRng1 (aCons (eC (.int 4)) aNil)) (bName 4) t__law_right_0)
def f__law_right : SF := (sSeq (sAsg (bName 1) (eCall F__law_steps (aCons (eVar 0) aNil))) (sSeq (sPar [2, 3] (nCons (eVal (eCall F_cheapest (aCons (eVar 1) aNil))) (nCons (eVal (eLst (lDisp (aCons (eC (.int 0)) (aCons (eC (.int 9999)) (aCons (eCall F__law_draw (aCons (eVar 0) (aCons (eC (.int 10000)) aNil))) aNil)))))) nNil))) (sSeq (sIf (tOrF (tV (eOp isntF (eCall F_wrong (aCons (eVar 1) (aCons (eVar 2) aNil))) (eC .non))) (tNotF (tV (eCall F_is_cheapest (aCons (eVar 1) (aCons (eVar 2) aNil)))))) (sSeq (sRet (eC (.bl false))) sNil) sNil) (sSeq w__law_right_0 (sSeq (sRet (eC (.bl true))) sNil)))))
def F__law_right : Fn := mkFn 7 f__law_right
def t_law_0 : SF := (sSeq (sIf (tNotF (tV (eCall F__law_right (aCons (eVar 2) aNil)))) (sSeq (sRet (eC (.bl false))) sNil) sNil) sNil)
def w_law_0 : SF := (sFor (iRng1 (aCons (eC (.int 5)) aNil)) (bName 3) t_law_0)
def t_law_1 : SF := (sSeq (sAsg (bName 2) (eCall F__law_pen (aCons (eCall F__law_cell_at (aCons (eVar 0) (aCons (eVar 1) aNil))) aNil))) (sSeq w_law_0 sNil))
def w_law_1 : SF := (sFor (iRng1 (aCons (eB maxF (aCons (eC (.int 1)) (aCons (eB minF (aCons (eB lenF (aCons (eVar 0) aNil)) (aCons (eC (.int 3)) aNil))) aNil))) aNil)) (bName 1) t_law_1)
def f_law : SF := (sSeq w_law_1 (sSeq (sRet (eC (.bl true))) sNil))
def F_law : Fn := mkFn 4 f_law
end Q44
namespace Q44
open PySem PySem.Spec PyProof.Rows L2 PL
def top (i : Nat) : Stmt := PySem.Challenge.pw_joineddeals_k44_whole_steps_and_neighbou.main.body.getD i (.Pass ⟨0, 0, 0, 0⟩)
abbrev FnP (K : PySem.W.Frag) (x : Str) (st : Stmt) (f : Addr) (fd : FuncData) : Prop := FunD K x x (defArgs st) (defBody st) (defScope st) [] [] f fd
structure Fc (mg : Str → Option Value) : Prop where
  all : mg "all" = none
  any : mg "any" = none
  bool : mg "bool" = none
  enumerate : mg "enumerate" = none
  int : mg "int" = none
  isinstance : mg "isinstance" = none
  len : mg "len" = none
  list : mg "list" = none
  max : mg "max" = none
  min : mg "min" = none
  range : mg "range" = none
  sorted : mg "sorted" = none
  tuple : mg "tuple" = none
  zip : mg "zip" = none
  ALL : ∃ t, mg "ALL" = some (.int 100 t)
  MOST_PRICE : ∃ t, mg "MOST_PRICE" = some (.int 9999 t)
  MOST_STEPS : ∃ t, mg "MOST_STEPS" = some (.int 5 t)
section
variable {P : Program} {w : World} {K : PySem.W.Frag} {mg : Str → Option Value} {base : Heap} {a : Addr} {fd : FuncData}
theorem sc_is_integer : FnScope ["thing"] ["thing"] (defScope (top 7)) := ⟨rfl, rfl, rfl, by decide +kernel, rfl, by decide +kernel, by decide +kernel⟩
theorem ok_is_integer (A : Fc mg) (F : FnP K "is_integer" (top 7) a fd)  : FnG P w K mg base 1 a fd ["thing"] (spF K 1 F_is_integer) :=
  have S := sc_is_integer
  fnG_of F S (by decide) fun cdv A' outer s H E hr hgd =>
    have tk : Takes (cxOf (L2.CX P w) P w K mg base ["thing"] "is_integer" (defScope (top 7)) a cdv A' outer s H E) (WE E) := takes_of rfl rfl rfl rfl
    have ps : PassesOwn (model P w) (cxOf (L2.CX P w) P w K mg base ["thing"] "is_integer" (defScope (top 7)) a cdv A' outer s H E).A (cxOf (L2.CX P w) P w K mg base ["thing"] "is_integer" (defScope (top 7)) a cdv A' outer s H E).env (cxOf (L2.CX P w) P w K mg base ["thing"] "is_integer" (defScope (top 7)) a cdv A' outer s H E).xe := passes_of rfl
    (mss_cons (ms_ret (m_and (g_isi .int A.isinstance A.int (ME.mb (gv 0))) (m_one (m_not (g_isi .bool A.isinstance A.bool (ME.mb (gv 0))))))) mss_nil)
theorem sc_is_between : FnScope ["thing", "low", "high"] ["thing", "low", "high"] (defScope (top 8)) := ⟨rfl, rfl, rfl, by decide +kernel, rfl, by decide +kernel, by decide +kernel⟩
theorem ok_is_between (A : Fc mg) (F : FnP K "is_between" (top 8) a fd) (c_is_integer : Cal P w K mg base 1 "is_integer" ["thing"] F_is_integer) : FnG P w K mg base 2 a fd ["thing", "low", "high"] (spF K 3 F_is_between) :=
  have S := sc_is_between
  fnG_of F S (by decide) fun cdv A' outer s H E hr hgd =>
    have tk : Takes (cxOf (L2.CX P w) P w K mg base ["thing", "low", "high"] "is_between" (defScope (top 8)) a cdv A' outer s H E) (WE E) := takes_of rfl rfl rfl rfl
    have ps : PassesOwn (model P w) (cxOf (L2.CX P w) P w K mg base ["thing", "low", "high"] "is_between" (defScope (top 8)) a cdv A' outer s H E).A (cxOf (L2.CX P w) P w K mg base ["thing", "low", "high"] "is_between" (defScope (top 8)) a cdv A' outer s H E).env (cxOf (L2.CX P w) P w K mg base ["thing", "low", "high"] "is_between" (defScope (top 8)) a cdv A' outer s H E).xe := passes_of rfl
    (mss_cons (ms_ret (m_and (g_call c_is_integer hr hgd tk (ma_cons (gv 0) ma_nil) (alen_cons alen_nil)) (m_one (m_chain o_le o_le (ME.mb (gv 1)) (ME.mb (gv 0)) (ME.mb (gv 2)))))) mss_nil)
theorem sc_is_pair : FnScope ["thing", "one"] ["thing"] (defScope (top 9)) := ⟨rfl, rfl, rfl, by decide +kernel, rfl, by decide +kernel, by decide +kernel⟩
theorem ok_is_pair (A : Fc mg) (F : FnP K "is_pair" (top 9) a fd) (c_is_integer : Cal P w K mg base 1 "is_integer" ["thing"] F_is_integer) : FnG P w K mg base 2 a fd ["thing"] (spF K 1 F_is_pair) :=
  have S := sc_is_pair
  fnG_of F S (by decide) fun cdv A' outer s H E hr hgd =>
    have tk : Takes (cxOf (L2.CX P w) P w K mg base ["thing", "one"] "is_pair" (defScope (top 9)) a cdv A' outer s H E) (WE E) := takes_of rfl rfl rfl rfl
    have ps : PassesOwn (model P w) (cxOf (L2.CX P w) P w K mg base ["thing", "one"] "is_pair" (defScope (top 9)) a cdv A' outer s H E).A (cxOf (L2.CX P w) P w K mg base ["thing", "one"] "is_pair" (defScope (top 9)) a cdv A' outer s H E).env (cxOf (L2.CX P w) P w K mg base ["thing", "one"] "is_pair" (defScope (top 9)) a cdv A' outer s H E).xe := passes_of rfl
    (mss_cons (ms_ret (m_and (g_isi .tuple A.isinstance A.tuple (ME.mb (gv 0))) (m_and (g_cmp (o_eq hr) (ME.mb (g_len A.len (mab_cons (ME.mb (gv 0)) mab_nil))) (ME.mb m_int)) (m_one (g_all A.all (mab_cons (ME.mb (ML.me (ml_lc (own := [("one", 1)]) bok_name rfl S.nd (mic_seq (ME.mb (gv 0))) (blkOk_by (by rfl)) (fun _ _ _ _ _ => (g_nm 1 S.nd)) (fun _ _ _ _ _ => mts_nil) (fun _ _ _ _ _ => (g_call c_is_integer hr hgd takes_F (ma_cons (gv 1) ma_nil) (alen_cons alen_nil)))))) mab_nil)))))) mss_nil)
theorem sc_is_step : FnScope ["thing"] ["thing"] (defScope (top 13)) := ⟨rfl, rfl, rfl, by decide +kernel, rfl, by decide +kernel, by decide +kernel⟩
theorem ok_is_step (A : Fc mg) (F : FnP K "is_step" (top 13) a fd) (c_is_pair : Cal P w K mg base 2 "is_pair" ["thing"] F_is_pair) : FnG P w K mg base 3 a fd ["thing"] (spF K 1 F_is_step) :=
  have S := sc_is_step
  fnG_of F S (by decide) fun cdv A' outer s H E hr hgd =>
    have tk : Takes (cxOf (L2.CX P w) P w K mg base ["thing"] "is_step" (defScope (top 13)) a cdv A' outer s H E) (WE E) := takes_of rfl rfl rfl rfl
    have ps : PassesOwn (model P w) (cxOf (L2.CX P w) P w K mg base ["thing"] "is_step" (defScope (top 13)) a cdv A' outer s H E).A (cxOf (L2.CX P w) P w K mg base ["thing"] "is_step" (defScope (top 13)) a cdv A' outer s H E).env (cxOf (L2.CX P w) P w K mg base ["thing"] "is_step" (defScope (top 13)) a cdv A' outer s H E).xe := passes_of rfl
    (mss_cons (ms_if (MW.mt (mw_or (mt_not (mt_val (g_call c_is_pair hr hgd tk (ma_cons (gv 0) ma_nil) (alen_cons alen_nil)))) (mw_or (mt_not (mt_chain o_le (o_lt hr) (ME.mb m_int) (ME.mb (g_ix (ME.mb (gv 0)) m_int)) (ME.mb (gI A.ALL)))) (mw_or1 (mt_not (mt_chain o_le o_le (ME.mb m_int) (ME.mb (g_ix (ME.mb (gv 0)) m_int)) (ME.mb (gI A.MOST_PRICE)))))))) (mss_cons (ms_ret m_bl) mss_nil) mss_nil) (mss_cons (ms_ret (g_cmp (o_ne hr) (ME.mb (gv 0)) (ME.mb (m_tup (ma_cons m_int (ma_cons m_int ma_nil)))))) mss_nil))
theorem sc_are_steps : FnScope ["thing", "step"] ["thing"] (defScope (top 14)) := ⟨rfl, rfl, rfl, by decide +kernel, rfl, by decide +kernel, by decide +kernel⟩
theorem ok_are_steps (A : Fc mg) (F : FnP K "are_steps" (top 14) a fd) (c_is_step : Cal P w K mg base 3 "is_step" ["thing"] F_is_step) : FnG P w K mg base 4 a fd ["thing"] (spF K 1 F_are_steps) :=
  have S := sc_are_steps
  fnG_of F S (by decide) fun cdv A' outer s H E hr hgd =>
    have tk : Takes (cxOf (L2.CX P w) P w K mg base ["thing", "step"] "are_steps" (defScope (top 14)) a cdv A' outer s H E) (WE E) := takes_of rfl rfl rfl rfl
    have ps : PassesOwn (model P w) (cxOf (L2.CX P w) P w K mg base ["thing", "step"] "are_steps" (defScope (top 14)) a cdv A' outer s H E).A (cxOf (L2.CX P w) P w K mg base ["thing", "step"] "are_steps" (defScope (top 14)) a cdv A' outer s H E).env (cxOf (L2.CX P w) P w K mg base ["thing", "step"] "are_steps" (defScope (top 14)) a cdv A' outer s H E).xe := passes_of rfl
    (mss_cons (ms_ret (m_and (g_isi .tuple A.isinstance A.tuple (ME.mb (gv 0))) (m_and (m_chain o_le o_le (ME.mb m_int) (ME.mb (g_len A.len (mab_cons (ME.mb (gv 0)) mab_nil))) (ME.mb (gI A.MOST_STEPS))) (m_one (g_all A.all (mab_cons (ME.mb (ML.me (ml_lc (own := [("step", 1)]) bok_name rfl S.nd (mic_seq (ME.mb (gv 0))) (blkOk_by (by rfl)) (fun _ _ _ _ _ => (g_nm 1 S.nd)) (fun _ _ _ _ _ => mts_nil) (fun _ _ _ _ _ => (g_call c_is_step hr hgd takes_F (ma_cons (gv 1) ma_nil) (alen_cons alen_nil)))))) mab_nil)))))) mss_nil)
theorem sc_is_order : FnScope ["steps", "thing", "one"] ["steps", "thing"] (defScope (top 15)) := ⟨rfl, rfl, rfl, by decide +kernel, rfl, by decide +kernel, by decide +kernel⟩
theorem ok_is_order (A : Fc mg) (F : FnP K "is_order" (top 15) a fd) (c_is_between : Cal P w K mg base 2 "is_between" ["thing", "low", "high"] F_is_between) : FnG P w K mg base 3 a fd ["steps", "thing"] (spF K 2 F_is_order) :=
  have S := sc_is_order
  fnG_of F S (by decide) fun cdv A' outer s H E hr hgd =>
    have tk : Takes (cxOf (L2.CX P w) P w K mg base ["steps", "thing", "one"] "is_order" (defScope (top 15)) a cdv A' outer s H E) (WE E) := takes_of rfl rfl rfl rfl
    have ps : PassesOwn (model P w) (cxOf (L2.CX P w) P w K mg base ["steps", "thing", "one"] "is_order" (defScope (top 15)) a cdv A' outer s H E).A (cxOf (L2.CX P w) P w K mg base ["steps", "thing", "one"] "is_order" (defScope (top 15)) a cdv A' outer s H E).env (cxOf (L2.CX P w) P w K mg base ["steps", "thing", "one"] "is_order" (defScope (top 15)) a cdv A' outer s H E).xe := passes_of rfl
    (mss_cons (ms_if (MW.mt (mw_or (mt_not (mt_val (g_isi .tuple A.isinstance A.tuple (ME.mb (gv 1))))) (mw_or1 (mt_not (mt_val (g_all A.all (mab_cons (ME.mb (ML.me (ml_lc (own := [("one", 2)]) bok_name rfl S.nd (mic_seq (ME.mb (gv 1))) (blkOk_by (by rfl)) (fun _ _ _ _ _ => (g_nm 2 S.nd)) (fun _ _ _ _ _ => mts_nil) (fun _ _ _ _ _ => (g_call c_is_between hr hgd takes_F (ma_cons (gv 2) (ma_cons m_int (ma_cons (m_op p_sub (ME.mb (g_len A.len (mab_cons (ME.mb (gv 0)) mab_nil))) (ME.mb m_int)) ma_nil))) (alen_cons (alen_cons (alen_cons alen_nil)))))))) mab_nil))))))) (mss_cons (ms_ret m_bl) mss_nil) mss_nil) (mss_cons (ms_ret (g_cmp (o_eq hr) (ME.mb (ML.me (g_sorted A.sorted (mab_cons (ME.mb (gv 1)) mab_nil)))) (ME.mb (ML.me (g_listR A.list A.range (g_len A.len (mab_cons (ME.mb (gv 0)) mab_nil))))))) mss_nil))
theorem sc_need_steps : FnScope ["thing"] ["thing"] (defScope (top 16)) := ⟨rfl, rfl, rfl, by decide +kernel, rfl, by decide +kernel, by decide +kernel⟩
theorem ok_need_steps (A : Fc mg) (F : FnP K "need_steps" (top 16) a fd) (c_are_steps : Cal P w K mg base 4 "are_steps" ["thing"] F_are_steps) : FnG P w K mg base 5 a fd ["thing"] (spF K 1 F_need_steps) :=
  have S := sc_need_steps
  fnG_of F S (by decide) fun cdv A' outer s H E hr hgd =>
    have tk : Takes (cxOf (L2.CX P w) P w K mg base ["thing"] "need_steps" (defScope (top 16)) a cdv A' outer s H E) (WE E) := takes_of rfl rfl rfl rfl
    have ps : PassesOwn (model P w) (cxOf (L2.CX P w) P w K mg base ["thing"] "need_steps" (defScope (top 16)) a cdv A' outer s H E).A (cxOf (L2.CX P w) P w K mg base ["thing"] "need_steps" (defScope (top 16)) a cdv A' outer s H E).env (cxOf (L2.CX P w) P w K mg base ["thing"] "need_steps" (defScope (top 16)) a cdv A' outer s H E).xe := passes_of rfl
    (mss_cons (ms_if (mt_not (mt_val (g_call c_are_steps hr hgd tk (ma_cons (gv 0) ma_nil) (alen_cons alen_nil)))) (mss_cons ms_never mss_nil) mss_nil) mss_nil)
theorem sc_need_order : FnScope ["steps", "thing"] ["steps", "thing"] (defScope (top 17)) := ⟨rfl, rfl, rfl, by decide +kernel, rfl, by decide +kernel, by decide +kernel⟩
theorem ok_need_order (A : Fc mg) (F : FnP K "need_order" (top 17) a fd) (c_is_order : Cal P w K mg base 3 "is_order" ["steps", "thing"] F_is_order) (c_need_steps : Cal P w K mg base 5 "need_steps" ["thing"] F_need_steps) : FnG P w K mg base 6 a fd ["steps", "thing"] (spF K 2 F_need_order) :=
  have S := sc_need_order
  fnG_of F S (by decide) fun cdv A' outer s H E hr hgd =>
    have tk : Takes (cxOf (L2.CX P w) P w K mg base ["steps", "thing"] "need_order" (defScope (top 17)) a cdv A' outer s H E) (WE E) := takes_of rfl rfl rfl rfl
    have ps : PassesOwn (model P w) (cxOf (L2.CX P w) P w K mg base ["steps", "thing"] "need_order" (defScope (top 17)) a cdv A' outer s H E).A (cxOf (L2.CX P w) P w K mg base ["steps", "thing"] "need_order" (defScope (top 17)) a cdv A' outer s H E).env (cxOf (L2.CX P w) P w K mg base ["steps", "thing"] "need_order" (defScope (top 17)) a cdv A' outer s H E).xe := passes_of rfl
    (mss_cons (ms_expr (g_call c_need_steps hr hgd tk (ma_cons (gv 0) ma_nil) (alen_cons alen_nil))) (mss_cons (ms_if (mt_not (mt_val (g_call c_is_order hr hgd tk (ma_cons (gv 0) (ma_cons (gv 1) ma_nil)) (alen_cons (alen_cons alen_nil))))) (mss_cons ms_never mss_nil) mss_nil) mss_nil))
theorem sc_after : FnScope ["steps", "order", "price", "parts", "found", "number", "share", "amount"] ["steps", "order", "price"] (defScope (top 18)) := ⟨rfl, rfl, rfl, by decide +kernel, rfl, by decide +kernel, by decide +kernel⟩
theorem ok_after (A : Fc mg) (F : FnP K "after" (top 18) a fd) (c_is_between : Cal P w K mg base 2 "is_between" ["thing", "low", "high"] F_is_between) (c_need_order : Cal P w K mg base 6 "need_order" ["steps", "thing"] F_need_order) : FnG P w K mg base 7 a fd ["steps", "order", "price"] (spF K 3 F_after) :=
  have S := sc_after
  fnG_of F S (by decide) fun cdv A' outer s H E hr hgd =>
    have tk : Takes (cxOf (L2.CX P w) P w K mg base ["steps", "order", "price", "parts", "found", "number", "share", "amount"] "after" (defScope (top 18)) a cdv A' outer s H E) (WE E) := takes_of rfl rfl rfl rfl
    have ps : PassesOwn (model P w) (cxOf (L2.CX P w) P w K mg base ["steps", "order", "price", "parts", "found", "number", "share", "amount"] "after" (defScope (top 18)) a cdv A' outer s H E).A (cxOf (L2.CX P w) P w K mg base ["steps", "order", "price", "parts", "found", "number", "share", "amount"] "after" (defScope (top 18)) a cdv A' outer s H E).env (cxOf (L2.CX P w) P w K mg base ["steps", "order", "price", "parts", "found", "number", "share", "amount"] "after" (defScope (top 18)) a cdv A' outer s H E).xe := passes_of rfl
    (mss_cons (ms_expr (g_call c_need_order hr hgd tk (ma_cons (gv 0) (ma_cons (gv 1) ma_nil)) (alen_cons (alen_cons alen_nil)))) (mss_cons (ms_if (mt_not (mt_val (g_call c_is_between hr hgd tk (ma_cons (gv 2) (ma_cons m_int (ma_cons (gI A.MOST_PRICE) ma_nil))) (alen_cons (alen_cons (alen_cons alen_nil)))))) (mss_cons ms_never mss_nil) mss_nil) (mss_cons (ms_par (mns_cons (ME.mn m_int) (mns_cons (ME.mn (gv 2)) mns_nil)) rfl S.nd (i := 3) (j := 4) rfl rfl (by decide) rfl rfl (by rfl)) (mss_cons (ms_for ps rfl (mi_seq (gv 1)) (g_nm 5 S.nd) (mss_cons (g_asg (g_ix (ME.mb (gv 0)) (gv 5)) (mg_tup rfl (mgs_cons (g_nm 6 S.nd) (mgs_cons (g_nm 7 S.nd) mgs_nil)))) (mss_cons (g_set 3 S.nd (m_op p_mul (ME.mb (gv 3)) (ME.mb (gI A.ALL)))) (mss_cons (g_set 4 S.nd (m_op p_sub (ME.mb (m_op p_mul (ME.mb (gv 4)) (ME.mb (m_op p_sub (ME.mb (gI A.ALL)) (ME.mb (gv 6)))))) (ME.mb (m_op p_mul (ME.mb (gv 7)) (ME.mb (gv 3)))))) mss_nil)))) (mss_cons (ms_ret (gv 4)) mss_nil)))))
theorem sc_is_better_first : FnScope ["one", "other"] ["one", "other"] (defScope (top 19)) := ⟨rfl, rfl, rfl, by decide +kernel, rfl, by decide +kernel, by decide +kernel⟩
theorem ok_is_better_first (A : Fc mg) (F : FnP K "is_better_first" (top 19) a fd)  : FnG P w K mg base 1 a fd ["one", "other"] (spF K 2 F_is_better_first) :=
  have S := sc_is_better_first
  fnG_of F S (by decide) fun cdv A' outer s H E hr hgd =>
    have tk : Takes (cxOf (L2.CX P w) P w K mg base ["one", "other"] "is_better_first" (defScope (top 19)) a cdv A' outer s H E) (WE E) := takes_of rfl rfl rfl rfl
    have ps : PassesOwn (model P w) (cxOf (L2.CX P w) P w K mg base ["one", "other"] "is_better_first" (defScope (top 19)) a cdv A' outer s H E).A (cxOf (L2.CX P w) P w K mg base ["one", "other"] "is_better_first" (defScope (top 19)) a cdv A' outer s H E).env (cxOf (L2.CX P w) P w K mg base ["one", "other"] "is_better_first" (defScope (top 19)) a cdv A' outer s H E).xe := passes_of rfl
    (mss_cons (ms_ret (g_cmp (o_lt hr) (ME.mb (m_op p_mul (ME.mb (g_ix (ME.mb (gv 0)) m_int)) (ME.mb (g_ix (ME.mb (gv 1)) m_int)))) (ME.mb (m_op p_mul (ME.mb (g_ix (ME.mb (gv 1)) m_int)) (ME.mb (g_ix (ME.mb (gv 0)) m_int)))))) mss_nil)
theorem sc_first_wrong : FnScope ["steps", "order", "at", "number", "later"] ["steps", "order"] (defScope (top 20)) := ⟨rfl, rfl, rfl, by decide +kernel, rfl, by decide +kernel, by decide +kernel⟩
theorem ok_first_wrong (A : Fc mg) (F : FnP K "first_wrong" (top 20) a fd) (c_is_better_first : Cal P w K mg base 1 "is_better_first" ["one", "other"] F_is_better_first) : FnG P w K mg base 2 a fd ["steps", "order"] (spF K 2 F_first_wrong) :=
  have S := sc_first_wrong
  fnG_of F S (by decide) fun cdv A' outer s H E hr hgd =>
    have tk : Takes (cxOf (L2.CX P w) P w K mg base ["steps", "order", "at", "number", "later"] "first_wrong" (defScope (top 20)) a cdv A' outer s H E) (WE E) := takes_of rfl rfl rfl rfl
    have ps : PassesOwn (model P w) (cxOf (L2.CX P w) P w K mg base ["steps", "order", "at", "number", "later"] "first_wrong" (defScope (top 20)) a cdv A' outer s H E).A (cxOf (L2.CX P w) P w K mg base ["steps", "order", "at", "number", "later"] "first_wrong" (defScope (top 20)) a cdv A' outer s H E).env (cxOf (L2.CX P w) P w K mg base ["steps", "order", "at", "number", "later"] "first_wrong" (defScope (top 20)) a cdv A' outer s H E).xe := passes_of rfl
    (mss_cons (ms_for ps rfl (mi_enumZip rfl A.enumerate rfl A.zip (ma_cons (gv 1) (ma_cons (m_slice (ME.mb (gv 1)) (mo_some m_int) mo_none) ma_nil))) (mg_tup rfl (mgs_cons (g_nm 2 S.nd) (mgs_cons (mg_tup rfl (mgs_cons (g_nm 3 S.nd) (mgs_cons (g_nm 4 S.nd) mgs_nil))) mgs_nil))) (mss_cons (ms_if (mt_val (g_call c_is_better_first hr hgd tk (ma_cons (g_ix (ME.mb (gv 0)) (gv 4)) (ma_cons (g_ix (ME.mb (gv 0)) (gv 3)) ma_nil)) (alen_cons (alen_cons alen_nil)))) (mss_cons (ms_ret (gv 2)) mss_nil) mss_nil) mss_nil)) (mss_cons (ms_ret m_non) mss_nil))
theorem sc_wrong : FnScope ["steps", "order"] ["steps", "order"] (defScope (top 21)) := ⟨rfl, rfl, rfl, by decide +kernel, rfl, by decide +kernel, by decide +kernel⟩
theorem ok_wrong (A : Fc mg) (F : FnP K "wrong" (top 21) a fd) (c_first_wrong : Cal P w K mg base 2 "first_wrong" ["steps", "order"] F_first_wrong) (c_need_order : Cal P w K mg base 6 "need_order" ["steps", "thing"] F_need_order) : FnG P w K mg base 7 a fd ["steps", "order"] (spF K 2 F_wrong) :=
  have S := sc_wrong
  fnG_of F S (by decide) fun cdv A' outer s H E hr hgd =>
    have tk : Takes (cxOf (L2.CX P w) P w K mg base ["steps", "order"] "wrong" (defScope (top 21)) a cdv A' outer s H E) (WE E) := takes_of rfl rfl rfl rfl
    have ps : PassesOwn (model P w) (cxOf (L2.CX P w) P w K mg base ["steps", "order"] "wrong" (defScope (top 21)) a cdv A' outer s H E).A (cxOf (L2.CX P w) P w K mg base ["steps", "order"] "wrong" (defScope (top 21)) a cdv A' outer s H E).env (cxOf (L2.CX P w) P w K mg base ["steps", "order"] "wrong" (defScope (top 21)) a cdv A' outer s H E).xe := passes_of rfl
    (mss_cons (ms_expr (g_call c_need_order hr hgd tk (ma_cons (gv 0) (ma_cons (gv 1) ma_nil)) (alen_cons (alen_cons alen_nil)))) (mss_cons (ms_ret (g_call c_first_wrong hr hgd tk (ma_cons (gv 0) (ma_cons (gv 1) ma_nil)) (alen_cons (alen_cons alen_nil)))) mss_nil))
theorem sc_cheapest : FnScope ["steps", "left", "found", "able", "one", "other"] ["steps"] (defScope (top 22)) := ⟨rfl, rfl, rfl, by decide +kernel, rfl, by decide +kernel, by decide +kernel⟩
theorem ok_cheapest (A : Fc mg) (F : FnP K "cheapest" (top 22) a fd) (c_is_better_first : Cal P w K mg base 1 "is_better_first" ["one", "other"] F_is_better_first) (c_need_steps : Cal P w K mg base 5 "need_steps" ["thing"] F_need_steps) : FnG P w K mg base 6 a fd ["steps"] (spF K 1 F_cheapest) :=
  have S := sc_cheapest
  fnG_of F S (by decide) fun cdv A' outer s H E hr hgd =>
    have tk : Takes (cxOf (L2.CX P w) P w K mg base ["steps", "left", "found", "able", "one", "other"] "cheapest" (defScope (top 22)) a cdv A' outer s H E) (WE E) := takes_of rfl rfl rfl rfl
    have ps : PassesOwn (model P w) (cxOf (L2.CX P w) P w K mg base ["steps", "left", "found", "able", "one", "other"] "cheapest" (defScope (top 22)) a cdv A' outer s H E).A (cxOf (L2.CX P w) P w K mg base ["steps", "left", "found", "able", "one", "other"] "cheapest" (defScope (top 22)) a cdv A' outer s H E).env (cxOf (L2.CX P w) P w K mg base ["steps", "left", "found", "able", "one", "other"] "cheapest" (defScope (top 22)) a cdv A' outer s H E).xe := passes_of rfl
    (mss_cons (ms_expr (g_call c_need_steps hr hgd tk (ma_cons (gv 0) ma_nil) (alen_cons alen_nil))) (mss_cons (ms_parU (mns_cons (ML.mn (g_listR A.list A.range (g_len A.len (mab_cons (ME.mb (gv 0)) mab_nil)))) (mns_cons (ML.mn (ml_lst ma_nil)) mns_nil)) rfl S.nd (i := 1) (j := 2) rfl rfl (by first | exact .inl rfl | exact .inr rfl) (by first | exact .inl rfl | exact .inr rfl) (by first | exact .inr rfl | exact .inl rfl) (by first | exact .inr rfl | exact .inl rfl) (by rfl)) (mss_cons (ms_while (n := 100) ps (gt_cmp (o_ne hr) (go 1) (ME.mb (ML.me (ml_lst ma_nil)))) (mss_cons (ms_setLc (own := [("one", 4)]) bok_name rfl S.nd (i := 3) rfl rfl (by rfl) (mic_seq (go 1)) (blkOk_by (by rfl)) (fun _ _ _ _ _ => (g_nm 4 S.nd)) (fun _ _ _ _ _ => (mts_one (mt_not (mt_val (g_any A.any (mab_cons (ME.mb (ML.me (ml_lc (own := [("other", 5)]) bok_name rfl S.nd (mic_seq (go 1)) (blkOk_by (by rfl)) (fun _ _ _ _ _ => (g_nm 5 S.nd)) (fun _ _ _ _ _ => mts_nil) (fun _ _ _ _ _ => (g_call c_is_better_first hr hgd takes_F (ma_cons (g_ix (ME.mb (gv 0)) (gv 5)) (ma_cons (g_ix (ME.mb (gv 0)) (gv 4)) ma_nil)) (alen_cons (alen_cons alen_nil))))))) mab_nil)))))) (fun _ _ _ _ _ => (gv 4))) (mss_cons (g_app 2 (g_ix (ME.mb (gv 3)) m_int)) (mss_cons (g_rem 1 (g_ix (ME.mb (gv 3)) m_int)) mss_nil)))) (mss_cons (ms_ret (g_tuple A.tuple (mab_cons (go 2) mab_nil))) mss_nil))))
theorem sc_is_cheapest : FnScope ["steps", "thing"] ["steps", "thing"] (defScope (top 23)) := ⟨rfl, rfl, rfl, by decide +kernel, rfl, by decide +kernel, by decide +kernel⟩
theorem ok_is_cheapest (A : Fc mg) (F : FnP K "is_cheapest" (top 23) a fd) (c_first_wrong : Cal P w K mg base 2 "first_wrong" ["steps", "order"] F_first_wrong) (c_is_order : Cal P w K mg base 3 "is_order" ["steps", "thing"] F_is_order) (c_need_steps : Cal P w K mg base 5 "need_steps" ["thing"] F_need_steps) : FnG P w K mg base 6 a fd ["steps", "thing"] (spF K 2 F_is_cheapest) :=
  have S := sc_is_cheapest
  fnG_of F S (by decide) fun cdv A' outer s H E hr hgd =>
    have tk : Takes (cxOf (L2.CX P w) P w K mg base ["steps", "thing"] "is_cheapest" (defScope (top 23)) a cdv A' outer s H E) (WE E) := takes_of rfl rfl rfl rfl
    have ps : PassesOwn (model P w) (cxOf (L2.CX P w) P w K mg base ["steps", "thing"] "is_cheapest" (defScope (top 23)) a cdv A' outer s H E).A (cxOf (L2.CX P w) P w K mg base ["steps", "thing"] "is_cheapest" (defScope (top 23)) a cdv A' outer s H E).env (cxOf (L2.CX P w) P w K mg base ["steps", "thing"] "is_cheapest" (defScope (top 23)) a cdv A' outer s H E).xe := passes_of rfl
    (mss_cons (ms_expr (g_call c_need_steps hr hgd tk (ma_cons (gv 0) ma_nil) (alen_cons alen_nil))) (mss_cons (ms_ret (m_and (g_call c_is_order hr hgd tk (ma_cons (gv 0) (ma_cons (gv 1) ma_nil)) (alen_cons (alen_cons alen_nil))) (m_one (g_cmp p_is (ME.mb (g_call c_first_wrong hr hgd tk (ma_cons (gv 0) (ma_cons (gv 1) ma_nil)) (alen_cons (alen_cons alen_nil)))) (ME.mb m_non))))) mss_nil))
theorem sc__law_cell_at : FnScope ["_law_script", "_law_k"] ["_law_script", "_law_k"] (defScope (top 25)) := ⟨rfl, rfl, rfl, by decide +kernel, rfl, by decide +kernel, by decide +kernel⟩
theorem ok__law_cell_at (A : Fc mg) (F : FnP K "_law_cell_at" (top 25) a fd)  : FnG P w K mg base 1 a fd ["_law_script", "_law_k"] (spF K 2 F__law_cell_at) :=
  have S := sc__law_cell_at
  fnG_of F S (by decide) fun cdv A' outer s H E hr hgd =>
    have tk : Takes (cxOf (L2.CX P w) P w K mg base ["_law_script", "_law_k"] "_law_cell_at" (defScope (top 25)) a cdv A' outer s H E) (WE E) := takes_of rfl rfl rfl rfl
    have ps : PassesOwn (model P w) (cxOf (L2.CX P w) P w K mg base ["_law_script", "_law_k"] "_law_cell_at" (defScope (top 25)) a cdv A' outer s H E).A (cxOf (L2.CX P w) P w K mg base ["_law_script", "_law_k"] "_law_cell_at" (defScope (top 25)) a cdv A' outer s H E).env (cxOf (L2.CX P w) P w K mg base ["_law_script", "_law_k"] "_law_cell_at" (defScope (top 25)) a cdv A' outer s H E).xe := passes_of rfl
    (mss_cons (ms_if (gt_cmp (o_lt hr) (ME.mb (gv 1)) (ME.mb (g_len A.len (mab_cons (ME.mb (gv 0)) mab_nil)))) (mss_cons (ms_ret (g_ix (ME.mb (gv 0)) (gv 1))) mss_nil) mss_nil) (mss_cons (ms_ret m_int) mss_nil))
theorem sc__law_pen : FnScope ["_law_cell"] ["_law_cell"] (defScope (top 26)) := ⟨rfl, rfl, rfl, by decide +kernel, rfl, by decide +kernel, by decide +kernel⟩
theorem ok__law_pen (A : Fc mg) (F : FnP K "_law_pen" (top 26) a fd)  : FnG P w K mg base 1 a fd ["_law_cell"] (spF K 1 F__law_pen) :=
  have S := sc__law_pen
  fnG_of F S (by decide) fun cdv A' outer s H E hr hgd =>
    have tk : Takes (cxOf (L2.CX P w) P w K mg base ["_law_cell"] "_law_pen" (defScope (top 26)) a cdv A' outer s H E) (WE E) := takes_of rfl rfl rfl rfl
    have ps : PassesOwn (model P w) (cxOf (L2.CX P w) P w K mg base ["_law_cell"] "_law_pen" (defScope (top 26)) a cdv A' outer s H E).A (cxOf (L2.CX P w) P w K mg base ["_law_cell"] "_law_pen" (defScope (top 26)) a cdv A' outer s H E).env (cxOf (L2.CX P w) P w K mg base ["_law_cell"] "_law_pen" (defScope (top 26)) a cdv A' outer s H E).xe := passes_of rfl
    (mss_cons (ms_retG (ml_lst (ma_cons (g_max A.max (mab_cons (ME.mb m_int) (mab_cons (ME.mb (m_op p_sub (ME.mb (gv 0)) (ME.mb (m_op p_pow (ME.mb m_int) (ME.mb m_int))))) mab_nil))) (ma_cons (m_op p_mod (ME.mb (gv 0)) (ME.mb m_int)) (ma_cons m_int ma_nil))))) mss_nil)
theorem sc__law_draw : FnScope ["_law_pen_here", "_law_count", "_law_digit", "_law_stir"] ["_law_pen_here", "_law_count"] (defScope (top 27)) := ⟨rfl, rfl, rfl, by decide +kernel, rfl, by decide +kernel, by decide +kernel⟩
theorem ok__law_draw (A : Fc mg) (F : FnP K "_law_draw" (top 27) a fd)  : FnG P w K mg base 1 a fd ["_law_pen_here", "_law_count"] (spF K 2 F__law_draw) :=
  have S := sc__law_draw
  fnG_of F S (by decide) fun cdv A' outer s H E hr hgd =>
    have tk : Takes (cxOf (L2.CX P w) P w K mg base ["_law_pen_here", "_law_count", "_law_digit", "_law_stir"] "_law_draw" (defScope (top 27)) a cdv A' outer s H E) (WE E) := takes_of rfl rfl rfl rfl
    have ps : PassesOwn (model P w) (cxOf (L2.CX P w) P w K mg base ["_law_pen_here", "_law_count", "_law_digit", "_law_stir"] "_law_draw" (defScope (top 27)) a cdv A' outer s H E).A (cxOf (L2.CX P w) P w K mg base ["_law_pen_here", "_law_count", "_law_digit", "_law_stir"] "_law_draw" (defScope (top 27)) a cdv A' outer s H E).env (cxOf (L2.CX P w) P w K mg base ["_law_pen_here", "_law_count", "_law_digit", "_law_stir"] "_law_draw" (defScope (top 27)) a cdv A' outer s H E).xe := passes_of rfl
    (mss_cons (ms_if (gt_cmp o_gt (ME.mb (g_ix (ME.mb (gv 0)) m_int)) (ME.mb m_int)) (mss_cons (g_set 2 S.nd (m_op p_mod (ME.mb (g_ix (ME.mb (gv 0)) m_int)) (ME.mb (gv 1)))) (mss_cons (ms_setG (m_op p_div (ME.mb (g_ix (ME.mb (gv 0)) m_int)) (ME.mb (gv 1))) (gv 0) m_int) (mss_cons (ms_ret (gv 2)) mss_nil))) mss_nil) (mss_cons (ms_setG (m_op p_add (ME.mb (g_ix (ME.mb (gv 0)) m_int)) (ME.mb m_int)) (gv 0) m_int) (mss_cons (g_set 3 S.nd (m_op p_mod (ME.mb (m_op p_mul (ME.mb (m_op p_add (ME.mb (g_ix (ME.mb (gv 0)) m_int)) (ME.mb (m_op p_mul (ME.mb m_int) (ME.mb (g_ix (ME.mb (gv 0)) m_int)))))) (ME.mb (m_op p_add (ME.mb m_int) (ME.mb (m_op p_mul (ME.mb m_int) (ME.mb (g_ix (ME.mb (gv 0)) m_int)))))))) (ME.mb m_int))) (mss_cons (g_set 3 S.nd (m_op p_mod (ME.mb (m_op p_add (ME.mb (m_op p_add (ME.mb (m_op p_mul (ME.mb (gv 3)) (ME.mb (gv 3)))) (ME.mb (m_op p_mul (ME.mb m_int) (ME.mb (g_ix (ME.mb (gv 0)) m_int)))))) (ME.mb m_int))) (ME.mb m_int))) (mss_cons (ms_ret (m_op p_mod (ME.mb (m_op p_div (ME.mb (m_op p_mod (ME.mb (m_op p_mul (ME.mb (gv 3)) (ME.mb m_int))) (ME.mb m_int))) (ME.mb m_int))) (ME.mb (gv 1)))) mss_nil)))))
theorem sc__law_pick : FnScope ["_law_pen_here", "_law_some"] ["_law_pen_here", "_law_some"] (defScope (top 28)) := ⟨rfl, rfl, rfl, by decide +kernel, rfl, by decide +kernel, by decide +kernel⟩
theorem ok__law_pick (A : Fc mg) (F : FnP K "_law_pick" (top 28) a fd) (c__law_draw : Cal P w K mg base 1 "_law_draw" ["_law_pen_here", "_law_count"] F__law_draw) : FnG P w K mg base 2 a fd ["_law_pen_here", "_law_some"] (spF K 2 F__law_pick) :=
  have S := sc__law_pick
  fnG_of F S (by decide) fun cdv A' outer s H E hr hgd =>
    have tk : Takes (cxOf (L2.CX P w) P w K mg base ["_law_pen_here", "_law_some"] "_law_pick" (defScope (top 28)) a cdv A' outer s H E) (WE E) := takes_of rfl rfl rfl rfl
    have ps : PassesOwn (model P w) (cxOf (L2.CX P w) P w K mg base ["_law_pen_here", "_law_some"] "_law_pick" (defScope (top 28)) a cdv A' outer s H E).A (cxOf (L2.CX P w) P w K mg base ["_law_pen_here", "_law_some"] "_law_pick" (defScope (top 28)) a cdv A' outer s H E).env (cxOf (L2.CX P w) P w K mg base ["_law_pen_here", "_law_some"] "_law_pick" (defScope (top 28)) a cdv A' outer s H E).xe := passes_of rfl
    (mss_cons (ms_ret (g_ix (ME.mb (gv 1)) (g_call c__law_draw hr hgd tk (ma_cons (gv 0) (ma_cons (g_len A.len (mab_cons (ME.mb (gv 1)) mab_nil)) ma_nil)) (alen_cons (alen_cons alen_nil))))) mss_nil)
theorem sc__law_mixed : FnScope ["_law_pen_here", "_law_things", "_law_rest", "_law_found", "_law_turn"] ["_law_pen_here", "_law_things"] (defScope (top 29)) := ⟨rfl, rfl, rfl, by decide +kernel, rfl, by decide +kernel, by decide +kernel⟩
theorem ok__law_mixed (A : Fc mg) (F : FnP K "_law_mixed" (top 29) a fd) (c__law_draw : Cal P w K mg base 1 "_law_draw" ["_law_pen_here", "_law_count"] F__law_draw) : FnG P w K mg base 2 a fd ["_law_pen_here", "_law_things"] (spF K 2 F__law_mixed) :=
  have S := sc__law_mixed
  fnG_of F S (by decide) fun cdv A' outer s H E hr hgd =>
    have tk : Takes (cxOf (L2.CX P w) P w K mg base ["_law_pen_here", "_law_things", "_law_rest", "_law_found", "_law_turn"] "_law_mixed" (defScope (top 29)) a cdv A' outer s H E) (WE E) := takes_of rfl rfl rfl rfl
    have ps : PassesOwn (model P w) (cxOf (L2.CX P w) P w K mg base ["_law_pen_here", "_law_things", "_law_rest", "_law_found", "_law_turn"] "_law_mixed" (defScope (top 29)) a cdv A' outer s H E).A (cxOf (L2.CX P w) P w K mg base ["_law_pen_here", "_law_things", "_law_rest", "_law_found", "_law_turn"] "_law_mixed" (defScope (top 29)) a cdv A' outer s H E).env (cxOf (L2.CX P w) P w K mg base ["_law_pen_here", "_law_things", "_law_rest", "_law_found", "_law_turn"] "_law_mixed" (defScope (top 29)) a cdv A' outer s H E).xe := passes_of rfl
    (mss_cons (ms_par (mns_cons (ML.mn (g_list A.list (mab_cons (ME.mb (gv 1)) mab_nil))) (mns_cons (ML.mn (ml_lst ma_nil)) mns_nil)) rfl S.nd (i := 2) (j := 3) rfl rfl (by decide) rfl rfl (by rfl)) (mss_cons (ms_for ps rfl (mi_range1 rfl A.range (ma_cons (g_len A.len (mab_cons (ME.mb (gv 1)) mab_nil)) ma_nil)) (g_nm 4 S.nd) (mss_cons (g_appPop 3 2 (g_call c__law_draw hr hgd tk (ma_cons (gv 0) (ma_cons (g_len A.len (mab_cons (go 2) mab_nil)) ma_nil)) (alen_cons (alen_cons alen_nil)))) mss_nil)) (mss_cons (ms_retO (i := 3) rfl (by first | exact .inl rfl | exact .inr (.inl rfl))) mss_nil)))
theorem sc__law_steps : FnScope ["_law_pen_here", "_law_found", "_law_kind", "_law_lap", "_law_share", "_law_amount"] ["_law_pen_here"] (defScope (top 30)) := ⟨rfl, rfl, rfl, by decide +kernel, rfl, by decide +kernel, by decide +kernel⟩
theorem ok__law_steps (A : Fc mg) (F : FnP K "_law_steps" (top 30) a fd) (c__law_draw : Cal P w K mg base 1 "_law_draw" ["_law_pen_here", "_law_count"] F__law_draw) (c__law_pick : Cal P w K mg base 2 "_law_pick" ["_law_pen_here", "_law_some"] F__law_pick) : FnG P w K mg base 3 a fd ["_law_pen_here"] (spF K 1 F__law_steps) :=
  have S := sc__law_steps
  fnG_of F S (by decide) fun cdv A' outer s H E hr hgd =>
    have tk : Takes (cxOf (L2.CX P w) P w K mg base ["_law_pen_here", "_law_found", "_law_kind", "_law_lap", "_law_share", "_law_amount"] "_law_steps" (defScope (top 30)) a cdv A' outer s H E) (WE E) := takes_of rfl rfl rfl rfl
    have ps : PassesOwn (model P w) (cxOf (L2.CX P w) P w K mg base ["_law_pen_here", "_law_found", "_law_kind", "_law_lap", "_law_share", "_law_amount"] "_law_steps" (defScope (top 30)) a cdv A' outer s H E).A (cxOf (L2.CX P w) P w K mg base ["_law_pen_here", "_law_found", "_law_kind", "_law_lap", "_law_share", "_law_amount"] "_law_steps" (defScope (top 30)) a cdv A' outer s H E).env (cxOf (L2.CX P w) P w K mg base ["_law_pen_here", "_law_found", "_law_kind", "_law_lap", "_law_share", "_law_amount"] "_law_steps" (defScope (top 30)) a cdv A' outer s H E).xe := passes_of rfl
    (mss_cons (ms_par (mns_cons (ML.mn (ml_lst ma_nil)) (mns_cons (ME.mn (g_call c__law_draw hr hgd tk (ma_cons (gv 0) (ma_cons m_int ma_nil)) (alen_cons (alen_cons alen_nil)))) mns_nil)) rfl S.nd (i := 1) (j := 2) rfl rfl (by decide) rfl rfl (by rfl)) (mss_cons (ms_for ps rfl (mi_range1 rfl A.range (ma_cons (m_op p_add (ME.mb m_int) (ME.mb (g_call c__law_draw hr hgd tk (ma_cons (gv 0) (ma_cons m_int ma_nil)) (alen_cons (alen_cons alen_nil))))) ma_nil)) (g_nm 3 S.nd) (mss_cons (ms_par (mns_cons (ME.mn (m_op p_mul (ME.mb m_int) (ME.mb (g_call c__law_draw hr hgd tk (ma_cons (gv 0) (ma_cons m_int ma_nil)) (alen_cons (alen_cons alen_nil)))))) (mns_cons (ME.mn (m_op p_mul (ME.mb m_int) (ME.mb (g_call c__law_draw hr hgd tk (ma_cons (gv 0) (ma_cons m_int ma_nil)) (alen_cons (alen_cons alen_nil)))))) mns_nil)) rfl S.nd (i := 4) (j := 5) rfl rfl (by decide) rfl rfl (by rfl)) (mss_cons (ms_if (gt_cmp (o_eq hr) (ME.mb (gv 2)) (ME.mb m_int)) (mss_cons (ms_par (mns_cons (ME.mn (g_call c__law_draw hr hgd tk (ma_cons (gv 0) (ma_cons m_int ma_nil)) (alen_cons (alen_cons alen_nil)))) (mns_cons (ME.mn (g_call c__law_draw hr hgd tk (ma_cons (gv 0) (ma_cons m_int ma_nil)) (alen_cons (alen_cons alen_nil)))) mns_nil)) rfl S.nd (i := 4) (j := 5) rfl rfl (by decide) rfl rfl (by rfl)) mss_nil) mss_nil) (mss_cons (ms_if (gt_cmp (o_eq hr) (ME.mb (gv 2)) (ME.mb m_int)) (mss_cons (ms_par (mns_cons (ME.mn (g_call c__law_pick hr hgd tk (ma_cons (gv 0) (ma_cons (ML.me (ml_lst (ma_cons m_int (ma_cons m_int (ma_cons m_int ma_nil))))) ma_nil)) (alen_cons (alen_cons alen_nil)))) (mns_cons (ME.mn (g_call c__law_pick hr hgd tk (ma_cons (gv 0) (ma_cons (ML.me (ml_lst (ma_cons m_int (ma_cons m_int (ma_cons m_int ma_nil))))) ma_nil)) (alen_cons (alen_cons alen_nil)))) mns_nil)) rfl S.nd (i := 4) (j := 5) rfl rfl (by decide) rfl rfl (by rfl)) mss_nil) mss_nil) (mss_cons (g_app 1 (m_if (gt_cmp (o_ne hr) (ME.mb (m_tup (ma_cons (gv 4) (ma_cons (gv 5) ma_nil)))) (ME.mb (m_tup (ma_cons m_int (ma_cons m_int ma_nil))))) (m_tup (ma_cons (gv 4) (ma_cons (gv 5) ma_nil))) (m_tup (ma_cons m_int (ma_cons m_int ma_nil))))) mss_nil))))) (mss_cons (ms_ret (g_tuple A.tuple (mab_cons (go 1) mab_nil))) mss_nil)))
theorem sc__law_exchanged : FnScope ["_law_order", "_law_at"] ["_law_order", "_law_at"] (defScope (top 31)) := ⟨rfl, rfl, rfl, by decide +kernel, rfl, by decide +kernel, by decide +kernel⟩
theorem ok__law_exchanged (A : Fc mg) (F : FnP K "_law_exchanged" (top 31) a fd)  : FnG P w K mg base 1 a fd ["_law_order", "_law_at"] (spF K 2 F__law_exchanged) :=
  have S := sc__law_exchanged
  fnG_of F S (by decide) fun cdv A' outer s H E hr hgd =>
    have tk : Takes (cxOf (L2.CX P w) P w K mg base ["_law_order", "_law_at"] "_law_exchanged" (defScope (top 31)) a cdv A' outer s H E) (WE E) := takes_of rfl rfl rfl rfl
    have ps : PassesOwn (model P w) (cxOf (L2.CX P w) P w K mg base ["_law_order", "_law_at"] "_law_exchanged" (defScope (top 31)) a cdv A' outer s H E).A (cxOf (L2.CX P w) P w K mg base ["_law_order", "_law_at"] "_law_exchanged" (defScope (top 31)) a cdv A' outer s H E).env (cxOf (L2.CX P w) P w K mg base ["_law_order", "_law_at"] "_law_exchanged" (defScope (top 31)) a cdv A' outer s H E).xe := passes_of rfl
    (mss_cons (ms_ret (m_op p_add (ME.mb (m_op p_add (ME.mb (m_slice (ME.mb (gv 0)) mo_none (mo_some (gv 1)))) (ME.mb (m_tup (ma_cons (g_ix (ME.mb (gv 0)) (m_op p_add (ME.mb (gv 1)) (ME.mb m_int))) (ma_cons (g_ix (ME.mb (gv 0)) (gv 1)) ma_nil)))))) (ME.mb (m_slice (ME.mb (gv 0)) (mo_some (m_op p_add (ME.mb (gv 1)) (ME.mb m_int))) mo_none)))) mss_nil)
theorem sc__law_is_sorted : FnScope ["_law_steps_here", "_law_order", "_law_prices", "_law_turn", "_law_at", "_law_low", "_law_pairs", "_law_other", "_law_price", "_law_one", "_law_due"] ["_law_steps_here", "_law_order", "_law_prices"] (defScope (top 32)) := ⟨rfl, rfl, rfl, by decide +kernel, rfl, by decide +kernel, by decide +kernel⟩
theorem ok__law_is_sorted (A : Fc mg) (F : FnP K "_law_is_sorted" (top 32) a fd) (c__law_exchanged : Cal P w K mg base 1 "_law_exchanged" ["_law_order", "_law_at"] F__law_exchanged) (c_after : Cal P w K mg base 7 "after" ["steps", "order", "price"] F_after) (c_cheapest : Cal P w K mg base 6 "cheapest" ["steps"] F_cheapest) (c_is_cheapest : Cal P w K mg base 6 "is_cheapest" ["steps", "thing"] F_is_cheapest) (c_wrong : Cal P w K mg base 7 "wrong" ["steps", "order"] F_wrong) : FnG P w K mg base 8 a fd ["_law_steps_here", "_law_order", "_law_prices"] (spF K 3 F__law_is_sorted) :=
  have S := sc__law_is_sorted
  fnG_of F S (by decide) fun cdv A' outer s H E hr hgd =>
    have tk : Takes (cxOf (L2.CX P w) P w K mg base ["_law_steps_here", "_law_order", "_law_prices", "_law_turn", "_law_at", "_law_low", "_law_pairs", "_law_other", "_law_price", "_law_one", "_law_due"] "_law_is_sorted" (defScope (top 32)) a cdv A' outer s H E) (WE E) := takes_of rfl rfl rfl rfl
    have ps : PassesOwn (model P w) (cxOf (L2.CX P w) P w K mg base ["_law_steps_here", "_law_order", "_law_prices", "_law_turn", "_law_at", "_law_low", "_law_pairs", "_law_other", "_law_price", "_law_one", "_law_due"] "_law_is_sorted" (defScope (top 32)) a cdv A' outer s H E).A (cxOf (L2.CX P w) P w K mg base ["_law_steps_here", "_law_order", "_law_prices", "_law_turn", "_law_at", "_law_low", "_law_pairs", "_law_other", "_law_price", "_law_one", "_law_due"] "_law_is_sorted" (defScope (top 32)) a cdv A' outer s H E).env (cxOf (L2.CX P w) P w K mg base ["_law_steps_here", "_law_order", "_law_prices", "_law_turn", "_law_at", "_law_low", "_law_pairs", "_law_other", "_law_price", "_law_one", "_law_due"] "_law_is_sorted" (defScope (top 32)) a cdv A' outer s H E).xe := passes_of rfl
    (mss_cons (ms_for ps rfl (mi_range1 rfl A.range (ma_cons m_int ma_nil)) (g_nm 3 S.nd) (mss_cons (g_set 4 S.nd (g_call c_wrong hr hgd tk (ma_cons (gv 0) (ma_cons (gv 1) ma_nil)) (alen_cons (alen_cons alen_nil)))) (mss_cons (ms_if (gt_cmp (o_ne hr) (ME.mb (g_call c_is_cheapest hr hgd tk (ma_cons (gv 0) (ma_cons (gv 1) ma_nil)) (alen_cons (alen_cons alen_nil)))) (ME.mb (g_cmp p_is (ME.mb (gv 4)) (ME.mb m_non)))) (mss_cons (ms_ret m_bl) mss_nil) mss_nil) (mss_cons (ms_if (gt_cmp p_is (ME.mb (gv 4)) (ME.mb m_non)) (mss_cons (g_set 5 S.nd (g_call c_cheapest hr hgd tk (ma_cons (gv 0) ma_nil) (alen_cons alen_nil))) (mss_cons (ms_setLc (own := [("_law_price", 8)]) bok_name rfl S.nd (i := 6) rfl rfl (by rfl) (mic_seq (ME.mb (gv 2))) (blkOk_by (by rfl)) (fun _ _ _ _ _ => (g_nm 8 S.nd)) (fun _ _ _ _ _ => mts_nil) (fun _ _ _ _ _ => (m_tup (ma_cons (g_call c_after hr hgd takes_F (ma_cons (gv 0) (ma_cons (gv 1) (ma_cons (gv 8) ma_nil))) (alen_cons (alen_cons (alen_cons alen_nil)))) (ma_cons (g_call c_after hr hgd takes_F (ma_cons (gv 0) (ma_cons (gv 5) (ma_cons (gv 8) ma_nil))) (alen_cons (alen_cons (alen_cons alen_nil)))) ma_nil))))) (mss_cons (ms_ret (g_cmp (o_eq hr) (ME.mb (ML.me (ml_lc (own := [("_law_one", 9), ("_law_due", 10)]) (bok_tup (bsok_cons bok_name (bsok_cons bok_name bsok_nil))) rfl S.nd (mic_seq (ME.mb (gv 6))) (blkOk_by (by rfl)) (fun _ _ _ _ _ => (mg_tup rfl (mgs_cons (g_nm 9 S.nd) (mgs_cons (g_nm 10 S.nd) mgs_nil)))) (fun _ _ _ _ _ => (mts_one (gt_cmp (o_ne hr) (ME.mb (gv 9)) (ME.mb (gv 10))))) (fun _ _ _ _ _ => m_int)))) (ME.mb (ML.me (ml_lst ma_nil))))) mss_nil))) mss_nil) (mss_cons (g_set 7 S.nd (g_call c__law_exchanged hr hgd tk (ma_cons (gv 1) (ma_cons (gv 4) ma_nil)) (alen_cons (alen_cons alen_nil)))) (mss_cons (ms_if (gt_cmp (o_ne hr) (ME.mb (ML.me (ml_lc (own := [("_law_price", 8)]) bok_name rfl S.nd (mic_seq (ME.mb (gv 2))) (blkOk_by (by rfl)) (fun _ _ _ _ _ => (g_nm 8 S.nd)) (fun _ _ _ _ _ => (mts_one (gt_cmp o_ge (ME.mb (g_call c_after hr hgd takes_F (ma_cons (gv 0) (ma_cons (gv 7) (ma_cons (gv 8) ma_nil))) (alen_cons (alen_cons (alen_cons alen_nil))))) (ME.mb (g_call c_after hr hgd takes_F (ma_cons (gv 0) (ma_cons (gv 1) (ma_cons (gv 8) ma_nil))) (alen_cons (alen_cons (alen_cons alen_nil)))))))) (fun _ _ _ _ _ => m_int)))) (ME.mb (ML.me (ml_lst ma_nil)))) (mss_cons (ms_ret m_bl) mss_nil) mss_nil) (mss_cons (g_set 1 S.nd (gv 7)) mss_nil))))))) (mss_cons (ms_ret m_bl) mss_nil))
theorem sc__law_right : FnScope ["_law_pen_here", "_law_steps_here", "_law_low", "_law_prices", "_law_turn", "_law_order", "_law_price"] ["_law_pen_here"] (defScope (top 33)) := ⟨rfl, rfl, rfl, by decide +kernel, rfl, by decide +kernel, by decide +kernel⟩
theorem ok__law_right (A : Fc mg) (F : FnP K "_law_right" (top 33) a fd) (c__law_draw : Cal P w K mg base 1 "_law_draw" ["_law_pen_here", "_law_count"] F__law_draw) (c__law_is_sorted : Cal P w K mg base 8 "_law_is_sorted" ["_law_steps_here", "_law_order", "_law_prices"] F__law_is_sorted) (c__law_mixed : Cal P w K mg base 2 "_law_mixed" ["_law_pen_here", "_law_things"] F__law_mixed) (c__law_steps : Cal P w K mg base 3 "_law_steps" ["_law_pen_here"] F__law_steps) (c_after : Cal P w K mg base 7 "after" ["steps", "order", "price"] F_after) (c_cheapest : Cal P w K mg base 6 "cheapest" ["steps"] F_cheapest) (c_is_cheapest : Cal P w K mg base 6 "is_cheapest" ["steps", "thing"] F_is_cheapest) (c_wrong : Cal P w K mg base 7 "wrong" ["steps", "order"] F_wrong) : FnG P w K mg base 9 a fd ["_law_pen_here"] (spF K 1 F__law_right) :=
  have S := sc__law_right
  fnG_of F S (by decide) fun cdv A' outer s H E hr hgd =>
    have tk : Takes (cxOf (L2.CX P w) P w K mg base ["_law_pen_here", "_law_steps_here", "_law_low", "_law_prices", "_law_turn", "_law_order", "_law_price"] "_law_right" (defScope (top 33)) a cdv A' outer s H E) (WE E) := takes_of rfl rfl rfl rfl
    have ps : PassesOwn (model P w) (cxOf (L2.CX P w) P w K mg base ["_law_pen_here", "_law_steps_here", "_law_low", "_law_prices", "_law_turn", "_law_order", "_law_price"] "_law_right" (defScope (top 33)) a cdv A' outer s H E).A (cxOf (L2.CX P w) P w K mg base ["_law_pen_here", "_law_steps_here", "_law_low", "_law_prices", "_law_turn", "_law_order", "_law_price"] "_law_right" (defScope (top 33)) a cdv A' outer s H E).env (cxOf (L2.CX P w) P w K mg base ["_law_pen_here", "_law_steps_here", "_law_low", "_law_prices", "_law_turn", "_law_order", "_law_price"] "_law_right" (defScope (top 33)) a cdv A' outer s H E).xe := passes_of rfl
    (mss_cons (g_set 1 S.nd (g_call c__law_steps hr hgd tk (ma_cons (gv 0) ma_nil) (alen_cons alen_nil))) (mss_cons (ms_parU (mns_cons (ME.mn (g_call c_cheapest hr hgd tk (ma_cons (gv 1) ma_nil) (alen_cons alen_nil))) (mns_cons (ME.mn (ML.me (ml_lst (ma_cons m_int (ma_cons m_int (ma_cons (g_call c__law_draw hr hgd tk (ma_cons (gv 0) (ma_cons m_int ma_nil)) (alen_cons (alen_cons alen_nil))) ma_nil)))))) mns_nil)) rfl S.nd (i := 2) (j := 3) rfl rfl (by first | exact .inl rfl | exact .inr rfl) (by first | exact .inl rfl | exact .inr rfl) (by first | exact .inr rfl | exact .inl rfl) (by first | exact .inr rfl | exact .inl rfl) (by rfl)) (mss_cons (ms_if (MW.mt (mw_or (gt_cmp p_isnt (ME.mb (g_call c_wrong hr hgd tk (ma_cons (gv 1) (ma_cons (gv 2) ma_nil)) (alen_cons (alen_cons alen_nil)))) (ME.mb m_non)) (mw_or1 (mt_not (mt_val (g_call c_is_cheapest hr hgd tk (ma_cons (gv 1) (ma_cons (gv 2) ma_nil)) (alen_cons (alen_cons alen_nil)))))))) (mss_cons (ms_ret m_bl) mss_nil) mss_nil) (mss_cons (ms_for ps rfl (mi_range1 rfl A.range (ma_cons m_int ma_nil)) (g_nm 4 S.nd) (mss_cons (g_set 5 S.nd (g_tuple A.tuple (mab_cons (ME.mb (g_call c__law_mixed hr hgd tk (ma_cons (gv 0) (ma_cons (ML.me (g_listR A.list A.range (g_len A.len (mab_cons (ME.mb (gv 1)) mab_nil)))) ma_nil)) (alen_cons (alen_cons alen_nil)))) mab_nil))) (mss_cons (ms_if (gt_cmp (o_ne hr) (ME.mb (ML.me (ml_lc (own := [("_law_price", 6)]) bok_name rfl S.nd (mic_seq (ME.mb (gv 3))) (blkOk_by (by rfl)) (fun _ _ _ _ _ => (g_nm 6 S.nd)) (fun _ _ _ _ _ => (mts_one (gt_cmp (o_lt hr) (ME.mb (g_call c_after hr hgd takes_F (ma_cons (gv 1) (ma_cons (gv 5) (ma_cons (gv 6) ma_nil))) (alen_cons (alen_cons (alen_cons alen_nil))))) (ME.mb (g_call c_after hr hgd takes_F (ma_cons (gv 1) (ma_cons (gv 2) (ma_cons (gv 6) ma_nil))) (alen_cons (alen_cons (alen_cons alen_nil)))))))) (fun _ _ _ _ _ => m_int)))) (ME.mb (ML.me (ml_lst ma_nil)))) (mss_cons (ms_ret m_bl) mss_nil) mss_nil) (mss_cons (ms_if (mt_not (mt_val (g_call c__law_is_sorted hr hgd tk (ma_cons (gv 1) (ma_cons (gv 5) (ma_cons (gv 3) ma_nil))) (alen_cons (alen_cons (alen_cons alen_nil)))))) (mss_cons (ms_ret m_bl) mss_nil) mss_nil) mss_nil)))) (mss_cons (ms_ret m_bl) mss_nil)))))
theorem sc_law : FnScope ["_law_script", "_law_k", "_law_pen_here", "_law_lap"] ["_law_script"] (defScope (top 34)) := ⟨rfl, rfl, rfl, by decide +kernel, rfl, by decide +kernel, by decide +kernel⟩
theorem ok_law (A : Fc mg) (F : FnP K "law" (top 34) a fd) (c__law_cell_at : Cal P w K mg base 1 "_law_cell_at" ["_law_script", "_law_k"] F__law_cell_at) (c__law_pen : Cal P w K mg base 1 "_law_pen" ["_law_cell"] F__law_pen) (c__law_right : Cal P w K mg base 9 "_law_right" ["_law_pen_here"] F__law_right) : FnG P w K mg base 10 a fd ["_law_script"] (spF K 1 F_law) :=
  have S := sc_law
  fnG_of F S (by decide) fun cdv A' outer s H E hr hgd =>
    have tk : Takes (cxOf (L2.CX P w) P w K mg base ["_law_script", "_law_k", "_law_pen_here", "_law_lap"] "law" (defScope (top 34)) a cdv A' outer s H E) (WE E) := takes_of rfl rfl rfl rfl
    have ps : PassesOwn (model P w) (cxOf (L2.CX P w) P w K mg base ["_law_script", "_law_k", "_law_pen_here", "_law_lap"] "law" (defScope (top 34)) a cdv A' outer s H E).A (cxOf (L2.CX P w) P w K mg base ["_law_script", "_law_k", "_law_pen_here", "_law_lap"] "law" (defScope (top 34)) a cdv A' outer s H E).env (cxOf (L2.CX P w) P w K mg base ["_law_script", "_law_k", "_law_pen_here", "_law_lap"] "law" (defScope (top 34)) a cdv A' outer s H E).xe := passes_of rfl
    (mss_cons (ms_for ps rfl (mi_range1 rfl A.range (ma_cons (g_max A.max (mab_cons (ME.mb m_int) (mab_cons (ME.mb (g_min A.min (mab_cons (ME.mb (g_len A.len (mab_cons (ME.mb (gv 0)) mab_nil))) (mab_cons (ME.mb m_int) mab_nil)))) mab_nil))) ma_nil)) (g_nm 1 S.nd) (mss_cons (g_set 2 S.nd (g_call c__law_pen hr hgd tk (ma_cons (g_call c__law_cell_at hr hgd tk (ma_cons (gv 0) (ma_cons (gv 1) ma_nil)) (alen_cons (alen_cons alen_nil))) ma_nil) (alen_cons alen_nil))) (mss_cons (ms_for ps rfl (mi_range1 rfl A.range (ma_cons m_int ma_nil)) (g_nm 3 S.nd) (mss_cons (ms_if (mt_not (mt_val (g_call c__law_right hr hgd tk (ma_cons (gv 2) ma_nil) (alen_cons alen_nil)))) (mss_cons (ms_ret m_bl) mss_nil) mss_nil) mss_nil)) mss_nil))) (mss_cons (ms_ret m_bl) mss_nil))
end
end Q44
namespace Q44
open PySem PySem.Spec PyProof.Rows L2 PL
def mkD (n : Str) (i : Nat) : He.DefD := ⟨(n, none), n, n, defArgs (top i), defBody (top i), defScope (top i), [], []⟩
def fn : List He.DefD := [mkD "is_integer" 7, mkD "is_between" 8, mkD "is_pair" 9, mkD "is_step" 13, mkD "are_steps" 14, mkD "is_order" 15, mkD "need_steps" 16, mkD "need_order" 17, mkD "after" 18, mkD "is_better_first" 19, mkD "first_wrong" 20, mkD "wrong" 21, mkD "cheapest" 22, mkD "is_cheapest" 23, mkD "_law_cell_at" 25, mkD "_law_pen" 26, mkD "_law_draw" 27, mkD "_law_pick" 28, mkD "_law_mixed" 29, mkD "_law_steps" 30, mkD "_law_exchanged" 31, mkD "_law_is_sorted" 32, mkD "_law_right" 33, mkD "law" 34]
def fa : List He.Fa := [.glo "is_integer", .glo "is_between", .glo "is_pair", .glo "is_step", .glo "are_steps", .glo "is_order", .glo "need_steps", .glo "need_order", .glo "after", .glo "is_better_first", .glo "first_wrong", .glo "wrong", .glo "cheapest", .glo "is_cheapest", .glo "_law_cell_at", .glo "_law_pen", .glo "_law_draw", .glo "_law_pick", .glo "_law_mixed", .glo "_law_steps", .glo "_law_exchanged", .glo "_law_is_sorted", .glo "_law_right", .glo "law", .free "all", .free "any", .free "bool", .free "enumerate", .free "int", .free "isinstance", .free "len", .free "list", .free "max", .free "min", .free "range", .free "sorted", .free "tuple", .free "zip", .int "ALL" 100, .int "MOST_PRICE" 9999, .int "MOST_STEPS" 5]
abbrev R : PySem.W.OpenRow := PySem.W.OpenLaw.row PySem.Challenge.rw_joineddeals_k44_whole_steps_and_neighbou
abbrev hk : PySem.W.Hook := He.hookD 4 fa fn
def ob (s : PySem.W.SharedT) : He.AlD := He.obsDG 4 fa fn (HandSHeadRun.getT s)
theorem ob_eq (s : PySem.W.SharedT) : ob s = hk.obs s.abs := He.obsDG_eq (HandSHeadRun.getT_eq s)
def loose0 : List Str := ["__name__", "DealError", "NoSteps", "NoOrder", "NoPrice", "MOST_PRICE", "is_integer", "is_between", "is_pair", "MOST_STEPS", "ALL", "is_step", "are_steps", "is_order", "need_steps", "need_order", "after", "is_better_first", "first_wrong", "wrong", "cheapest", "is_cheapest", "_law_cell_at", "_law_pen", "_law_draw", "_law_pick", "_law_mixed", "_law_steps", "_law_exchanged", "_law_is_sorted"]
def loose1 : List Str := ["_law_right"]
def loose : List Str := loose0 ++ loose1
theorem run (w : World) : HandSHeadRun.RunEq R (PySem.W.view R.prog [34]) hk ob 20000 loose w := by
  intro os
  kernel_rfl
theorem facts {P : Program} {w : World} {K : PySem.W.Frag} {h : Heap} {mg : Str → Option Value} {f : Addr} (X : K.In h) (G : h.Ns mainGlobals mg) (hfa : mg ("law" : Str) = some (.ref f)) (c : He.SaysD fa fn K) :
    ∃ fd : FuncData, (∀ (s : Shared) (v : Value), BindsTo s fd ⟨[v], []⟩ [("_law_script", v)]) ∧ ∀ base : Heap, K.In base → base.Ns mainGlobals mg → FnG P w K mg base 10 f fd ["_law_script"] (spF K 1 F_law) := by
  obtain ⟨d0, D0⟩ := c.def_ 0 (d := mkD "is_integer" 7) rfl
  have g0 := He.glo_ok X G (c.fact 0 (f := .glo "is_integer") rfl)
  obtain ⟨d1, D1⟩ := c.def_ 1 (d := mkD "is_between" 8) rfl
  have g1 := He.glo_ok X G (c.fact 1 (f := .glo "is_between") rfl)
  obtain ⟨d2, D2⟩ := c.def_ 2 (d := mkD "is_pair" 9) rfl
  have g2 := He.glo_ok X G (c.fact 2 (f := .glo "is_pair") rfl)
  obtain ⟨d3, D3⟩ := c.def_ 3 (d := mkD "is_step" 13) rfl
  have g3 := He.glo_ok X G (c.fact 3 (f := .glo "is_step") rfl)
  obtain ⟨d4, D4⟩ := c.def_ 4 (d := mkD "are_steps" 14) rfl
  have g4 := He.glo_ok X G (c.fact 4 (f := .glo "are_steps") rfl)
  obtain ⟨d5, D5⟩ := c.def_ 5 (d := mkD "is_order" 15) rfl
  have g5 := He.glo_ok X G (c.fact 5 (f := .glo "is_order") rfl)
  obtain ⟨d6, D6⟩ := c.def_ 6 (d := mkD "need_steps" 16) rfl
  have g6 := He.glo_ok X G (c.fact 6 (f := .glo "need_steps") rfl)
  obtain ⟨d7, D7⟩ := c.def_ 7 (d := mkD "need_order" 17) rfl
  have g7 := He.glo_ok X G (c.fact 7 (f := .glo "need_order") rfl)
  obtain ⟨d8, D8⟩ := c.def_ 8 (d := mkD "after" 18) rfl
  have g8 := He.glo_ok X G (c.fact 8 (f := .glo "after") rfl)
  obtain ⟨d9, D9⟩ := c.def_ 9 (d := mkD "is_better_first" 19) rfl
  have g9 := He.glo_ok X G (c.fact 9 (f := .glo "is_better_first") rfl)
  obtain ⟨d10, D10⟩ := c.def_ 10 (d := mkD "first_wrong" 20) rfl
  have g10 := He.glo_ok X G (c.fact 10 (f := .glo "first_wrong") rfl)
  obtain ⟨d11, D11⟩ := c.def_ 11 (d := mkD "wrong" 21) rfl
  have g11 := He.glo_ok X G (c.fact 11 (f := .glo "wrong") rfl)
  obtain ⟨d12, D12⟩ := c.def_ 12 (d := mkD "cheapest" 22) rfl
  have g12 := He.glo_ok X G (c.fact 12 (f := .glo "cheapest") rfl)
  obtain ⟨d13, D13⟩ := c.def_ 13 (d := mkD "is_cheapest" 23) rfl
  have g13 := He.glo_ok X G (c.fact 13 (f := .glo "is_cheapest") rfl)
  obtain ⟨d14, D14⟩ := c.def_ 14 (d := mkD "_law_cell_at" 25) rfl
  have g14 := He.glo_ok X G (c.fact 14 (f := .glo "_law_cell_at") rfl)
  obtain ⟨d15, D15⟩ := c.def_ 15 (d := mkD "_law_pen" 26) rfl
  have g15 := He.glo_ok X G (c.fact 15 (f := .glo "_law_pen") rfl)
  obtain ⟨d16, D16⟩ := c.def_ 16 (d := mkD "_law_draw" 27) rfl
  have g16 := He.glo_ok X G (c.fact 16 (f := .glo "_law_draw") rfl)
  obtain ⟨d17, D17⟩ := c.def_ 17 (d := mkD "_law_pick" 28) rfl
  have g17 := He.glo_ok X G (c.fact 17 (f := .glo "_law_pick") rfl)
  obtain ⟨d18, D18⟩ := c.def_ 18 (d := mkD "_law_mixed" 29) rfl
  have g18 := He.glo_ok X G (c.fact 18 (f := .glo "_law_mixed") rfl)
  obtain ⟨d19, D19⟩ := c.def_ 19 (d := mkD "_law_steps" 30) rfl
  have g19 := He.glo_ok X G (c.fact 19 (f := .glo "_law_steps") rfl)
  obtain ⟨d20, D20⟩ := c.def_ 20 (d := mkD "_law_exchanged" 31) rfl
  have g20 := He.glo_ok X G (c.fact 20 (f := .glo "_law_exchanged") rfl)
  obtain ⟨d21, D21⟩ := c.def_ 21 (d := mkD "_law_is_sorted" 32) rfl
  have g21 := He.glo_ok X G (c.fact 21 (f := .glo "_law_is_sorted") rfl)
  obtain ⟨d22, D22⟩ := c.def_ 22 (d := mkD "_law_right" 33) rfl
  have g22 := He.glo_ok X G (c.fact 22 (f := .glo "_law_right") rfl)
  obtain ⟨d23, D23⟩ := c.def_ 23 (d := mkD "law" 34) rfl
  have g23 := He.glo_ok X G (c.fact 23 (f := .glo "law") rfl)
  have A : Fc mg := ⟨He.free_ok X G (c.fact 24 (f := .free "all") rfl), He.free_ok X G (c.fact 25 (f := .free "any") rfl), He.free_ok X G (c.fact 26 (f := .free "bool") rfl), He.free_ok X G (c.fact 27 (f := .free "enumerate") rfl), He.free_ok X G (c.fact 28 (f := .free "int") rfl), He.free_ok X G (c.fact 29 (f := .free "isinstance") rfl), He.free_ok X G (c.fact 30 (f := .free "len") rfl), He.free_ok X G (c.fact 31 (f := .free "list") rfl), He.free_ok X G (c.fact 32 (f := .free "max") rfl), He.free_ok X G (c.fact 33 (f := .free "min") rfl), He.free_ok X G (c.fact 34 (f := .free "range") rfl), He.free_ok X G (c.fact 35 (f := .free "sorted") rfl), He.free_ok X G (c.fact 36 (f := .free "tuple") rfl), He.free_ok X G (c.fact 37 (f := .free "zip") rfl), He.int_ok X G (c.fact 38 (f := .int "ALL" 100) rfl), He.int_ok X G (c.fact 39 (f := .int "MOST_PRICE" 9999) rfl), He.int_ok X G (c.fact 40 (f := .int "MOST_STEPS" 5) rfl)⟩
  have e := hfa.symm.trans g23
  cases e
  have b := FunD.bindsA (ps := ["_law_script"]) D23 (fun _ _ _ _ _ _ us hl => match us, hl with | [_], _ => rfl)
  refine ⟨d23, fun s v => b s [v] rfl, fun base _ _ => ?_⟩
  have c_is_integer : Cal P w K mg base 1 "is_integer" ["thing"] F_is_integer := ⟨_, _, ok_is_integer A D0 , g0, D0.kp, D0.bindsN (fun _ _ _ _ _ _ us hl => match us, hl with | [_], _ => rfl)⟩
  have c_is_between : Cal P w K mg base 2 "is_between" ["thing", "low", "high"] F_is_between := ⟨_, _, ok_is_between A D1 c_is_integer, g1, D1.kp, D1.bindsN (fun _ _ _ _ _ _ us hl => match us, hl with | [_, _, _], _ => rfl)⟩
  have c_is_pair : Cal P w K mg base 2 "is_pair" ["thing"] F_is_pair := ⟨_, _, ok_is_pair A D2 c_is_integer, g2, D2.kp, D2.bindsN (fun _ _ _ _ _ _ us hl => match us, hl with | [_], _ => rfl)⟩
  have c_is_step : Cal P w K mg base 3 "is_step" ["thing"] F_is_step := ⟨_, _, ok_is_step A D3 c_is_pair, g3, D3.kp, D3.bindsN (fun _ _ _ _ _ _ us hl => match us, hl with | [_], _ => rfl)⟩
  have c_are_steps : Cal P w K mg base 4 "are_steps" ["thing"] F_are_steps := ⟨_, _, ok_are_steps A D4 c_is_step, g4, D4.kp, D4.bindsN (fun _ _ _ _ _ _ us hl => match us, hl with | [_], _ => rfl)⟩
  have c_is_order : Cal P w K mg base 3 "is_order" ["steps", "thing"] F_is_order := ⟨_, _, ok_is_order A D5 c_is_between, g5, D5.kp, D5.bindsN (fun _ _ _ _ _ _ us hl => match us, hl with | [_, _], _ => rfl)⟩
  have c_need_steps : Cal P w K mg base 5 "need_steps" ["thing"] F_need_steps := ⟨_, _, ok_need_steps A D6 c_are_steps, g6, D6.kp, D6.bindsN (fun _ _ _ _ _ _ us hl => match us, hl with | [_], _ => rfl)⟩
  have c_need_order : Cal P w K mg base 6 "need_order" ["steps", "thing"] F_need_order := ⟨_, _, ok_need_order A D7 c_is_order c_need_steps, g7, D7.kp, D7.bindsN (fun _ _ _ _ _ _ us hl => match us, hl with | [_, _], _ => rfl)⟩
  have c_after : Cal P w K mg base 7 "after" ["steps", "order", "price"] F_after := ⟨_, _, ok_after A D8 c_is_between c_need_order, g8, D8.kp, D8.bindsN (fun _ _ _ _ _ _ us hl => match us, hl with | [_, _, _], _ => rfl)⟩
  have c_is_better_first : Cal P w K mg base 1 "is_better_first" ["one", "other"] F_is_better_first := ⟨_, _, ok_is_better_first A D9 , g9, D9.kp, D9.bindsN (fun _ _ _ _ _ _ us hl => match us, hl with | [_, _], _ => rfl)⟩
  have c_first_wrong : Cal P w K mg base 2 "first_wrong" ["steps", "order"] F_first_wrong := ⟨_, _, ok_first_wrong A D10 c_is_better_first, g10, D10.kp, D10.bindsN (fun _ _ _ _ _ _ us hl => match us, hl with | [_, _], _ => rfl)⟩
  have c_wrong : Cal P w K mg base 7 "wrong" ["steps", "order"] F_wrong := ⟨_, _, ok_wrong A D11 c_first_wrong c_need_order, g11, D11.kp, D11.bindsN (fun _ _ _ _ _ _ us hl => match us, hl with | [_, _], _ => rfl)⟩
  have c_cheapest : Cal P w K mg base 6 "cheapest" ["steps"] F_cheapest := ⟨_, _, ok_cheapest A D12 c_is_better_first c_need_steps, g12, D12.kp, D12.bindsN (fun _ _ _ _ _ _ us hl => match us, hl with | [_], _ => rfl)⟩
  have c_is_cheapest : Cal P w K mg base 6 "is_cheapest" ["steps", "thing"] F_is_cheapest := ⟨_, _, ok_is_cheapest A D13 c_first_wrong c_is_order c_need_steps, g13, D13.kp, D13.bindsN (fun _ _ _ _ _ _ us hl => match us, hl with | [_, _], _ => rfl)⟩
  have c__law_cell_at : Cal P w K mg base 1 "_law_cell_at" ["_law_script", "_law_k"] F__law_cell_at := ⟨_, _, ok__law_cell_at A D14 , g14, D14.kp, D14.bindsN (fun _ _ _ _ _ _ us hl => match us, hl with | [_, _], _ => rfl)⟩
  have c__law_pen : Cal P w K mg base 1 "_law_pen" ["_law_cell"] F__law_pen := ⟨_, _, ok__law_pen A D15 , g15, D15.kp, D15.bindsN (fun _ _ _ _ _ _ us hl => match us, hl with | [_], _ => rfl)⟩
  have c__law_draw : Cal P w K mg base 1 "_law_draw" ["_law_pen_here", "_law_count"] F__law_draw := ⟨_, _, ok__law_draw A D16 , g16, D16.kp, D16.bindsN (fun _ _ _ _ _ _ us hl => match us, hl with | [_, _], _ => rfl)⟩
  have c__law_pick : Cal P w K mg base 2 "_law_pick" ["_law_pen_here", "_law_some"] F__law_pick := ⟨_, _, ok__law_pick A D17 c__law_draw, g17, D17.kp, D17.bindsN (fun _ _ _ _ _ _ us hl => match us, hl with | [_, _], _ => rfl)⟩
  have c__law_mixed : Cal P w K mg base 2 "_law_mixed" ["_law_pen_here", "_law_things"] F__law_mixed := ⟨_, _, ok__law_mixed A D18 c__law_draw, g18, D18.kp, D18.bindsN (fun _ _ _ _ _ _ us hl => match us, hl with | [_, _], _ => rfl)⟩
  have c__law_steps : Cal P w K mg base 3 "_law_steps" ["_law_pen_here"] F__law_steps := ⟨_, _, ok__law_steps A D19 c__law_draw c__law_pick, g19, D19.kp, D19.bindsN (fun _ _ _ _ _ _ us hl => match us, hl with | [_], _ => rfl)⟩
  have c__law_exchanged : Cal P w K mg base 1 "_law_exchanged" ["_law_order", "_law_at"] F__law_exchanged := ⟨_, _, ok__law_exchanged A D20 , g20, D20.kp, D20.bindsN (fun _ _ _ _ _ _ us hl => match us, hl with | [_, _], _ => rfl)⟩
  have c__law_is_sorted : Cal P w K mg base 8 "_law_is_sorted" ["_law_steps_here", "_law_order", "_law_prices"] F__law_is_sorted := ⟨_, _, ok__law_is_sorted A D21 c__law_exchanged c_after c_cheapest c_is_cheapest c_wrong, g21, D21.kp, D21.bindsN (fun _ _ _ _ _ _ us hl => match us, hl with | [_, _, _], _ => rfl)⟩
  have c__law_right : Cal P w K mg base 9 "_law_right" ["_law_pen_here"] F__law_right := ⟨_, _, ok__law_right A D22 c__law_draw c__law_is_sorted c__law_mixed c__law_steps c_after c_cheapest c_is_cheapest c_wrong, g22, D22.kp, D22.bindsN (fun _ _ _ _ _ _ us hl => match us, hl with | [_], _ => rfl)⟩
  exact ok_law A D23 c__law_cell_at c__law_pen c__law_right
end Q44
open PySem PySem.W PySem.Calls PyProof.Rows
theorem holds_of (law : ∀ ns : List Int, ns.length ≤ 63 → ∃ st, Q44.F_law [.scr ns] [] = .ok (.bl true) st) : PySem.Challenge.rw_joineddeals_k44_whole_steps_and_neighbou.Holds := by
  w_on; o_law
  refine HandSHeadRun.head_any (r := OpenLaw.row PySem.Challenge.rw_joineddeals_k44_whole_steps_and_neighbou) (q := view (OpenLaw.row PySem.Challenge.rw_joineddeals_k44_whole_steps_and_neighbou).prog [34]) (H := Q44.hk) (ob := Q44.ob) (M := 20000) (loose := Q44.loose) (d := HandSHeadRun.topDef (OpenLaw.row PySem.Challenge.rw_joineddeals_k44_whole_steps_and_neighbou).prog 34) (kwd := []) Q44.ob_eq
    (by kernel_rfl) (fun s => by kernel_rfl) Q44.run (by kernel_rfl) (by kernel_rfl) (by kernel_rfl) (by rfl) (by first | assumption | decide +kernel) (by decide +kernel) ⟨rfl, rfl, rfl, rfl, rfl, by decide +kernel⟩ ?hw ?hc
  case hw => w_witness2
  case hc =>
    refine PL.walk_G (l := PySem.Challenge.rw_joineddeals_k44_whole_steps_and_neighbou) (n := 63) (k := 10) (x := "_law_script") (F := Q44.F_law) rfl (by decide) (by kernel_rfl) ⟨rfl, by decide, by decide⟩ ?G law
    intro w mg fa h Y G hmg0
    obtain ⟨K, KX, c⟩ := Y
    have hmg : mg ("law" : PySem.Str) = some (.ref fa) := by
      have e : (HandSHeadRun.topDef (OpenLaw.row PySem.Challenge.rw_joineddeals_k44_whole_steps_and_neighbou).prog 34).name = ("law" : PySem.Str) := by kernel_rfl
      rw [← e]
      exact hmg0
    obtain ⟨fd, hb, hF⟩ := Q44.facts (P := (PySem.Challenge.rw_joineddeals_k44_whole_steps_and_neighbou).prog) (w := w) KX G hmg c
    exact ⟨K, fd, KX, hb, hF⟩
namespace Q44
open PySem PySem.Spec L2 PL Ord
/-! ### the pen -/
def PenAt (st : Sto) (n m : Nat) : Prop := ∃ a b c : Int, st[n]? = some (.lst [.int a, .int b, .int c]) ∧ 0 ≤ a ∧ 0 ≤ b ∧ b < 1000000007 ∧ 0 ≤ c ∧ c ≤ m
theorem PenAt.mono {st : Sto} {n m k : Nat} (h : PenAt st n m) (hk : m ≤ k) : PenAt st n k := by
  obtain ⟨a, b, c, h1, h2, h3, h4, h5, h6⟩ := h
  exact ⟨a, b, c, h1, h2, h3, h4, h5, by omega⟩
theorem at0 {α : Type} (x y z : α) : atI [x, y, z] 0 = some x := rfl
theorem at1 {α : Type} (x y z : α) : atI [x, y, z] 1 = some y := rfl
theorem at2 {α : Type} (x y z : α) : atI [x, y, z] 2 = some z := rfl
theorem atp0 {α : Type} (x y : α) : atI [x, y] 0 = some x := rfl
theorem atp1 {α : Type} (x y : α) : atI [x, y] 1 = some y := rfl
theorem ix0 : ixN 3 0 = some 0 := rfl
theorem ix2 : ixN 3 2 = some 2 := rfl
theorem draw_spec {st : Sto} {n m : Nat} {k : Int} (h : PenAt st n m) (hm : m ≤ 1000000) (hk : 0 < k) (hk2 : k < 1073741824) : ∃ r st', F__law_draw [.gl n, .int k] st = .ok (.int r) st' ∧ 0 ≤ r ∧ r < k ∧ PenAt st' n (m + 1) := by
  obtain ⟨a, b, c, h1, h2, h3, h4, h5, h6⟩ := h
  have hn : n < st.length := (List.getElem?_eq_some_iff.mp h1).1
  by_cases ha : 0 < a
  · refine ⟨a % k, st.set n (.lst [.int (a / k), .int b, .int c]), ?_, Int.emod_nonneg _ (by omega), Int.emod_lt_of_pos _ hk, ⟨a / k, b, c, by rw [List.getElem?_set_self hn], Int.ediv_nonneg h2 (by omega), h3, h4, h5, by omega⟩⟩
    unfold F__law_draw mkFn f__law_draw
    simp [h1, at0, ha, modF_ok hk, divF_ok hk hk2, ix0]
  · have e0 : a = 0 := by omega
    let s1 : Int := (b + 17 * (c + 1)) * (69621 + 2 * (c + 1)) % 2147483647
    have b1 : 0 ≤ s1 := Int.emod_nonneg _ (by decide)
    have b2 : s1 < 2147483647 := Int.emod_lt_of_pos _ (by decide)
    let s2 : Int := (s1 * s1 + 40503 * (c + 1) + 5) % 2147483629
    have b3 : 0 ≤ s2 := Int.emod_nonneg _ (by decide)
    have b4 : s2 < 2147483629 := Int.emod_lt_of_pos _ (by decide)
    refine ⟨s2 * 48271 % 2147483647 / 32 % k, st.set n (.lst [.int a, .int b, .int (c + 1)]), ?_, Int.emod_nonneg _ (by omega), Int.emod_lt_of_pos _ hk, ⟨a, b, c + 1, by rw [List.getElem?_set_self hn], h2, h3, h4, by omega, by omega⟩⟩
    unfold F__law_draw mkFn f__law_draw
    have m1 : mulF (.int 17) (.int (c + 1)) = some (.int (17 * (c + 1))) := mulF_l (by decide) (by decide)
    have m2 : mulF (.int 2) (.int (c + 1)) = some (.int (2 * (c + 1))) := mulF_l (by decide) (by decide)
    have m3 : mulF (.int (b + 17 * (c + 1))) (.int (69621 + 2 * (c + 1))) = some (.int ((b + 17 * (c + 1)) * (69621 + 2 * (c + 1)))) := mulF_r (by omega) (by omega)
    have m4 : mulF (.int s1) (.int s1) = some (.int (s1 * s1)) := mulF_r (by omega) (by omega)
    have m5 : mulF (.int 40503) (.int (c + 1)) = some (.int (40503 * (c + 1))) := mulF_l (by decide) (by decide)
    have m6 : mulF (.int s2) (.int 48271) = some (.int (s2 * 48271)) := mulF_r (by decide) (by decide)
    have e1 : modF (.int ((b + 17 * (c + 1)) * (69621 + 2 * (c + 1)))) (.int 2147483647) = some (.int s1) := modF_ok (by decide)
    have e2 : modF (.int (s1 * s1 + 40503 * (c + 1) + 5)) (.int 2147483629) = some (.int s2) := modF_ok (by decide)
    have e3 : modF (.int (s2 * 48271)) (.int 2147483647) = some (.int (s2 * 48271 % 2147483647)) := modF_ok (by decide)
    have e4 : divF (.int (s2 * 48271 % 2147483647)) (.int 32) = some (.int (s2 * 48271 % 2147483647 / 32)) := divF_ok (by decide) (by decide)
    have e5 : modF (.int (s2 * 48271 % 2147483647 / 32)) (.int k) = some (.int (s2 * 48271 % 2147483647 / 32 % k)) := modF_ok hk
    have g1 : (st.set n (.lst [.int a, .int b, .int (c + 1)]))[n]? = some (.lst [.int a, .int b, .int (c + 1)]) := by rw [List.getElem?_set_self hn]
    simp [h1, g1, at0, at1, at2, ha, ix2, m1, m2, m3, m4, m5, m6, e1, e2, e3, e4, e5]
/-! ### steps -/
def stp (p : Int × Int) : PV := .tup [.int p.1, .int p.2]
def StepOk (p : Int × Int) : Prop := 0 ≤ p.1 ∧ p.1 < 100 ∧ 0 ≤ p.2 ∧ p.2 ≤ 9999 ∧ ¬(p.1 = 0 ∧ p.2 = 0)
theorem neF_pair (a b c d : Int) : neF (.tup [.int a, .int b]) (.tup [.int c, .int d]) = some (.bl (!(a == c && (b == d && true)))) := by
  show (if SeqAt.shaped (.tuple [.int a, .int b]) = true ∧ SeqAt.shaped (.tuple [.int c, .int d]) = true then some (PV.bl (!PyData.eqv (.tuple [.int a, .int b]) (.tuple [.int c, .int d]))) else none) = _
  rw [if_pos ⟨rfl, rfl⟩]
  rfl
theorem pick_spec {st : Sto} {n m : Nat} {x y z : Int} (h : PenAt st n m) (hm : m ≤ 1000000) : ∃ v st', F__law_pick [.gl n, .lst [.int x, .int y, .int z]] st = .ok (.int v) st' ∧ (v = x ∨ v = y ∨ v = z) ∧ PenAt st' n (m + 1) := by
  obtain ⟨r, st', e, r0, r1, P⟩ := draw_spec (k := 3) h hm (by decide) (by decide)
  have hr : r = 0 ∨ r = 1 ∨ r = 2 := by omega
  unfold F__law_pick mkFn f__law_pick
  rcases hr with rfl | rfl | rfl
  · exact ⟨x, st', by simp [e, at0], .inl rfl, P⟩
  · exact ⟨y, st', by simp [e, at1], .inr (.inl rfl), P⟩
  · exact ⟨z, st', by simp [e, at2], .inr (.inr rfl), P⟩
theorem turn_spec {st : Sto} {n m : Nat} {kind : Int} {L : List (Int × Int)} {x3 x4 x5 : EV} (h : PenAt st n m) (hm : m ≤ 900000) (hL : L.length ≤ 10) :
    ∃ p st' y4 y5, t__law_steps_0 [.val (.gl n), .own (L.map stp), .val (.int kind), x3, x4, x5] st = .nx [.val (.gl n), .own ((L ++ [p]).map stp), .val (.int kind), x3, y4, y5] st' ∧ StepOk p ∧ PenAt st' n (m + 6) := by
  obtain ⟨a1, s1, e1, a10, a11, P1⟩ := draw_spec (k := 4) h (by omega) (by decide) (by decide)
  obtain ⟨a2, s2, e2, a20, a21, P2⟩ := draw_spec (k := 4) P1 (by omega) (by decide) (by decide)
  obtain ⟨b1, t1, f1, b10, b11, Q1⟩ := draw_spec (k := 100) P2 (by omega) (by decide) (by decide)
  obtain ⟨b2, t2, f2, b20, b21, Q2⟩ := draw_spec (k := 10000) Q1 (by omega) (by decide) (by decide)
  obtain ⟨c1, u1, g1, c10, R1⟩ := pick_spec (x := 0) (y := 99) (z := 50) P2 (by omega)
  obtain ⟨c2, u2, g2, c20, R2⟩ := pick_spec (x := 0) (y := 9999) (z := 100) R1 (by omega)
  have m1 : mulF (.int 10) (.int a1) = some (.int (10 * a1)) := mulF_l (by decide) (by decide)
  have m2 : mulF (.int 5) (.int a2) = some (.int (5 * a2)) := mulF_l (by decide) (by decide)
  have hLL : L.length < LINE := by show L.length < 16777216; omega
  have l3 : (3 : Nat) ≤ LINE := by decide
  have l2 : (2 : Nat) ≤ LINE := by decide
  have key : ∀ (p q : Int) (s' : Sto) (k : Nat), 0 ≤ p → p < 100 → 0 ≤ q → q ≤ 9999 → k ≤ m + 6 → PenAt s' n k →
      ∃ r st' y4 y5, ((sSeq (sApp 1 (eIf (tV (eOp neF (eTup (aCons (eVar 4) (aCons (eVar 5) aNil))) (eTup (aCons (eC (.int 0)) (aCons (eC (.int 0)) aNil))))) (eTup (aCons (eVar 4) (aCons (eVar 5) aNil))) (eTup (aCons (eC (.int 1)) (aCons (eC (.int 0)) aNil))))) sNil) [.val (.gl n), .own (L.map stp), .val (.int kind), x3, .val (.int p), .val (.int q)] s' = .nx [.val (.gl n), .own ((L ++ [r]).map stp), .val (.int kind), x3, y4, y5] st') ∧ StepOk r ∧ PenAt st' n (m + 6) := by
    intro p q s' k p0 p1 q0 q1 hk P
    by_cases hz : p = 0 ∧ q = 0
    · obtain ⟨rfl, rfl⟩ := hz
      exact ⟨(1, 0), s', .val (.int 0), .val (.int 0), by simp [neF_pair, l2, hLL, stp], ⟨by decide, by decide, by decide, by decide, by decide⟩, P.mono hk⟩
    · have hz' : (p == 0 && (q == 0 && true)) = false := by
        rw [Bool.eq_false_iff]
        intro h
        simp at h
        exact hz h
      have hz2 : ¬p = 0 ∨ ¬q = 0 := by omega
      exact ⟨(p, q), s', .val (.int p), .val (.int q), by simp [neF_pair, l2, hLL, stp, hz', if_pos hz2], ⟨p0, p1, q0, q1, hz⟩, P.mono hk⟩
  by_cases k1 : kind = 1
  · subst k1
    obtain ⟨r, st', y4, y5, hh, ho, hP⟩ := key b1 b2 t2 _ b10 b11 b20 (by omega) (by omega) Q2
    refine ⟨r, st', y4, y5, ?_, ho, hP⟩
    rw [← hh]
    unfold t__law_steps_0
    simp [e1, e2, f1, f2, m1, m2]
  · by_cases k2 : kind = 2
    · subst k2
      obtain ⟨r, st', y4, y5, hh, ho, hP⟩ := key c1 c2 u2 _ (by omega) (by omega) (by omega) (by omega) (by omega) R2
      refine ⟨r, st', y4, y5, ?_, ho, hP⟩
      rw [← hh]
      unfold t__law_steps_0
      simp [e1, e2, g1, g2, m1, m2, l3]
    · obtain ⟨r, st', y4, y5, hh, ho, hP⟩ := key (10 * a1) (5 * a2) s2 _ (by omega) (by omega) (by omega) (by omega) (by omega) P2
      refine ⟨r, st', y4, y5, ?_, ho, hP⟩
      rw [← hh]
      unfold t__law_steps_0
      simp [e1, e2, m1, m2, k1, k2]
theorem loop_spec {n : Nat} {kind : Int} : ∀ (items : List PV) (st : Sto) (m : Nat) (L : List (Int × Int)) (x3 x4 x5 : EV), PenAt st n m → m + 6 * items.length ≤ 900000 → L.length + items.length ≤ 10 → (∀ p ∈ L, StepOk p) →
    ∃ (M : List (Int × Int)) (st' : Sto) (y3 y4 y5 : EV), forLoop (bName 3) t__law_steps_0 items [.val (.gl n), .own (L.map stp), .val (.int kind), x3, x4, x5] st = .nx [.val (.gl n), .own (M.map stp), .val (.int kind), y3, y4, y5] st' ∧ M.length = L.length + items.length ∧ (∀ p ∈ M, StepOk p) ∧ PenAt st' n (m + 6 * items.length)
  | [], st, m, L, x3, x4, x5, h, _, _, hL => ⟨L, st, x3, x4, x5, rfl, rfl, hL, h⟩
  | x :: items, st, m, L, x3, x4, x5, h, hm, hl, hL => by
    rw [List.length_cons] at hm hl
    obtain ⟨p, s1, y4, y5, e1, ok, P1⟩ := turn_spec (kind := kind) (L := L) (x3 := .val x) (x4 := x4) (x5 := x5) h (by omega) (by omega)
    obtain ⟨M, st', z3, z4, z5, e2, hM, hok, P2⟩ := loop_spec items s1 (m + 6) (L ++ [p]) (.val x) y4 y5 P1 (by omega) (by rw [List.length_append, List.length_singleton]; omega) (fun q hq => by
      rcases List.mem_append.mp hq with z | z
      · exact hL q z
      · rw [List.mem_singleton.mp z]; exact ok)
    refine ⟨M, st', z3, z4, z5, ?_, by rw [hM, List.length_append, List.length_singleton, List.length_cons]; omega, hok, P2.mono (by rw [List.length_cons]; omega)⟩
    rw [List.map_append] at e1 e2
    unfold forLoop
    simp only [bName_e]
    rw [if_pos (by simp)]
    simp only [List.set_cons_succ, List.set_cons_zero]
    rw [e1]
    exact e2
theorem steps_spec {st : Sto} {n m : Nat} (h : PenAt st n m) (hm : m ≤ 100000) : ∃ (L : List (Int × Int)) (st' : Sto), F__law_steps [.gl n] st = .ok (.tup (L.map stp)) st' ∧ 1 ≤ L.length ∧ L.length ≤ 5 ∧ (∀ p ∈ L, StepOk p) ∧ PenAt st' n (m + 40) := by
  obtain ⟨a1, s1, e1, a10, a11, P1⟩ := draw_spec (k := 3) h (by omega) (by decide) (by decide)
  obtain ⟨a2, s2, e2, a20, a21, P2⟩ := draw_spec (k := 5) P1 (by omega) (by decide) (by decide)
  have hlen : (rangeF 0 (1 + a2).toNat).length = (1 + a2).toNat := rangeF_len ..
  obtain ⟨M, st', y3, y4, y5, e3, hM, ok, P3⟩ := loop_spec (kind := a1) (rangeF 0 (1 + a2).toNat) s2 (m + 1 + 1) [] .non .non .non P2 (by rw [hlen]; omega) (by rw [hlen]; show 0 + _ ≤ 10; omega) (fun p hp => by cases hp)
  have hM2 : M.length = (1 + a2).toNat := by rw [hM, hlen]; show 0 + _ = _; omega
  refine ⟨M, st', ?_, by omega, by omega, ok, P3.mono (by rw [hlen]; omega)⟩
  unfold F__law_steps mkFn f__law_steps w__law_steps_0
  have hr : -(LINE : Int) ≤ 1 + a2 ∧ 1 + a2 ≤ LINE := by
    have : (LINE : Int) = 16777216 := rfl
    omega
  have e3 : forLoop (bName 3) t__law_steps_0 (rangeF 0 (1 + a2).toNat) [.val (.gl n), .own [], .val (.int a1), .non, .non, .non] s2 = .nx [.val (.gl n), .own (M.map stp), .val (.int a1), y3, y4, y5] st' := e3
  have hML : (M.map stp).length ≤ LINE := by rw [List.length_map]; show M.length ≤ 16777216; omega
  simp [e1, e2, hr, e3, tupF]
/-! ### the price behind an order -/
def sf (L : List (Int × Int)) (i : Nat) : Int := (L[i]?.getD (1, 0)).1
def af (L : List (Int × Int)) (i : Nat) : Int := (L[i]?.getD (1, 0)).2
def nt (i : Nat) : PV := .int (i : Int)
theorem at_stp {L : List (Int × Int)} {i : Nat} (h : i < L.length) : atI (L.map stp) (i : Int) = some (.tup [.int (sf L i), .int (af L i)]) := by
  rw [atI_nat (by rw [List.length_map]; exact h)]
  unfold sf af
  rw [List.getElem_map, List.getElem?_eq_getElem h]
  rfl
theorem good_of {L : List (Int × Int)} (h : ∀ p ∈ L, StepOk p) : Good (sf L) (af L) := by
  have q : ∀ i : Nat, StepOk (L[i]?.getD (1, 0)) := fun i => by
    cases e : L[i]? with
    | none => exact ⟨by decide, by decide, by decide, by decide, by decide⟩
    | some p => exact h p (List.mem_of_getElem? e)
  exact ⟨fun i => (q i).1, fun i => (q i).2.1, fun i => (q i).2.2.1, fun i e z => (q i).2.2.2.2 ⟨e, z⟩⟩
theorem af_le {L : List (Int × Int)} (h : ∀ p ∈ L, StepOk p) (i : Nat) : af L i ≤ 9999 := by
  unfold af
  cases e : L[i]? with
  | none => decide
  | some p => exact (h p (List.mem_of_getElem? e)).2.2.2.1
section
variable {L : List (Int × Int)} {st : Sto}
theorem m100 {f s : Int} (h0 : 0 ≤ s) (h1 : s < 100) : mulF (.int f) (.int (100 - s)) = some (.int (f * (100 - s))) := mulF_r (by omega) (by omega)
theorem cut_drop {l : List PV} {k : Nat} (h : k ≤ l.length) : cutF l (some (k : Int)) none = l.drop k := by
  have e1 : HT.sIx l.length 0 (some (k : Int)) = k := by unfold HT.sIx; simp only; rw [if_neg (by omega)]; omega
  have e2 : HT.sIx l.length l.length none = l.length := rfl
  unfold cutF
  rw [e1, e2]
  exact List.take_of_length_le (by rw [List.length_drop]; omega)
end
/-! ### what is asked of steps -/
section
variable {L : List (Int × Int)} {st : Sto}
theorem isint_spec (i : Int) : F_is_integer [.int i] st = .ok (.bl true) st := rfl
theorem ispair_spec (a b : Int) : F_is_pair [.tup [.int a, .int b]] st = .ok (.bl true) st := by
  unfold F_is_pair mkFn f_is_pair l_is_pair_0
  simp [isiF, isiB, lcLoop, isint_spec, allF, blsOf]
theorem isstep_spec {p : Int × Int} (h : StepOk p) : F_is_step [stp p] st = .ok (.bl true) st := by
  obtain ⟨h1, h2, h3, h4, h5⟩ := h
  have hz : (p.1 == 0 && (p.2 == 0 && true)) = false := by
    rw [Bool.eq_false_iff]
    intro h
    simp at h
    exact h5 h
  have l2 : (2 : Nat) ≤ LINE := by decide
  unfold F_is_step mkFn f_is_step stp
  simp [ispair_spec, atp0, atp1, h1, h2, h3, h4, neF_pair, l2, hz]
  omega
theorem aresteps_spec (h : ∀ p ∈ L, StepOk p) (h1 : 1 ≤ L.length) (h5 : L.length ≤ 5) : F_are_steps [.tup (L.map stp)] st = .ok (.bl true) st := by
  have e := lc_map (b := bName 1) (c := tYesF) (t := eCall F_is_step (aCons (eVar 1) aNil)) (e := [.val (.tup (L.map stp)), .non]) (st := st) stp (fun _ => true) (fun _ => .bl true) L fun p hp => by
    refine ⟨[.val (.tup (L.map stp)), .val (stp p)], by simp, rfl, fun _ => ?_⟩
    simp [isstep_spec (h p hp)]
  rw [List.filter_eq_self.mpr (fun _ _ => rfl)] at e
  have eb : ∀ l : List (Int × Int), allF [.lst (l.map fun _ => PV.bl true)] = some (.bl true) := fun l => by
    have q : blsOf (l.map fun _ => PV.bl true) = some (l.map fun _ => true) := by
      have := blsOf_map (l.map fun _ => true)
      rw [List.map_map] at this
      exact this
    show (blsOf (l.map fun _ => PV.bl true)).map _ = _
    rw [q]
    simp
  have k1 : (1 : Int) ≤ (L.length : Int) := by omega
  have k5 : (L.length : Int) ≤ 5 := by omega
  unfold F_are_steps mkFn f_are_steps l_are_steps_0
  simp [isiF, isiB, k1, k5, e, eb]
theorem need_spec (h : ∀ p ∈ L, StepOk p) (h1 : 1 ≤ L.length) (h5 : L.length ≤ 5) : F_need_steps [.tup (L.map stp)] st = .ok .non st := by
  unfold F_need_steps mkFn f_need_steps
  simp [aresteps_spec h h1 h5]
theorem better_spec (h : ∀ p ∈ L, StepOk p) (i j : Nat) : F_is_better_first [.tup [.int (sf L i), .int (af L i)], .tup [.int (sf L j), .int (af L j)]] st = .ok (.bl (decide (af L i * sf L j < af L j * sf L i))) st := by
  have g := good_of h
  have m1 : mulF (.int (af L i)) (.int (sf L j)) = some (.int (af L i * sf L j)) := mulF_r (by have := g.s0 j; omega) (by have := g.s1 j; omega)
  have m2 : mulF (.int (af L j)) (.int (sf L i)) = some (.int (af L j * sf L i)) := mulF_r (by have := g.s0 i; omega) (by have := g.s1 i; omega)
  unfold F_is_better_first mkFn f_is_better_first
  simp [atp0, atp1, m1, m2]
end
/-! ### orders, and their first wrong neighbours -/
def ordV (o : List Nat) : PV := .tup (o.map nt)
def optV : Option Nat → PV
  | none => .non
  | some k => .int (k : Nat)
def fw (s a : Nat → Int) : Nat → List Nat → Option Nat
  | k, i :: j :: r => if Le s a i j then fw s a (k + 1) (j :: r) else some k
  | _, _ => none
theorem fw_lt {s a : Nat → Int} : ∀ (r : List Nat) (k q : Nat), fw s a k r = some q → q < k + r.length
  | [], _, _, h => by unfold fw at h; cases h
  | [_], _, _, h => by unfold fw at h; cases h
  | i :: j :: r, k, q, h => by
    unfold fw at h
    split at h
    · have := fw_lt (j :: r) (k + 1) q h
      simp only [List.length_cons] at this ⊢
      omega
    · cases h
      simp only [List.length_cons]
      omega
section
variable {L : List (Int × Int)} {st : Sto}
theorem fw_loop (h : ∀ p ∈ L, StepOk p) {O : EV} : ∀ (r : List Nat) (k : Nat) (x2 x3 x4 : EV), (∀ i ∈ r, i < L.length) →
    ∃ y2 y3 y4, forLoop (bTup ((bName 2) :: ((bTup ((bName 3) :: ((bName 4) :: []))) :: []))) t_first_wrong_0 (enumF k (zipF (r.map nt) ((r.map nt).drop 1))) [.val (.tup (L.map stp)), O, x2, x3, x4] st =
      (match fw (sf L) (af L) k r with | some q => RS.rt (.int (q : Nat)) st | none => .nx [.val (.tup (L.map stp)), O, y2, y3, y4] st)
  | [], k, x2, x3, x4, _ => ⟨x2, x3, x4, rfl⟩
  | [i], k, x2, x3, x4, _ => ⟨x2, x3, x4, rfl⟩
  | i :: j :: r, k, x2, x3, x4, hi => by
    obtain ⟨y2, y3, y4, ih⟩ := fw_loop h (O := O) (j :: r) (k + 1) (.val (.int (k : Nat))) (.val (nt i)) (.val (nt j)) fun q hq => hi q (List.mem_cons_of_mem _ hq)
    have a1 := at_stp (hi i (List.mem_cons_self ..))
    have a2 := at_stp (hi j (List.mem_cons_of_mem _ (List.mem_cons_self ..)))
    have e0 : enumF k (zipF ((i :: j :: r).map nt) (((i :: j :: r).map nt).drop 1)) = .tup [.int (k : Nat), .tup [nt i, nt j]] :: enumF (k + 1) (zipF ((j :: r).map nt) (((j :: r).map nt).drop 1)) := rfl
    have body : t_first_wrong_0 [.val (.tup (L.map stp)), O, .val (.int (k : Nat)), .val (nt i), .val (nt j)] st = if Le (sf L) (af L) i j then RS.nx [.val (.tup (L.map stp)), O, .val (.int (k : Nat)), .val (nt i), .val (nt j)] st else .rt (.int (k : Nat)) st := by
      unfold t_first_wrong_0
      have bs := better_spec (st := st) h j i
      by_cases hle : Le (sf L) (af L) i j
      · have hd : ¬ (af L j * sf L i < af L i * sf L j) := by unfold Le at hle; omega
        rw [if_pos hle]
        simp [nt, a1, a2, bs, hd]
      · have hd : af L j * sf L i < af L i * sf L j := by unfold Le at hle; omega
        rw [if_neg hle]
        simp [nt, a1, a2, bs, hd]
    refine ⟨y2, y3, y4, ?_⟩
    rw [e0]
    unfold forLoop
    rw [show bTup ((bName 2) :: ((bTup ((bName 3) :: ((bName 4) :: []))) :: [])) (.tup [.int (k : Nat), .tup [nt i, nt j]]) [.val (.tup (L.map stp)), O, x2, x3, x4] = some [.val (.tup (L.map stp)), O, .val (.int (k : Nat)), .val (nt i), .val (nt j)] from rfl]
    dsimp only
    rw [body]
    unfold fw
    by_cases hle : Le (sf L) (af L) i j
    · rw [if_pos hle, if_pos hle]
      exact ih
    · rw [if_neg hle, if_neg hle]
theorem cut_drop1 (l : List PV) : cutF l (some 1) none = l.drop 1 := by
  cases l with
  | nil => rfl
  | cons x r => exact cut_drop (l := x :: r) (k := 1) (by simp)
theorem firstwrong_spec (h : ∀ p ∈ L, StepOk p) {o : List Nat} (hi : ∀ i ∈ o, i < L.length) : F_first_wrong [.tup (L.map stp), ordV o] st = .ok (optV (fw (sf L) (af L) 0 o)) st := by
  obtain ⟨y2, y3, y4, e⟩ := fw_loop (st := st) h (O := .val (ordV o)) o 0 .non .non .non hi
  have ew : w_first_wrong_0 [.val (.tup (L.map stp)), .val (ordV o), .non, .non, .non] st = (match fw (sf L) (af L) 0 o with | some q => RS.rt (.int (q : Nat)) st | none => .nx [.val (.tup (L.map stp)), .val (ordV o), y2, y3, y4] st) := by
    rw [← e, ← cut_drop1]
    rfl
  unfold F_first_wrong mkFn f_first_wrong
  show (match sSeq w_first_wrong_0 _ [.val (.tup (L.map stp)), .val (ordV o), .non, .non, .non] st with
    | .nx _ st => RE.ok PV.non st
    | .rt v st => .ok v st
    | .exc x _ st => .exc x st
    | _ => .stuck) = _
  rw [sSeq_e, ew]
  cases fw (sf L) (af L) 0 o with
  | none => rfl
  | some q => rfl
/-! ### orders are orders -/
theorem nts_eq : ∀ l : List Nat, ∃ ds, toDs (l.map nt) = some ds ∧ PyData.canLayAll0 ds = true ∧ PyData.depthAll ds = 0 ∧ PyData.eqvAll ds ds = true
  | [] => ⟨[], by unfold List.map toDs; rfl, rfl, rfl, rfl⟩
  | i :: l => by
    obtain ⟨ds, e, h1, h2, h3⟩ := nts_eq l
    refine ⟨.int i :: ds, ?_, ?_, ?_, ?_⟩
    · rw [List.map_cons]
      unfold toDs
      rw [e]
      rfl
    · show (PyData.canLay0 (.int i) && PyData.canLayAll0 ds) = true
      rw [h1]; rfl
    · show max (PyData.depth (.int i)) (PyData.depthAll ds) = 0
      rw [h2]; rfl
    · show (PyData.eqv (.int i) (.int i) && PyData.eqvAll ds ds) = true
      rw [h3, eqv_int, decide_eq_true rfl]; rfl
theorem eq_nts (l : List Nat) : eqF (.lst (l.map nt)) (.lst (l.map nt)) = some (.bl true) := by
  obtain ⟨ds, e, h1, h2, h3⟩ := nts_eq l
  have e1 : toD (.lst (l.map nt)) = some (.list ds) := by unfold toD; rw [e]; rfl
  show eqG (.lst (l.map nt)) (.lst (l.map nt)) = _
  unfold eqG
  rw [e1]
  dsimp only
  have hs : SeqAt.shaped (.list ds) = true := by
    unfold SeqAt.shaped
    simp only [Bool.and_eq_true, decide_eq_true_eq]
    refine ⟨h1, ?_⟩
    show PyData.depthAll ds + 1 ≤ 64
    omega
  rw [if_pos ⟨hs, hs⟩]
  exact congrArg (fun b => some (PV.bl b)) (show PyData.eqvAll ds ds = true from h3)
theorem intsOf_nt : ∀ l : List Nat, intsOf (l.map nt) = some (l.map fun i : Nat => (i : Int))
  | [] => rfl
  | i :: l => by
    show (intsOf (l.map nt)).map _ = _
    rw [intsOf_nt l]
    rfl
theorem range_nt (n : Nat) : rangeF 0 n = (List.range n).map nt := by
  unfold rangeF
  refine List.map_congr_left fun i _ => ?_
  rw [Int.zero_add]
  rfl
theorem isort_range {o : List Nat} {n : Nat} (hp : o.Perm (List.range n)) : isort (o.map fun i : Nat => (i : Int)) = (List.range n).map fun i : Nat => (i : Int) := by
  refine (isort_of (hp.symm.map _) ?_).symm
  rw [List.pairwise_map]
  exact List.pairwise_lt_range.imp fun h => by omega
theorem all_true {α : Type} (l : List α) : allF [.lst (l.map fun _ => PV.bl true)] = some (.bl true) := by
  have q : blsOf (l.map fun _ => PV.bl true) = some (l.map fun _ => true) := by
    have := blsOf_map (l.map fun _ => true)
    rw [List.map_map] at this
    exact this
  show (blsOf (l.map fun _ => PV.bl true)).map _ = _
  rw [q]
  simp
theorem isorder_spec (h5 : L.length ≤ 5) {o : List Nat} (hp : o.Perm (List.range L.length)) : F_is_order [.tup (L.map stp), ordV o] st = .ok (.bl true) st := by
  have key := lc_map (b := bName 2) (c := tYesF) (t := eCall F_is_between (aCons (eVar 2) (aCons (eC (.int 0)) (aCons (eOp subF (eB lenF (aCons (eVar 0) aNil)) (eC (.int 1))) aNil)))) (e := [.val (.tup (L.map stp)), .val (ordV o), .non]) (st := st) nt (fun _ => true) (fun _ => .bl true) o fun i hi => by
    have hi2 := List.mem_range.mp (hp.subset hi)
    refine ⟨[.val (.tup (L.map stp)), .val (ordV o), .val (nt i)], by simp, rfl, fun _ => ?_⟩
    have c1 : (0 : Int) ≤ (i : Int) := by omega
    have c2 : (i : Int) ≤ (L.length : Int) - 1 := by omega
    have bt : F_is_between [.int (i : Nat), .int 0, .int ((L.length : Int) - 1)] st = .ok (.bl true) st := by
      unfold F_is_between mkFn f_is_between
      simp [isint_spec, c1, c2]
    simp [nt, bt]
  rw [List.filter_eq_self.mpr (fun _ _ => rfl)] at key
  have hr : -(LINE : Int) ≤ (L.length : Int) ∧ (L.length : Int) ≤ LINE := by
    have : (LINE : Int) = 16777216 := rfl
    omega
  have rg : rngL (eB lenF (aCons (eVar 0) aNil)) [.val (.tup (L.map stp)), .val (ordV o), .non] st = .ok ((List.range L.length).map nt) st := by
    show (if -(LINE : Int) ≤ ((L.map stp).length : Int) ∧ ((L.map stp).length : Int) ≤ LINE then RE.ok (rangeF 0 ((L.map stp).length : Int).toNat) st else .stuck) = _
    rw [List.length_map, if_pos hr, Int.toNat_natCast, range_nt]
  have sr : sortedF [ordV o] = some ((List.range L.length).map nt) := by
    show (intsOf (o.map nt)).map _ = _
    rw [intsOf_nt, Option.map_some, isort_range hp, List.map_map]
    rfl
  have lk : l_is_order_0 [.val (.tup (L.map stp)), .val (ordV o), .non] st = .ok (o.map fun _ => PV.bl true) st := by
    unfold l_is_order_0
    rw [← key]
    rfl
  have ty : isiF .tuple (ordV o) = some (.bl true) := rfl
  unfold F_is_order mkFn f_is_order
  simp [-rngL_e, ty, lk, all_true, sr, rg, eq_nts]
theorem needorder_spec (h : ∀ p ∈ L, StepOk p) (h1 : 1 ≤ L.length) (h5 : L.length ≤ 5) {o : List Nat} (hp : o.Perm (List.range L.length)) : F_need_order [.tup (L.map stp), ordV o] st = .ok .non st := by
  unfold F_need_order mkFn f_need_order
  simp [need_spec h h1 h5, isorder_spec h5 hp]
theorem wrong_spec (h : ∀ p ∈ L, StepOk p) (h1 : 1 ≤ L.length) (h5 : L.length ≤ 5) {o : List Nat} (hp : o.Perm (List.range L.length)) : F_wrong [.tup (L.map stp), ordV o] st = .ok (optV (fw (sf L) (af L) 0 o)) st := by
  unfold F_wrong mkFn f_wrong
  simp [needorder_spec h h1 h5 hp, firstwrong_spec h fun i hi => List.mem_range.mp (hp.subset hi)]
/-! ### mixed -/
theorem erase_nt : ∀ (l : List Nat) (i : Nat), (l.map nt).eraseIdx i = (l.eraseIdx i).map nt
  | [], i => by simp
  | x :: l, 0 => by simp
  | x :: l, i + 1 => by
    have := erase_nt l i
    simp [this]
theorem erase_perm : ∀ (l : List Nat) (i : Nat) (h : i < l.length), (l[i] :: l.eraseIdx i).Perm l
  | [], i, h => by simp at h
  | x :: l, 0, h => by simp
  | x :: l, i + 1, h => by
    have h' : i < l.length := by simpa using h
    have := erase_perm l i h'
    rw [List.getElem_cons_succ, List.eraseIdx_cons_succ]
    exact (List.Perm.swap x l[i] (l.eraseIdx i)).trans (this.cons x)
theorem mix_loop {n : Nat} {X1 : EV} : ∀ (items : List PV) (st : Sto) (m : Nat) (rest found : List Nat) (x4 : EV), PenAt st n m → m + items.length ≤ 900000 → rest.length = items.length → found.length + rest.length ≤ 10 →
    ∃ (o : List Nat) (st' : Sto) (y4 : EV), forLoop (bName 4) t__law_mixed_0 items [.val (.gl n), X1, .own (rest.map nt), .own (found.map nt), x4] st = .nx [.val (.gl n), X1, .own [], .own (o.map nt), y4] st' ∧ o.Perm (found ++ rest) ∧ PenAt st' n (m + items.length)
  | [], st, m, rest, found, x4, h, _, hl, _ => by
    have e : rest = [] := List.eq_nil_of_length_eq_zero hl
    subst e
    exact ⟨found, st, x4, rfl, by rw [List.append_nil], h⟩
  | x :: items, st, m, rest, found, x4, h, hm, hl, hb => by
    rw [List.length_cons] at hm hl
    obtain ⟨r, s1, e1, r0, r1, P1⟩ := draw_spec (k := (rest.length : Int)) h (by omega) (by omega) (by omega)
    have hk : r.toNat < rest.length := by omega
    have hr : ((r.toNat : Nat) : Int) = r := by omega
    obtain ⟨o, st', y4, e2, hp, P2⟩ := mix_loop (X1 := X1) items s1 (m + 1) (rest.eraseIdx r.toNat) (found ++ [rest[r.toNat]]) (.val x) P1 (by omega) (by rw [List.length_eraseIdx_of_lt hk]; omega) (by rw [List.length_append, List.length_singleton, List.length_eraseIdx_of_lt hk]; omega)
    refine ⟨o, st', y4, ?_, ?_, P2.mono (by rw [List.length_cons]; omega)⟩
    · rw [← e2]
      conv => lhs; unfold forLoop
      have ix : ixN (rest.map nt).length r = some r.toNat := by
        unfold ixN
        rw [List.length_map, if_pos r0, if_pos r1]
      have pp : popAt (rest.map nt) r = some (nt rest[r.toNat], (rest.eraseIdx r.toNat).map nt) := by
        unfold popAt
        rw [ix]
        dsimp only
        rw [List.getElem?_map, List.getElem?_eq_getElem hk]
        dsimp only [Option.map_some]
        rw [erase_nt]
      have hlen : (found.map nt).length < LINE := by rw [List.length_map]; show found.length < 16777216; omega
      rw [show bName 4 x [.val (.gl n), X1, .own (rest.map nt), .own (found.map nt), x4] = some [.val (.gl n), X1, .own (rest.map nt), .own (found.map nt), .val x] from rfl]
      have body : t__law_mixed_0 [.val (.gl n), X1, .own (rest.map nt), .own (found.map nt), .val x] st = .nx [.val (.gl n), X1, .own ((rest.eraseIdx r.toNat).map nt), .own ((found ++ [rest[r.toNat]]).map nt), .val x] s1 := by
        have ea : eCall F__law_draw (aCons (eVar 0) (aCons (eB lenF (aCons (eOwn 2) aNil)) aNil)) [.val (.gl n), X1, .own (rest.map nt), .own (found.map nt), .val x] st = .ok (.int r) s1 := by
          simp [e1]
        unfold t__law_mixed_0
        rw [sSeq_e, sAppPop_e]
        simp only [List.getElem?_cons_succ, List.getElem?_cons_zero, ea, toS_ok, pp]
        rw [if_pos hlen, List.map_append]
        rfl
      dsimp only
      rw [body]
    · refine hp.trans ?_
      rw [List.append_assoc]
      refine List.Perm.append_left found ?_
      exact erase_perm rest r.toNat hk
theorem mixed_spec {n m k : Nat} (h : PenAt st n m) (hm : m ≤ 100000) (hk : k ≤ 5) : ∃ (o : List Nat) (st' : Sto), F__law_mixed [.gl n, .lst ((List.range k).map nt)] st = .ok (.lst (o.map nt)) st' ∧ o.Perm (List.range k) ∧ PenAt st' n (m + 5) := by
  have hr : -(LINE : Int) ≤ (k : Int) ∧ (k : Int) ≤ LINE := by
    have : (LINE : Int) = 16777216 := rfl
    omega
  obtain ⟨o, st', y4, e, hp, P⟩ := mix_loop (X1 := .val (.lst ((List.range k).map nt))) (rangeF 0 k) st m (List.range k) [] .non h (by rw [rangeF_len]; omega) (by rw [rangeF_len, List.length_range]) (by rw [List.length_range]; show 0 + k ≤ 10; omega)
  refine ⟨o, st', ?_, hp, P.mono (by rw [rangeF_len]; omega)⟩
  have l0 : (0 : Nat) ≤ LINE := by decide
  have ew : w__law_mixed_0 [.val (.gl n), .val (.lst ((List.range k).map nt)), .own ((List.range k).map nt), .own [], .non] st = .nx [.val (.gl n), .val (.lst ((List.range k).map nt)), .own [], .own (o.map nt), y4] st' := by
    unfold w__law_mixed_0
    rw [sFor_e, iRng1_ok (j := (k : Int)) (st' := st) ?_ hr.1 hr.2, Int.toNat_natCast]
    · exact e
    · simp
  have lf : listF [.lst ((List.range k).map nt)] = some ((List.range k).map nt) := rfl
  clear hr
  unfold F__law_mixed mkFn f__law_mixed
  simp [lf, l0, ew]
end
/-! ### cheapest -/
section
variable {L : List (Int × Int)} {st : Sto}
theorem nts_data : ∀ l : List Nat, ∃ ds, toDs (l.map nt) = some ds ∧ PyData.canLayAll0 ds = true ∧ PyData.depthAll ds = 0 ∧ ds.isEmpty = l.isEmpty
  | [] => ⟨[], by unfold List.map toDs; rfl, rfl, rfl, rfl⟩
  | i :: l => by
    obtain ⟨ds, e, h1, h2, h3⟩ := nts_data l
    refine ⟨.int i :: ds, ?_, ?_, ?_, rfl⟩
    · rw [List.map_cons]
      unfold toDs
      rw [e]
      rfl
    · show (PyData.canLay0 (.int i) && PyData.canLayAll0 ds) = true
      rw [h1]; rfl
    · show max (PyData.depth (.int i)) (PyData.depthAll ds) = 0
      rw [h2]; rfl
theorem ne_nil (l : List Nat) : neF (.lst (l.map nt)) (.lst []) = some (.bl (!l.isEmpty)) := by
  obtain ⟨ds, e, h1, h2, h3⟩ := nts_data l
  have e1 : toD (.lst (l.map nt)) = some (.list ds) := by unfold toD; rw [e]; rfl
  show neG (.lst (l.map nt)) (.lst []) = _
  unfold neG
  rw [e1, show toD (.lst []) = some (.list []) from rfl]
  dsimp only
  have hs : SeqAt.shaped (.list ds) = true := by
    unfold SeqAt.shaped
    simp only [Bool.and_eq_true, decide_eq_true_eq]
    refine ⟨h1, ?_⟩
    show PyData.depthAll ds + 1 ≤ 64
    omega
  rw [if_pos ⟨hs, rfl⟩, ← h3]
  cases ds with
  | nil => rfl
  | cons _ _ => rfl
theorem rem_nt : ∀ (l : List Nat) (x : Nat), x ∈ l → (l.map fun i : Nat => (i : Int)).idxOf (x : Int) < (l.map fun i : Nat => (i : Int)).length ∧ (((l.map fun i : Nat => (i : Int)).eraseIdx ((l.map fun i : Nat => (i : Int)).idxOf (x : Int))).map PV.int) = (l.erase x).map nt
  | [], x, h => by cases h
  | i :: l, x, h => by
    rw [List.map_cons, List.idxOf_cons]
    by_cases e : i = x
    · subst e
      simp [nt]
    · have hx : x ∈ l := by
        rcases List.mem_cons.mp h with z | z
        · exact absurd z.symm e
        · exact z
      obtain ⟨h1, h2⟩ := rem_nt l x hx
      have e2 : ((i : Int) == (x : Int)) = false := by
        rw [beq_eq_false_iff_ne]
        omega
      rw [e2, List.erase_cons_tail (by simpa using e)]
      refine ⟨by simpa using h1, ?_⟩
      show ((i : Int) :: ((l.map fun i : Nat => (i : Int)).eraseIdx _)).map PV.int = _
      rw [List.map_cons, List.map_cons, h2]
      rfl
theorem able_spec (h : ∀ p ∈ L, StepOk p) {F x3 x4 x5 : EV} {left : List Nat} (hl : ∀ i ∈ left, i < L.length) :
    l_cheapest_1 [.val (.tup (L.map stp)), .own (left.map nt), F, x3, x4, x5] st = .ok ((left.filter (ableB (sf L) (af L) left)).map nt) st := by
  unfold l_cheapest_1
  have key := lc_map (b := bName 4) (c := tNotF (tV (eB anyF (aCons (eLst l_cheapest_0) aNil)))) (t := eVar 4) (e := [.val (.tup (L.map stp)), .own (left.map nt), F, x3, .non, x5]) (st := st) nt (ableB (sf L) (af L) left) nt left fun one h1 => by
    refine ⟨[.val (.tup (L.map stp)), .own (left.map nt), F, x3, .val (nt one), x5], by simp, ?_, fun _ => by simp⟩
    have inner := lc_map (b := bName 5) (c := tYesF) (t := eCall F_is_better_first (aCons (eIx (eVar 0) (eVar 5)) (aCons (eIx (eVar 0) (eVar 4)) aNil))) (e := [.val (.tup (L.map stp)), .own (left.map nt), F, x3, .val (nt one), .non]) (st := st) nt (fun _ => true) (fun o => .bl (decide (af L o * sf L one < af L one * sf L o))) left fun o ho => by
      refine ⟨[.val (.tup (L.map stp)), .own (left.map nt), F, x3, .val (nt one), .val (nt o)], by simp, rfl, fun _ => ?_⟩
      have a1 := at_stp (hl o ho)
      have a2 := at_stp (hl one h1)
      simp [nt, a1, a2, better_spec h]
    rw [List.filter_eq_self.mpr (fun _ _ => rfl)] at inner
    have eb : anyF [.lst (left.map fun o => PV.bl (decide (af L o * sf L one < af L one * sf L o)))] = some (.bl (left.any fun o => decide (af L o * sf L one < af L one * sf L o))) := by
      have q : blsOf (left.map fun o => PV.bl (decide (af L o * sf L one < af L one * sf L o))) = some (left.map fun o => decide (af L o * sf L one < af L one * sf L o)) := by
        have := blsOf_map (left.map fun o => decide (af L o * sf L one < af L one * sf L o))
        rw [List.map_map] at this
        exact this
      show (blsOf _).map _ = _
      rw [q]
      simp [List.any_map]
    have fin : (!(left.any fun o => decide (af L o * sf L one < af L one * sf L o))) = ableB (sf L) (af L) left one := by
      unfold ableB
      rw [List.not_any_eq_all_not]
      congr 1
      funext o
      unfold Le
      rw [← decide_not]
      exact decide_eq_decide.mpr (by omega)
    rw [← fin]
    unfold l_cheapest_0
    simp [inner, eb]
  simp [key]
theorem while_spec (h : ∀ p ∈ L, StepOk p) : ∀ (n fuel : Nat) (left found : List Nat) (x3 x4 x5 : EV), left.length = n → n < fuel → found.length + n ≤ 10 → (∀ i ∈ left, i < L.length) →
    ∃ y3 y4 y5, whileLoop (tV (eOp neF (eOwn 1) (eLst (lDisp aNil)))) t_cheapest_0 fuel [.val (.tup (L.map stp)), .own (left.map nt), .own (found.map nt), x3, x4, x5] st =
      .nx [.val (.tup (L.map stp)), .own [], .own ((found ++ greedy (sf L) (af L) n left).map nt), y3, y4, y5] st
  | 0, fuel + 1, left, found, x3, x4, x5, hn, _, _, _ => by
    have e : left = [] := List.eq_nil_of_length_eq_zero hn
    subst e
    refine ⟨x3, x4, x5, ?_⟩
    have q : neF (.lst []) (.lst []) = some (.bl false) := ne_nil []
    have l0 : (0 : Nat) ≤ LINE := by decide
    unfold whileLoop
    simp [l0, q, greedy]
  | n + 1, fuel + 1, left, found, x3, x4, x5, hn, hf, hb, hl => by
    have g := good_of h
    have hne : left ≠ [] := fun e => by rw [e] at hn; simp at hn
    obtain ⟨xm, hxm, hmin⟩ := exists_min g left hne
    have hfm : xm ∈ left.filter (ableB (sf L) (af L) left) := List.mem_filter.mpr ⟨hxm, List.all_eq_true.mpr fun y hy => decide_eq_true (hmin y hy)⟩
    cases hF : left.filter (ableB (sf L) (af L) left) with
    | nil => rw [hF] at hfm; cases hfm
    | cons x r =>
      have hx : x ∈ left := (List.mem_filter.mp (by rw [hF]; exact List.mem_cons_self ..)).1
      have ab := able_spec (st := st) h (F := .own (found.map nt)) (x3 := x3) (x4 := x4) (x5 := x5) hl
      rw [hF] at ab
      obtain ⟨r1, r2⟩ := rem_nt left x hx
      obtain ⟨y3, y4, y5, ih⟩ := while_spec h n fuel (left.erase x) (found ++ [x]) (.val (.lst ((x :: r).map nt))) x4 x5 (by rw [List.length_erase_of_mem hx]; omega) (by omega) (by rw [List.length_append, List.length_singleton]; omega) (fun i hi => hl i (List.mem_of_mem_erase hi))
      refine ⟨y3, y4, y5, ?_⟩
      have eg : found ++ greedy (sf L) (af L) (n + 1) left = (found ++ [x]) ++ greedy (sf L) (af L) n (left.erase x) := by
        rw [List.append_assoc]
        congr 1
        show (match left.filter (ableB (sf L) (af L) left) with | [] => [] | x :: _ => x :: greedy (sf L) (af L) n (left.erase x)) = _
        rw [hF]
        rfl
      rw [eg, ← ih]
      have q := ne_nil left
      have hb2 : left.isEmpty = false := by cases left with
        | nil => exact absurd rfl hne
        | cons _ _ => rfl
      rw [hb2] at q
      have l0 : (0 : Nat) ≤ LINE := by decide
      have ct : tV (eOp neF (eOwn 1) (eLst (lDisp aNil))) [.val (.tup (L.map stp)), .own (left.map nt), .own (found.map nt), x3, x4, x5] st = .ok true st := by
        simp [l0, q]
      have hlen : (found.map nt).length < LINE := by rw [List.length_map]; show found.length < 16777216; omega
      have at0' : atI ((x :: r).map nt) 0 = some (nt x) := atI_nat (l := (x :: r).map nt) (i := 0) (by simp)
      have ix : ∀ (B C : EV), eIx (eVar 3) (eC (.int 0)) [.val (.tup (L.map stp)), B, C, .val (.lst ((x :: r).map nt)), x4, x5] st = .ok (nt x) st := fun B C => by
        show RE.of (atI ((x :: r).map nt) 0) st = _
        rw [at0']
        rfl
      have body : t_cheapest_0 [.val (.tup (L.map stp)), .own (left.map nt), .own (found.map nt), x3, x4, x5] st = .nx [.val (.tup (L.map stp)), .own ((left.erase x).map nt), .own ((found ++ [x]).map nt), .val (.lst ((x :: r).map nt)), x4, x5] st := by
        have s1 : sAsg (bName 3) (eLst l_cheapest_1) [.val (.tup (L.map stp)), .own (left.map nt), .own (found.map nt), x3, x4, x5] st = .nx [.val (.tup (L.map stp)), .own (left.map nt), .own (found.map nt), .val (.lst ((x :: r).map nt)), x4, x5] st := by
          simp only [sAsg_e, eLst_e, ab, bind_ok, toS_ok]
          rfl
        have s2 : sApp 2 (eIx (eVar 3) (eC (.int 0))) [.val (.tup (L.map stp)), .own (left.map nt), .own (found.map nt), .val (.lst ((x :: r).map nt)), x4, x5] st = .nx [.val (.tup (L.map stp)), .own (left.map nt), .own ((found ++ [x]).map nt), .val (.lst ((x :: r).map nt)), x4, x5] st := by
          rw [List.map_append]
          show ((eIx (eVar 3) (eC (.int 0)) [.val (.tup (L.map stp)), .own (left.map nt), .own (found.map nt), .val (.lst ((x :: r).map nt)), x4, x5] st).toS _ fun v st => if (found.map nt).length < LINE then RS.nx _ st else .stuck) = _
          rw [ix, toS_ok, if_pos hlen]
          rfl
        have s3 : sRem 1 (eIx (eVar 3) (eC (.int 0))) [.val (.tup (L.map stp)), .own (left.map nt), .own ((found ++ [x]).map nt), .val (.lst ((x :: r).map nt)), x4, x5] st = .nx [.val (.tup (L.map stp)), .own ((left.erase x).map nt), .own ((found ++ [x]).map nt), .val (.lst ((x :: r).map nt)), x4, x5] st := by
          rw [sRem_e]
          simp only [List.getElem?_cons_succ, List.getElem?_cons_zero, ix, toS_ok, intsOf_nt, nt]
          rw [if_pos r1, r2]
          rfl
        unfold t_cheapest_0
        rw [sSeq_e, s1, thn_nx, sSeq_e, s2, thn_nx, sSeq_e, s3]
        rfl
      conv => lhs; unfold whileLoop
      rw [ct, toS_ok, if_pos rfl, body]
theorem cheapest_spec (h : ∀ p ∈ L, StepOk p) (h1 : 1 ≤ L.length) (h5 : L.length ≤ 5) : F_cheapest [.tup (L.map stp)] st = .ok (ordV (greedy (sf L) (af L) L.length (List.range L.length))) st := by
  obtain ⟨y3, y4, y5, e⟩ := while_spec (st := st) h L.length 100 (List.range L.length) [] .non .non .non List.length_range (by omega) (by show 0 + _ ≤ 10; omega) fun i hi => List.mem_range.mp hi
  have er : rangeF 0 L.length = (List.range L.length).map nt := by
    unfold rangeF
    refine List.map_congr_left fun i _ => ?_
    rw [Int.zero_add]
    rfl
  have hr : -(LINE : Int) ≤ (L.length : Int) ∧ (L.length : Int) ≤ LINE := by
    have : (LINE : Int) = 16777216 := rfl
    omega
  have l0 : (0 : Nat) ≤ LINE := by decide
  have rg : rngL (eB lenF (aCons (eVar 0) aNil)) [.val (.tup (L.map stp)), .non, .non, .non, .non, .non] st = .ok ((List.range L.length).map nt) st := by
    show (if -(LINE : Int) ≤ ((L.map stp).length : Int) ∧ ((L.map stp).length : Int) ≤ LINE then RE.ok (rangeF 0 ((L.map stp).length : Int).toNat) st else .stuck) = _
    rw [List.length_map, if_pos hr, Int.toNat_natCast, er]
  have e2 : w_cheapest_0 [.val (.tup (L.map stp)), .own ((List.range L.length).map nt), .own [], .non, .non, .non] st = .nx [.val (.tup (L.map stp)), .own [], .own ((greedy (sf L) (af L) L.length (List.range L.length)).map nt), y3, y4, y5] st := e
  unfold F_cheapest mkFn f_cheapest
  simp [-rngL_e, need_spec h h1 h5, rg, l0, e2, tupF, ordV]
end
theorem cell_spec (ns : List Int) (i : Nat) (st : Sto) : ∃ c, F__law_cell_at [.scr ns, .int i] st = .ok (.int c) st := by
  unfold F__law_cell_at mkFn f__law_cell_at
  have hl : lenF [.scr ns] = some (.int ns.length) := rfl
  by_cases h : i < ns.length
  · refine ⟨ns[i], ?_⟩
    have q : ixF st (.scr ns) (i : Int) = some (.int ns[i]) := by
      show (atI ns (i : Int)).map PV.int = _
      rw [atI_nat h]
      rfl
    simp [hl, h, q]
  · exact ⟨0, by simp [hl, h]⟩
theorem pen_spec (c : Int) (st : Sto) : ∃ st', F__law_pen [.int c] st = .ok (.gl st.length) st' ∧ PenAt st' st.length 0 := by
  have l3 : (3 : Nat) ≤ LINE := by decide
  have e1 : powF (.int 10) (.int 18) = some (.int 1000000000000000000) := rfl
  have e2 : modF (.int c) (.int 1000000007) = some (.int (c % 1000000007)) := modF_ok (by decide)
  have e3 : maxF [.int 0, .int (c - 1000000000000000000)] = some (.int (if c - 1000000000000000000 > 0 then c - 1000000000000000000 else 0)) := rfl
  refine ⟨st ++ [.lst [.int (if c - 1000000000000000000 > 0 then c - 1000000000000000000 else 0), .int (c % 1000000007), .int 0]], ?_, ⟨if c - 1000000000000000000 > 0 then c - 1000000000000000000 else 0, c % 1000000007, 0, List.getElem?_concat_length, ?_, Int.emod_nonneg _ (by decide), Int.emod_lt_of_pos _ (by decide), by decide, by decide⟩⟩
  · unfold F__law_pen mkFn f__law_pen
    simp [e1, e2, e3, l3]
  · split <;> omega
theorem fw_eq {s a : Nat → Int} : ∀ (o : List Nat) (k : Nat), fw s a k o = fwx s a k o
  | [], _ => rfl
  | [_], _ => rfl
  | i :: j :: r, k => by
    unfold fw fwx
    rw [fw_eq (j :: r) (k + 1)]
theorem cut_take {l : List PV} {k : Nat} (h : k ≤ l.length) : cutF l none (some (k : Int)) = l.take k := by
  have e1 : HT.sIx l.length l.length (some (k : Int)) = k := by unfold HT.sIx; simp only; rw [if_neg (by omega)]; omega
  have e2 : HT.sIx l.length 0 none = 0 := rfl
  unfold cutF
  rw [e1, e2, List.drop_zero, Nat.sub_zero]
section
variable {L : List (Int × Int)} {st : Sto}
def cost (L : List (Int × Int)) (p : Int) (o : List Nat) : Int := p * QQ (sf L) o - VV (sf L) (af L) o
theorem aft_loop (h : ∀ p ∈ L, StepOk p) {O P : EV} : ∀ (r : List Nat) (c f : Int) (x5 x6 x7 : EV), (∀ i ∈ r, i < L.length) →
    ∃ c' y5 y6 y7, forLoop (bName 5) t_after_0 (r.map nt) [.val (.tup (L.map stp)), O, P, .val (.int c), .val (.int f), x5, x6, x7] st =
      .nx [.val (.tup (L.map stp)), O, P, .val (.int c'), .val (.int (f * QQ (sf L) r - c * VV (sf L) (af L) r)), y5, y6, y7] st
  | [], c, f, x5, x6, x7, _ => ⟨c, x5, x6, x7, by
    show RS.nx _ st = _
    rw [show QQ (sf L) [] = 1 from rfl, show VV (sf L) (af L) [] = 0 from rfl, Int.mul_one, Int.mul_zero, Int.sub_zero]⟩
  | i :: r, c, f, x5, x6, x7, hi => by
    have g := good_of h
    obtain ⟨c', y5, y6, y7, ih⟩ := aft_loop h (O := O) (P := P) r (c * 100) (f * (100 - sf L i) - af L i * (c * 100)) (.val (nt i)) (.val (.int (sf L i))) (.val (.int (af L i))) fun q hq => hi q (List.mem_cons_of_mem _ hq)
    refine ⟨c', y5, y6, y7, ?_⟩
    have e : f * QQ (sf L) (i :: r) - c * VV (sf L) (af L) (i :: r) = (f * (100 - sf L i) - af L i * (c * 100)) * QQ (sf L) r - c * 100 * VV (sf L) (af L) r := by
      show f * ((100 - sf L i) * QQ (sf L) r) - c * (100 * af L i * QQ (sf L) r + 100 * VV (sf L) (af L) r) = _
      grind
    rw [e, ← ih, List.map_cons]
    conv => lhs; unfold forLoop
    have a1 := at_stp (hi i (List.mem_cons_self ..))
    have m1 : mulF (.int c) (.int 100) = some (.int (c * 100)) := mulF_r (by decide) (by decide)
    have m2 := m100 (f := f) (g.s0 i) (g.s1 i)
    have m3 : mulF (.int (af L i)) (.int (c * 100)) = some (.int (af L i * (c * 100))) := mulF_l (by have := g.a0 i; omega) (by have := af_le h i; omega)
    have body : t_after_0 [.val (.tup (L.map stp)), O, P, .val (.int c), .val (.int f), .val (nt i), x6, x7] st = .nx [.val (.tup (L.map stp)), O, P, .val (.int (c * 100)), .val (.int (f * (100 - sf L i) - af L i * (c * 100))), .val (nt i), .val (.int (sf L i)), .val (.int (af L i))] st := by
      unfold t_after_0
      simp [nt, a1, m1, m2, m3]
    rw [show bName 5 (nt i) [.val (.tup (L.map stp)), O, P, .val (.int c), .val (.int f), x5, x6, x7] = some [.val (.tup (L.map stp)), O, P, .val (.int c), .val (.int f), .val (nt i), x6, x7] from rfl]
    dsimp only
    rw [body]
theorem after_spec (h : ∀ p ∈ L, StepOk p) (h1 : 1 ≤ L.length) (h5 : L.length ≤ 5) {o : List Nat} (hp : o.Perm (List.range L.length)) {p : Int} (p0 : 0 ≤ p) (p1 : p ≤ 9999) : F_after [.tup (L.map stp), ordV o, .int p] st = .ok (.int (cost L p o)) st := by
  obtain ⟨c', y5, y6, y7, e⟩ := aft_loop (st := st) h (O := .val (ordV o)) (P := .val (.int p)) o 1 p .non .non .non fun i hi => List.mem_range.mp (hp.subset hi)
  rw [Int.one_mul] at e
  have ew : w_after_0 [.val (.tup (L.map stp)), .val (ordV o), .val (.int p), .val (.int 1), .val (.int p), .non, .non, .non] st = .nx [.val (.tup (L.map stp)), .val (ordV o), .val (.int p), .val (.int c'), .val (.int (cost L p o)), y5, y6, y7] st := e
  have bt : F_is_between [.int p, .int 0, .int 9999] st = .ok (.bl true) st := by
    unfold F_is_between mkFn f_is_between
    simp [isint_spec, p0, p1]
  unfold F_after mkFn f_after
  simp [needorder_spec h h1 h5 hp, bt, ew]
theorem ischeap_spec (h : ∀ p ∈ L, StepOk p) (h1 : 1 ≤ L.length) (h5 : L.length ≤ 5) {o : List Nat} (hp : o.Perm (List.range L.length)) : F_is_cheapest [.tup (L.map stp), ordV o] st = .ok (.bl (isNonB (optV (fw (sf L) (af L) 0 o)))) st := by
  have is1 : isF (optV (fw (sf L) (af L) 0 o)) .non = some (.bl (isNonB (optV (fw (sf L) (af L) 0 o)))) := rfl
  unfold F_is_cheapest mkFn f_is_cheapest
  simp [need_spec h h1 h5, isorder_spec h5 hp, firstwrong_spec h fun i hi => List.mem_range.mp (hp.subset hi), is1]
abbrev exE : EF PV := (eOp addF (eOp addF (eSl (eVar 0) oNone (oSome (eVar 1))) (eTup (aCons (eIx (eVar 0) (eOp addF (eVar 1) (eC (.int 1)))) (aCons (eIx (eVar 0) (eVar 1)) aNil)))) (eSl (eVar 0) (oSome (eOp addF (eVar 1) (eC (.int 2)))) oNone))
theorem exch_ev {st : Sto} {l pre r : List PV} {i j : PV} {k : Int} (hc1 : cutF l none (some k) = pre) (hc2 : cutF l (some (k + 2)) none = r) (ha : atI l (k + 1) = some j) (hb : atI l k = some i) (l1 : pre.length + 2 ≤ LINE) (l2 : pre.length + 2 + r.length ≤ LINE) :
    exE [.val (.tup l), .val (.int k)] st = .ok (.tup (pre ++ j :: i :: r)) st := by
  have l0 : (2 : Nat) ≤ LINE := by decide
  have a1 : addF (.tup pre) (.tup [j, i]) = some (.tup (pre ++ [j, i])) := by
    show (if pre.length + [j, i].length ≤ LINE then _ else _) = _
    exact if_pos l1
  have a2 : addF (.tup (pre ++ [j, i])) (.tup r) = some (.tup (pre ++ [j, i] ++ r)) := by
    show (if (pre ++ [j, i]).length + r.length ≤ LINE then _ else _) = _
    exact if_pos (by rw [List.length_append]; exact l2)
  have e1 : eSl (eVar 0) oNone (oSome (eVar 1)) [.val (.tup l), .val (.int k)] st = .ok (.tup pre) st := by rw [← hc1]; rfl
  have e2 : eSl (eVar 0) (oSome (eOp addF (eVar 1) (eC (.int 2)))) oNone [.val (.tup l), .val (.int k)] st = .ok (.tup r) st := by rw [← hc2]; rfl
  have e3 : eIx (eVar 0) (eOp addF (eVar 1) (eC (.int 1))) [.val (.tup l), .val (.int k)] st = .ok j st := by
    show RE.of (atI l (k + 1)) st = _
    rw [ha]
    rfl
  have e4 : eIx (eVar 0) (eVar 1) [.val (.tup l), .val (.int k)] st = .ok i st := by
    show RE.of (atI l k) st = _
    rw [hb]
    rfl
  have e5 : eTup (aCons (eIx (eVar 0) (eOp addF (eVar 1) (eC (.int 1)))) (aCons (eIx (eVar 0) (eVar 1)) aNil)) [.val (.tup l), .val (.int k)] st = .ok (.tup [j, i]) st := by
    rw [eTup_e, aCons_e, e3, bind_ok, aCons_e, e4]
    show (if [j, i].length ≤ LINE then RE.ok (PV.tup [j, i]) st else RE.stuck) = _
    exact if_pos l0
  show (eOp addF (eOp addF _ _) _) _ st = _
  rw [eOp_e, eOp_e, e1, bind_ok, e5, bind_ok, a1, of_some, bind_ok, e2, bind_ok, a2, List.append_assoc]
  rfl
theorem exch_spec {pre r : List Nat} {i j : Nat} (hl : (pre ++ i :: j :: r).length ≤ 10) : F__law_exchanged [ordV (pre ++ i :: j :: r), nt pre.length] st = .ok (ordV (pre ++ j :: i :: r)) st := by
  have hl2 : pre.length + 2 + r.length ≤ 10 := by
    rw [List.length_append, List.length_cons, List.length_cons] at hl
    omega
  have ev : exE [.val (ordV (pre ++ i :: j :: r)), .val (nt pre.length)] st = .ok (ordV (pre ++ j :: i :: r)) st := by
    unfold ordV
    rw [List.map_append, List.map_append, List.map_cons, List.map_cons, List.map_cons, List.map_cons]
    have hlm : (pre.map nt ++ nt i :: nt j :: r.map nt).length = pre.length + 2 + r.length := by simp; omega
    refine exch_ev ?_ ?_ ?_ ?_ (by rw [List.length_map]; show pre.length + 2 ≤ 16777216; omega) (by rw [List.length_map, List.length_map]; show pre.length + 2 + r.length ≤ 16777216; omega)
    · rw [cut_take (by rw [hlm]; omega), ← List.length_map (f := nt) (as := pre), List.take_left]
    · rw [show (pre.length : Int) + 2 = ((pre.length + 2 : Nat) : Int) by omega, cut_drop (by rw [hlm]; omega), ← List.length_map (f := nt) (as := pre), List.drop_append]
      simp
    · rw [show (pre.length : Int) + 1 = ((pre.length + 1 : Nat) : Int) by omega, PL.atI_nat (by rw [hlm]; omega)]
      simp
    · rw [PL.atI_nat (by rw [hlm]; omega)]
      simp
  unfold F__law_exchanged mkFn f__law_exchanged
  show (match sSeq (sRet exE) sNil [.val (ordV (pre ++ i :: j :: r)), .val (nt pre.length)] st with
    | .nx _ st => RE.ok PV.non st
    | .rt v st => .ok v st
    | .exc x _ st => .exc x st
    | _ => .stuck) = _
  rw [sSeq_e, sRet_e, ev]
  rfl
end
theorem neF_bl (a b : Bool) : neF (.bl a) (.bl b) = some (.bl (!(a == b))) := by
  show (if SeqAt.shaped (.bool a) = true ∧ SeqAt.shaped (.bool b) = true then some (PV.bl (!PyData.eqv (.bool a) (.bool b))) else none) = _
  rw [if_pos ⟨rfl, rfl⟩]
  rfl
theorem neF_int (a b : Int) : neF (.int a) (.int b) = some (.bl (!decide (a = b))) := by
  show (if SeqAt.shaped (.int a) = true ∧ SeqAt.shaped (.int b) = true then some (PV.bl (!PyData.eqv (.int a) (.int b))) else none) = _
  rw [if_pos ⟨rfl, rfl⟩, eqv_int]
theorem ne_nil0 : neF (.lst []) (.lst []) = some (.bl false) := ne_nil []
theorem eq_nil0 : eqF (.lst []) (.lst []) = some (.bl true) := eq_nts []
section
variable {L : List (Int × Int)} {st : Sto}
theorem sort_turns (h : ∀ p ∈ L, StepOk p) (h1 : 1 ≤ L.length) (h5 : L.length ≤ 5) {ps : List Int} (hps : ∀ p ∈ ps, 0 ≤ p ∧ p ≤ 9999) : ∀ (items : List PV) (o : List Nat) (x3 x4 x5 x6 x7 : EV), o.Perm (List.range L.length) → inv (sf L) (af L) o < items.length →
    forLoop (bName 3) t__law_is_sorted_0 items [.val (.tup (L.map stp)), .val (ordV o), .val (.lst (ps.map .int)), x3, x4, x5, x6, x7, .non, .non, .non] st = .rt (.bl true) st
  | [], o, _, _, _, _, _, _, hi => by simp at hi
  | x :: items, o, x3, x4, x5, x6, x7, hp, hi => by
    have g := good_of h
    have hlo : o.length = L.length := by rw [hp.length_eq, List.length_range]
    have l0 : (0 : Nat) ≤ LINE := by decide
    have l2 : (2 : Nat) ≤ LINE := by decide
    have wr := wrong_spec (st := st) h h1 h5 hp
    have ic := ischeap_spec (st := st) h h1 h5 hp
    have isq : isF (optV (fw (sf L) (af L) 0 o)) .non = some (.bl (isNonB (optV (fw (sf L) (af L) 0 o)))) := rfl
    conv => lhs; unfold forLoop
    rw [show bName 3 x [.val (.tup (L.map stp)), .val (ordV o), .val (.lst (ps.map .int)), x3, x4, x5, x6, x7, .non, .non, .non] = some [.val (.tup (L.map stp)), .val (ordV o), .val (.lst (ps.map .int)), .val x, x4, x5, x6, x7, .non, .non, .non] from rfl]
    dsimp only
    cases hf : fw (sf L) (af L) 0 o with
    | none =>
      have pw : PW (sf L) (af L) o := fwx_none g o 0 (by rw [← fw_eq]; exact hf)
      obtain ⟨gp, gw⟩ := greedy_ok g L.length (List.range L.length) List.length_range
      have cs := cheapest_spec (st := st) h h1 h5
      rw [hf] at wr ic isq
      generalize hG : greedy (sf L) (af L) L.length (List.range L.length) = G at cs gp gw
      have same : ∀ p, cost L p o = cost L p G := fun p => by
        unfold cost
        rw [QQ_perm (hp.trans gp.symm), PW_unique (hp.trans gp.symm) pw gw]
      have lc0 := lc_map (b := bName 8) (c := tYesF) (t := eTup (aCons (eCall F_after (aCons (eVar 0) (aCons (eVar 1) (aCons (eVar 8) aNil)))) (aCons (eCall F_after (aCons (eVar 0) (aCons (eVar 5) (aCons (eVar 8) aNil)))) aNil))) (e := [.val (.tup (L.map stp)), .val (ordV o), .val (.lst (ps.map .int)), .val x, .val .non, .val (ordV G), x6, x7, .non, .non, .non]) (st := st) PV.int (fun _ => true) (fun p => .tup [.int (cost L p o), .int (cost L p G)]) ps fun p hpm => by
        have b1 := after_spec (st := st) h h1 h5 hp (hps p hpm).1 (hps p hpm).2
        have b2 := after_spec (st := st) h h1 h5 gp (hps p hpm).1 (hps p hpm).2
        refine ⟨[.val (.tup (L.map stp)), .val (ordV o), .val (.lst (ps.map .int)), .val x, .val .non, .val (ordV G), x6, x7, .val (.int p), .non, .non], by simp, rfl, fun _ => ?_⟩
        generalize ordV o = O1 at *
        generalize ordV G = O2 at *
        simp [b1, b2, l2]
      rw [List.filter_eq_self.mpr (fun _ _ => rfl)] at lc0
      have lc1 := lc_map (b := bTup ((bName 9) :: ((bName 10) :: []))) (c := tV (eOp neF (eVar 9) (eVar 10))) (t := eC (.int 1)) (e := [.val (.tup (L.map stp)), .val (ordV o), .val (.lst (ps.map .int)), .val x, .val .non, .val (ordV G), .val (.lst (ps.map fun p => .tup [.int (cost L p o), .int (cost L p G)])), x7, .non, .non, .non]) (st := st) (fun p => .tup [.int (cost L p o), .int (cost L p G)]) (fun _ => false) (fun _ => .int 1) ps fun p hpm => by
        refine ⟨[.val (.tup (L.map stp)), .val (ordV o), .val (.lst (ps.map .int)), .val x, .val .non, .val (ordV G), .val (.lst (ps.map fun p => .tup [.int (cost L p o), .int (cost L p G)])), x7, .non, .val (.int (cost L p o)), .val (.int (cost L p G))], by simp, ?_, fun z => by cases z⟩
        simp [neF_int, same p]
      rw [List.filter_eq_nil_iff.mpr (fun _ _ => Bool.false_ne_true)] at lc1
      have k0 : l__law_is_sorted_0 [.val (.tup (L.map stp)), .val (ordV o), .val (.lst (ps.map .int)), .val x, .val .non, .val (ordV G), x6, x7, .non, .non, .non] st = .ok (ps.map fun p => .tup [.int (cost L p o), .int (cost L p G)]) st := lc0
      have k1 : l__law_is_sorted_1 [.val (.tup (L.map stp)), .val (ordV o), .val (.lst (ps.map .int)), .val x, .val .non, .val (ordV G), .val (.lst (ps.map fun p => .tup [.int (cost L p o), .int (cost L p G)])), x7, .non, .non, .non] st = .ok [] st := lc1
      have nb : isNonB (optV none) = true := rfl
      rw [nb] at ic isq
      have o0 : optV none = .non := rfl
      rw [o0] at wr isq
      have tr : neF (.bl true) (.bl true) = some (.bl false) := neF_bl true true
      clear lc0 lc1 same
      generalize (ps.map fun p => PV.tup [.int (cost L p o), .int (cost L p G)]) = PR at *
      generalize ordV o = O1 at *
      generalize ordV G = O2 at *
      generalize ps.map PV.int = PS at *
      have body : t__law_is_sorted_0 [.val (.tup (L.map stp)), .val O1, .val (.lst PS), .val x, x4, x5, x6, x7, .non, .non, .non] st = .rt (.bl true) st := by
        unfold t__law_is_sorted_0
        simp [wr, ic, isq, tr, cs, k0, k1, l0, eq_nil0]
      rw [body]
    | some q =>
      obtain ⟨p, i, j, r, e, hq, hle⟩ := fwx_some o 0 q (by rw [← fw_eq]; exact hf)
      have e1 := inv_swap (s := sf L) (a := af L) hle r p
      have e2 := VV_swap g hle r p
      have hp2 : (p ++ j :: i :: r).Perm (List.range L.length) := (List.Perm.append_left p (List.Perm.swap i j r)).trans (e ▸ hp)
      rw [Nat.zero_add] at hq
      have ex := exch_spec (st := st) (pre := p) (i := i) (j := j) (r := r) (by rw [← e]; omega)
      rw [← e, ← hq] at ex
      rw [← e] at e1 e2
      have less : ∀ t, cost L t (p ++ j :: i :: r) < cost L t o := fun t => by
        unfold cost
        rw [QQ_perm (hp2.trans hp.symm)]
        omega
      have ih := sort_turns h h1 h5 hps items (p ++ j :: i :: r) (.val x) (.val (nt q)) x5 x6 (.val (ordV (p ++ j :: i :: r))) hp2 (by rw [List.length_cons] at hi; omega)
      generalize hO : p ++ j :: i :: r = o2 at *
      have lc2 := lc_map (b := bName 8) (c := tV (eOp geF (eCall F_after (aCons (eVar 0) (aCons (eVar 7) (aCons (eVar 8) aNil)))) (eCall F_after (aCons (eVar 0) (aCons (eVar 1) (aCons (eVar 8) aNil)))))) (t := eC (.int 1)) (e := [.val (.tup (L.map stp)), .val (ordV o), .val (.lst (ps.map .int)), .val x, .val (nt q), x5, x6, .val (ordV o2), .non, .non, .non]) (st := st) PV.int (fun _ => false) (fun _ => .int 1) ps fun t htm => by
        have b1 := after_spec (st := st) h h1 h5 hp (hps t htm).1 (hps t htm).2
        have b2 := after_spec (st := st) h h1 h5 hp2 (hps t htm).1 (hps t htm).2
        have lt := less t
        refine ⟨[.val (.tup (L.map stp)), .val (ordV o), .val (.lst (ps.map .int)), .val x, .val (nt q), x5, x6, .val (ordV o2), .val (.int t), .non, .non], by simp, ?_, fun z => by cases z⟩
        generalize ordV o = O1 at *
        generalize ordV o2 = O2 at *
        simp [b1, b2]
        omega
      rw [List.filter_eq_nil_iff.mpr (fun _ _ => Bool.false_ne_true)] at lc2
      have k2 : l__law_is_sorted_2 [.val (.tup (L.map stp)), .val (ordV o), .val (.lst (ps.map .int)), .val x, .val (nt q), x5, x6, .val (ordV o2), .non, .non, .non] st = .ok [] st := lc2
      rw [hf] at wr ic isq
      have oq : optV (some q) = nt q := rfl
      have nb : isNonB (nt q) = false := rfl
      rw [oq, nb] at ic isq
      rw [oq] at wr
      have tr : neF (.bl false) (.bl false) = some (.bl false) := neF_bl false false
      clear lc2 less
      generalize ordV o = O1 at *
      generalize ordV o2 = O2 at *
      generalize ps.map PV.int = PS at *
      generalize nt q = Q at *
      have body : t__law_is_sorted_0 [.val (.tup (L.map stp)), .val O1, .val (.lst PS), .val x, x4, x5, x6, x7, .non, .non, .non] st = .nx [.val (.tup (L.map stp)), .val O2, .val (.lst PS), .val x, .val Q, x5, x6, .val O2, .non, .non, .non] st := by
        unfold t__law_is_sorted_0
        simp [wr, ic, isq, tr, ex, k2, l0, ne_nil0]
      rw [body]
      exact ih
theorem sorted_spec (h : ∀ p ∈ L, StepOk p) (h1 : 1 ≤ L.length) (h5 : L.length ≤ 5) {ps : List Int} (hps : ∀ p ∈ ps, 0 ≤ p ∧ p ≤ 9999) {o : List Nat} (hp : o.Perm (List.range L.length)) : F__law_is_sorted [.tup (L.map stp), ordV o, .lst (ps.map .int)] st = .ok (.bl true) st := by
  have hlo : o.length = L.length := by rw [hp.length_eq, List.length_range]
  have hi : inv (sf L) (af L) o < 11 := by
    have a := inv_le (s := sf L) (a := af L) o
    have b : o.length * (o.length - 1) ≤ 5 * 4 := Nat.mul_le_mul (by omega) (by omega)
    omega
  have e := sort_turns (st := st) h h1 h5 hps (rangeF 0 11) o .non .non .non .non .non hp (by rw [rangeF_len]; exact hi)
  have hr : -(LINE : Int) ≤ 11 ∧ (11 : Int) ≤ LINE := by decide
  have ew : w__law_is_sorted_0 [.val (.tup (L.map stp)), .val (ordV o), .val (.lst (ps.map .int)), .non, .non, .non, .non, .non, .non, .non, .non] st = .rt (.bl true) st := by
    unfold w__law_is_sorted_0
    rw [sFor_e, iRng1_ok (j := 11) rfl hr.1 hr.2]
    exact e
  clear hr e
  unfold F__law_is_sorted mkFn f__law_is_sorted
  simp [ew]
theorem turn44 (ok : ∀ p ∈ L, StepOk p) (l1 : 1 ≤ L.length) (l5 : L.length ≤ 5) {ps : List Int} (hps : ∀ p ∈ ps, 0 ≤ p ∧ p ≤ 9999) {n m : Nat} {x4 x5 x6 : EV} (h : PenAt st n m) (hm : m ≤ 90000) {G : List Nat} (gp : G.Perm (List.range L.length)) (gw : PW (sf L) (af L) G) :
    ∃ st' y5, t__law_right_0 [.val (.gl n), .val (.tup (L.map stp)), .val (ordV G), .val (.lst (ps.map .int)), x4, x5, .non] st = .nx [.val (.gl n), .val (.tup (L.map stp)), .val (ordV G), .val (.lst (ps.map .int)), x4, y5, .non] st' ∧ PenAt st' n (m + 5) := by
  have g := good_of ok
  obtain ⟨o, s1, e1, hp, P1⟩ := mixed_spec h (by omega) l5
  have best : ∀ t, cost L t G ≤ cost L t o := fun t => by
    have := PW_best g gw (inv (sf L) (af L) o) o (Nat.le_refl _) (hp.trans gp.symm)
    unfold cost
    rw [QQ_perm (hp.trans gp.symm)]
    omega
  have so := sorted_spec (st := s1) ok l1 l5 hps hp
  have lc := lc_map (b := bName 6) (c := tV (eOp ltF (eCall F_after (aCons (eVar 1) (aCons (eVar 5) (aCons (eVar 6) aNil)))) (eCall F_after (aCons (eVar 1) (aCons (eVar 2) (aCons (eVar 6) aNil)))))) (t := eC (.int 1)) (e := [.val (.gl n), .val (.tup (L.map stp)), .val (ordV G), .val (.lst (ps.map .int)), x4, .val (ordV o), .non]) (st := s1) PV.int (fun _ => false) (fun _ => .int 1) ps fun t htm => by
    have b1 := after_spec (st := s1) ok l1 l5 hp (hps t htm).1 (hps t htm).2
    have b2 := after_spec (st := s1) ok l1 l5 gp (hps t htm).1 (hps t htm).2
    have le := best t
    refine ⟨[.val (.gl n), .val (.tup (L.map stp)), .val (ordV G), .val (.lst (ps.map .int)), x4, .val (ordV o), .val (.int t)], by simp, ?_, fun z => by cases z⟩
    generalize ordV o = O1 at *
    generalize ordV G = O2 at *
    simp [b1, b2]
    omega
  rw [List.filter_eq_nil_iff.mpr (fun _ _ => Bool.false_ne_true)] at lc
  have k0 : l__law_right_0 [.val (.gl n), .val (.tup (L.map stp)), .val (ordV G), .val (.lst (ps.map .int)), x4, .val (ordV o), .non] s1 = .ok [] s1 := lc
  have hr : -(LINE : Int) ≤ (L.length : Int) ∧ (L.length : Int) ≤ LINE := by
    have : (LINE : Int) = 16777216 := rfl
    omega
  have rg : rngL (eB lenF (aCons (eVar 1) aNil)) [.val (.gl n), .val (.tup (L.map stp)), .val (ordV G), .val (.lst (ps.map .int)), x4, x5, .non] st = .ok ((List.range L.length).map nt) st := by
    show (if -(LINE : Int) ≤ ((L.map stp).length : Int) ∧ ((L.map stp).length : Int) ≤ LINE then RE.ok (rangeF 0 ((L.map stp).length : Int).toNat) st else .stuck) = _
    rw [List.length_map, if_pos hr, Int.toNat_natCast, range_nt]
  clear hr lc best
  have tp : tupF [.lst (o.map nt)] = some (ordV o) := rfl
  have l0 : (0 : Nat) ≤ LINE := by decide
  refine ⟨s1, .val (ordV o), ?_, P1⟩
  generalize ordV o = O1 at *
  generalize ordV G = O2 at *
  generalize ps.map PV.int = PS at *
  unfold t__law_right_0
  simp [-rngL_e, rg, e1, tp, k0, l0, ne_nil0, so]
theorem turns44 (ok : ∀ p ∈ L, StepOk p) (l1 : 1 ≤ L.length) (l5 : L.length ≤ 5) {ps : List Int} (hps : ∀ p ∈ ps, 0 ≤ p ∧ p ≤ 9999) {n : Nat} {G : List Nat} (gp : G.Perm (List.range L.length)) (gw : PW (sf L) (af L) G) : ∀ (items : List PV) (st : Sto) (m : Nat) (x4 x5 : EV), PenAt st n m → m + 5 * items.length ≤ 90000 →
    ∃ st' y4 y5, forLoop (bName 4) t__law_right_0 items [.val (.gl n), .val (.tup (L.map stp)), .val (ordV G), .val (.lst (ps.map .int)), x4, x5, .non] st = .nx [.val (.gl n), .val (.tup (L.map stp)), .val (ordV G), .val (.lst (ps.map .int)), y4, y5, .non] st' ∧ PenAt st' n (m + 5 * items.length)
  | [], st, m, x4, x5, h, _ => ⟨st, x4, x5, rfl, h⟩
  | x :: items, st, m, x4, x5, h, hm => by
    rw [List.length_cons] at hm
    obtain ⟨s1, y5, e, P⟩ := turn44 ok l1 l5 hps (x4 := .val x) (x5 := x5) (x6 := .non) h (by omega) gp gw
    obtain ⟨st', z4, z5, ih, P2⟩ := turns44 ok l1 l5 hps gp gw items s1 (m + 5) (.val x) y5 P (by omega)
    refine ⟨st', z4, z5, ?_, P2.mono (by rw [List.length_cons]; omega)⟩
    rw [← ih]
    conv => lhs; unfold forLoop
    rw [show bName 4 x [.val (.gl n), .val (.tup (L.map stp)), .val (ordV G), .val (.lst (ps.map .int)), x4, x5, .non] = some [.val (.gl n), .val (.tup (L.map stp)), .val (ordV G), .val (.lst (ps.map .int)), .val x, x5, .non] from rfl]
    dsimp only
    rw [e]
end
theorem right_spec {n m : Nat} {st : Sto} (h : PenAt st n m) (hm : m ≤ 80000) : ∃ st', F__law_right [.gl n] st = .ok (.bl true) st' ∧ PenAt st' n (m + 70) := by
  obtain ⟨L, s1, e1, l1, l5, ok, P1⟩ := steps_spec h (by omega)
  obtain ⟨d, s2, f1, d0, d1, P2⟩ := draw_spec (k := 10000) P1 (by omega) (by decide) (by decide)
  have g := good_of ok
  have cs := cheapest_spec (st := s1) ok l1 l5
  obtain ⟨gp, gw⟩ := greedy_ok g L.length (List.range L.length) List.length_range
  generalize greedy (sf L) (af L) L.length (List.range L.length) = G at cs gp gw
  have hps : ∀ p ∈ [0, 9999, d], (0 : Int) ≤ p ∧ p ≤ 9999 := fun p hp => by
    simp only [List.mem_cons, List.not_mem_nil, or_false] at hp
    omega
  have f0 : fw (sf L) (af L) 0 G = none := by rw [fw_eq]; exact fwx_of_PW G 0 gw
  have wr := wrong_spec (st := s2) ok l1 l5 gp
  have ic := ischeap_spec (st := s2) ok l1 l5 gp
  rw [f0] at wr ic
  have o0 : optV none = .non := rfl
  have nb : isNonB PV.non = true := rfl
  rw [o0] at wr ic
  rw [nb] at ic
  obtain ⟨s3, y4, y5, e2, P3⟩ := turns44 ok l1 l5 hps gp gw (rangeF 0 4) s2 (m + 40 + 1) .non .non P2 (by rw [rangeF_len]; omega)
  rw [rangeF_len] at P3
  have hr : -(LINE : Int) ≤ 4 ∧ (4 : Int) ≤ LINE := by decide
  have ew : w__law_right_0 [.val (.gl n), .val (.tup (L.map stp)), .val (ordV G), .val (.lst [.int 0, .int 9999, .int d]), .non, .non, .non] s2 = .nx [.val (.gl n), .val (.tup (L.map stp)), .val (ordV G), .val (.lst [.int 0, .int 9999, .int d]), y4, y5, .non] s3 := by
    unfold w__law_right_0
    rw [sFor_e, iRng1_ok (j := 4) rfl hr.1 hr.2]
    exact e2
  clear hr e2
  have l3 : (3 : Nat) ≤ LINE := by decide
  have is1 : isntF .non .non = some (.bl false) := rfl
  refine ⟨s3, ?_, P3.mono (by omega)⟩
  generalize ordV G = O at *
  unfold F__law_right mkFn f__law_right
  simp [e1, cs, f1, l3, wr, is1, ic, ew]
theorem laps {ns : List Int} {n : Nat} {x1 : EV} : ∀ (items : List PV) (st : Sto) (m : Nat) (x3 : EV), PenAt st n m → m + 70 * items.length ≤ 80000 →
    ∃ st' y3, forLoop (bName 3) t_law_0 items [.val (.scr ns), x1, .val (.gl n), x3] st = .nx [.val (.scr ns), x1, .val (.gl n), y3] st'
  | [], st, m, x3, _, _ => ⟨st, x3, rfl⟩
  | x :: items, st, m, x3, h, hm => by
    rw [List.length_cons] at hm
    obtain ⟨s1, e, P⟩ := right_spec h (by omega)
    obtain ⟨st', y3, ih⟩ := laps items s1 (m + 70) (.val x) P (by omega)
    refine ⟨st', y3, ?_⟩
    rw [← ih]
    conv => lhs; unfold forLoop
    simp [t_law_0, e]
theorem cells {ns : List Int} : ∀ (items : List PV) (st : Sto) (x1 x2 x3 : EV), (∀ x ∈ items, ∃ i : Nat, x = .int i) →
    ∃ st' y1 y2 y3, forLoop (bName 1) t_law_1 items [.val (.scr ns), x1, x2, x3] st = .nx [.val (.scr ns), y1, y2, y3] st'
  | [], st, x1, x2, x3, _ => ⟨st, x1, x2, x3, rfl⟩
  | x :: items, st, x1, x2, x3, h => by
    obtain ⟨i, rfl⟩ := h x (List.mem_cons_self ..)
    obtain ⟨c, ec⟩ := cell_spec ns i st
    obtain ⟨s1, ep, P⟩ := pen_spec c st
    obtain ⟨s2, z3, el⟩ := laps (ns := ns) (x1 := .val (.int i)) (rangeF 0 5) s1 0 x3 P (by rw [rangeF_len]; omega)
    obtain ⟨st', y1, y2, y3, ih⟩ := cells items s2 (.val (.int i)) (.val (.gl st.length)) z3 fun y hy => h y (List.mem_cons_of_mem _ hy)
    refine ⟨st', y1, y2, y3, ?_⟩
    rw [← ih]
    conv => lhs; unfold forLoop
    have hr : -(LINE : Int) ≤ 5 ∧ (5 : Int) ≤ LINE := by decide
    have el : w_law_0 [.val (.scr ns), .val (.int i), .val (.gl st.length), x3] s1 = .nx [.val (.scr ns), .val (.int i), .val (.gl st.length), z3] s2 := by
      unfold w_law_0
      rw [sFor_e, iRng1_ok (j := 5) rfl hr.1 hr.2]
      exact el
    simp [t_law_1, ec, ep, el]
theorem law (ns : List Int) (hn : ns.length ≤ 63) : ∃ st, F_law [.scr ns] [] = .ok (.bl true) st := by
  have hl : lenF [.scr ns] = some (.int ns.length) := rfl
  have key : ∃ k : Int, maxF [.int 1, .int (if (3 : Int) < ns.length then 3 else ns.length)] = some (.int k) ∧ -(LINE : Int) ≤ k ∧ k ≤ LINE := by
    refine ⟨if (if (3 : Int) < ns.length then 3 else (ns.length : Int)) > 1 then (if (3 : Int) < ns.length then 3 else (ns.length : Int)) else 1, rfl, ?_⟩
    have : (LINE : Int) = 16777216 := rfl
    split <;> split <;> omega
  obtain ⟨k, ek, k1, k2⟩ := key
  obtain ⟨st', y1, y2, y3, e⟩ := cells (ns := ns) (rangeF 0 k.toNat) [] .non .non .non fun x hx => by
    unfold rangeF at hx
    obtain ⟨i, _, rfl⟩ := List.mem_map.mp hx
    exact ⟨i, by rw [Int.zero_add]⟩
  refine ⟨st', ?_⟩
  have mF : minF [.int ns.length, .int 3] = some (.int (if (3 : Int) < ns.length then 3 else ns.length)) := rfl
  have ea : aCons (eB maxF (aCons (eC (.int 1)) (aCons (eB minF (aCons (eB lenF (aCons (eVar 0) aNil)) (aCons (eC (.int 3)) aNil))) aNil))) aNil [.val (.scr ns), .non, .non, .non] [] = .ok [.int k] [] := by
    simp [hl, mF, ek]
  have ew : w_law_1 [.val (.scr ns), .non, .non, .non] [] = .nx [.val (.scr ns), y1, y2, y3] st' := by
    unfold w_law_1
    rw [sFor_e, iRng1_ok ea k1 k2]
    exact e
  unfold F_law mkFn f_law
  simp [ew]

end Q44
theorem PySem.Challenge.cw_joineddeals_k44_whole_steps_and_neighbou_holds : PySem.Challenge.rw_joineddeals_k44_whole_steps_and_neighbou.Holds :=
  holds_of fun ns h => Q44.law ns h
