import PyProof.Rows.All
import Wide.All
import OpenK.AllK
import Wide.FinOn
import HandS.ForMost
import HandS.Exc
import HandS.ExcOwn
import HandS.WordsExc
import HandS.Defaults
import HandS.IsInst
import HandS.Walk
import HandS.Zip
import HandS.HeadHook2
import HandS.HeadEnd
import HandS.Conv
import HandS.TupAny
import HandS.SetFor
import KE.GoesMore
import KE.GoesEnum
import PyProof.Rows.ReprShort
import PyProof.Rows.RegFStrParts
import KE.KDictZip
import HandS.Zip0
import HandS.SortInts
import HandS.Property
import HandS.MakeKwOnly
import HandS.FStr
import HandS.RaiseMore
import HandS.ClsMeth
import OpenK.KOps
import OpenK.KMeth
import HandS.Deep
import HandS.HeadNt
import HandS.HeadHook3
import HandS.MakeKw
import HandS.Text
import PySem.Challenge.RW_joineddeals_k01_receipts_made
import HandS.Head0
import HandS.Head1
import HandS.Head2
import HandS.HeadHook1
set_option Elab.async false
set_option linter.all false
set_option maxRecDepth 100000
set_option maxHeartbeats 0
/-! PLa: pure values, environments, stores; what expressions and statements compute, as plain functions. -/
namespace PL
open PySem PySem.Spec L2
/-- a value as a tree -/
inductive PV where
  | non
  | bl (b : Bool)
  | int (i : Int)
  | str (x : Str)
  | tup (l : List PV)
  | lst (l : List PV)
  | scr (l : List Int)
  | gl (n : Nat)
  | ins (c : Str) (ns : List Str) (vs : List PV)
/-- a thing that may change, in the store -/
inductive Cell where
  | lst (l : List PV)
  | ins (c : Str) (ns : List Str) (vs : List PV)
  | dead
/-- what a name holds: nothing, a value, a list of its own -/
inductive EV where
  | non
  | val (v : PV)
  | own (l : List PV)
abbrev Env := List EV
abbrev Sto := List Cell
structure Ex where
  cls : Str
  fs : List (Str × PV) := []
inductive RE (α : Type) where
  | ok (a : α) (st : Sto)
  | exc (x : Ex) (st : Sto)
  | stuck
inductive RS where
  | nx (e : Env) (st : Sto)
  | rt (v : PV) (st : Sto)
  | bk (e : Env) (st : Sto)
  | ct (e : Env) (st : Sto)
  | exc (x : Ex) (e : Env) (st : Sto)
  | stuck
abbrev EF (α : Type) := Env → Sto → RE α
abbrev SF := Env → Sto → RS
abbrev Fn := List PV → Sto → RE PV
def RE.bind {α β : Type} (r : RE α) (f : α → Sto → RE β) : RE β := match r with
  | .ok a st => f a st
  | .exc x st => .exc x st
  | .stuck => .stuck
def RE.of {α : Type} (o : Option α) (st : Sto) : RE α := match o with
  | some a => .ok a st
  | none => .stuck
/-- no exception may leave -/
def RE.noE {α : Type} : RE α → RE α
  | .ok a st => .ok a st
  | _ => .stuck
/-- the longest list -/
def LINE : Nat := 16777216
/-! ### expressions -/
def eC (v : PV) : EF PV := fun _ st => .ok v st
def eVar (i : Nat) : EF PV := fun e st => match e[i]? with
  | some (.val v) => .ok v st
  | _ => .stuck
/-- a name's own list, lent -/
def eOwn (i : Nat) : EF PV := fun e st => match e[i]? with
  | some (.own l) => .ok (.lst l) st
  | _ => .stuck
def eOp (op : PV → PV → Option PV) (a b : EF PV) : EF PV := fun e st => (a e st).bind fun x st => (b e st).bind fun y st => .of (op x y) st
def eUn (op : PV → Option PV) (a : EF PV) : EF PV := fun e st => (a e st).bind fun x st => .of (op x) st
def aNil : EF (List PV) := fun _ st => .ok [] st
def aCons (a : EF PV) (r : EF (List PV)) : EF (List PV) := fun e st => (a e st).bind fun x st => (r e st).bind fun xs st => .ok (x :: xs) st
def eTup (a : EF (List PV)) : EF PV := fun e st => (a e st).bind fun xs st => if xs.length ≤ LINE then .ok (.tup xs) st else .stuck
/-- a new list's items, as a list that never changes -/
def eLst (a : EF (List PV)) : EF PV := fun e st => (a e st).bind fun xs st => .ok (.lst xs) st
/-- the items of a written list -/
def lDisp (a : EF (List PV)) : EF (List PV) := fun e st => (a e st).bind fun xs st => if xs.length ≤ LINE then .ok xs st else .stuck
/-- a built-in by its values -/
def eB (g : List PV → Option PV) (a : EF (List PV)) : EF PV := fun e st => (a e st).bind fun xs st => .of (g xs) st
def lB (g : List PV → Option (List PV)) (a : EF (List PV)) : EF (List PV) := fun e st => (a e st).bind fun xs st => .of (g xs) st
def eCall (F : Fn) (a : EF (List PV)) : EF PV := fun e st => (a e st).bind fun xs st => F xs st
def eIf (c : EF Bool) (a b : EF PV) : EF PV := fun e st => (c e st).bind fun k st => if k = true then a e st else b e st
def eAnd (a b : EF PV) : EF PV := fun e st => (a e st).bind fun x st => match x with
  | .bl true => b e st
  | .bl false => .ok (.bl false) st
  | _ => .stuck
def eOr (a b : EF PV) : EF PV := fun e st => (a e st).bind fun x st => match x with
  | .bl true => .ok (.bl true) st
  | .bl false => b e st
  | _ => .stuck
def eNot (a : EF PV) : EF PV := fun e st => (a e st).bind fun x st => match x with
  | .bl k => .ok (.bl (!k)) st
  | _ => .stuck
def eChain (op op' : PV → PV → Option PV) (a b c : EF PV) : EF PV := fun e st => (a e st).bind fun x st => (b e st).bind fun y st => match op x y with
  | some (.bl true) => (c e st).bind fun z st => .of (op' y z) st
  | some (.bl false) => .ok (.bl false) st
  | _ => .stuck
/-! ### tests -/
def tV (a : EF PV) : EF Bool := fun e st => (a e st).bind fun x st => match x with
  | .bl k => .ok k st
  | _ => .stuck
def tTru (a : EF PV) : EF Bool := fun e st => (a e st).bind fun x st => match x with
  | .bl k => .ok k st
  | .non => .ok false st
  | .int i => .ok (i != 0) st
  | .lst l => .ok (!l.isEmpty) st
  | .tup l => .ok (!l.isEmpty) st
  | _ => .stuck
def tAndF (a b : EF Bool) : EF Bool := fun e st => (a e st).bind fun k st => if k = true then b e st else .ok false st
def tOrF (a b : EF Bool) : EF Bool := fun e st => (a e st).bind fun k st => if k = true then .ok true st else b e st
def tNotF (a : EF Bool) : EF Bool := fun e st => (a e st).bind fun k st => .ok (!k) st
/-! ### targets -/
abbrev BF := PV → Env → Option Env
def bName (i : Nat) : BF := fun v e => if i < e.length then some (e.set i (.val v)) else none
def bSeq : List BF → List PV → Env → Option Env
  | [], [], e => some e
  | b :: bs, v :: vs, e => match b v e with
    | some e1 => bSeq bs vs e1
    | none => none
  | _, _, _ => none
def bTup (bs : List BF) : BF := fun v e => match v with
  | .tup l => bSeq bs l e
  | _ => none
/-! ### comprehensions -/
def wipeE (e : Env) : List Nat → Env
  | [] => e
  | v :: vs => (wipeE e vs).set v .non
def lcLoop (b : BF) (c : EF Bool) (t : EF PV) (e : Env) : List PV → Sto → RE (List PV)
  | [], st => .ok [] st
  | x :: xs, st => match b x e with
    | none => .stuck
    | some e1 => (c e1 st).noE.bind fun k st => if k = true then (t e1 st).noE.bind fun y st => (lcLoop b c t e xs st).bind fun ys st => .ok (y :: ys) st else lcLoop b c t e xs st
def lLc (it : EF (List PV)) (b : BF) (vs : List Nat) (c : EF Bool) (t : EF PV) : EF (List PV) := fun e st => (it e st).bind fun xs st => lcLoop b c t (wipeE e vs) xs st
def tYesF : EF Bool := fun _ st => .ok true st
/-! ### statements -/
def RE.toS {α : Type} (r : RE α) (e : Env) (f : α → Sto → RS) : RS := match r with
  | .ok a st => f a st
  | .exc x st => .exc x e st
  | .stuck => .stuck
def RS.thn (r : RS) (f : Env → Sto → RS) : RS := match r with
  | .nx e st => f e st
  | r => r
def sNil : SF := fun e st => .nx e st
def sSeq (a b : SF) : SF := fun e st => (a e st).thn b
def sAsg (b : BF) (a : EF PV) : SF := fun e st => (a e st).toS e fun v st => match b v e with
  | some e1 => .nx e1 st
  | none => .stuck
def sAsgO (i : Nat) (a : EF (List PV)) : SF := fun e st => (a e st).toS e fun l st => if i < e.length then .nx (e.set i (.own l)) st else .stuck
def sDrop (a : EF PV) : SF := fun e st => (a e st).toS e fun _ st => .nx e st
def sRet (a : EF PV) : SF := fun e st => (a e st).toS e fun v st => .rt v st
def sRetN : SF := fun _ st => .rt .non st
/-- a new thing of the store is handed back -/
def sRetG (a : EF (List PV)) : SF := fun e st => (a e st).toS e fun l st => .rt (.gl st.length) (st ++ [.lst l])
/-- a name's own list is handed back -/
def sRetO (i : Nat) : SF := fun e st => match e[i]? with
  | some (.own l) => .rt (.lst l) st
  | _ => .stuck
def sIf (c : EF Bool) (a b : SF) : SF := fun e st => (c e st).toS e fun k st => if k = true then a e st else b e st
/-- a name's own list becomes a list that never changes -/
def sFrz (i : Nat) : SF := fun e st => match e[i]? with
  | some (.own l) => .nx (e.set i (.val (.lst l))) st
  | _ => .nx e st
def sApp (i : Nat) (a : EF PV) : SF := fun e st => match e[i]? with
  | some (.own l) => (a e st).toS e fun v st => if l.length < LINE then .nx (e.set i (.own (l ++ [v]))) st else .stuck
  | _ => .stuck
def sExt (i : Nat) (a : EF (List PV)) : SF := fun e st => match e[i]? with
  | some (.own l) => (a e st).toS e fun m st => if l.length + m.length ≤ LINE then .nx (e.set i (.own (l ++ m))) st else .stuck
  | _ => .stuck
/-- a[k] = v, a thing of the store -/
def sSetG (a k v : EF PV) : SF := fun e st => (v e st).toS e fun v st => (a e st).toS e fun a st => (k e st).toS e fun k st => match a, k with
  | .gl n, .int i => match st[n]? with
    | some (.lst l) => match ixN l.length i with
      | some j => .nx e (st.set n (.lst (l.set j v)))
      | none => .stuck
    | _ => .stuck
  | _, _ => .stuck
/-- a[k]: of a tuple, a list, the script, a thing of the store -/
def ixF (st : Sto) : PV → Int → Option PV
  | .tup l, i => atI l i
  | .lst l, i => atI l i
  | .scr l, i => (atI l i).map PV.int
  | .gl n, i => match st[n]? with
    | some (.lst l) => atI l i
    | _ => none
  | _, _ => none
def eIx (a k : EF PV) : EF PV := fun e st => (a e st).bind fun a st => (k e st).bind fun k st => match k with
  | .int i => .of (ixF st a i) st
  | _ => .stuck
def forLoop (b : BF) (t : SF) : List PV → Env → Sto → RS
  | [], e, st => .nx e st
  | x :: xs, e, st => match b x e with
    | none => .stuck
    | some e1 => match t e1 st with
      | .nx e2 st2 => forLoop b t xs e2 st2
      | .ct e2 st2 => forLoop b t xs e2 st2
      | .bk e2 st2 => .nx e2 st2
      | r => r
def sFor (it : EF (List PV)) (b : BF) (t : SF) : SF := fun e st => (it e st).toS e fun xs st => forLoop b t xs e st
def whileLoop (c : EF Bool) (t : SF) : Nat → Env → Sto → RS
  | 0, _, _ => .stuck
  | n + 1, e, st => (c e st).toS e fun k st => if k = true then match t e st with
      | .nx e2 st2 => whileLoop c t n e2 st2
      | .ct e2 st2 => whileLoop c t n e2 st2
      | .bk e2 st2 => .nx e2 st2
      | r => r
    else .nx e st
def sWhile (n : Nat) (c : EF Bool) (t : SF) : SF := fun e st => whileLoop c t n e st
def sNever : SF := fun _ _ => .stuck
def sBreak : SF := fun e st => .bk e st
def sCont : SF := fun e st => .ct e st
/-- a def's function: its parameters first, m names in all -/
def mkFn (m : Nat) (body : SF) : Fn := fun vs st => match body (vs.map .val ++ List.replicate (m - vs.length) .non) st with
  | .nx _ st => .ok .non st
  | .rt v st => .ok v st
  | .exc x _ st => .exc x st
  | _ => .stuck
end PL
/-! PLb: how pure values lie in the abstract heap; what an expression's and a statement's function says of its reading. -/
namespace PL
open PySem PySem.Spec L2
theorem LINE_eq : LINE = sizeLine := by rw [sizeLine_eq]; rfl
/-- the script, where it lies -/
def ScrAt (K : PySem.W.Frag) (N : Addr → Prop) (H : Hp) (a : Addr) (l : List Int) : Prop :=
  l.length ≤ LINE ∧ ((∃ o, H a = some (.frz o (.lst (l.map V.int))) ∧ ¬ N a) ∨
    ∃ (o : Obj) (its : Array Value) (n : Nat), K.lookup a = some o ∧ o.cls = .type "list" ∧ o.dict = none ∧ o.data = .seq its n ∧ its.size ≤ sizeLine ∧ Vals (l.map V.int) its.toList)
/-- a tuple: tracked, or one of the text's own -/
def TupAt (K : PySem.W.Frag) (N : Addr → Prop) (H : Hp) (a : Addr) (xs : List V) : Prop :=
  (¬ N a ∧ H a = some (.tup xs)) ∨ ∃ (o : Obj) (its : Array Value) (n : Nat), K.lookup a = some o ∧ o.cls = .type "tuple" ∧ o.data = .seq its n ∧ its.size ≤ sizeLine ∧ Vals xs its.toList
/-- an instance, that never changes: its class by name, its fields -/
def InsAt (K : PySem.W.Frag) (N : Addr → Prop) (H : Hp) (a : Addr) (c : Str) (ns : List Str) (ws : List V) : Prop :=
  ¬ N a ∧ ws.length = ns.length ∧ ∃ dx, H a = some (.ins (He.ga K c) dx (ns.zip ws))
mutual
/-- the value p is v: N tells what is not to be a part of values, ρ where the store's things lie -/
def RV (K : PySem.W.Frag) (N : Addr → Prop) (ρ : List Addr) (H : Hp) : PV → V → Prop
  | .non, v => v = .non
  | .bl b, v => v = .bl b
  | .int i, v => v = .int i
  | .str x, v => v = .str x
  | .tup l, v => ∃ a xs, v = .ref a ∧ TupAt K N H a xs ∧ xs.length ≤ LINE ∧ RVs K N ρ H l xs
  | .lst l, v => ∃ a xs, v = .ref a ∧ ¬ N a ∧ H a = some (.lst xs) ∧ xs.length ≤ LINE ∧ RVs K N ρ H l xs
  | .scr l, v => ∃ a, v = .ref a ∧ ScrAt K N H a l
  | .gl n, v => ∃ a, v = .ref a ∧ ρ[n]? = some a
  | .ins c ns l, v => ∃ a ws, v = .ref a ∧ InsAt K N H a c ns ws ∧ RVs K N ρ H l ws
def RVs (K : PySem.W.Frag) (N : Addr → Prop) (ρ : List Addr) (H : Hp) : List PV → List V → Prop
  | [], xs => xs = []
  | p :: ps, xs => ∃ v vs, xs = v :: vs ∧ RV K N ρ H p v ∧ RVs K N ρ H ps vs
end
/-- .. where a list may be one that changes later -/
def RVb (K : PySem.W.Frag) (N : Addr → Prop) (ρ : List Addr) (H : Hp) : PV → V → Prop
  | .lst l, v => ∃ a xs, v = .ref a ∧ H a = some (.lst xs) ∧ xs.length ≤ LINE ∧ RVs K N ρ H l xs
  | p, v => RV K N ρ H p v
section
variable {K : PySem.W.Frag} {N N' : Addr → Prop} {ρ ρ' : List Addr} {H H' : Hp}
theorem RV.b : ∀ {p : PV} {v : V}, RV K N ρ H p v → RVb K N ρ H p v
  | .non, _, h => h
  | .bl _, _, h => h
  | .int _, _, h => h
  | .str _, _, h => h
  | .tup _, _, h => h
  | .lst _, _, h => by
    unfold RV at h
    obtain ⟨a, xs, e, _, h1, h2, h3⟩ := h
    exact ⟨a, xs, e, h1, h2, h3⟩
  | .scr _, _, h => h
  | .gl _, _, h => h
  | .ins _ _ _, _, h => h
mutual
theorem RV.carry (hN : ∀ a o, H a = some o → N' a → N a) (hk : ∀ a o, H a = some o → ¬ N a → H' a = some o) (hp : ρ <+: ρ') : ∀ (p : PV) (v : V), RV K N ρ H p v → RV K N' ρ' H' p v
  | .non, _, h => by unfold RV at h ⊢; exact h
  | .bl _, _, h => by unfold RV at h ⊢; exact h
  | .int _, _, h => by unfold RV at h ⊢; exact h
  | .str _, _, h => by unfold RV at h ⊢; exact h
  | .tup l, _, h => by
    unfold RV at h ⊢
    obtain ⟨a, xs, e, h1, h2, h3⟩ := h
    exact ⟨a, xs, e, h1.imp (fun ⟨n, h1⟩ => ⟨fun z => n (hN a _ h1 z), hk a _ h1 n⟩) id, h2, RVs.carry hN hk hp l xs h3⟩
  | .lst l, _, h => by
    unfold RV at h ⊢
    obtain ⟨a, xs, e, n, h1, h2, h3⟩ := h
    exact ⟨a, xs, e, fun z => n (hN a _ h1 z), hk a _ h1 n, h2, RVs.carry hN hk hp l xs h3⟩
  | .scr l, _, h => by
    unfold RV at h ⊢
    obtain ⟨a, e, h1, h2⟩ := h
    refine ⟨a, e, h1, ?_⟩
    rcases h2 with ⟨o, h2, n⟩ | h2
    · exact .inl ⟨o, hk a _ h2 n, fun z => n (hN a _ h2 z)⟩
    · exact .inr h2
  | .gl n, _, h => by
    unfold RV at h ⊢
    obtain ⟨a, e, h1⟩ := h
    refine ⟨a, e, ?_⟩
    obtain ⟨r, rfl⟩ := hp
    rw [List.getElem?_append_left (List.getElem?_eq_some_iff.mp h1).1]
    exact h1
  | .ins c ns l, _, h => by
    unfold RV at h ⊢
    obtain ⟨a, ws, e, ⟨n, h1, dx, h2⟩, h3⟩ := h
    exact ⟨a, ws, e, ⟨fun z => n (hN a _ h2 z), h1, dx, hk a _ h2 n⟩, RVs.carry hN hk hp l ws h3⟩
theorem RVs.carry (hN : ∀ a o, H a = some o → N' a → N a) (hk : ∀ a o, H a = some o → ¬ N a → H' a = some o) (hp : ρ <+: ρ') : ∀ (l : List PV) (xs : List V), RVs K N ρ H l xs → RVs K N' ρ' H' l xs
  | [], _, h => by unfold RVs at h ⊢; exact h
  | p :: ps, _, h => by
    unfold RVs at h ⊢
    obtain ⟨v, vs, e, h1, h2⟩ := h
    exact ⟨v, vs, e, RV.carry hN hk hp p v h1, RVs.carry hN hk hp ps vs h2⟩
end
theorem RVs.nil : RVs K N ρ H [] [] := by unfold RVs; rfl
theorem RVs.cons {p : PV} {ps : List PV} {v : V} {vs : List V} (h : RV K N ρ H p v) (t : RVs K N ρ H ps vs) : RVs K N ρ H (p :: ps) (v :: vs) := by
  unfold RVs
  exact ⟨v, vs, rfl, h, t⟩
theorem RVs.uncons {p : PV} {ps : List PV} {xs : List V} (h : RVs K N ρ H (p :: ps) xs) : ∃ v vs, xs = v :: vs ∧ RV K N ρ H p v ∧ RVs K N ρ H ps vs := by
  unfold RVs at h
  exact h
theorem RVs.unnil {xs : List V} (h : RVs K N ρ H [] xs) : xs = [] := by
  unfold RVs at h
  exact h
theorem RVs.len : ∀ {l : List PV} {xs : List V}, RVs K N ρ H l xs → xs.length = l.length
  | [], _, h => by rw [h.unnil]; rfl
  | p :: ps, _, h => by
    obtain ⟨v, vs, rfl, _, t⟩ := h.uncons
    rw [List.length_cons, List.length_cons, RVs.len t]
theorem RVs.get : ∀ {l : List PV} {xs : List V} {i : Nat} {p : PV}, RVs K N ρ H l xs → l[i]? = some p → ∃ v, xs[i]? = some v ∧ RV K N ρ H p v
  | [], _, _, _, _, e => by simp at e
  | q :: ps, _, 0, p, h, e => by
    obtain ⟨v, vs, rfl, r, t⟩ := h.uncons
    have e' : q = p := by simpa using e
    subst e'
    exact ⟨v, rfl, r⟩
  | q :: ps, _, i + 1, p, h, e => by
    obtain ⟨v, vs, rfl, r, t⟩ := h.uncons
    obtain ⟨w, h1, h2⟩ := RVs.get (i := i) t (by simpa using e)
    exact ⟨w, by simpa using h1, h2⟩
theorem RVs.at : ∀ {l : List PV} {xs : List V} {i : Nat} {v : V}, RVs K N ρ H l xs → xs[i]? = some v → ∃ p, l[i]? = some p ∧ RV K N ρ H p v
  | [], _, _, _, h, e => by rw [h.unnil] at e; simp at e
  | q :: ps, _, 0, v, h, e => by
    obtain ⟨w, vs, rfl, r, t⟩ := h.uncons
    have e' : w = v := by simpa using e
    subst e'
    exact ⟨q, rfl, r⟩
  | q :: ps, _, i + 1, v, h, e => by
    obtain ⟨w, vs, rfl, r, t⟩ := h.uncons
    obtain ⟨p, h1, h2⟩ := RVs.at (i := i) t (by simpa using e)
    exact ⟨p, by simpa using h1, h2⟩
theorem RVs.append : ∀ {l m : List PV} {xs ys : List V}, RVs K N ρ H l xs → RVs K N ρ H m ys → RVs K N ρ H (l ++ m) (xs ++ ys)
  | [], _, _, _, h, k => by rw [h.unnil]; exact k
  | p :: ps, _, _, _, h, k => by
    obtain ⟨v, vs, rfl, r, t⟩ := h.uncons
    exact .cons r (RVs.append t k)
theorem RVs.drop : ∀ {l : List PV} {xs : List V} (n : Nat), RVs K N ρ H l xs → RVs K N ρ H (l.drop n) (xs.drop n)
  | _, _, 0, h => h
  | [], _, n + 1, h => by rw [h.unnil]; exact .nil
  | p :: ps, _, n + 1, h => by
    obtain ⟨v, vs, rfl, r, t⟩ := h.uncons
    exact RVs.drop n t
theorem RVs.take : ∀ {l : List PV} {xs : List V} (n : Nat), RVs K N ρ H l xs → RVs K N ρ H (l.take n) (xs.take n)
  | _, _, 0, _ => .nil
  | [], _, n + 1, h => by rw [h.unnil]; exact .nil
  | p :: ps, _, n + 1, h => by
    obtain ⟨v, vs, rfl, r, t⟩ := h.uncons
    exact .cons r (RVs.take n t)
theorem RVs.set {p : PV} {v : V} (r : RV K N ρ H p v) : ∀ {l : List PV} {xs : List V} (i : Nat), RVs K N ρ H l xs → RVs K N ρ H (l.set i p) (xs.set i v)
  | [], _, _, h => by rw [h.unnil]; exact .nil
  | q :: ps, _, 0, h => by
    obtain ⟨w, vs, rfl, _, t⟩ := h.uncons
    exact .cons r t
  | q :: ps, _, i + 1, h => by
    obtain ⟨w, vs, rfl, r', t⟩ := h.uncons
    exact .cons r' (RVs.set r i t)
theorem RVs.one {p : PV} {xs : List V} (h : RVs K N ρ H [p] xs) : ∃ v, xs = [v] ∧ RV K N ρ H p v := by
  obtain ⟨v, vs, rfl, r, t⟩ := h.uncons
  rw [t.unnil]
  exact ⟨v, rfl, r⟩
theorem RVs.two {p q : PV} {xs : List V} (h : RVs K N ρ H [p, q] xs) : ∃ v w, xs = [v, w] ∧ RV K N ρ H p v ∧ RV K N ρ H q w := by
  obtain ⟨v, vs, rfl, r, t⟩ := h.uncons
  obtain ⟨w, rfl, r'⟩ := t.one
  exact ⟨v, w, rfl, r, r'⟩
theorem RVs.ints : ∀ {l : List Int} {xs : List V}, RVs K N ρ H (l.map PV.int) xs → xs = l.map V.int
  | [], _, h => h.unnil
  | i :: l, _, h => by
    obtain ⟨v, vs, rfl, r, t⟩ := RVs.uncons h
    have e : v = .int i := by unfold RV at r; exact r
    rw [e, RVs.ints t]
    rfl
theorem RVs.bls : ∀ {l : List Bool} {xs : List V}, RVs K N ρ H (l.map PV.bl) xs → xs = l.map V.bl
  | [], _, h => h.unnil
  | i :: l, _, h => by
    obtain ⟨v, vs, rfl, r, t⟩ := RVs.uncons h
    have e : v = .bl i := by unfold RV at r; exact r
    rw [e, RVs.bls t]
    rfl
theorem RVs.ofInts : ∀ (l : List Int), RVs K N ρ H (l.map PV.int) (l.map V.int)
  | [] => .nil
  | i :: l => .cons (by unfold RV; rfl) (RVs.ofInts l)
theorem rv_int {i : Int} {v : V} (h : RV K N ρ H (.int i) v) : v = .int i := by unfold RV at h; exact h
theorem rv_bl {i : Bool} {v : V} (h : RV K N ρ H (.bl i) v) : v = .bl i := by unfold RV at h; exact h
theorem rv_non {v : V} (h : RV K N ρ H .non v) : v = .non := by unfold RV at h; exact h
theorem rv_str {i : Str} {v : V} (h : RV K N ρ H (.str i) v) : v = .str i := by unfold RV at h; exact h
theorem TupAt.sq {a : Addr} {xs : List V} (h : TupAt K N H a xs) : SqT K H a xs := h.elim (fun h => SqT.of h.2) .inr
theorem TupAt.keep {M : Addr → Prop} {a : Addr} {xs : List V} (h : TupAt K N H a xs) (k : ∀ a o, H a = some o → ¬ M a → H' a = some o) (n : ∀ a, M a → N a) : SqT K H' a xs := h.elim (fun h => SqT.of (k a _ h.2 fun z => h.1 (n a z))) .inr
theorem rv_tup {l : List PV} {v : V} (h : RV K N ρ H (.tup l) v) : ∃ a xs, v = .ref a ∧ TupAt K N H a xs ∧ xs.length ≤ LINE ∧ RVs K N ρ H l xs := by unfold RV at h; exact h
theorem rv_ins {c : Str} {ns : List Str} {l : List PV} {v : V} (h : RV K N ρ H (.ins c ns l) v) : ∃ a ws, v = .ref a ∧ InsAt K N H a c ns ws ∧ RVs K N ρ H l ws := by unfold RV at h; exact h
theorem mk_ins {c : Str} {ns : List Str} {l : List PV} {a : Addr} {ws : List V} (h : InsAt K N H a c ns ws) (r : RVs K N ρ H l ws) : RV K N ρ H (.ins c ns l) (.ref a) := by unfold RV; exact ⟨a, ws, rfl, h, r⟩
theorem mk_tupK {l : List PV} {a : Addr} {xs : List V} (h : TupAt K N H a xs) (z : xs.length ≤ LINE) (r : RVs K N ρ H l xs) : RV K N ρ H (.tup l) (.ref a) := by
  unfold RV
  exact ⟨a, xs, rfl, h, z, r⟩
theorem rv_lst {l : List PV} {v : V} (h : RV K N ρ H (.lst l) v) : ∃ a xs, v = .ref a ∧ ¬ N a ∧ H a = some (.lst xs) ∧ xs.length ≤ LINE ∧ RVs K N ρ H l xs := by unfold RV at h; exact h
theorem rv_scr {l : List Int} {v : V} (h : RV K N ρ H (.scr l) v) : ∃ a, v = .ref a ∧ ScrAt K N H a l := by unfold RV at h; exact h
theorem rv_gl {n : Nat} {v : V} (h : RV K N ρ H (.gl n) v) : ∃ a, v = .ref a ∧ ρ[n]? = some a := by unfold RV at h; exact h
theorem mk_int {i : Int} : RV K N ρ H (.int i) (.int i) := by unfold RV; rfl
theorem mk_bl {i : Bool} : RV K N ρ H (.bl i) (.bl i) := by unfold RV; rfl
theorem mk_non : RV K N ρ H .non .non := by unfold RV; rfl
theorem mk_str {i : Str} : RV K N ρ H (.str i) (.str i) := by unfold RV; rfl
theorem mk_tup {l : List PV} {a : Addr} {xs : List V} (n : ¬ N a) (h : H a = some (.tup xs)) (z : xs.length ≤ LINE) (r : RVs K N ρ H l xs) : RV K N ρ H (.tup l) (.ref a) := mk_tupK (.inl ⟨n, h⟩) z r
theorem mk_lst {l : List PV} {a : Addr} {xs : List V} (n : ¬ N a) (h : H a = some (.lst xs)) (z : xs.length ≤ LINE) (r : RVs K N ρ H l xs) : RV K N ρ H (.lst l) (.ref a) := by
  unfold RV
  exact ⟨a, xs, rfl, n, h, z, r⟩
theorem ScrAt.sq {a : Addr} {l : List Int} (h : ScrAt K N H a l) : SqL K H a (l.map V.int) := by
  obtain ⟨_, h⟩ := h
  rcases h with ⟨o, h, _⟩ | h
  · exact .inl (.inr ⟨o, h⟩)
  · exact .inr h
end
/-! ### heaps -/
/-- all that was tracked is as it was -/
def Ext (H H' : Hp) : Prop := ∀ a o, H a = some o → H' a = some o
theorem Ext.refl {H : Hp} : Ext H H := fun _ _ h => h
theorem Ext.trans {H H1 H2 : Hp} (a : Ext H H1) (b : Ext H1 H2) : Ext H H2 := fun c o h => b c o (a c o h)
theorem Ext.new {H : Hp} {p : Addr} {o : HO} (h : H p = none) : Ext H (upd H p o) := fun a u e => by
  rw [upd_ne (ne_of_none e h)]
  exact e
/-! ### environments and stores -/
def Owned (env : Env) (σ : St) (a : Addr) : Prop := ∃ (i : Nat) (l : List PV), env[i]? = some (.own l) ∧ σ[i]? = some (some (.ref a))
def Excl (B : Addr → Prop) (ρ : List Addr) (env : Env) (σ : St) (a : Addr) : Prop := B a ∨ a ∈ ρ ∨ Owned env σ a
def CellOk (K : PySem.W.Frag) (N : Addr → Prop) (ρ : List Addr) (H : Hp) : Cell → Addr → Prop
  | .lst l, a => ∃ xs, H a = some (.lst xs) ∧ xs.length ≤ LINE ∧ RVs K N ρ H l xs
  | .ins c ns l, a => ∃ dx ws, H a = some (.ins (He.ga K c) dx (ns.zip ws)) ∧ ¬ N dx ∧ H dx = some (.own a) ∧ ws.length = ns.length ∧ RVs K N ρ H l ws
  | .dead, _ => True
theorem CellOk.carry {K : PySem.W.Frag} {N N' : Addr → Prop} {ρ ρ' : List Addr} {H H' : Hp} {c : Cell} {a : Addr} (h : CellOk K N ρ H c a) (hN : ∀ a o, H a = some o → N' a → N a) (hk : ∀ a o, H a = some o → ¬ N a → H' a = some o) (hp : ρ <+: ρ') (ha : ∀ o, H a = some o → H' a = some o) : CellOk K N' ρ' H' c a := by
  cases c with
  | dead => trivial
  | lst l =>
    obtain ⟨xs, q1, q2, q3⟩ := h
    exact ⟨xs, ha _ q1, q2, RVs.carry hN hk hp _ _ q3⟩
  | ins c ns l =>
    obtain ⟨dx, ws, q1, q2, q3, q4, q5⟩ := h
    exact ⟨dx, ws, ha _ q1, fun z => q2 (hN _ _ q3 z), hk _ _ q3 q2, q4, RVs.carry hN hk hp _ _ q5⟩
def SlotOk (K : PySem.W.Frag) (N : Addr → Prop) (ρ : List Addr) (H : Hp) (σ : St) (i : Nat) : EV → Prop
  | .non => True
  | .val p => ∃ v, σ[i]? = some (some v) ∧ RV K N ρ H p v
  | .own l => ∃ a xs, σ[i]? = some (some (.ref a)) ∧ H a = some (.lst xs) ∧ xs.length ≤ LINE ∧ RVs K N ρ H l xs
structure Rep (K : PySem.W.Frag) (B : Addr → Prop) (ρ : List Addr) (env : Env) (st : Sto) (σ : St) (H : Hp) : Prop where
  lenE : env.length = σ.length
  lenC : ρ.length = st.length
  nd : ρ.Nodup
  cell : ∀ (n : Nat) c a, st[n]? = some c → ρ[n]? = some a → CellOk K (Excl B ρ env σ) ρ H c a
  rT : ∀ a ∈ ρ, H a ≠ none
  rB : ∀ a ∈ ρ, ¬ B a
  bT : ∀ a, B a → H a ≠ none
  slot : ∀ (i : Nat) e, env[i]? = some e → SlotOk K (Excl B ρ env σ) ρ H σ i e
  oR : ∀ a, Owned env σ a → a ∉ ρ ∧ ¬ B a
  sep : ∀ (i j : Nat) l l' a, env[i]? = some (.own l) → env[j]? = some (.own l') → σ[i]? = some (some (.ref a)) → σ[j]? = some (some (.ref a)) → i = j
section
variable {K : PySem.W.Frag} {B : Addr → Prop} {ρ ρ' ρ1 ρ2 : List Addr} {env env' env1 env2 : Env} {st st' st1 st2 : Sto} {σ σ' σ1 σ2 : St} {H H' H1 H2 : Hp}
theorem Rep.oT (R : Rep K B ρ env st σ H) {a : Addr} (h : Owned env σ a) : ∃ xs, H a = some (.lst xs) := by
  obtain ⟨i, l, h1, h2⟩ := h
  obtain ⟨b, xs, h3, h4, _⟩ := R.slot i _ h1
  rw [h2] at h3
  cases h3
  exact ⟨xs, h4⟩
theorem Rep.tr (R : Rep K B ρ env st σ H) {a : Addr} (h : Excl B ρ env σ a) : H a ≠ none := by
  rcases h with h | h | h
  · exact R.bT a h
  · exact R.rT a h
  · obtain ⟨xs, e⟩ := R.oT h
    rw [e]
    exact fun z => by cases z
theorem Rep.fresh (R : Rep K B ρ env st σ H) {p : Addr} (h : H p = none) : ¬ Excl B ρ env σ p := fun z => R.tr z h
/-- behind a statement -/
structure Post (K : PySem.W.Frag) (B : Addr → Prop) (ρ : List Addr) (env : Env) (σ : St) (H : Hp) (ρ' : List Addr) (env' : Env) (st' : Sto) (σ' : St) (H' : Hp) : Prop where
  rep : Rep K B ρ' env' st' σ' H'
  pre : ρ <+: ρ'
  kp : ∀ a o, H a = some o → a ∉ ρ → ¬ Owned env σ a → H' a = some o
  tr : ∀ a, H a ≠ none → H' a ≠ none
  fr : ∀ a ∈ ρ', a ∉ ρ → H a = none
  ow : ∀ a, Owned env' σ' a → Owned env σ a ∨ H a = none
/-- behind an expression -/
structure EPost (K : PySem.W.Frag) (B : Addr → Prop) (ρ : List Addr) (env : Env) (σ : St) (H : Hp) (ρ' : List Addr) (st' : Sto) (H' : Hp) : Prop where
  rep : Rep K B ρ' env st' σ H'
  pre : ρ <+: ρ'
  kp : ∀ a o, H a = some o → a ∉ ρ → H' a = some o
  tr : ∀ a, H a ≠ none → H' a ≠ none
  fr : ∀ a ∈ ρ', a ∉ ρ → H a = none
theorem EPost.post (E : EPost K B ρ env σ H ρ' st' H') : Post K B ρ env σ H ρ' env st' σ H' :=
  ⟨E.rep, E.pre, fun a o h n _ => E.kp a o h n, E.tr, E.fr, fun _ h => .inl h⟩
theorem EPost.refl (R : Rep K B ρ env st σ H) : EPost K B ρ env σ H ρ st H := ⟨R, List.prefix_rfl, fun _ _ h _ => h, fun _ h => h, fun _ h n => absurd h n⟩
theorem Post.refl (R : Rep K B ρ env st σ H) : Post K B ρ env σ H ρ env st σ H := (EPost.refl R).post
theorem EPost.trans (a : EPost K B ρ env σ H ρ1 st1 H1) (b : EPost K B ρ1 env σ H1 ρ2 st2 H2) : EPost K B ρ env σ H ρ2 st2 H2 where
  rep := b.rep
  pre := a.pre.trans b.pre
  kp := fun c o h n => b.kp c o (a.kp c o h n) fun z => by
    have q := a.fr c z n
    rw [h] at q
    cases q
  tr := fun c h => b.tr c (a.tr c h)
  fr := fun c hc n => by
    by_cases h1 : c ∈ ρ1
    · exact a.fr c h1 n
    · have q := b.fr c hc h1
      cases e : H c with
      | none => rfl
      | some o => exact absurd q (a.tr c (by rw [e]; exact fun z => by cases z))
theorem Post.trans (a : Post K B ρ env σ H ρ1 env1 st1 σ1 H1) (b : Post K B ρ1 env1 σ1 H1 ρ2 env2 st2 σ2 H2) : Post K B ρ env σ H ρ2 env2 st2 σ2 H2 where
  rep := b.rep
  pre := a.pre.trans b.pre
  kp := fun c o h n m => b.kp c o (a.kp c o h n m) (fun z => by
    have q := a.fr c z n
    rw [h] at q
    cases q) fun z => by
      rcases a.ow c z with q | q
      · exact m q
      · rw [h] at q
        cases q
  tr := fun c h => b.tr c (a.tr c h)
  fr := fun c hc n => by
    by_cases h1 : c ∈ ρ1
    · exact a.fr c h1 n
    · have q := b.fr c hc h1
      cases e : H c with
      | none => rfl
      | some o => exact absurd q (a.tr c (by rw [e]; exact fun z => by cases z))
  ow := fun c h => by
    rcases b.ow c h with q | q
    · exact a.ow c q
    · cases e : H c with
      | none => exact .inr rfl
      | some o => exact absurd q (a.tr c (by rw [e]; exact fun z => by cases z))
/-- a value stays what it is -/
theorem Post.rv (P : Post K B ρ env σ H ρ' env' st' σ' H') {p : PV} {v : V} (h : RV K (Excl B ρ env σ) ρ H p v) : RV K (Excl B ρ' env' σ') ρ' H' p v := by
  refine RV.carry (fun a o e n => ?_) (fun a o e n => P.kp a o e (fun z => n (.inr (.inl z))) fun z => n (.inr (.inr z))) P.pre p v h
  rcases n with n | n | n
  · exact .inl n
  · by_cases h1 : a ∈ ρ
    · exact .inr (.inl h1)
    · have q := P.fr a n h1
      rw [e] at q
      cases q
  · rcases P.ow a n with q | q
    · exact .inr (.inr q)
    · rw [e] at q
      cases q
theorem Post.rvs (P : Post K B ρ env σ H ρ' env' st' σ' H') {p : List PV} {v : List V} (h : RVs K (Excl B ρ env σ) ρ H p v) : RVs K (Excl B ρ' env' σ') ρ' H' p v := by
  refine RVs.carry (fun a o e n => ?_) (fun a o e n => P.kp a o e (fun z => n (.inr (.inl z))) fun z => n (.inr (.inr z))) P.pre p v h
  rcases n with n | n | n
  · exact .inl n
  · by_cases h1 : a ∈ ρ
    · exact .inr (.inl h1)
    · have q := P.fr a n h1
      rw [e] at q
      cases q
  · rcases P.ow a n with q | q
    · exact .inr (.inr q)
    · rw [e] at q
      cases q
/-- a lent list, behind an expression: its list stands, unless it is a thing of the store -/
theorem EPost.rvb (P : EPost K B ρ env σ H ρ' st' H') {p : PV} {v : V} (h : RVb K (Excl B ρ env σ) ρ H p v) (hl : ∀ a l, v = .ref a → p = .lst l → a ∉ ρ) : RVb K (Excl B ρ' env σ) ρ' H' p v := by
  cases p with
  | lst l =>
    obtain ⟨a, xs, e, h1, h2, h3⟩ := h
    exact ⟨a, xs, e, P.kp a _ h1 (hl a l e rfl), h2, P.post.rvs h3⟩
  | non => exact P.post.rv h
  | bl _ => exact P.post.rv h
  | int _ => exact P.post.rv h
  | str _ => exact P.post.rv h
  | tup _ => exact P.post.rv h
  | scr _ => exact P.post.rv h
  | gl _ => exact P.post.rv h
  | ins _ _ _ => exact P.post.rv h
theorem Rep.ext (R : Rep K B ρ env st σ H) (E : Ext H H') : Rep K B ρ env st σ H' where
  lenE := R.lenE
  lenC := R.lenC
  nd := R.nd
  cell := fun n c a h1 h2 => by
    have q := R.cell n c a h1 h2
    exact q.carry (fun _ _ _ z => z) (fun a o e _ => E a o e) List.prefix_rfl fun o q1 => E _ _ q1
  rT := fun a h z => by
    cases e : H a with
    | none => exact R.rT a h e
    | some o => rw [E a o e] at z; cases z
  rB := R.rB
  bT := fun a h z => by
    cases e : H a with
    | none => exact R.bT a h e
    | some o => rw [E a o e] at z; cases z
  slot := fun i e h => by
    have q := R.slot i e h
    cases e with
    | non => trivial
    | val p =>
      obtain ⟨v, q1, q2⟩ := q
      exact ⟨v, q1, RV.carry (fun _ _ _ z => z) (fun a o e _ => E a o e) List.prefix_rfl _ _ q2⟩
    | own l =>
      obtain ⟨a, xs, q0, q1, q2, q3⟩ := q
      exact ⟨a, xs, q0, E _ _ q1, q2, RVs.carry (fun _ _ _ z => z) (fun a o e _ => E a o e) List.prefix_rfl _ _ q3⟩
  oR := R.oR
  sep := R.sep
theorem EPost.ext (R : Rep K B ρ env st σ H) (E : Ext H H') : EPost K B ρ env σ H ρ st H' :=
  ⟨R.ext E, List.prefix_rfl, fun a o h _ => E a o h, (fun a h z => by
    cases e : H a with
    | none => exact h e
    | some o => rw [E a o e] at z; cases z), fun _ h n => absurd h n⟩
/-! ### what a function says of a reading -/
/-- an exception as it flies -/
def ExR (K : PySem.W.Frag) (N : Addr → Prop) (ρ : List Addr) (H : Hp) (x : Ex) (cls : Value) (d : Option Addr) : Prop :=
  cls = .ref (He.ga K x.cls) ∧ ((x.fs = [] ∧ d = none) ∨ ∃ dd fvs, d = some dd ∧ H dd = some (.xd fvs) ∧ fvs.map (·.1) = x.fs.map (·.1) ∧ RVs K N ρ H (x.fs.map (·.2)) (fvs.map (·.2)))
def ROk {α : Type} (K : PySem.W.Frag) (W : WX) (B : Addr → Prop) (ρ : List Addr) (env : Env) (σ : St) (H : Hp) (r : RE α) (Z : α → List Addr → Sto → Hp → Prop) : Prop := match r with
  | .ok a st' => ∀ ρ' H', EPost K B ρ env σ H ρ' st' H' → Z a ρ' st' H'
  | .exc x st' => ∀ ρ' H' cls d, EPost K B ρ env σ H ρ' st' H' → ExR K (Excl B ρ' env σ) ρ' H' x cls d → W cls d σ H'
  | .stuck => False
variable {W : WX} {α β : Type}
theorem ROk.shift {r : RE α} {Z : α → List Addr → Sto → Hp → Prop} (E : EPost K B ρ env σ H ρ1 st1 H1) (h : ROk K W B ρ env σ H r Z) : ROk K W B ρ1 env σ H1 r Z := by
  cases r with
  | ok a st' => exact fun ρ' H' E2 => h ρ' H' (E.trans E2)
  | exc x st' => exact fun ρ' H' cls d E2 => h ρ' H' cls d (E.trans E2)
  | stuck => exact h
theorem ROk.mono {r : RE α} {Z Z' : α → List Addr → Sto → Hp → Prop} (h : ROk K W B ρ env σ H r Z) (f : ∀ a ρ' st' H', EPost K B ρ env σ H ρ' st' H' → Z a ρ' st' H' → Z' a ρ' st' H') : ROk K W B ρ env σ H r Z' := by
  cases r with
  | ok a st' => exact fun ρ' H' E => f a ρ' st' H' E (h ρ' H' E)
  | exc x st' => exact h
  | stuck => exact h
theorem ROk.bind {r : RE α} {f : α → Sto → RE β} {Z : β → List Addr → Sto → Hp → Prop} (h : ROk K W B ρ env σ H (r.bind f) Z) :
    ROk K W B ρ env σ H r fun a ρ' st' H' => ROk K W B ρ' env σ H' (f a st') Z := by
  cases r with
  | ok a st' => exact fun ρ' H' E => ROk.shift E h
  | exc x st' => exact h
  | stuck => exact h
/-- an expression's function, its reading -/
def RefG (K : PySem.W.Frag) (W : WX) (t : TE) (f : EF PV) (VR : (Addr → Prop) → List Addr → Hp → PV → V → Prop) : Prop :=
  ∀ B ρ env st σ H Q, Rep K B ρ env st σ H → ROk K W B ρ env σ H (f env st) (fun p ρ' st' H' => ∀ u, VR (Excl B ρ' env σ) ρ' H' p u → Q u H') → t σ H Q
def ME (X : Cx) (W : WX) (e : Expr) (f : EF PV) : Prop := ∃ t, PE X e t ∧ RefG X.K W t f (RV X.K)
def MB (X : Cx) (W : WX) (e : Expr) (f : EF PV) : Prop := ∃ t, PE X e t ∧ RefG X.K W t f fun N ρ H p u => RVb X.K N ρ H p u ∧ ∀ a l, u = .ref a → p = .lst l → a ∉ ρ
/-- a new list: nothing else has it -/
def ML (X : Cx) (W : WX) (e : Expr) (f : EF (List PV)) : Prop := ∃ t, PE X e t ∧ ∀ B ρ env st σ H Q, Rep X.K B ρ env st σ H →
  ROk X.K W B ρ env σ H (f env st) (fun l ρ' st' H' => ∀ p xs H'', H' p = none → H'' = upd H' p (.lst xs) → xs.length ≤ LINE → RVs X.K (Excl B ρ' env σ) ρ' H' l xs → Q (.ref p) H'') → t σ H Q
def MA (X : Cx) (W : WX) (es : List Expr) (f : EF (List PV)) : Prop := ∃ t, PA X es t ∧ ∀ B ρ env st σ H Q, Rep X.K B ρ env st σ H →
  ROk X.K W B ρ env σ H (f env st) (fun l ρ' st' H' => ∀ us, RVs X.K (Excl B ρ' env σ) ρ' H' l us → Q us H') → t σ H Q
def MT (X : Cx) (W : WX) (e : Expr) (f : EF Bool) : Prop := ∃ t, PT X e t ∧ ∀ B ρ env st σ H Q, Rep X.K B ρ env st σ H →
  ROk X.K W B ρ env σ H (f env st) (fun k ρ' st' H' => Q k H') → t σ H Q
def MW (X : Cx) (W : WX) (e : Expr) (f : EF Bool) : Prop := ∃ t, PW X e t ∧ ∀ B ρ env st σ H Q, Rep X.K B ρ env st σ H →
  ROk X.K W B ρ env σ H (f env st) (fun k ρ' st' H' => Q k H') → t σ H Q
theorem ME.mb {X : Cx} {e : Expr} {f : EF PV} (h : ME X W e f) : MB X W e f := by
  obtain ⟨t, h1, h2⟩ := h
  refine ⟨t, h1, fun B ρ env st σ H Q R q => h2 B ρ env st σ H Q R (q.mono fun p ρ' st' H' E z u r => z u ⟨r.b, fun a l e1 e2 => ?_⟩)⟩
  subst e1 e2
  obtain ⟨b, xs, e3, n, _⟩ := rv_lst r
  cases e3
  exact fun z => n (.inr (.inl z))
theorem MW.mt {X : Cx} {e : Expr} {f : EF Bool} (h : MW X W e f) : MT X W e f := by
  obtain ⟨t, h1, h2⟩ := h
  exact ⟨t, h1.pt, h2⟩
/-- what follows a statement -/
def SOk (K : PySem.W.Frag) (W : WX) (B : Addr → Prop) (ρ : List Addr) (env : Env) (σ : St) (H : Hp) (r : RS) (D : Ends) : Prop := match r with
  | .nx e' st' => ∀ ρ' σ' H', Post K B ρ env σ H ρ' e' st' σ' H' → D.nx σ' H'
  | .bk e' st' => ∀ ρ' σ' H', Post K B ρ env σ H ρ' e' st' σ' H' → D.bk σ' H'
  | .ct e' st' => ∀ ρ' σ' H', Post K B ρ env σ H ρ' e' st' σ' H' → D.ct σ' H'
  | .rt v st' => ∀ ρ' e' σ' H' u, Post K B ρ env σ H ρ' e' st' σ' H' → RV K (Excl B ρ' [] []) ρ' H' v u → D.rt u H'
  | .exc x e' st' => ∀ ρ' σ' H' cls d, Post K B ρ env σ H ρ' e' st' σ' H' → ExR K (Excl B ρ' e' σ') ρ' H' x cls d → W cls d σ' H'
  | .stuck => False
def RefS (K : PySem.W.Frag) (W : WX) (t : TS) (f : SF) : Prop := ∀ B ρ env st σ H D, Rep K B ρ env st σ H → SOk K W B ρ env σ H (f env st) D → t D σ H
def MS (X : Cx) (W : WX) (s : Stmt) (f : SF) : Prop := ∃ t, PS X s t ∧ RefS X.K W t f
def MSs (X : Cx) (W : WX) (s : List Stmt) (f : SF) : Prop := ∃ t, PSs X s t ∧ RefS X.K W t f
theorem SOk.shift {r : RS} {D : Ends} (P : Post K B ρ env σ H ρ1 env1 st1 σ1 H1) (h : SOk K W B ρ env σ H r D) : SOk K W B ρ1 env1 σ1 H1 r D := by
  cases r with
  | nx e st => exact fun ρ' σ' H' P2 => h ρ' σ' H' (P.trans P2)
  | bk e st => exact fun ρ' σ' H' P2 => h ρ' σ' H' (P.trans P2)
  | ct e st => exact fun ρ' σ' H' P2 => h ρ' σ' H' (P.trans P2)
  | rt v st => exact fun ρ' e' σ' H' u P2 => h ρ' e' σ' H' u (P.trans P2)
  | exc x e st => exact fun ρ' σ' H' cls d P2 => h ρ' σ' H' cls d (P.trans P2)
  | stuck => exact h
theorem SOk.toS {r : RE α} {f : α → Sto → RS} {D : Ends} (h : SOk K W B ρ env σ H (r.toS env f) D) :
    ROk K W B ρ env σ H r fun a ρ' st' H' => SOk K W B ρ' env σ H' (f a st') D := by
  cases r with
  | ok a st' => exact fun ρ' H' E => SOk.shift E.post h
  | exc x st' => exact fun ρ' H' cls d E => h ρ' σ H' cls d E.post
  | stuck => exact h
end
end PL
/-! PLc: the expressions. -/
namespace PL
open PySem PySem.Spec L2
section
variable {X : Cx} {W : WX} {a b c e : Expr} {es : List Expr} {fa fb fc f : EF PV} {g : EF (List PV)} {pos : Pos}
/-! ### names and constants -/
theorem m_var {i : Nat} {x : Str} (hN : X.N[i]? = some x) (hv : Vis X.env.scope x) (hd : (x == ("__debug__" : Str)) = false := by decide) (hcd : (x == ("__classdict__" : Str)) = false := by decide) : ME X W (.Name x pos) (eVar i) := by
  refine ⟨tVar i, pe_var hN hv hd hcd, fun B ρ env st σ H Q R h => ?_⟩
  unfold eVar at h
  cases q : env[i]? with
  | none => rw [q] at h; exact h.elim
  | some ev =>
    rw [q] at h
    cases ev with
    | non => exact h.elim
    | own l => exact h.elim
    | val p =>
      obtain ⟨v, h1, h2⟩ := R.slot i _ q
      exact ⟨v, h1, h ρ H (.refl R) v h2⟩
theorem mb_own {i : Nat} {x : Str} (hN : X.N[i]? = some x) (hv : Vis X.env.scope x) (hd : (x == ("__debug__" : Str)) = false := by decide) (hcd : (x == ("__classdict__" : Str)) = false := by decide) : MB X W (.Name x pos) (eOwn i) := by
  refine ⟨tVar i, pe_var hN hv hd hcd, fun B ρ env st σ H Q R h => ?_⟩
  unfold eOwn at h
  cases q : env[i]? with
  | none => rw [q] at h; exact h.elim
  | some ev =>
    rw [q] at h
    cases ev with
    | non => exact h.elim
    | val p => exact h.elim
    | own l =>
      obtain ⟨z, xs, h1, h2, h3, h4⟩ := R.slot i _ q
      refine ⟨.ref z, h1, h ρ H (.refl R) (.ref z) ⟨⟨z, xs, rfl, h2, h3, h4⟩, fun a' l' e1 e2 => ?_⟩⟩
      cases e1
      exact (R.oR z ⟨i, l, q, h1⟩).1
theorem m_int {i : Int} {j} : ME X W (.Constant (.int i) j pos) (eC (.int i)) := ⟨_, pe_int, fun B ρ env st σ H Q R h => h ρ H (.refl R) _ mk_int⟩
theorem m_bl {i : Bool} {j} : ME X W (.Constant (.bool i) j pos) (eC (.bl i)) := ⟨_, pe_bl, fun B ρ env st σ H Q R h => h ρ H (.refl R) _ mk_bl⟩
theorem m_non {j} : ME X W (.Constant .none j pos) (eC .non) := ⟨_, pe_non, fun B ρ env st σ H Q R h => h ρ H (.refl R) _ mk_non⟩
theorem m_str {x : Str} {j} : ME X W (.Constant (.str x) j pos) (eC (.str x)) := ⟨_, pe_str, fun B ρ env st σ H Q R h => h ρ H (.refl R) _ mk_str⟩
theorem m_globI {x : Str} {i : Int} (hg : Gl X x) (hm : ∃ t, X.mg x = some (.int i t)) (hd : (x == ("__debug__" : Str)) = false := by decide) : ME X W (.Name x pos) (eC (.int i)) := by
  obtain ⟨t, hm⟩ := hm
  exact ⟨_, pe_glob (v := .int i) hg hm ⟨t, rfl⟩ hd, fun B ρ env st σ H Q R h => h ρ H (.refl R) _ mk_int⟩
theorem m_globS {x : Str} {i : Str} (hg : Gl X x) (hm : ∃ t, X.mg x = some (.str i t)) (hd : (x == ("__debug__" : Str)) = false := by decide) : ME X W (.Name x pos) (eC (.str i)) := by
  obtain ⟨t, hm⟩ := hm
  exact ⟨_, pe_glob (v := .str i) hg hm ⟨t, rfl⟩ hd, fun B ρ env st σ H Q R h => h ρ H (.refl R) _ mk_str⟩
end
/-! ### operations on values -/
/-- a value or a lent list -/
def RVl (K : PySem.W.Frag) (N : Addr → Prop) (ρ : List Addr) (H : Hp) (p : PV) (u : V) : Prop := RVb K N ρ H p u ∧ ∀ a l, u = .ref a → p = .lst l → a ∉ ρ
def RVls (K : PySem.W.Frag) (N : Addr → Prop) (ρ : List Addr) (H : Hp) : List PV → List V → Prop
  | [], xs => xs = []
  | p :: ps, xs => ∃ v vs, xs = v :: vs ∧ RVl K N ρ H p v ∧ RVls K N ρ H ps vs
section
variable {K : PySem.W.Frag} {N : Addr → Prop} {ρ : List Addr} {H : Hp}
theorem RVls.one {p : PV} {xs : List V} (h : RVls K N ρ H [p] xs) : ∃ v, xs = [v] ∧ RVl K N ρ H p v := by
  obtain ⟨v, vs, rfl, r, t⟩ := h
  exact ⟨v, by rw [show vs = [] from t], r⟩
theorem RVls.two {p q : PV} {xs : List V} (h : RVls K N ρ H [p, q] xs) : ∃ v w, xs = [v, w] ∧ RVl K N ρ H p v ∧ RVl K N ρ H q w := by
  obtain ⟨v, vs, rfl, r, t⟩ := h
  obtain ⟨w, rfl, r'⟩ := RVls.one t
  exact ⟨v, w, rfl, r, r'⟩
theorem rvb_int {i : Int} {v : V} (h : RVb K N ρ H (.int i) v) : v = .int i := rv_int (show RV K N ρ H (.int i) v from h)
theorem rvb_bl {i : Bool} {v : V} (h : RVb K N ρ H (.bl i) v) : v = .bl i := rv_bl (show RV K N ρ H (.bl i) v from h)
theorem rvb_non {v : V} (h : RVb K N ρ H .non v) : v = .non := rv_non (show RV K N ρ H .non v from h)
theorem rvb_str {i : Str} {v : V} (h : RVb K N ρ H (.str i) v) : v = .str i := rv_str (show RV K N ρ H (.str i) v from h)
theorem rvb_tup {l : List PV} {v : V} (h : RVb K N ρ H (.tup l) v) : ∃ a xs, v = .ref a ∧ TupAt K N H a xs ∧ xs.length ≤ LINE ∧ RVs K N ρ H l xs := rv_tup (show RV K N ρ H (.tup l) v from h)
theorem rvb_ins {c : Str} {ns : List Str} {l : List PV} {v : V} (h : RVb K N ρ H (.ins c ns l) v) : ∃ a ws, v = .ref a ∧ InsAt K N H a c ns ws ∧ RVs K N ρ H l ws := rv_ins (show RV K N ρ H (.ins c ns l) v from h)
theorem rvb_lst {l : List PV} {v : V} (h : RVb K N ρ H (.lst l) v) : ∃ a xs, v = .ref a ∧ H a = some (.lst xs) ∧ xs.length ≤ LINE ∧ RVs K N ρ H l xs := h
theorem rvb_scr {l : List Int} {v : V} (h : RVb K N ρ H (.scr l) v) : ∃ a, v = .ref a ∧ ScrAt K N H a l := rv_scr (show RV K N ρ H (.scr l) v from h)
end
/-- an operation of two values: f is binaryOp op, compareOp op -/
def OpP (X : Cx) (f : Value → Value → Sem Value) (op : PV → PV → Option PV) : Prop := ∃ r : R2, OpR X f r ∧
  ∀ (N : Addr → Prop) (ρ : List Addr) (H : Hp) (x y : V) (p q z : PV) (Q : VK), (∀ a, N a → H a ≠ none) → RVb X.K N ρ H p x → RVb X.K N ρ H q y → op p q = some z →
    (∀ H' w, Ext H H' → RV X.K N ρ H' z w → Q w H') → r x y H Q
def IxP (X : Cx) (op : PV → PV → Option PV) : Prop := ∃ r : R2, IxR X r ∧
  ∀ (N : Addr → Prop) (ρ : List Addr) (H : Hp) (x y : V) (p q z : PV) (Q : VK), (∀ a, N a → H a ≠ none) → RVb X.K N ρ H p x → RVb X.K N ρ H q y → op p q = some z →
    (∀ H' w, Ext H H' → RV X.K N ρ H' z w → Q w H') → r x y H Q
def UnP (X : Cx) (f : Value → Sem Value) (op : PV → Option PV) : Prop := ∃ r : V → Hp → VK → Prop, UnR X f r ∧
  ∀ (N : Addr → Prop) (ρ : List Addr) (H : Hp) (x : V) (p z : PV) (Q : VK), (∀ a, N a → H a ≠ none) → RVb X.K N ρ H p x → op p = some z →
    (∀ H' w, Ext H H' → RV X.K N ρ H' z w → Q w H') → r x H Q
/-- a call of a built-in -/
def CallP (X : Cx) (fv : Value) (op : List PV → Option PV) : Prop := ∃ r : List V → Hp → VK → Prop, CallR X fv r ∧
  ∀ (N : Addr → Prop) (ρ : List Addr) (H : Hp) (xs : List V) (ps : List PV) (z : PV) (Q : VK), (∀ a, N a → H a ≠ none) → RVls X.K N ρ H ps xs → op ps = some z →
    (∀ H' w, Ext H H' → RV X.K N ρ H' z w → Q w H') → r xs H Q
/-- .. that makes a new list -/
def CallL (X : Cx) (fv : Value) (op : List PV → Option (List PV)) : Prop := ∃ r : List V → Hp → VK → Prop, CallR X fv r ∧
  ∀ (N : Addr → Prop) (ρ : List Addr) (H : Hp) (xs : List V) (ps z : List PV) (Q : VK), (∀ a, N a → H a ≠ none) → RVls X.K N ρ H ps xs → op ps = some z →
    (∀ H' p zs H'', Ext H H' → H' p = none → H'' = upd H' p (.lst zs) → zs.length ≤ LINE → RVs X.K N ρ H' z zs → Q (.ref p) H'') → r xs H Q
section
variable {X : Cx} {W : WX} {a b c e : Expr} {es : List Expr} {fa fb fc f : EF PV} {g : EF (List PV)} {pos : Pos}
variable {K : PySem.W.Frag} {B : Addr → Prop} {ρ ρ' : List Addr} {env : Env} {st st' : Sto} {σ : St} {H H' : Hp}
theorem RVl.on (P : EPost K B ρ env σ H ρ' st' H') (E0 : ∀ a ∈ ρ', a ∉ ρ → H a = none) {p : PV} {v : V} (h : RVl K (Excl B ρ env σ) ρ H p v) : RVl K (Excl B ρ' env σ) ρ' H' p v := by
  refine ⟨P.rvb h.1 h.2, fun a l e1 e2 z => ?_⟩
  by_cases h1 : a ∈ ρ
  · exact h.2 a l e1 e2 h1
  · have q := E0 a z h1
    subst e1 e2
    obtain ⟨b, xs, e3, h2, _⟩ := rvb_lst h.1
    cases e3
    rw [q] at h2
    cases h2
theorem RVls.on (P : EPost K B ρ env σ H ρ' st' H') : ∀ {ps : List PV} {vs : List V}, RVls K (Excl B ρ env σ) ρ H ps vs → RVls K (Excl B ρ' env σ) ρ' H' ps vs
  | [], _, h => h
  | p :: ps, _, h => by
    obtain ⟨v, vs, rfl, r, t⟩ := h
    exact ⟨v, vs, rfl, r.on P P.fr, RVls.on P t⟩
theorem RVs.toL {N : Addr → Prop} (hN : ∀ a ∈ ρ, N a) : ∀ {ps : List PV} {vs : List V}, RVs K N ρ H ps vs → RVls K N ρ H ps vs
  | [], _, h => h.unnil
  | p :: ps, _, h => by
    obtain ⟨v, vs, rfl, r, t⟩ := h.uncons
    refine ⟨v, vs, rfl, ⟨r.b, fun a l e1 e2 z => ?_⟩, RVs.toL hN t⟩
    subst e1 e2
    obtain ⟨b, xs, e3, n, _⟩ := rv_lst r
    cases e3
    exact n (hN a z)
theorem Excl.inR {a : Addr} (h : a ∈ ρ) : Excl B ρ env σ a := .inr (.inl h)
/-- arguments that a built-in takes -/
def MAb (X : Cx) (W : WX) (es : List Expr) (f : EF (List PV)) : Prop := ∃ t, PA X es t ∧ ∀ B ρ env st σ H Q, Rep X.K B ρ env st σ H →
  ROk X.K W B ρ env σ H (f env st) (fun l ρ' st' H' => ∀ us, RVls X.K (Excl B ρ' env σ) ρ' H' l us → Q us H') → t σ H Q
theorem MA.toB (h : MA X W es g) : MAb X W es g := by
  obtain ⟨t, h1, h2⟩ := h
  exact ⟨t, h1, fun B ρ env st σ H Q R q => h2 B ρ env st σ H Q R (q.mono fun l ρ' st' H' E z us r => z us (r.toL fun a h => Excl.inR h))⟩
theorem ma_nil : MA X W [] aNil := ⟨tNil, pa_nil, fun B ρ env st σ H Q R h => h ρ H (.refl R) [] .nil⟩
theorem ma_cons (ha : ME X W e f) (hr : MA X W es g) (hs : starEach (e :: es) X.env = (false, eval e X.env) :: starEach es X.env := by rfl) : MA X W (e :: es) (aCons f g) := by
  obtain ⟨t1, p1, q1⟩ := ha
  obtain ⟨t2, p2, q2⟩ := hr
  refine ⟨tCons t1 t2, pa_cons p1 p2 hs, fun B ρ env st σ H Q R h => ?_⟩
  refine q1 B ρ env st σ H _ R (ROk.mono (ROk.bind h) fun p ρ1 st1 H1 E1 h1 x rx => ?_)
  refine q2 B ρ1 env st1 σ H1 _ E1.rep (ROk.mono (ROk.bind h1) fun l ρ2 st2 H2 E2 h2 us rus => ?_)
  exact h2 ρ2 H2 (.refl E2.rep) (x :: us) (.cons (E2.post.rv rx) rus)
theorem mab_nil : MAb X W [] aNil := ⟨tNil, pa_nil, fun B ρ env st σ H Q R h => h ρ H (.refl R) [] rfl⟩
theorem mab_cons (ha : MB X W e f) (hr : MAb X W es g) (hs : starEach (e :: es) X.env = (false, eval e X.env) :: starEach es X.env := by rfl) : MAb X W (e :: es) (aCons f g) := by
  obtain ⟨t1, p1, q1⟩ := ha
  obtain ⟨t2, p2, q2⟩ := hr
  refine ⟨tCons t1 t2, pa_cons p1 p2 hs, fun B ρ env st σ H Q R h => ?_⟩
  refine q1 B ρ env st σ H _ R (ROk.mono (ROk.bind h) fun p ρ1 st1 H1 E1 h1 x rx => ?_)
  refine q2 B ρ1 env st1 σ H1 _ E1.rep (ROk.mono (ROk.bind h1) fun l ρ2 st2 H2 E2 h2 us rus => ?_)
  exact h2 ρ2 H2 (.refl E2.rep) (x :: us) ⟨x, us, rfl, RVl.on E2 E2.fr rx, rus⟩
theorem ROk.of {α : Type} {o : Option α} {Z : α → List Addr → Sto → Hp → Prop} (R : Rep K B ρ env st σ H) (h : ROk K W B ρ env σ H (RE.of o st) Z) : ∃ z, o = some z ∧ ∀ H', Ext H H' → Z z ρ st H' := by
  cases o with
  | none => exact h.elim
  | some z => exact ⟨z, rfl, fun H' E => h ρ H' (.ext R E)⟩
theorem m_op {op : Operator} {k : PV → PV → Option PV} (ho : OpP X (binaryOp op) k) (ha : MB X W a fa) (hb : MB X W b fb) : ME X W (.BinOp a op b pos) (eOp k fa fb) := by
  obtain ⟨r, hr, hg⟩ := ho
  obtain ⟨ta, pa, qa⟩ := ha
  obtain ⟨tb, pb, qb⟩ := hb
  refine ⟨tOp r ta tb, pe_op hr pa pb, fun B ρ env st σ H Q R h => ?_⟩
  refine qa B ρ env st σ H _ R (ROk.mono (ROk.bind h) fun p ρ1 st1 H1 E1 h1 x rx => ?_)
  refine qb B ρ1 env st1 σ H1 _ E1.rep (ROk.mono (ROk.bind h1) fun q ρ2 st2 H2 E2 h2 y ry => ?_)
  obtain ⟨z, e, hz⟩ := ROk.of E2.rep h2
  exact hg _ ρ2 H2 x y p q z Q (fun _ h => E2.rep.tr h) (RVl.on E2 E2.fr rx).1 ry.1 e fun H3 w E3 rw' => hz H3 E3 w rw'
theorem m_cmp {op : CmpOp} {k : PV → PV → Option PV} (ho : OpP X (compareOp op) k) (ha : MB X W a fa) (hb : MB X W b fb) (hm : behindInMarks op b = false) : ME X W (.Compare a [op] [b] pos) (eOp k fa fb) := by
  obtain ⟨r, hr, hg⟩ := ho
  obtain ⟨ta, pa, qa⟩ := ha
  obtain ⟨tb, pb, qb⟩ := hb
  refine ⟨tOp r ta tb, pe_cmpR hr pa pb hm, fun B ρ env st σ H Q R h => ?_⟩
  refine qa B ρ env st σ H _ R (ROk.mono (ROk.bind h) fun p ρ1 st1 H1 E1 h1 x rx => ?_)
  refine qb B ρ1 env st1 σ H1 _ E1.rep (ROk.mono (ROk.bind h1) fun q ρ2 st2 H2 E2 h2 y ry => ?_)
  obtain ⟨z, e, hz⟩ := ROk.of E2.rep h2
  exact hg _ ρ2 H2 x y p q z Q (fun _ h => E2.rep.tr h) (RVl.on E2 E2.fr rx).1 ry.1 e fun H3 w E3 rw' => hz H3 E3 w rw'
theorem mt_cmp {op : CmpOp} {k : PV → PV → Option PV} (ho : OpP X (compareOp op) k) (ha : MB X W a fa) (hb : MB X W b fb) (hm : behindInMarks op b = false) : MT X W (.Compare a [op] [b] pos) (tV (eOp k fa fb)) := by
  obtain ⟨r, hr, hg⟩ := ho
  obtain ⟨ta, pa, qa⟩ := ha
  obtain ⟨tb, pb, qb⟩ := hb
  refine ⟨_, pt_cmpR hr pa pb hm, fun B ρ env st σ H Q R h => ?_⟩
  have h := ROk.bind h
  refine qa B ρ env st σ H _ R (ROk.mono (ROk.bind h) fun p ρ1 st1 H1 E1 h1 x rx => ?_)
  refine qb B ρ1 env st1 σ H1 _ E1.rep (ROk.mono (ROk.bind h1) fun q ρ2 st2 H2 E2 h2 y ry => ?_)
  obtain ⟨z, e, hz⟩ := ROk.of E2.rep h2
  refine hg _ ρ2 H2 x y p q z _ (fun _ h => E2.rep.tr h) (RVl.on E2 E2.fr rx).1 ry.1 e fun H3 w E3 rw' => ?_
  have h3 := hz H3 E3
  cases z with
  | bl k => exact ⟨k, rv_bl rw', h3 ρ2 H3 (.refl (E2.rep.ext E3))⟩
  | _ => exact h3.elim
theorem m_chain {op op' : CmpOp} {k k' : PV → PV → Option PV} (ho : OpP X (compareOp op) k) (ho' : OpP X (compareOp op') k') (ha : MB X W a fa) (hb : MB X W b fb) (hc : MB X W c fc)
    (hm : lastMarks [op, op'] [b, c] = false := by with_unfolding_all rfl) : ME X W (.Compare a [op, op'] [b, c] pos) (eChain k k' fa fb fc) := by
  obtain ⟨r, hr, hg⟩ := ho
  obtain ⟨r', hr', hg'⟩ := ho'
  obtain ⟨ta, pa, qa⟩ := ha
  obtain ⟨tb, pb, qb⟩ := hb
  obtain ⟨tc, pc, qc⟩ := hc
  refine ⟨_, pe_chain hr hr' pa pb pc hm, fun B ρ env st σ H Q R h => ?_⟩
  refine qa B ρ env st σ H _ R (ROk.mono (ROk.bind h) fun p ρ1 st1 H1 E1 h1 x rx => ?_)
  refine qb B ρ1 env st1 σ H1 _ E1.rep (ROk.mono (ROk.bind h1) fun q ρ2 st2 H2 E2 h2 y ry => ?_)
  cases e : k p q with
  | none => rw [e] at h2; exact h2.elim
  | some z =>
    rw [e] at h2
    refine hg _ ρ2 H2 x y p q z _ (fun _ h => E2.rep.tr h) (RVl.on E2 E2.fr rx).1 ry.1 e fun H3 w E3 rw' => ?_
    cases z with
    | bl kk =>
      refine ⟨kk, rv_bl rw', ?_⟩
      have EE : EPost X.K B ρ2 env σ H2 ρ2 st2 H3 := .ext E2.rep E3
      cases kk with
      | false =>
        rw [if_neg Bool.false_ne_true]
        exact h2 ρ2 H3 EE _ mk_bl
      | true =>
        rw [if_pos rfl]
        refine qc B ρ2 env st2 σ H3 _ EE.rep (ROk.mono (ROk.bind (ROk.shift EE h2)) fun q2 ρ4 st4 H4 E4 h4 y2 ry2 => ?_)
        obtain ⟨z2, e2, hz2⟩ := ROk.of E4.rep h4
        exact hg' _ ρ4 H4 y y2 q q2 z2 Q (fun _ h => E4.rep.tr h) (RVl.on E4 E4.fr (RVl.on EE EE.fr ry)).1 ry2.1 e2 fun H5 w5 E5 r5 => hz2 H5 E5 w5 r5
    | _ => exact h2.elim
theorem mt_chain {op op' : CmpOp} {k k' : PV → PV → Option PV} (ho : OpP X (compareOp op) k) (ho' : OpP X (compareOp op') k') (ha : MB X W a fa) (hb : MB X W b fb) (hc : MB X W c fc)
    (hm : lastMarks [op, op'] [b, c] = false := by with_unfolding_all rfl) : MT X W (.Compare a [op, op'] [b, c] pos) (tV (eChain k k' fa fb fc)) := by
  obtain ⟨r, hr, hg⟩ := ho
  obtain ⟨r', hr', hg'⟩ := ho'
  obtain ⟨ta, pa, qa⟩ := ha
  obtain ⟨tb, pb, qb⟩ := hb
  obtain ⟨tc, pc, qc⟩ := hc
  refine ⟨_, pt_chain hr hr' pa pb pc hm, fun B ρ env st σ H Q R h => ?_⟩
  have h := ROk.bind h
  refine qa B ρ env st σ H _ R (ROk.mono (ROk.bind h) fun p ρ1 st1 H1 E1 h1 x rx => ?_)
  refine qb B ρ1 env st1 σ H1 _ E1.rep (ROk.mono (ROk.bind h1) fun q ρ2 st2 H2 E2 h2 y ry => ?_)
  cases e : k p q with
  | none => rw [e] at h2; exact h2.elim
  | some z =>
    rw [e] at h2
    refine hg _ ρ2 H2 x y p q z _ (fun _ h => E2.rep.tr h) (RVl.on E2 E2.fr rx).1 ry.1 e fun H3 w E3 rw' => ?_
    cases z with
    | bl kk =>
      refine ⟨kk, rv_bl rw', ?_⟩
      have EE : EPost X.K B ρ2 env σ H2 ρ2 st2 H3 := .ext E2.rep E3
      cases kk with
      | false =>
        rw [if_neg Bool.false_ne_true]
        exact ⟨false, rfl, h2 ρ2 H3 EE ρ2 H3 (.refl EE.rep)⟩
      | true =>
        rw [if_pos rfl]
        refine qc B ρ2 env st2 σ H3 _ EE.rep (ROk.mono (ROk.bind (ROk.shift EE h2)) fun q2 ρ4 st4 H4 E4 h4 y2 ry2 => ?_)
        obtain ⟨z2, e2, hz2⟩ := ROk.of E4.rep h4
        refine hg' _ ρ4 H4 y y2 q q2 z2 _ (fun _ h => E4.rep.tr h) (RVl.on E4 E4.fr (RVl.on EE EE.fr ry)).1 ry2.1 e2 fun H5 w5 E5 r5 => ?_
        have h5 := hz2 H5 E5
        cases z2 with
        | bl k5 => exact ⟨k5, rv_bl r5, h5 ρ4 H5 (.refl (E4.rep.ext E5))⟩
        | _ => exact h5.elim
    | _ => exact h2.elim
theorem m_un {op : UnaryOp} {k : PV → Option PV} (ho : UnP X (unaryOp op) k) (ha : ME X W a fa) : ME X W (.UnaryOp op a pos) (eUn k fa) := by
  obtain ⟨r, hr, hg⟩ := ho
  obtain ⟨ta, pa, qa⟩ := ha
  refine ⟨_, pe_un hr pa, fun B ρ env st σ H Q R h => ?_⟩
  refine qa B ρ env st σ H _ R (ROk.mono (ROk.bind h) fun p ρ1 st1 H1 E1 h1 x rx => ?_)
  obtain ⟨z, e, hz⟩ := ROk.of E1.rep h1
  exact hg _ ρ1 H1 x p z Q (fun _ h => E1.rep.tr h) rx.b e fun H3 w E3 rw' => hz H3 E3 w rw'
theorem m_ix {k : PV → PV → Option PV} (ho : IxP X k) (ha : MB X W a fa) (hb : MB X W b fb) (hs : PlainIx b) : ME X W (.Subscript a b pos) (eOp k fa fb) := by
  obtain ⟨r, hr, hg⟩ := ho
  obtain ⟨ta, pa, qa⟩ := ha
  obtain ⟨tb, pb, qb⟩ := hb
  refine ⟨tOp r ta tb, pe_ix hr pa pb hs, fun B ρ env st σ H Q R h => ?_⟩
  refine qa B ρ env st σ H _ R (ROk.mono (ROk.bind h) fun p ρ1 st1 H1 E1 h1 x rx => ?_)
  refine qb B ρ1 env st1 σ H1 _ E1.rep (ROk.mono (ROk.bind h1) fun q ρ2 st2 H2 E2 h2 y ry => ?_)
  obtain ⟨z, e, hz⟩ := ROk.of E2.rep h2
  exact hg _ ρ2 H2 x y p q z Q (fun _ h => E2.rep.tr h) (RVl.on E2 E2.fr rx).1 ry.1 e fun H3 w E3 rw' => hz H3 E3 w rw'
/-! ### displays -/
theorem m_tup {x1} (h : MA X W es g) : ME X W (.Tuple es x1 pos) (eTup g) := by
  obtain ⟨t, p, q⟩ := h
  refine ⟨tTup t, pe_tup p, fun B ρ env st σ H Q R h => ?_⟩
  refine q B ρ env st σ H _ R (ROk.mono (ROk.bind h) fun l ρ1 st1 H1 E1 h1 us rus => ?_)
  by_cases hl : l.length ≤ LINE
  · rw [if_pos hl] at h1
    have hz : us.length ≤ LINE := by rw [rus.len]; exact hl
    refine ⟨by rw [← LINE_eq]; exact hz, fun p np => ?_⟩
    have EE : EPost X.K B ρ1 env σ H1 ρ1 st1 (upd H1 p (.tup us)) := .ext E1.rep (.new np)
    exact h1 ρ1 _ EE _ (mk_tup (E1.rep.fresh np) upd_same hz (EE.post.rvs rus))
  · rw [if_neg hl] at h1
    exact h1.elim
theorem ml_lst (h : MA X W es g) : ML X W (.List es pos) (lDisp g) := by
  obtain ⟨t, p, q⟩ := h
  refine ⟨tLst t, pe_lst p, fun B ρ env st σ H Q R h => ?_⟩
  refine q B ρ env st σ H _ R (ROk.mono (ROk.bind h) fun l ρ1 st1 H1 E1 h1 us rus => ?_)
  by_cases hl : l.length ≤ LINE
  · rw [if_pos hl] at h1
    have hz : us.length ≤ LINE := by rw [rus.len]; exact hl
    exact ⟨by rw [← LINE_eq]; exact hz, fun p np => h1 ρ1 H1 (.refl E1.rep) p us _ np rfl hz rus⟩
  · rw [if_neg hl] at h1
    exact h1.elim
theorem ML.me (h : ML X W e g) : ME X W e (eLst g) := by
  obtain ⟨t, p, q⟩ := h
  refine ⟨t, p, fun B ρ env st σ H Q R h => ?_⟩
  refine q B ρ env st σ H _ R (ROk.mono (ROk.bind h) fun l ρ1 st1 H1 E1 h1 p xs H'' np e2 hz rxs => ?_)
  subst e2
  have EE : EPost X.K B ρ1 env σ H1 ρ1 st1 (upd H1 p (.lst xs)) := .ext E1.rep (.new np)
  exact h1 ρ1 _ EE _ (mk_lst (E1.rep.fresh np) upd_same hz (EE.post.rvs rxs))
/-! ### and, or, not, if -/
theorem m_one {op} (h : ME X W a fa) : ME X W (.BoolOp op [a] pos) fa := by
  obtain ⟨t, p, q⟩ := h
  exact ⟨t, pe_one p, q⟩
theorem m_and {rest : List Expr} (ha : ME X W a fa) (hb : ME X W (.BoolOp .And (b :: rest) pos) fb) : ME X W (.BoolOp .And (a :: b :: rest) pos) (eAnd fa fb) := by
  obtain ⟨ta, pa, qa⟩ := ha
  obtain ⟨tb, pb, qb⟩ := hb
  refine ⟨tAndV ta tb, pe_and pa pb, fun B ρ env st σ H Q R h => ?_⟩
  refine qa B ρ env st σ H _ R (ROk.mono (ROk.bind h) fun p ρ1 st1 H1 E1 h1 x rx => ?_)
  cases p with
  | bl k =>
    refine ⟨k, rv_bl rx, ?_⟩
    cases k with
    | true => rw [if_pos rfl]; exact qb B ρ1 env st1 σ H1 Q E1.rep h1
    | false => rw [if_neg Bool.false_ne_true]; exact h1 ρ1 H1 (.refl E1.rep) _ mk_bl
  | _ => exact h1.elim
theorem m_or {rest : List Expr} (ha : ME X W a fa) (hb : ME X W (.BoolOp .Or (b :: rest) pos) fb) : ME X W (.BoolOp .Or (a :: b :: rest) pos) (eOr fa fb) := by
  obtain ⟨ta, pa, qa⟩ := ha
  obtain ⟨tb, pb, qb⟩ := hb
  refine ⟨tOrV ta tb, pe_or pa pb, fun B ρ env st σ H Q R h => ?_⟩
  refine qa B ρ env st σ H _ R (ROk.mono (ROk.bind h) fun p ρ1 st1 H1 E1 h1 x rx => ?_)
  cases p with
  | bl k =>
    refine ⟨k, rv_bl rx, ?_⟩
    cases k with
    | true => rw [if_pos rfl]; exact h1 ρ1 H1 (.refl E1.rep) _ mk_bl
    | false => rw [if_neg Bool.false_ne_true]; exact qb B ρ1 env st1 σ H1 Q E1.rep h1
  | _ => exact h1.elim
theorem m_not (ha : ME X W a fa) : ME X W (.UnaryOp .Not a pos) (eNot fa) := by
  obtain ⟨ta, pa, qa⟩ := ha
  refine ⟨tNotV ta, pe_not pa, fun B ρ env st σ H Q R h => ?_⟩
  refine qa B ρ env st σ H _ R (ROk.mono (ROk.bind h) fun p ρ1 st1 H1 E1 h1 x rx => ?_)
  cases p with
  | bl k => exact ⟨k, rv_bl rx, h1 ρ1 H1 (.refl E1.rep) _ mk_bl⟩
  | _ => exact h1.elim
variable {ga gb : EF Bool}
theorem m_if (hc : MT X W c ga) (ha : ME X W a fa) (hb : ME X W b fb) : ME X W (.IfExp c a b pos) (eIf ga fa fb) := by
  obtain ⟨tc, pc, qc⟩ := hc
  obtain ⟨ta, pa, qa⟩ := ha
  obtain ⟨tb, pb, qb⟩ := hb
  refine ⟨tIf tc ta tb, pe_ifExp pc pa pb, fun B ρ env st σ H Q R h => ?_⟩
  refine qc B ρ env st σ H _ R (ROk.mono (ROk.bind h) fun k ρ1 st1 H1 E1 h1 => ?_)
  cases k with
  | true => rw [if_pos rfl]; rw [if_pos rfl] at h1; exact qa B ρ1 env st1 σ H1 Q E1.rep h1
  | false => rw [if_neg Bool.false_ne_true]; rw [if_neg Bool.false_ne_true] at h1; exact qb B ρ1 env st1 σ H1 Q E1.rep h1
/-! ### tests -/
theorem mt_val (h : ME X W a fa) (he : ∀ whole, isTrue a X.env whole = (do let v ← whole; standAt a.pos; holding [v] (truthy v)) := by intro _; rfl) : MT X W a (tV fa) := by
  obtain ⟨t, p, q⟩ := h
  refine ⟨tB t, pt_val p he, fun B ρ env st σ H Q R h => ?_⟩
  refine q B ρ env st σ H _ R (ROk.mono (ROk.bind h) fun v ρ1 st1 H1 E1 h1 x rx => ?_)
  cases v with
  | bl k => exact ⟨k, rv_bl rx, h1 ρ1 H1 (.refl E1.rep)⟩
  | _ => exact h1.elim
theorem mt_not (h : MT X W a ga) : MT X W (.UnaryOp .Not a pos) (tNotF ga) := by
  obtain ⟨t, p, q⟩ := h
  refine ⟨tNot t, pt_not p, fun B ρ env st σ H Q R h => ?_⟩
  exact q B ρ env st σ H _ R (ROk.mono (ROk.bind h) fun k ρ1 st1 H1 E1 h1 => h1 ρ1 H1 (.refl E1.rep))
theorem mw_and1 (h : MT X W a ga) : MW X W (.BoolOp .And [a] pos) ga := by
  obtain ⟨t, p, q⟩ := h
  exact ⟨t, pw_and1 p, q⟩
theorem mw_or1 (h : MT X W a ga) : MW X W (.BoolOp .Or [a] pos) ga := by
  obtain ⟨t, p, q⟩ := h
  exact ⟨t, pw_or1 p, q⟩
theorem mw_and {rest : List Expr} (ha : MT X W a ga) (hb : MW X W (.BoolOp .And (b :: rest) pos) gb) : MW X W (.BoolOp .And (a :: b :: rest) pos) (tAndF ga gb) := by
  obtain ⟨ta, pa, qa⟩ := ha
  obtain ⟨tb, pb, qb⟩ := hb
  refine ⟨tAnd ta tb, pw_and pa pb, fun B ρ env st σ H Q R h => ?_⟩
  refine qa B ρ env st σ H _ R (ROk.mono (ROk.bind h) fun k ρ1 st1 H1 E1 h1 => ?_)
  cases k with
  | true => rw [if_pos rfl]; rw [if_pos rfl] at h1; exact qb B ρ1 env st1 σ H1 Q E1.rep h1
  | false => rw [if_neg Bool.false_ne_true]; rw [if_neg Bool.false_ne_true] at h1; exact h1 ρ1 H1 (.refl E1.rep)
theorem mw_or {rest : List Expr} (ha : MT X W a ga) (hb : MW X W (.BoolOp .Or (b :: rest) pos) gb) : MW X W (.BoolOp .Or (a :: b :: rest) pos) (tOrF ga gb) := by
  obtain ⟨ta, pa, qa⟩ := ha
  obtain ⟨tb, pb, qb⟩ := hb
  refine ⟨tOr ta tb, pw_or pa pb, fun B ρ env st σ H Q R h => ?_⟩
  refine qa B ρ env st σ H _ R (ROk.mono (ROk.bind h) fun k ρ1 st1 H1 E1 h1 => ?_)
  cases k with
  | true => rw [if_pos rfl]; rw [if_pos rfl] at h1; exact h1 ρ1 H1 (.refl E1.rep)
  | false => rw [if_neg Bool.false_ne_true]; rw [if_neg Bool.false_ne_true] at h1; exact qb B ρ1 env st1 σ H1 Q E1.rep h1
/-! ### built-ins called -/
theorem m_callB {x : Str} {p : Pos} {id : String} {k : List PV → Option PV} (hc : CallP X (.builtin id) k) (hg : Gl X x) (hm : X.mg x = none) (hv : bootBuiltins x = some (.builtin id)) (ha : MAb X W (e :: es) g) (hn : x ≠ "__name__" := by decide)
    (hdb : (x == ("__debug__" : Str)) = false := by decide) (he : starEach (e :: es) X.env = (false, eval e X.env) :: starEach es X.env := by rfl) (hpl : (backTo pos (starEach es X.env)).any (·.1) = false := by rfl) : ME X W (.Call (.Name x p) (e :: es) [] pos) (eB k g) := by
  obtain ⟨r, hr, hk⟩ := hc
  obtain ⟨t, pt, q⟩ := ha
  refine ⟨tCB r t, pe_callB hr hg hm hv pt hn hdb he hpl, fun B ρ env st σ H Q R h => ?_⟩
  refine q B ρ env st σ H _ R (ROk.mono (ROk.bind h) fun l ρ1 st1 H1 E1 h1 us rus => ?_)
  obtain ⟨z, e, hz⟩ := ROk.of E1.rep h1
  exact hk _ ρ1 H1 us l z Q (fun _ h => E1.rep.tr h) rus e fun H3 w E3 rw' => hz H3 E3 w rw'
theorem m_callTy {x : Str} {p : Pos} {T : String} {k : List PV → Option PV} (hc : CallP X (.type T) k) (hg : Gl X x) (hm : X.mg x = none) (hv : bootBuiltins x = some (.type T)) (ha : MAb X W (e :: es) g) (hn : x ≠ "__name__" := by decide)
    (hdb : (x == ("__debug__" : Str)) = false := by decide) (he : starEach (e :: es) X.env = (false, eval e X.env) :: starEach es X.env := by rfl) (hpl : (backTo pos (starEach es X.env)).any (·.1) = false := by rfl) : ME X W (.Call (.Name x p) (e :: es) [] pos) (eB k g) := by
  obtain ⟨r, hr, hk⟩ := hc
  obtain ⟨t, pt, q⟩ := ha
  refine ⟨tCB r t, pe_callTy hr hg hm hv pt hn hdb he hpl, fun B ρ env st σ H Q R h => ?_⟩
  refine q B ρ env st σ H _ R (ROk.mono (ROk.bind h) fun l ρ1 st1 H1 E1 h1 us rus => ?_)
  obtain ⟨z, e, hz⟩ := ROk.of E1.rep h1
  exact hk _ ρ1 H1 us l z Q (fun _ h => E1.rep.tr h) rus e fun H3 w E3 rw' => hz H3 E3 w rw'
theorem ml_callB {x : Str} {p : Pos} {id : String} {k : List PV → Option (List PV)} (hc : CallL X (.builtin id) k) (hg : Gl X x) (hm : X.mg x = none) (hv : bootBuiltins x = some (.builtin id)) (ha : MAb X W (e :: es) g) (hn : x ≠ "__name__" := by decide)
    (hdb : (x == ("__debug__" : Str)) = false := by decide) (he : starEach (e :: es) X.env = (false, eval e X.env) :: starEach es X.env := by rfl) (hpl : (backTo pos (starEach es X.env)).any (·.1) = false := by rfl) : ML X W (.Call (.Name x p) (e :: es) [] pos) (lB k g) := by
  obtain ⟨r, hr, hk⟩ := hc
  obtain ⟨t, pt, q⟩ := ha
  refine ⟨tCB r t, pe_callB hr hg hm hv pt hn hdb he hpl, fun B ρ env st σ H Q R h => ?_⟩
  refine q B ρ env st σ H _ R (ROk.mono (ROk.bind h) fun l ρ1 st1 H1 E1 h1 us rus => ?_)
  obtain ⟨z, e, hz⟩ := ROk.of E1.rep h1
  exact hk _ ρ1 H1 us l z Q (fun _ h => E1.rep.tr h) rus e fun H3 p zs H4 E3 np e4 hl rw' => hz H3 E3 p zs H4 np e4 hl rw'
theorem ml_callTy {x : Str} {p : Pos} {T : String} {k : List PV → Option (List PV)} (hc : CallL X (.type T) k) (hg : Gl X x) (hm : X.mg x = none) (hv : bootBuiltins x = some (.type T)) (ha : MAb X W (e :: es) g) (hn : x ≠ "__name__" := by decide)
    (hdb : (x == ("__debug__" : Str)) = false := by decide) (he : starEach (e :: es) X.env = (false, eval e X.env) :: starEach es X.env := by rfl) (hpl : (backTo pos (starEach es X.env)).any (·.1) = false := by rfl) : ML X W (.Call (.Name x p) (e :: es) [] pos) (lB k g) := by
  obtain ⟨r, hr, hk⟩ := hc
  obtain ⟨t, pt, q⟩ := ha
  refine ⟨tCB r t, pe_callTy hr hg hm hv pt hn hdb he hpl, fun B ρ env st σ H Q R h => ?_⟩
  refine q B ρ env st σ H _ R (ROk.mono (ROk.bind h) fun l ρ1 st1 H1 E1 h1 us rus => ?_)
  obtain ⟨z, e, hz⟩ := ROk.of E1.rep h1
  exact hk _ ρ1 H1 us l z Q (fun _ h => E1.rep.tr h) rus e fun H3 p zs H4 E3 np e4 hl rw' => hz H3 E3 p zs H4 np e4 hl rw'
end
end PL
/-! PLd: what is walked; comprehensions; statements. -/
namespace PL
open PySem PySem.Spec L2
/-- what was tracked and is not in M is as it was -/
def Keep (M : Addr → Prop) (H H' : Hp) : Prop := ∀ a o, H a = some o → ¬ M a → H' a = some o
/-- a later state, for values -/
structure Later (N : Addr → Prop) (ρ : List Addr) (H : Hp) (N' : Addr → Prop) (ρ' : List Addr) (H' : Hp) : Prop where
  less : ∀ a o, H a = some o → N' a → N a
  keep : Keep N H H'
  pre : ρ <+: ρ'
  tr : ∀ a, N' a → H' a ≠ none
/-- an iterator over these items, from the heap H0 on, while nothing changes but M -/
structure IterOk (K : PySem.W.Frag) (N M : Addr → Prop) (ρ : List Addr) (J : It) (items : List PV) (H0 : Hp) : Prop where
  len : items.length ≤ LINE
  go : ∀ i H, i < items.length → Keep M H0 H → J.go i H
  stop : ∀ H, Keep M H0 H → J.stop items.length H
  yld : ∀ i H x H', i < items.length → Keep M H0 H → J.yld i H x H' → Ext H H' ∧ ∀ p N' ρ', items[i]? = some p → Later N ρ H0 N' ρ' H → RV K N' ρ' H' p x
def MI (X : Cx) (W : WX) (tg iter : Expr) (f : EF (List PV)) : Prop := ∃ wi : TI, PI X tg iter wi ∧ ∀ B ρ env st σ H (R : It → Hp → Prop), Rep X.K B ρ env st σ H →
  ROk X.K W B ρ env σ H (f env st) (fun items ρ' st' H' => ∀ J H'', Ext H' H'' → IterOk X.K (Excl B ρ' env σ) (Excl B ρ' env σ) ρ' J items H'' → R J H'') → wi σ H R
/-- .. for a comprehension: a lent list may be walked -/
def MIc (X : Cx) (W : WX) (tg iter : Expr) (f : EF (List PV)) : Prop := ∃ wi : TI, PI X tg iter wi ∧ ∀ B ρ env st σ H (R : It → Hp → Prop), Rep X.K B ρ env st σ H →
  ROk X.K W B ρ env σ H (f env st) (fun items ρ' st' H' => ∀ J H'', Ext H' H'' → IterOk X.K (Excl B ρ' env σ) (fun a => a ∈ ρ') ρ' J items H'' → R J H'') → wi σ H R
theorem IterOk.less {K : PySem.W.Frag} {N M M' : Addr → Prop} {ρ : List Addr} {J : It} {items : List PV} {H0 : Hp} (h : IterOk K N M ρ J items H0) (hm : ∀ a, M' a → M a) : IterOk K N M' ρ J items H0 :=
  have q : ∀ {H}, Keep M' H0 H → Keep M H0 H := fun k a o e n => k a o e fun z => n (hm a z)
  ⟨h.len, fun i H hi k => h.go i H hi (q k), fun H k => h.stop H (q k), fun i H x H' hi k => h.yld i H x H' hi (q k)⟩
theorem MI.toC {X : Cx} {W : WX} {tg iter : Expr} {f : EF (List PV)} (h : MI X W tg iter f) : MIc X W tg iter f := by
  obtain ⟨wi, p, q⟩ := h
  exact ⟨wi, p, fun B ρ env st σ H R Rp h => q B ρ env st σ H R Rp (h.mono fun items ρ' st' H' E z J H'' e i => z J H'' e (i.less fun a h => Excl.inR h))⟩
theorem Post.later {K : PySem.W.Frag} {B : Addr → Prop} {ρ ρ' : List Addr} {env env' : Env} {st' : Sto} {σ σ' : L2.St} {H H' : Hp} (P : Post K B ρ env σ H ρ' env' st' σ' H') : Later (Excl B ρ env σ) ρ H (Excl B ρ' env' σ') ρ' H' where
  less := fun a o e n => by
    rcases n with n | n | n
    · exact .inl n
    · by_cases h1 : a ∈ ρ
      · exact .inr (.inl h1)
      · have q := P.fr a n h1
        rw [e] at q
        cases q
    · rcases P.ow a n with q | q
      · exact .inr (.inr q)
      · rw [e] at q
        cases q
  keep := fun a o e n => P.kp a o e (fun z => n (.inr (.inl z))) fun z => n (.inr (.inr z))
  pre := P.pre
  tr := fun a h => P.rep.tr h
theorem Later.rv {K : PySem.W.Frag} {N N' : Addr → Prop} {ρ ρ' : List Addr} {H H' : Hp} (L : Later N ρ H N' ρ' H') {p : PV} {v : V} (h : RV K N ρ H p v) : RV K N' ρ' H' p v := RV.carry L.less L.keep L.pre p v h
theorem RV.ext {K : PySem.W.Frag} {N : Addr → Prop} {ρ : List Addr} {H H' : Hp} (E : Ext H H') {p : PV} {v : V} (h : RV K N ρ H p v) : RV K N ρ H' p v := RV.carry (fun _ _ _ z => z) (fun a o e _ => E a o e) List.prefix_rfl p v h
theorem RVs.ext {K : PySem.W.Frag} {N : Addr → Prop} {ρ : List Addr} {H H' : Hp} (E : Ext H H') {p : List PV} {v : List V} (h : RVs K N ρ H p v) : RVs K N ρ H' p v := RVs.carry (fun _ _ _ z => z) (fun a o e _ => E a o e) List.prefix_rfl p v h
/-! ### iterators -/
section
variable {K : PySem.W.Frag} {N M : Addr → Prop} {ρ : List Addr} {H0 : Hp}
/-- over a walk that yields the items as they are -/
theorem iter_at {J : It} {xs : List V} {items : List PV} {G : Hp → Prop} (w : Walk J xs.length G (YAt xs)) (hG : ∀ H, Keep M H0 H → G H) (hl : xs.length ≤ LINE) (r : RVs K N ρ H0 items xs) : IterOk K N M ρ J items H0 := by
  have el := r.len
  refine ⟨by rw [← el]; exact hl, fun i H hi k => w.goes i H (by rw [el]; exact hi) (hG H k), fun H k => by rw [← el]; exact w.stops H (hG H k), fun i H x H' hi k y => ?_⟩
  obtain ⟨e1, e2⟩ := w.yields i H x H' (by rw [el]; exact hi) (hG H k) y
  subst e1
  refine ⟨Ext.refl, fun p N' ρ' hp L => ?_⟩
  obtain ⟨v, h1, h2⟩ := r.get hp
  rw [e2] at h1
  cases h1
  exact L.rv h2
/-- over a walk that yields new pairs -/
theorem iter_pair {J : It} {n : Nat} {f g : Nat → Option V} {items : List PV} {G : Hp → Prop} (w : Walk J n G (YPair f g)) (hG : ∀ H, Keep M H0 H → G H) (hn : items.length = n) (hl : n ≤ LINE)
    (h : ∀ i p x y, items[i]? = some p → f i = some x → g i = some y → ∃ q r, p = .tup [q, r] ∧ RV K N ρ H0 q x ∧ RV K N ρ H0 r y) : IterOk K N M ρ J items H0 := by
  refine ⟨by rw [hn]; exact hl, fun i H hi k => w.goes i H (by rw [← hn]; exact hi) (hG H k), fun H k => by rw [hn]; exact w.stops H (hG H k), fun i H v H' hi k y => ?_⟩
  obtain ⟨T, x, z, rfl, hT, rfl, hx, hz⟩ := w.yields i H v H' (by rw [← hn]; exact hi) (hG H k) y
  refine ⟨Ext.new hT, fun p N' ρ' hp L => ?_⟩
  obtain ⟨q, r, rfl, h1, h2⟩ := h i p x z hp hx hz
  exact mk_tup (fun z => L.tr T z hT) upd_same (by show 2 ≤ 16777216; decide) (.cons (RV.ext (Ext.new hT) (L.rv h1)) (.cons (RV.ext (Ext.new hT) (L.rv h2)) .nil))
theorem iter_list {a : Addr} {xs : List V} {items : List PV} (h : H0 a = some (.lst xs)) (n : ¬ M a) (hl : xs.length ≤ LINE) (r : RVs K N ρ H0 items xs) : IterOk K N M ρ (Itl K a) items H0 :=
  iter_at walk_list (fun H k => SqL.of (k a _ h n)) hl r
theorem iter_tup {a : Addr} {xs : List V} {items : List PV} (h : TupAt K N H0 a xs) (n : ∀ a, M a → N a) (hl : xs.length ≤ LINE) (r : RVs K N ρ H0 items xs) : IterOk K N M ρ (Itt K a) items H0 :=
  iter_at walk_tup (fun H k => h.keep k n) hl r
end
def rangeF (lo : Int) (n : Nat) : List PV := (List.range n).map fun (i : Nat) => PV.int (lo + i)
section
variable {K : PySem.W.Frag} {N M : Addr → Prop} {ρ : List Addr} {H0 : Hp}
theorem iter_range {lo : Int} {n : Nat} (hn : n ≤ LINE) : IterOk K N M ρ (Itr lo n) (rangeF lo n) H0 := by
  have el : (rangeF lo n).length = n := by unfold rangeF; rw [List.length_map, List.length_range]
  refine ⟨by rw [el]; exact hn, fun i H hi k => by rw [el] at hi; exact hi, fun H k => by rw [el]; exact Nat.le_refl _, fun i H x H' hi k y => ?_⟩
  obtain ⟨e1, e2⟩ := y
  subst e1 e2
  refine ⟨Ext.refl, fun p N' ρ' hp L => ?_⟩
  rw [el] at hi
  unfold rangeF at hp
  rw [List.getElem?_map, List.getElem?_range hi] at hp
  cases hp
  exact mk_int
end
def iSeq (f : EF PV) : EF (List PV) := fun e st => (f e st).bind fun v st => match v with
  | .tup l => .ok l st
  | .lst l => .ok l st
  | _ => .stuck
def int1 : List PV → Option Int
  | [.int j] => some j
  | _ => none
def int2 : List PV → Option (Int × Int)
  | [.int i, .int j] => some (i, j)
  | _ => none
theorem int1_eq {l : List PV} {j : Int} (h : int1 l = some j) : l = [.int j] := by
  unfold int1 at h
  split at h
  · cases h; rfl
  · cases h
theorem int2_eq {l : List PV} {i j : Int} (h : int2 l = some (i, j)) : l = [.int i, .int j] := by
  unfold int2 at h
  split at h
  · cases h; rfl
  · cases h
def iRng1 (g : EF (List PV)) : EF (List PV) := fun e st => (g e st).bind fun vs st => match int1 vs with
  | some j => if -LINE ≤ j ∧ j ≤ LINE then .ok (rangeF 0 j.toNat) st else .stuck
  | none => .stuck
def iRng2 (g : EF (List PV)) : EF (List PV) := fun e st => (g e st).bind fun vs st => match int2 vs with
  | some (i, j) => if -LINE ≤ i ∧ i ≤ LINE ∧ -LINE ≤ j ∧ j ≤ LINE ∧ j - i ≤ LINE then .ok (rangeF i (j - i).toNat) st else .stuck
  | none => .stuck
def seqOf : PV → Option (List PV)
  | .tup l => some l
  | .lst l => some l
  | _ => none
def zipF : List PV → List PV → List PV
  | x :: xs, y :: ys => .tup [x, y] :: zipF xs ys
  | _, _ => []
def enumF (n : Nat) : List PV → List PV
  | [] => []
  | x :: xs => .tup [.int n, x] :: enumF (n + 1) xs
section
variable {X : Cx} {W : WX} {tg a b e : Expr} {es : List Expr} {fa f : EF PV} {g : EF (List PV)} {pos p : Pos}
theorem PI.or {iter : Expr} {w1 w2 : TI} (h1 : PI X tg iter w1) (h2 : PI X tg iter w2) : PI X tg iter (fun σ H R => w1 σ H R ∨ w2 σ H R) :=
  ⟨fun pins s σ H R I q => q.elim (h1.run pins s σ H R I) (h2.run pins s σ H R I)⟩
theorem mi_seq (h : ME X W a fa) : MI X W tg a (iSeq fa) := by
  obtain ⟨t, pt, q⟩ := h
  refine ⟨_, PI.or (pi_list (tg := tg) pt) (pi_tup (tg := tg) pt), fun B ρ env st σ H R Rp h => ?_⟩
  unfold iSeq at h
  cases hf : fa env st with
  | stuck => rw [hf] at h; exact h.elim
  | exc x st1 =>
    rw [hf] at h
    refine .inl (q B ρ env st σ H _ Rp ?_)
    rw [hf]
    exact h
  | ok v st1 =>
    rw [hf] at h
    cases v with
    | lst l =>
      refine .inl (q B ρ env st σ H _ Rp ?_)
      rw [hf]
      intro ρ1 H1 E1 u ru
      obtain ⟨z, xs, rfl, n, h1, h2, h3⟩ := rv_lst ru
      exact ⟨z, rfl, ⟨xs, SqL.of h1⟩, h ρ1 H1 E1 _ H1 Ext.refl (iter_list h1 n h2 h3)⟩
    | tup l =>
      refine .inr (q B ρ env st σ H _ Rp ?_)
      rw [hf]
      intro ρ1 H1 E1 u ru
      obtain ⟨z, xs, rfl, h1, h2, h3⟩ := rv_tup ru
      exact ⟨z, rfl, ⟨xs, h1.sq⟩, h ρ1 H1 E1 _ H1 Ext.refl (iter_tup h1 (fun _ k => k) h2 h3)⟩
    | _ => exact h.elim
/-- a lent list, in a comprehension -/
theorem mic_seq (h : MB X W a fa) : MIc X W tg a (iSeq fa) := by
  obtain ⟨t, pt, q⟩ := h
  refine ⟨_, PI.or (pi_list (tg := tg) pt) (pi_tup (tg := tg) pt), fun B ρ env st σ H R Rp h => ?_⟩
  unfold iSeq at h
  cases hf : fa env st with
  | stuck => rw [hf] at h; exact h.elim
  | exc x st1 =>
    rw [hf] at h
    refine .inl (q B ρ env st σ H _ Rp ?_)
    rw [hf]
    exact h
  | ok v st1 =>
    rw [hf] at h
    cases v with
    | lst l =>
      refine .inl (q B ρ env st σ H _ Rp ?_)
      rw [hf]
      intro ρ1 H1 E1 u ru
      obtain ⟨z, xs, rfl, h1, h2, h3⟩ := rvb_lst ru.1
      exact ⟨z, rfl, ⟨xs, SqL.of h1⟩, h ρ1 H1 E1 _ H1 Ext.refl (iter_list h1 (ru.2 z l rfl rfl) h2 h3)⟩
    | tup l =>
      refine .inr (q B ρ env st σ H _ Rp ?_)
      rw [hf]
      intro ρ1 H1 E1 u ru
      obtain ⟨z, xs, rfl, h1, h2, h3⟩ := rvb_tup ru.1
      exact ⟨z, rfl, ⟨xs, h1.sq⟩, h ρ1 H1 E1 _ H1 Ext.refl (iter_tup h1 (fun _ k => Excl.inR k) h2 h3)⟩
    | _ => exact h.elim
theorem line62 : (LINE : Int) < 2 ^ 62 := by show ((16777216 : Nat) : Int) < 2 ^ 62; decide
theorem mi_range1 (hg : Gl X "range") (hm : X.mg "range" = none) (ha : MA X W [a] g) (hs : starEach [a] X.env = [(false, eval a X.env)] := by rfl) : MI X W tg (.Call (.Name "range" p) [a] [] pos) (iRng1 g) := by
  obtain ⟨t, pt, q⟩ := ha
  refine ⟨_, pi_range1 (tg := tg) hg hm pt hs, fun B ρ env st σ H R Rp h => ?_⟩
  refine q B ρ env st σ H _ Rp (ROk.mono (ROk.bind h) fun l ρ1 st1 H1 E1 h1 us rus => ?_)
  cases e1 : int1 l with
  | none => rw [e1] at h1; exact h1.elim
  | some j =>
    rw [e1] at h1
    have e2 := int1_eq e1
    subst e2
    obtain ⟨v, rfl, rv⟩ := rus.one
    have e := rv_int rv
    subst e
    dsimp only at h1
    by_cases hj : -LINE ≤ j ∧ j ≤ LINE
    · rw [if_pos hj] at h1
      have l62 := line62
      exact ⟨j, rfl, by omega, by omega, h1 ρ1 H1 (.refl E1.rep) _ H1 Ext.refl (iter_range (by omega))⟩
    · rw [if_neg hj] at h1
      exact h1.elim
theorem mi_range2 (hg : Gl X "range") (hm : X.mg "range" = none) (ha : MA X W [a, b] g) (hs : starEach [a, b] X.env = [(false, eval a X.env), (false, eval b X.env)] := by rfl) (hs2 : starEach [b] X.env = [(false, eval b X.env)] := by rfl) :
    MI X W tg (.Call (.Name "range" p) [a, b] [] pos) (iRng2 g) := by
  obtain ⟨t, pt, q⟩ := ha
  refine ⟨_, pi_range2 (tg := tg) hg hm pt hs hs2, fun B ρ env st σ H R Rp h => ?_⟩
  refine q B ρ env st σ H _ Rp (ROk.mono (ROk.bind h) fun l ρ1 st1 H1 E1 h1 us rus => ?_)
  cases e1 : int2 l with
  | none => rw [e1] at h1; exact h1.elim
  | some ij =>
    obtain ⟨i, j⟩ := ij
    rw [e1] at h1
    have e2 := int2_eq e1
    subst e2
    obtain ⟨v, w, rfl, rv, rw'⟩ := rus.two
    have e := rv_int rv
    have e' := rv_int rw'
    subst e e'
    dsimp only at h1
    by_cases hj : -LINE ≤ i ∧ i ≤ LINE ∧ -LINE ≤ j ∧ j ≤ LINE ∧ j - i ≤ LINE
    · rw [if_pos hj] at h1
      have l62 := line62
      exact ⟨i, j, rfl, ⟨by omega, by omega, by omega, by omega⟩, h1 ρ1 H1 (.refl E1.rep) _ H1 Ext.refl (iter_range (by omega))⟩
    · rw [if_neg hj] at h1
      exact h1.elim
end

/-! ### targets -/
/-- what a target does to a state; it changes the slots vs alone -/
def BOk (b : BF) (vs : List Nat) : Prop := ∀ p env env1, b p env = some env1 → env1.length = env.length ∧ ∀ j, j ∉ vs → env1[j]? = env[j]?
def BsOk (bs : List BF) (vs : List Nat) : Prop := ∀ ps env env1, bSeq bs ps env = some env1 → env1.length = env.length ∧ ∀ j, j ∉ vs → env1[j]? = env[j]?
theorem bok_name {i : Nat} : BOk (bName i) [i] := fun p env env1 h => by
  unfold bName at h
  by_cases hl : i < env.length
  · rw [if_pos hl] at h
    cases h
    exact ⟨List.length_set, fun j hj => List.getElem?_set_ne (fun z => hj (by simp [z]))⟩
  · rw [if_neg hl] at h
    cases h
theorem bsok_nil : BsOk [] [] := fun ps env env1 h => by
  cases ps with
  | nil => cases h; exact ⟨rfl, fun _ _ => rfl⟩
  | cons _ _ => cases h
theorem bSeq_split {b : BF} {bs : List BF} {ps : List PV} {env env1 : Env} (h : bSeq (b :: bs) ps env = some env1) : ∃ p r env2, ps = p :: r ∧ b p env = some env2 ∧ bSeq bs r env2 = some env1 := by
  cases ps with
  | nil => cases h
  | cons p r =>
    unfold bSeq at h
    cases e : b p env with
    | none => rw [e] at h; cases h
    | some env2 =>
      rw [e] at h
      exact ⟨p, r, env2, rfl, e, h⟩
theorem bsok_cons {b : BF} {bs : List BF} {vs ws : List Nat} (c1 : BOk b vs) (c2 : BsOk bs ws) : BsOk (b :: bs) (vs ++ ws) := fun ps env env1 h => by
  obtain ⟨p, r, env2, rfl, e1, e2⟩ := bSeq_split h
  obtain ⟨k1, k2⟩ := c1 _ _ _ e1
  obtain ⟨k3, k4⟩ := c2 _ _ _ e2
  exact ⟨k3.trans k1, fun j hj => (k4 j fun z => hj (List.mem_append_right _ z)).trans (k2 j fun z => hj (List.mem_append_left _ z))⟩
theorem bok_tup {bs : List BF} {vs : List Nat} (c : BsOk bs vs) : BOk (bTup bs) vs := fun pv env env1 h => by
  cases pv with
  | tup l => exact c l env env1 h
  | _ => cases h
def MG (X : Cx) (tg : Expr) (b : BF) (vs : List Nat) : Prop := BOk b vs ∧ ∃ g : TG, PG X tg g ∧
  ∀ B ρ env st σ H p v env1 Q, Rep X.K B ρ env st σ H → RV X.K (Excl B ρ env σ) ρ H p v → b p env = some env1 →
    (∀ σ1, Post X.K B ρ env σ H ρ env1 st σ1 H → σ1.length = σ.length → (∀ j, j ∉ vs → σ1[j]? = σ[j]?) → Q σ1 H) → g v σ H Q
def MGs (X : Cx) (tgs : List Expr) (bs : List BF) (vs : List Nat) : Prop := BsOk bs vs ∧ ∃ g : TGs, PGs X tgs g ∧
  ∀ B ρ env st σ H ps vl env1 Q, Rep X.K B ρ env st σ H → RVs X.K (Excl B ρ env σ) ρ H ps vl → bSeq bs ps env = some env1 →
    (∀ σ1, Post X.K B ρ env σ H ρ env1 st σ1 H → σ1.length = σ.length → (∀ j, j ∉ vs → σ1[j]? = σ[j]?) → Q σ1 H) → g vl σ H Q
section
variable {K : PySem.W.Frag} {B : Addr → Prop} {ρ : List Addr} {env env' : Env} {st : Sto} {σ σ' : L2.St} {H H' : Hp}
theorem Owned.tr (R : Rep K B ρ env st σ H) {a : Addr} (h : Owned env σ a) : ∃ o, H a = some o := by
  obtain ⟨xs, e⟩ := R.oT h
  exact ⟨_, e⟩
/-- other names, all else as it was -/
theorem Rep.re (R : Rep K B ρ env st σ H) (E : Ext H H') (len : env'.length = σ'.length) (ow : ∀ a, Owned env' σ' a → Owned env σ a ∨ (H a = none ∧ ∃ o, H' a = some o))
    (slot : ∀ (i : Nat) e, env'[i]? = some e → (env[i]? = some e ∧ σ'[i]? = σ[i]?) ∨ SlotOk K (Excl B ρ env' σ') ρ H' σ' i e)
    (sep : ∀ (i j : Nat) l l' a, env'[i]? = some (.own l) → env'[j]? = some (.own l') → σ'[i]? = some (some (.ref a)) → σ'[j]? = some (some (.ref a)) → i = j) : Post K B ρ env σ H ρ env' st σ' H' := by
  have less : ∀ a o, H a = some o → Excl B ρ env' σ' a → Excl B ρ env σ a := fun a o e n => by
    rcases n with n | n | n
    · exact .inl n
    · exact .inr (.inl n)
    · rcases ow a n with q | ⟨q, _⟩
      · exact .inr (.inr q)
      · rw [e] at q
        cases q
  have tr : ∀ a, H a ≠ none → H' a ≠ none := fun a h z => by
    cases e : H a with
    | none => exact h e
    | some o => rw [E a o e] at z; cases z
  refine ⟨⟨len, R.lenC, R.nd, fun n c a h1 h2 => ?_, fun a h => tr a (R.rT a h), R.rB, fun a h => tr a (R.bT a h), fun i e h => ?_, fun a h => ?_, sep⟩, List.prefix_rfl, fun a o e _ _ => E a o e, tr, fun _ h n => absurd h n, fun a h => ?_⟩
  · have q := R.cell n c a h1 h2
    exact q.carry less (fun a o e _ => E a o e) List.prefix_rfl fun o q1 => E _ _ q1
  · rcases slot i e h with ⟨k1, k2⟩ | k
    · have q := R.slot i e k1
      cases e with
      | non => trivial
      | val p =>
        obtain ⟨v, q1, q2⟩ := q
        exact ⟨v, k2.trans q1, RV.carry less (fun a o e _ => E a o e) List.prefix_rfl _ _ q2⟩
      | own l =>
        obtain ⟨a, xs, q0, q1, q2, q3⟩ := q
        exact ⟨a, xs, k2.trans q0, E _ _ q1, q2, RVs.carry less (fun a o e _ => E a o e) List.prefix_rfl _ _ q3⟩
    · exact k
  · rcases ow a h with q | ⟨q, _⟩
    · exact R.oR a q
    · exact ⟨fun z => R.rT a z q, fun z => R.bT a z q⟩
  · rcases ow a h with q | ⟨q, _⟩
    · exact .inl q
    · exact .inr q
theorem own_set_val {i : Nat} {p : PV} {v : V} {a : Addr} (h : Owned (env.set i (.val p)) (σ.set i (some v)) a) : Owned env σ a := by
  obtain ⟨j, l, h1, h2⟩ := h
  by_cases hj : i = j
  · subst hj
    by_cases hl : i < env.length
    · rw [List.getElem?_set_self hl] at h1
      cases h1
    · rw [List.getElem?_eq_none (by rw [List.length_set]; omega)] at h1
      cases h1
  · rw [List.getElem?_set_ne hj] at h1 h2
    exact ⟨j, l, h1, h2⟩
theorem Rep.setVal (R : Rep K B ρ env st σ H) {i : Nat} {p : PV} {v : V} (hi : i < env.length) (r : RV K (Excl B ρ env σ) ρ H p v) : Post K B ρ env σ H ρ (env.set i (.val p)) st (σ.set i (some v)) H := by
  refine R.re Ext.refl (by rw [List.length_set, List.length_set]; exact R.lenE) (fun a h => .inl (own_set_val h)) (fun j e h => ?_) (fun j k l l' a h1 h2 h3 h4 => ?_)
  · by_cases hj : i = j
    · subst hj
      rw [List.getElem?_set_self hi] at h
      cases h
      refine .inr ⟨v, by rw [List.getElem?_set_self (by rw [← R.lenE]; exact hi)], RV.carry (fun a o e n => ?_) (fun a o e _ => e) List.prefix_rfl _ _ r⟩
      rcases n with n | n | n
      · exact .inl n
      · exact .inr (.inl n)
      · exact .inr (.inr (own_set_val n))
    · rw [List.getElem?_set_ne hj] at h
      exact .inl ⟨h, by rw [List.getElem?_set_ne hj]⟩
  · by_cases hj : i = j
    · subst hj
      rw [List.getElem?_set_self hi] at h1
      cases h1
    · by_cases hk : i = k
      · subst hk
        rw [List.getElem?_set_self hi] at h2
        cases h2
      · rw [List.getElem?_set_ne hj] at h1 h3
        rw [List.getElem?_set_ne hk] at h2 h4
        exact R.sep j k l l' a h1 h2 h3 h4
/-- a list of its own, new -/
theorem Rep.setOwn (R : Rep K B ρ env st σ H) {i : Nat} {l : List PV} {xs : List V} {p : Addr} (hi : i < env.length) (hp : H p = none) (hl : xs.length ≤ LINE) (r : RVs K (Excl B ρ env σ) ρ H l xs) :
    Post K B ρ env σ H ρ (env.set i (.own l)) st (σ.set i (some (.ref p))) (upd H p (.lst xs)) := by
  have ow : ∀ a, Owned (env.set i (.own l)) (σ.set i (some (.ref p))) a → Owned env σ a ∨ a = p := fun a h => by
    obtain ⟨j, m, h1, h2⟩ := h
    by_cases hj : i = j
    · subst hj
      rw [List.getElem?_set_self (by rw [← R.lenE]; exact hi)] at h2
      cases h2
      exact .inr rfl
    · rw [List.getElem?_set_ne hj] at h1 h2
      exact .inl ⟨j, m, h1, h2⟩
  refine R.re (.new hp) (by rw [List.length_set, List.length_set]; exact R.lenE) (fun a h => ?_) (fun j e h => ?_) (fun j k m m' a h1 h2 h3 h4 => ?_)
  · rcases ow a h with q | q
    · exact .inl q
    · subst q
      exact .inr ⟨hp, _, upd_same⟩
  · by_cases hj : i = j
    · subst hj
      rw [List.getElem?_set_self hi] at h
      cases h
      refine .inr ⟨p, xs, by rw [List.getElem?_set_self (by rw [← R.lenE]; exact hi)], upd_same, hl, RVs.carry (fun a o e n => ?_) (fun a o e _ => Ext.new hp a o e) List.prefix_rfl _ _ r⟩
      rcases n with n | n | n
      · exact .inl n
      · exact .inr (.inl n)
      · rcases ow a n with q | q
        · exact .inr (.inr q)
        · subst q
          rw [hp] at e
          cases e
    · rw [List.getElem?_set_ne hj] at h
      exact .inl ⟨h, by rw [List.getElem?_set_ne hj]⟩
  · have no : ∀ j m, i ≠ j → env[j]? = some (.own m) → σ[j]? ≠ some (some (.ref p)) := fun j m _ e1 e2 => by
      obtain ⟨ys, e⟩ := R.oT ⟨j, m, e1, e2⟩
      rw [hp] at e
      cases e
    by_cases hj : i = j
    · by_cases hk : i = k
      · rw [← hj, ← hk]
      · subst hj
        rw [List.getElem?_set_ne hk] at h2 h4
        rw [List.getElem?_set_self (by rw [← R.lenE]; exact hi)] at h3
        cases h3
        exact absurd h4 (no k m' hk h2)
    · rw [List.getElem?_set_ne hj] at h1 h3
      by_cases hk : i = k
      · subst hk
        rw [List.getElem?_set_self (by rw [← R.lenE]; exact hi)] at h4
        cases h4
        exact absurd h3 (no j m hj h1)
      · rw [List.getElem?_set_ne hk] at h2 h4
        exact R.sep j k m m' a h1 h2 h3 h4
end
section
variable {X : Cx} {tg : Expr} {tgs : List Expr} {b : BF} {bs : List BF} {vs ws : List Nat} {pos : Pos}
theorem mg_name {i : Nat} {x : Str} (hN : X.N.Nodup) (hi : X.N[i]? = some x) (hx : Loc X.env.scope x) (hf : X.fn x = true ∨ X.env.scope.names.lookup x = some .local := by first | exact .inl rfl | exact .inr rfl | assumption) : MG X (.Name x pos) (bName i) [i] := by
  refine ⟨bok_name, _, pg_name hN hi hx hf, fun B ρ env st σ H p v env1 Q R r h q => ?_⟩
  unfold bName at h
  by_cases hl : i < env.length
  · rw [if_pos hl] at h
    cases h
    exact q _ (R.setVal hl r) List.length_set fun j hj => List.getElem?_set_ne (fun z => hj (by simp [z]))
  · rw [if_neg hl] at h
    cases h
theorem mgs_nil : MGs X [] [] [] := by
  refine ⟨bsok_nil, _, pgs_nil, fun B ρ env st σ H ps vl env1 Q R r h q => ?_⟩
  cases ps with
  | nil =>
    cases h
    have e := r.unnil
    subst e
    exact ⟨rfl, q σ (.refl R) rfl fun _ _ => rfl⟩
  | cons _ _ => cases h
theorem mgs_cons (h1 : MG X tg b vs) (h2 : MGs X tgs bs ws) (hs : (assignEach (tg :: tgs) X.env).map (·.2) = assign tg X.env :: (assignEach tgs X.env).map (·.2) := by rfl) : MGs X (tg :: tgs) (b :: bs) (vs ++ ws) := by
  obtain ⟨c1, g1, p1, q1⟩ := h1
  obtain ⟨c2, g2, p2, q2⟩ := h2
  refine ⟨bsok_cons c1 c2, _, pgs_cons p1 p2 hs, fun B ρ env st σ H ps vl env1 Q R r h q => ?_⟩
  obtain ⟨p, ps', env2, rfl, e1, e2⟩ := bSeq_split h
  obtain ⟨v, vl', rfl, rv, rt⟩ := r.uncons
  refine ⟨v, vl', rfl, q1 B ρ env st σ H p v env2 _ R rv e1 fun σ1 P1 l1 k1 => ?_⟩
  refine q2 B ρ env2 st σ1 H ps' vl' env1 Q P1.rep (P1.rvs rt) e2 fun σ2 P2 l2 k2 => ?_
  exact q σ2 (P1.trans P2) (l2.trans l1) fun j hj => (k2 j fun z => hj (List.mem_append_right _ z)).trans (k1 j fun z => hj (List.mem_append_left _ z))
theorem bSeq_len : ∀ {bs : List BF} {ps : List PV} {env env1 : Env}, bSeq bs ps env = some env1 → ps.length = bs.length
  | [], [], _, _, _ => rfl
  | [], _ :: _, _, _, h => by cases h
  | _ :: _, [], _, _, h => by cases h
  | b :: bs, p :: ps, env, env1, h => by
    unfold bSeq at h
    cases e : b p env with
    | none => rw [e] at h; cases h
    | some env2 =>
      rw [e] at h
      rw [List.length_cons, List.length_cons, bSeq_len h]
theorem mg_tup {k : Nat} (hc : X.calm = true) (h : MGs X tgs bs vs) (hn : (assignEach tgs X.env).length = bs.length := by rfl) (hst : (assignEach tgs X.env).findIdx? (·.1) = none := by rfl) : MG X (.Tuple tgs k pos) (bTup bs) vs := by
  obtain ⟨c, g, p, q⟩ := h
  refine ⟨bok_tup c, _, pg_tup hc p hn hst, fun B ρ env st σ H pv v env1 Q R r h q2 => ?_⟩
  cases pv with
  | tup l =>
    obtain ⟨a, xs, rfl, e1, e2, rl⟩ := rv_tup r
    have h' : bSeq bs l env = some env1 := h
    exact ⟨a, xs, rfl, e1.sq, by rw [rl.len]; exact bSeq_len h', q B ρ env st σ H l xs env1 Q R rl h' q2⟩
  | _ => cases h
end
end PL
/-! PLe: list comprehensions. -/
namespace PL
open PySem PySem.Spec L2
/-! ### readings that do not hang on the context -/
def canE (K : PySem.W.Frag) (W : WX) (f : EF PV) : TE := fun σ H Q => ∃ B ρ env st, Rep K B ρ env st σ H ∧ ROk K W B ρ env σ H (f env st) fun p ρ' st' H' => ∀ u, RV K (Excl B ρ' env σ) ρ' H' p u → Q u H'
def canT (K : PySem.W.Frag) (W : WX) (f : EF Bool) : TT := fun σ H Q => ∃ B ρ env st, Rep K B ρ env st σ H ∧ ROk K W B ρ env σ H (f env st) fun k ρ' st' H' => Q k H'
def canI (K : PySem.W.Frag) (W : WX) (f : EF (List PV)) : TI := fun σ H R => ∃ B ρ env st, Rep K B ρ env st σ H ∧
  ROk K W B ρ env σ H (f env st) fun items ρ' st' H' => ∀ J H'', Ext H' H'' → IterOk K (Excl B ρ' env σ) (fun a => a ∈ ρ') ρ' J items H'' → R J H''
def canG (K : PySem.W.Frag) (b : BF) (vs : List Nat) : TG := fun v σ H Q => ∃ B ρ env st p env1, Rep K B ρ env st σ H ∧ RV K (Excl B ρ env σ) ρ H p v ∧ b p env = some env1 ∧
  ∀ σ1, Post K B ρ env σ H ρ env1 st σ1 H → σ1.length = σ.length → (∀ j, j ∉ vs → σ1[j]? = σ[j]?) → Q σ1 H
section
variable {X : Cx} {W : WX} {e tg iter : Expr} {f : EF PV} {fb : EF Bool} {g : EF (List PV)} {b : BF} {vs : List Nat}
theorem ME.can (h : ME X W e f) : PE X e (canE X.K W f) := by
  obtain ⟨t, p, q⟩ := h
  exact ⟨fun pins s σ H Q I ⟨B, ρ, env, st, R, h⟩ => p.run pins s σ H Q I (q B ρ env st σ H Q R h)⟩
theorem MT.can (h : MT X W e fb) : PT X e (canT X.K W fb) := by
  obtain ⟨t, p, q⟩ := h
  exact ⟨fun pins s σ H Q I ⟨B, ρ, env, st, R, h⟩ => p.run pins s σ H Q I (q B ρ env st σ H Q R h)⟩
theorem MIc.can (h : MIc X W tg iter g) : PI X tg iter (canI X.K W g) := by
  obtain ⟨t, p, q⟩ := h
  exact ⟨fun pins s σ H Q I ⟨B, ρ, env, st, R, h⟩ => p.run pins s σ H Q I (q B ρ env st σ H Q R h)⟩
theorem MG.can (h : MG X tg b vs) : PG X tg (canG X.K b vs) := by
  obtain ⟨_, t, p, q⟩ := h
  exact ⟨fun pins s σ H v u Q I r ⟨B, ρ, env, st, pv, env1, R, rv, e, h⟩ => p.run pins s σ H v u Q I r (q B ρ env st σ H pv v env1 Q R rv e h)⟩
end
/-- a clause's tests -/
def MTs (X : Cx) (W : WX) (ifs : List Expr) (f : EF Bool) : Prop := PTs X ifs (canT X.K W f)
section
variable {X : Cx} {W : WX} {c : Expr} {f : EF Bool}
theorem mts_nil : MTs X W [] tYesF := ⟨fun pins s σ H Q I ⟨B, ρ, env, st, R, h⟩ => pts_nil.run pins s σ H Q I (h ρ H (.refl R))⟩
theorem mts_one (h : MT X W c f) : MTs X W [c] f := pts_one h.can
end
/-! ### slots wiped -/
theorem wipe_get : ∀ (vs : List Nat) (σ : L2.St) (j : Nat), (wipe σ vs)[j]? = if j ∈ vs then (if j < σ.length then some none else none) else σ[j]?
  | [], σ, j => by
    unfold wipe
    rw [if_neg (by simp)]
  | v :: vs, σ, j => by
    unfold wipe
    by_cases hj : v = j
    · subst hj
      rw [if_pos (by simp)]
      by_cases hl : v < σ.length
      · rw [if_pos hl, List.getElem?_set_self (by rw [wipe_length]; exact hl)]
      · rw [if_neg hl, List.getElem?_eq_none (by rw [List.length_set, wipe_length]; omega)]
    · rw [List.getElem?_set_ne hj, wipe_get vs σ j]
      by_cases hm : j ∈ vs
      · rw [if_pos hm, if_pos (List.mem_cons_of_mem _ hm)]
      · rw [if_neg hm, if_neg (by simp only [List.mem_cons, not_or]; exact ⟨fun z => hj z.symm, hm⟩)]
theorem wipeE_len : ∀ (vs : List Nat) (e : Env), (wipeE e vs).length = e.length
  | [], _ => rfl
  | v :: vs, e => by unfold wipeE; rw [List.length_set, wipeE_len vs e]
theorem wipeE_get : ∀ (vs : List Nat) (e : Env) (j : Nat), (wipeE e vs)[j]? = if j ∈ vs then (if j < e.length then some .non else none) else e[j]?
  | [], e, j => by
    unfold wipeE
    rw [if_neg (by simp)]
  | v :: vs, e, j => by
    unfold wipeE
    by_cases hj : v = j
    · subst hj
      rw [if_pos (by simp)]
      by_cases hl : v < e.length
      · rw [if_pos hl, List.getElem?_set_self (by rw [wipeE_len]; exact hl)]
      · rw [if_neg hl, List.getElem?_eq_none (by rw [List.length_set, wipeE_len]; omega)]
    · rw [List.getElem?_set_ne hj, wipeE_get vs e j]
      by_cases hm : j ∈ vs
      · rw [if_pos hm, if_pos (List.mem_cons_of_mem _ hm)]
      · rw [if_neg hm, if_neg (by simp only [List.mem_cons, not_or]; exact ⟨fun z => hj z.symm, hm⟩)]
theorem wipe_same {vs : List Nat} {σ σ1 : L2.St} (hl : σ1.length = σ.length) (h : ∀ j, j ∉ vs → σ1[j]? = σ[j]?) : wipe σ1 vs = wipe σ vs := by
  refine List.ext_getElem? fun j => ?_
  rw [wipe_get, wipe_get, hl]
  by_cases hm : j ∈ vs
  · rw [if_pos hm, if_pos hm]
  · rw [if_neg hm, if_neg hm, h j hm]
section
variable {K : PySem.W.Frag} {B B' : Addr → Prop} {ρ ρ0 ρ1 : List Addr} {env env1 : Env} {st st0 st1 : Sto} {σ σ1 : L2.St} {H H0 H1 H2 : Hp}
/-- what a comprehension's block must leave: what was so, the new list, the names that it hides -/
def Inner (B : Addr → Prop) (env : Env) (σ : L2.St) (vs : List Nat) (D : Addr) (a : Addr) : Prop := B a ∨ a = D ∨ (Owned env σ a ∧ ¬ Owned (wipeE env vs) (wipe σ vs) a)
theorem own_wipe {vs : List Nat} {a : Addr} (h : Owned (wipeE env vs) (wipe σ vs) a) : Owned env σ a := by
  obtain ⟨j, l, h1, h2⟩ := h
  rw [wipeE_get] at h1
  rw [wipe_get] at h2
  by_cases hm : j ∈ vs
  · rw [if_pos hm] at h1
    split at h1 <;> cases h1
  · rw [if_neg hm] at h1 h2
    exact ⟨j, l, h1, h2⟩
theorem excl_inner {vs : List Nat} {D a : Addr} : Excl (Inner B env σ vs D) ρ (wipeE env vs) (wipe σ vs) a ↔ Excl B ρ env σ a ∨ a = D := by
  constructor
  · intro h
    rcases h with (h | h | ⟨h, _⟩) | h | h
    · exact .inl (.inl h)
    · exact .inr h
    · exact .inl (.inr (.inr h))
    · exact .inl (.inr (.inl h))
    · exact .inl (.inr (.inr (own_wipe h)))
  · intro h
    rcases h with (h | h | h) | h
    · exact .inl (.inl h)
    · exact .inr (.inl h)
    · by_cases hw : Owned (wipeE env vs) (wipe σ vs) a
      · exact .inr (.inr hw)
      · exact .inl (.inr (.inr ⟨h, hw⟩))
    · exact .inl (.inr (.inl h))
theorem Rep.wiped (R : Rep K B ρ env st σ H) {D : Addr} {o : HO} (hD : H D = none) (vs : List Nat) : Rep K (Inner B env σ vs D) ρ (wipeE env vs) st (wipe σ vs) (upd H D o) := by
  have less : ∀ a u, H a = some u → Excl (Inner B env σ vs D) ρ (wipeE env vs) (wipe σ vs) a → Excl B ρ env σ a := fun a u e n => by
    rcases excl_inner.mp n with q | q
    · exact q
    · rw [q, hD] at e
      cases e
  have E : Ext H (upd H D o) := .new hD
  have tr : ∀ a, H a ≠ none → (upd H D o) a ≠ none := fun a h z => by
    cases e : H a with
    | none => exact h e
    | some u => rw [E a u e] at z; cases z
  have nD : ∀ a, H a ≠ none → a ≠ D := fun a h z => h (by rw [z]; exact hD)
  refine ⟨by rw [wipeE_len, wipe_length]; exact R.lenE, R.lenC, R.nd, fun n c a h1 h2 => ?_, fun a h => tr a (R.rT a h), fun a h z => ?_, fun a h => ?_, fun i e h => ?_, fun a h => ?_, fun i j l l' a h1 h2 h3 h4 => ?_⟩
  · have q := R.cell n c a h1 h2
    exact q.carry less (fun a u e _ => E a u e) List.prefix_rfl fun o q1 => E _ _ q1
  · rcases z with z | z | ⟨z, _⟩
    · exact R.rB a h z
    · exact nD a (R.rT a h) z
    · exact (R.oR a z).1 h
  · rcases h with h | h | ⟨h, _⟩
    · exact tr a (R.bT a h)
    · rw [h, upd_same]
      exact fun z => by cases z
    · exact tr a (R.tr (.inr (.inr h)))
  · rw [wipeE_get] at h
    by_cases hm : i ∈ vs
    · rw [if_pos hm] at h
      split at h
      · cases h; trivial
      · cases h
    · rw [if_neg hm] at h
      have q := R.slot i e h
      have ew : (wipe σ vs)[i]? = σ[i]? := by rw [wipe_get, if_neg hm]
      cases e with
      | non => trivial
      | val p =>
        obtain ⟨v, q1, q2⟩ := q
        exact ⟨v, ew.trans q1, RV.carry less (fun a u e _ => E a u e) List.prefix_rfl _ _ q2⟩
      | own l =>
        obtain ⟨a, xs, q0, q1, q2, q3⟩ := q
        exact ⟨a, xs, ew.trans q0, E _ _ q1, q2, RVs.carry less (fun a u e _ => E a u e) List.prefix_rfl _ _ q3⟩
  · have ho := own_wipe h
    refine ⟨(R.oR a ho).1, fun z => ?_⟩
    rcases z with z | z | ⟨_, z⟩
    · exact (R.oR a ho).2 z
    · exact nD a (R.tr (.inr (.inr ho))) z
    · exact z h
  · rw [wipeE_get] at h1 h2
    rw [wipe_get] at h3 h4
    by_cases hi : i ∈ vs
    · rw [if_pos hi] at h1
      split at h1 <;> cases h1
    · by_cases hj : j ∈ vs
      · rw [if_pos hj] at h2
        split at h2 <;> cases h2
      · rw [if_neg hi] at h1 h3
        rw [if_neg hj] at h2 h4
        exact R.sep i j l l' a h1 h2 h3 h4
/-- a thing that is not ours is written -/
theorem Rep.inB (R : Rep K B ρ env st σ H) {D : Addr} {o : HO} (hD : B D) : Rep K B ρ env st σ (upd H D o) := by
  have k1 : ∀ a u, H a = some u → ¬ Excl B ρ env σ a → (upd H D o) a = some u := fun a u e n => by
    rw [upd_ne (fun z => n (by rw [z]; exact .inl hD))]
    exact e
  have tr : ∀ a, H a ≠ none → (upd H D o) a ≠ none := fun a h => by
    by_cases ha : a = D
    · rw [ha, upd_same]
      exact fun z => by cases z
    · rw [upd_ne ha]
      exact h
  refine ⟨R.lenE, R.lenC, R.nd, fun n c a h1 h2 => ?_, fun a h => tr a (R.rT a h), R.rB, fun a h => tr a (R.bT a h), fun i e h => ?_, R.oR, R.sep⟩
  · have q := R.cell n c a h1 h2
    exact q.carry (fun _ _ _ z => z) k1 List.prefix_rfl fun o q1 => by rw [upd_ne (fun z => R.rB a (List.mem_of_getElem? h2) (by rw [z]; exact hD))]; exact q1
  · have q := R.slot i e h
    cases e with
    | non => trivial
    | val p =>
      obtain ⟨v, q1, q2⟩ := q
      exact ⟨v, q1, RV.carry (fun _ _ _ z => z) k1 List.prefix_rfl _ _ q2⟩
    | own l =>
      obtain ⟨a, xs, q0, q1, q2, q3⟩ := q
      exact ⟨a, xs, q0, by rw [upd_ne (fun z => (R.oR a ⟨i, l, h, q0⟩).2 (by rw [z]; exact hD))]; exact q1, q2, RVs.carry (fun _ _ _ z => z) k1 List.prefix_rfl _ _ q3⟩
/-- back to the names of before: the store's things as they are behind, all else kept -/
theorem Rep.back (R0 : Rep K B ρ0 env st0 σ H0) (R1 : Rep K B' ρ1 env1 st1 σ1 H1) (pre : ρ0 <+: ρ1) (k0 : ∀ a o, H0 a = some o → a ∉ ρ0 → H2 a = some o) (fr : ∀ a ∈ ρ1, a ∉ ρ0 → H0 a = none) (kc : ∀ a ∈ ρ1, H2 a = H1 a)
    (k1 : ∀ a o, H1 a = some o → ¬ Excl B' ρ1 env1 σ1 a → H2 a = some o) (less : ∀ a, Excl B ρ1 env σ a → Excl B' ρ1 env1 σ1 a) (rB : ∀ a ∈ ρ1, ¬ B a) : Rep K B ρ1 env st1 σ H2 := by
  have l0 : ∀ a o, H0 a = some o → Excl B ρ1 env σ a → Excl B ρ0 env σ a := fun a o e n => by
    rcases n with n | n | n
    · exact .inl n
    · by_cases h : a ∈ ρ0
      · exact .inr (.inl h)
      · have q := fr a n h
        rw [e] at q
        cases q
    · exact .inr (.inr n)
  have kk : ∀ a o, H0 a = some o → ¬ Excl B ρ0 env σ a → H2 a = some o := fun a o e n => k0 a o e fun z => n (.inr (.inl z))
  refine ⟨R0.lenE, R1.lenC, R1.nd, fun n c a h1 h2 => ?_, fun a h => by rw [kc a h]; exact R1.rT a h, rB, fun a h z => ?_, fun i e h => ?_, fun a h => ⟨fun z => ?_, (R0.oR a h).2⟩, R0.sep⟩
  · have q := R1.cell n c a h1 h2
    exact q.carry (fun a o _ n => less a n) k1 List.prefix_rfl fun o q1 => by rw [kc a (List.mem_of_getElem? h2)]; exact q1
  · cases e : H0 a with
    | none => exact R0.bT a h e
    | some o => rw [k0 a o e (fun y => R0.rB a y h)] at z; cases z
  · have q := R0.slot i e h
    cases e with
    | non => trivial
    | val p =>
      obtain ⟨v, q1, q2⟩ := q
      exact ⟨v, q1, RV.carry l0 kk pre _ _ q2⟩
    | own l =>
      obtain ⟨a, xs, q0, q1, q2, q3⟩ := q
      exact ⟨a, xs, q0, k0 a _ q1 (R0.oR a ⟨i, l, h, q0⟩).1, q2, RVs.carry l0 kk pre _ _ q3⟩
  · obtain ⟨xs, e⟩ := R0.oT h
    have q := fr a z (R0.oR a h).1
    rw [e] at q
    cases q
end
theorem noE_ok {α : Type} {K : PySem.W.Frag} {W : WX} {B : Addr → Prop} {ρ : List Addr} {env : Env} {σ : L2.St} {H : Hp} {r : RE α} {Z : α → List Addr → Sto → Hp → Prop} (h : ROk K W B ρ env σ H r.noE Z) :
    ROk K (fun _ _ _ _ => False) B ρ env σ H r Z := by
  cases r with
  | ok a st => exact h
  | exc x st => exact h.elim
  | stuck => exact h
abbrev WF : WX := fun _ _ _ _ => False
/-- the reading of a comprehension -/
theorem lc_reads {K : PySem.W.Frag} {W : WX} {it : EF (List PV)} {b : BF} {vs : List Nat} {c : EF Bool} {t : EF PV} {B : Addr → Prop} {ρ : List Addr} {env : Env} {st : Sto} {σ : L2.St} {H : Hp} {Q : VK} (hb : BOk b vs)
    (R : Rep K B ρ env st σ H) (h : ROk K W B ρ env σ H (lLc it b vs c t env st) (fun l ρ' st' H' => ∀ p xs H'', H' p = none → H'' = upd H' p (.lst xs) → xs.length ≤ LINE → RVs K (Excl B ρ' env σ) ρ' H' l xs → Q (.ref p) H'')) :
    tLc (canI K W it) (canG K b vs) (canT K WF c) (canE K WF t) vs σ H Q := by
  refine ⟨B, ρ, env, st, R, ROk.mono (ROk.bind h) fun items ρ1 st1 H1 E1 h1 J H1' EX IT D hD => ?_⟩
  have E1' : EPost K B ρ env σ H ρ1 st1 H1' := E1.trans (.ext E1.rep EX)
  have R1 : Rep K B ρ1 env st1 σ H1' := E1'.rep
  have h1 := ROk.shift (EPost.ext E1.rep EX) h1
  have RW : Rep K (Inner B env σ vs D) ρ1 (wipeE env vs) st1 (wipe σ vs) (upd H1' D (.lst [])) := R1.wiped hD vs
  have tot : ∃ l stf, lcLoop b c t (wipeE env vs) items st1 = .ok l stf := by
    cases hl : lcLoop b c t (wipeE env vs) items st1 with
    | ok l stf => exact ⟨l, stf, rfl⟩
    | stuck => rw [hl] at h1; exact h1.elim
    | exc x stf =>
      have no : ∀ (xs : List PV) (s : Sto) (x : Ex) (s' : Sto), lcLoop b c t (wipeE env vs) xs s ≠ .exc x s' := by
        intro xs
        induction xs with
        | nil => intro s x s' z; cases z
        | cons y ys ih =>
          intro s x s' z
          unfold lcLoop at z
          cases hbv : b y (wipeE env vs) with
          | none => rw [hbv] at z; cases z
          | some e1 =>
            rw [hbv] at z
            dsimp only at z
            cases hc : c e1 s with
            | stuck => rw [hc] at z; cases z
            | exc _ _ => rw [hc] at z; cases z
            | ok k s2 =>
              rw [hc] at z
              cases k with
              | false => exact ih s2 x s' z
              | true =>
                have z : ((t e1 s2).noE.bind fun y st => (lcLoop b c t (wipeE env vs) ys st).bind fun ys st => .ok (y :: ys) st) = .exc x s' := z
                cases ht : t e1 s2 with
                | stuck => rw [ht] at z; cases z
                | exc _ _ => rw [ht] at z; cases z
                | ok v s3 =>
                  rw [ht] at z
                  have z : ((lcLoop b c t (wipeE env vs) ys s3).bind fun ys st => .ok (v :: ys) st) = .exc x s' := z
                  cases hr : lcLoop b c t (wipeE env vs) ys s3 with
                  | stuck => rw [hr] at z; cases z
                  | exc _ _ => exact ih _ _ _ hr
                  | ok _ _ => rw [hr] at z; cases z
      exact absurd hl (no _ _ _ _)
  obtain ⟨l, stf, hl⟩ := tot
  rw [hl] at h1
  let Pw : Nat → Hp → Prop := fun i Hi => ∃ ρi sti acc accV ys, EPost K (Inner B env σ vs D) ρ1 (wipeE env vs) (wipe σ vs) H1' ρi sti Hi ∧ Hi D = some (.lst accV) ∧ accV.length ≤ i ∧
    RVs K (Excl (Inner B env σ vs D) ρi (wipeE env vs) (wipe σ vs)) ρi Hi acc accV ∧ lcLoop b c t (wipeE env vs) (items.drop i) sti = .ok ys stf ∧ l = acc ++ ys
  have keepOf : ∀ {Hi ρi sti}, EPost K (Inner B env σ vs D) ρ1 (wipeE env vs) (wipe σ vs) H1' ρi sti Hi → Keep (fun a => a ∈ ρ1) H1' Hi := fun {Hi ρi sti} E a o e n => E.kp a o e n
  have E0 : EPost K (Inner B env σ vs D) ρ1 (wipeE env vs) (wipe σ vs) H1' ρ1 st1 (upd H1' D (.lst [])) := ⟨RW, List.prefix_rfl, fun a o e _ => Ext.new hD a o e, (fun a h z => by
    cases e : H1' a with
    | none => exact h e
    | some u => rw [Ext.new hD a u e] at z; cases z), fun _ h n => absurd h n⟩
  refine ⟨fun i m Hi => m = items.length - i ∧ i ≤ items.length ∧ Pw i Hi, ⟨items.length, by simp, Nat.zero_le _, ρ1, st1, [], [], l, E0, upd_same, Nat.le_refl _, .nil, hl, rfl⟩, ?_⟩
  rintro i m Hi ⟨rfl, hi, ρi, sti, acc, accV, ys, E, hDi, hlen, racc, hloop, hys⟩
  have kp := keepOf E
  by_cases hlt : i < items.length
  · -- a turn
    refine .inr ⟨IT.go i Hi hlt kp, fun Hn => ∃ m', m' < items.length - i ∧ (m' = items.length - (i + 1) ∧ i + 1 ≤ items.length ∧ Pw (i + 1) Hn), fun H' h' => h', fun x Hy hy => ?_⟩
    obtain ⟨EY, ry⟩ := IT.yld i Hi x Hy hlt kp hy
    have hitem : items[i]? = some items[i] := List.getElem?_eq_getElem hlt
    have lat : Later (Excl B ρ1 env σ) ρ1 H1' (Excl (Inner B env σ vs D) ρi (wipeE env vs) (wipe σ vs)) ρi Hi := by
      refine ⟨fun a o e n => ?_, fun a o e n => kp a o e fun z => n (.inr (.inl z)), E.pre, fun a h => E.rep.tr h⟩
      have n1 : Excl (Inner B env σ vs D) ρ1 (wipeE env vs) (wipe σ vs) a := by
        rcases n with n | n | n
        · exact .inl n
        · by_cases hz : a ∈ ρ1
          · exact .inr (.inl hz)
          · have q := E.fr a n hz
            rw [e] at q
            cases q
        · exact .inr (.inr n)
      rcases excl_inner.mp n1 with q | q
      · exact q
      · rw [q, hD] at e
        cases e
    have rx : RV K (Excl (Inner B env σ vs D) ρi (wipeE env vs) (wipe σ vs)) ρi Hy items[i] x := ry items[i] _ ρi hitem lat
    have EYp : EPost K (Inner B env σ vs D) ρi (wipeE env vs) (wipe σ vs) Hi ρi sti Hy := .ext E.rep EY
    have hdrop : items.drop i = items[i] :: items.drop (i + 1) := (List.drop_eq_getElem_cons hlt)
    rw [hdrop] at hloop
    unfold lcLoop at hloop
    cases hbv : b items[i] (wipeE env vs) with
    | none => rw [hbv] at hloop; cases hloop
    | some env2 =>
      rw [hbv] at hloop
      dsimp only at hloop
      obtain ⟨hb1, hb2⟩ := hb _ _ _ hbv
      refine ⟨Inner B env σ vs D, ρi, wipeE env vs, sti, items[i], env2, EYp.rep, rx, hbv, fun σ2 P2 hl2 hk2 => ⟨wipe_same (by rw [hl2, wipe_length]) (fun j hj => (hk2 j hj).trans (by rw [wipe_get, if_neg hj])), ?_⟩⟩
      -- the names of the block: owned ones are the same
      have ownB : ∀ a, Owned (wipeE env vs) (wipe σ vs) a ↔ Owned env2 σ2 a := fun a => by
        constructor
        · rintro ⟨j, m, e1, e2⟩
          have hj : j ∉ vs := fun z => by
            rw [wipeE_get, if_pos z] at e1
            split at e1 <;> cases e1
          exact ⟨j, m, (hb2 j hj).trans e1, (hk2 j hj).trans e2⟩
        · intro z
          rcases P2.ow a z with q | q
          · exact q
          · obtain ⟨xs, q2⟩ := P2.rep.oT z
            rw [q] at q2
            cases q2
      have exB : ∀ {ρx : List Addr} {a : Addr}, Excl (Inner B env σ vs D) ρx (wipeE env vs) (wipe σ vs) a ↔ Excl (Inner B env σ vs D) ρx env2 σ2 a := fun {ρx a} => by
        unfold Excl
        rw [ownB a]
      have EQ : ∀ {ρx : List Addr}, Excl (Inner B env σ vs D) ρx (wipeE env vs) (wipe σ vs) = Excl (Inner B env σ vs D) ρx env2 σ2 := fun {ρx} => funext fun a => propext exB
      -- back to the wiped names behind what the block did
      have backE : ∀ {ρx : List Addr} {stx : Sto} {Hx : Hp}, EPost K (Inner B env σ vs D) ρi env2 σ2 Hy ρx stx Hx → EPost K (Inner B env σ vs D) ρ1 (wipeE env vs) (wipe σ vs) H1' ρx stx Hx := fun {ρx stx Hx} F =>
        (E.trans EYp).trans ⟨Rep.back EYp.rep F.rep F.pre F.kp F.fr (fun _ _ => rfl) (fun _ _ e _ => e) (fun a n => exB.mp n) F.rep.rB, F.pre, F.kp, F.tr, F.fr⟩
      have inD : ∀ {ρx : List Addr} {stx : Sto} {Hx : Hp}, EPost K (Inner B env σ vs D) ρi env2 σ2 Hy ρx stx Hx → Hx D = some (.lst accV) := fun {ρx stx Hx} F => F.kp D _ (EY _ _ hDi) fun z => E.rep.rB D z (.inr (.inl rfl))
      have accE : ∀ {ρx : List Addr} {stx : Sto} {Hx : Hp}, EPost K (Inner B env σ vs D) ρi env2 σ2 Hy ρx stx Hx → RVs K (Excl (Inner B env σ vs D) ρx (wipeE env vs) (wipe σ vs)) ρx Hx acc accV := fun {ρx stx Hx} F => by
        have q := F.post.rvs (p := acc) (v := accV) (by rw [← EQ]; exact RVs.ext EY racc)
        rw [← EQ] at q
        exact q
      cases hcv : c env2 sti with
      | stuck => rw [hcv] at hloop; cases hloop
      | exc _ _ => rw [hcv] at hloop; cases hloop
      | ok k st2 =>
        rw [hcv] at hloop
        refine ⟨Inner B env σ vs D, ρi, env2, sti, P2.rep, ?_⟩
        rw [hcv]
        intro ρ3 H3 E3
        cases k with
        | false =>
          rw [if_neg Bool.false_ne_true]
          have hloop : lcLoop b c t (wipeE env vs) (items.drop (i + 1)) st2 = .ok ys stf := hloop
          exact ⟨items.length - (i + 1), by omega, rfl, hlt, ρ3, st2, acc, accV, ys, backE E3, inD E3, by omega, accE E3, hloop, hys⟩
        | true =>
          rw [if_pos rfl]
          have hloop : ((t env2 st2).noE.bind fun y st => (lcLoop b c t (wipeE env vs) (items.drop (i + 1)) st).bind fun ys st => .ok (y :: ys) st) = .ok ys stf := hloop
          cases htv : t env2 st2 with
          | stuck => rw [htv] at hloop; cases hloop
          | exc _ _ => rw [htv] at hloop; cases hloop
          | ok y st3 =>
            rw [htv] at hloop
            have hloop : ((lcLoop b c t (wipeE env vs) (items.drop (i + 1)) st3).bind fun ys st => .ok (y :: ys) st) = .ok ys stf := hloop
            refine ⟨Inner B env σ vs D, ρ3, env2, st2, E3.rep, ?_⟩
            rw [htv]
            intro ρ4 H4 E4 u ru
            have E34 := E3.trans E4
            have hD4 := inD E34
            have R4 := backE E34
            cases hrest : lcLoop b c t (wipeE env vs) (items.drop (i + 1)) st3 with
            | stuck => rw [hrest] at hloop; cases hloop
            | exc _ _ => rw [hrest] at hloop; cases hloop
            | ok zs stz =>
              rw [hrest] at hloop
              have e5 : y :: zs = ys ∧ stz = stf := by
                have q : RE.ok (y :: zs) stz = RE.ok ys stf := hloop
                cases q
                exact ⟨rfl, rfl⟩
              obtain ⟨e5, e6⟩ := e5
              subst e5 e6
              refine ⟨accV, hD4, ?_, items.length - (i + 1), by omega, rfl, hlt, ρ4, st3, acc ++ [y], accV ++ [u], zs, ?_, upd_same, ?_, ?_, hrest, ?_⟩
              · rw [← LINE_eq]
                have := IT.len
                omega
              · -- D is written
                refine ⟨R4.rep.inB (.inr (.inl rfl)), R4.pre, fun a o e n => ?_, fun a h => ?_, R4.fr⟩
                · rw [upd_ne (ne_of_none e hD)]
                  exact R4.kp a o e n
                · rw [upd_ne (fun z => h (by rw [z]; exact hD))]
                  exact R4.tr a h
              · rw [List.length_append, List.length_singleton]
                omega
              · have nD : ∀ a o, H4 a = some o → ¬ Excl (Inner B env σ vs D) ρ4 (wipeE env vs) (wipe σ vs) a → (upd H4 D (.lst (accV ++ [u]))) a = some o := fun a o e n => by
                  rw [upd_ne (fun z => n (by rw [z]; exact .inl (.inr (.inl rfl))))]
                  exact e
                rw [← EQ] at ru
                exact RVs.append (RVs.carry (fun _ _ _ z => z) nD List.prefix_rfl _ _ (accE E34)) (.cons (RV.carry (fun _ _ _ z => z) nD List.prefix_rfl _ _ ru) .nil)
              · rw [hys, List.append_assoc]
                rfl
  · -- the end
    have ei : i = items.length := by omega
    subst ei
    refine .inl ⟨IT.stop Hi kp, ?_⟩
    have e0 : ys = [] ∧ sti = stf := by
      rw [List.drop_length] at hloop
      have q : RE.ok [] sti = RE.ok ys stf := hloop
      cases q
      exact ⟨rfl, rfl⟩
    obtain ⟨e1, e2⟩ := e0
    subst e1 e2
    have e3 : l = acc := by rw [hys, List.append_nil]
    subst e3
    let Hz : Hp := fun a => if a = D then none else Hi a
    have zD : Hz D = none := if_pos rfl
    have zn : ∀ {a}, a ≠ D → Hz a = Hi a := fun h => if_neg h
    have nR : ∀ a ∈ ρi, a ≠ D := fun a h z => E.rep.rB a h (.inr (.inl z))
    have k0 : ∀ a o, H1' a = some o → a ∉ ρ1 → Hz a = some o := fun a o e n => by
      rw [zn (ne_of_none e hD)]
      exact E.kp a o e n
    have k1 : ∀ a o, Hi a = some o → ¬ Excl (Inner B env σ vs D) ρi (wipeE env vs) (wipe σ vs) a → Hz a = some o := fun a o e n => by
      rw [zn (fun z => n (by rw [z]; exact .inl (.inr (.inl rfl))))]
      exact e
    have less : ∀ a, Excl B ρi env σ a → Excl (Inner B env σ vs D) ρi (wipeE env vs) (wipe σ vs) a := fun a n => excl_inner.mpr (.inl n)
    have EZ : EPost K B ρ1 env σ H1' ρi sti Hz := ⟨Rep.back R1 E.rep E.pre k0 E.fr (fun a h => zn (nR a h)) k1 less fun a h z => E.rep.rB a h (.inl z), E.pre, k0, fun a h => by
      rw [zn (fun z => h (by rw [z]; exact hD))]
      exact E.tr a h, E.fr⟩
    refine h1 ρi Hz EZ D accV Hi zD ?_ (by have := IT.len; omega) (RVs.carry (fun a _ _ n => less a n) k1 List.prefix_rfl _ _ racc)
    funext a
    by_cases ha : a = D
    · rw [ha, upd_same, hDi]
    · rw [upd_ne ha, zn ha]
section
variable {X : Cx} {W : WX} {elt tg iter : Expr} {ifs : List Expr} {scope : Scope} {own : List (Str × Nat)} {pos : Pos} {it : EF (List PV)} {b : BF} {c : EF Bool} {t : EF PV}
theorem ml_lc (hb : BOk b (own.map (·.2))) (hc : X.calm = true) (hN : X.N.Nodup) (hi : MIc X W tg iter it) (ok : BlkOk X.N X.env.scope scope own)
    (hg : ∀ (s : Shared) (H : Hp) (C : Addr) (cl : List (Str × Addr)) (fp : List Addr), MG (X.blk s H scope (compEnvC scope cl C X.env) fp) tg b (own.map (·.2)))
    (ht : ∀ (s : Shared) (H : Hp) (C : Addr) (cl : List (Str × Addr)) (fp : List Addr), MTs (X.blk s H scope (compEnvC scope cl C X.env) fp) WF ifs c)
    (he : ∀ (s : Shared) (H : Hp) (C : Addr) (cl : List (Str × Addr)) (fp : List Addr), ME (X.blk s H scope (compEnvC scope cl C X.env) fp) WF elt t) (hs : ∀ x, foldedSetIterable iter X.env x = pure x := by intro _; rfl) :
    ML X W (.ListComp elt [⟨tg, iter, ifs, 0⟩] scope pos) (lLc it b (own.map (·.2)) c t) :=
  ⟨_, pe_lc hc hN hi.can ok (fun s H C cl fp => (hg s H C cl fp).can) (tt := canT X.K WF c) (fun s H C cl fp => ht s H C cl fp) (fun s H C cl fp => (he s H C cl fp).can) hs,
    fun B ρ env st σ H Q R h => lc_reads hb R h⟩
end
end PL
/-! PLf: the statements. -/
namespace PL
open PySem PySem.Spec L2
section
variable {X : Cx} {W : WX} {s : Stmt} {rest a b body : List Stmt} {e tg iter c : Expr} {f g : SF} {fe : EF PV} {fl it : EF (List PV)} {fc : EF Bool} {bf : BF} {vs : List Nat} {pos : Pos}
theorem mss_nil : MSs X W [] sNil := ⟨tNext, pss_nil, fun B ρ env st σ H D R h => h ρ σ H (.refl R)⟩
theorem refs_seq {t u : TS} (q1 : RefS X.K W t f) (q2 : RefS X.K W u g) : RefS X.K W (tSeq t u) (sSeq f g) := fun B ρ env st σ H D R h => by
  refine q1 B ρ env st σ H _ R ?_
  have h : SOk X.K W B ρ env σ H ((f env st).thn g) D := h
  cases hf : f env st with
  | nx e1 st1 =>
    rw [hf] at h
    exact fun ρ1 σ1 H1 P1 => q2 B ρ1 e1 st1 σ1 H1 D P1.rep (SOk.shift P1 h)
  | rt v st1 => rw [hf] at h; exact h
  | bk e1 st1 => rw [hf] at h; exact h
  | ct e1 st1 => rw [hf] at h; exact h
  | exc x e1 st1 => rw [hf] at h; exact h
  | stuck => rw [hf] at h; exact h
theorem mss_cons (h1 : MS X W s f) (h2 : MSs X W rest g) : MSs X W (s :: rest) (sSeq f g) := by
  obtain ⟨t, p1, q1⟩ := h1
  obtain ⟨u, p2, q2⟩ := h2
  exact ⟨tSeq t u, pss_cons p1 p2, refs_seq q1 q2⟩
/-- a name's own list is no longer changed from here on -/
theorem mss_frz {i : Nat} (h2 : MSs X W rest g) : MSs X W rest (sSeq (sFrz i) g) := by
  obtain ⟨u, p2, q2⟩ := h2
  refine ⟨u, p2, fun B ρ env st σ H D R h => ?_⟩
  have h : SOk X.K W B ρ env σ H ((sFrz i env st).thn g) D := h
  unfold sFrz at h
  cases e : env[i]? with
  | none => rw [e] at h; exact q2 B ρ env st σ H D R h
  | some ev =>
    rw [e] at h
    cases ev with
    | non => exact q2 B ρ env st σ H D R h
    | val v => exact q2 B ρ env st σ H D R h
    | own l =>
      have h : SOk X.K W B ρ env σ H (g (env.set i (.val (.lst l))) st) D := h
      have hi : i < env.length := (List.getElem?_eq_some_iff.mp e).1
      obtain ⟨p, xs, h1, h2, h3, h4⟩ := R.slot i _ e
      have ow : ∀ a, Owned (env.set i (.val (.lst l))) σ a → Owned env σ a ∧ a ≠ p := fun a ⟨j, m, e1, e2⟩ => by
        by_cases hj : i = j
        · subst hj
          rw [List.getElem?_set_self hi] at e1
          cases e1
        · rw [List.getElem?_set_ne hj] at e1
          exact ⟨⟨j, m, e1, e2⟩, fun z => hj (R.sep i j l m p e e1 h1 (by rw [← z]; exact e2))⟩
      have less : ∀ a, Excl B ρ (env.set i (.val (.lst l))) σ a → Excl B ρ env σ a := fun a n => by
        rcases n with n | n | n
        · exact .inl n
        · exact .inr (.inl n)
        · exact .inr (.inr (ow a n).1)
      have np : ¬ Excl B ρ (env.set i (.val (.lst l))) σ p := fun n => by
        rcases n with n | n | n
        · exact (R.oR p ⟨i, l, e, h1⟩).2 n
        · exact (R.oR p ⟨i, l, e, h1⟩).1 n
        · exact (ow p n).2 rfl
      have P : Post X.K B ρ env σ H ρ (env.set i (.val (.lst l))) st σ H := by
        refine R.re Ext.refl (by rw [List.length_set]; exact R.lenE) (fun a n => .inl (ow a n).1) (fun j ev hj => ?_) (fun j k m m' a e1 e2 e3 e4 => ?_)
        · by_cases hij : i = j
          · subst hij
            rw [List.getElem?_set_self hi] at hj
            cases hj
            exact .inr ⟨.ref p, h1, mk_lst np h2 h3 (RVs.carry (fun a _ _ n => less a n) (fun _ _ e _ => e) List.prefix_rfl _ _ h4)⟩
          · rw [List.getElem?_set_ne hij] at hj
            exact .inl ⟨hj, rfl⟩
        · have no : ∀ (j : Nat) (m : List PV), (env.set i (.val (.lst l)))[j]? = some (EV.own m) → env[j]? = some (EV.own m) := fun j m q => by
            by_cases hij : i = j
            · subst hij
              rw [List.getElem?_set_self hi] at q
              cases q
            · rw [List.getElem?_set_ne hij] at q
              exact q
          exact R.sep j k m m' a (no j m e1) (no k m' e2) e3 e4
      exact q2 B ρ _ st σ H D P.rep (SOk.shift P h)
theorem mss_never : MSs X W rest sNever := ⟨tNever, pss_never, fun B ρ env st σ H D R h => h.elim⟩
theorem ms_never : MS X W s sNever := ⟨tNever, ps_never, fun B ρ env st σ H D R h => h.elim⟩
theorem ms_pass : MS X W (.Pass pos) sNil := ⟨_, ps_pass, fun B ρ env st σ H D R h => h ρ σ H (.refl R)⟩
theorem ms_break : MS X W (.Break pos) sBreak := ⟨_, ps_break, fun B ρ env st σ H D R h => h ρ σ H (.refl R)⟩
theorem ms_continue : MS X W (.Continue pos) sCont := ⟨_, ps_continue, fun B ρ env st σ H D R h => h ρ σ H (.refl R)⟩
theorem ms_ret (h : ME X W e fe) : MS X W (.Return (some e) pos) (sRet fe) := by
  obtain ⟨t, p, q⟩ := h
  refine ⟨_, ps_ret p, fun B ρ env st σ H D R h => ?_⟩
  refine q B ρ env st σ H _ R (ROk.mono (SOk.toS h) fun v ρ1 st1 H1 E1 h1 u ru => ?_)
  refine h1 ρ1 env σ H1 u (.refl E1.rep) (RV.carry (fun a o _ n => ?_) (fun _ _ e _ => e) List.prefix_rfl _ _ ru)
  rcases n with n | n | n
  · exact .inl n
  · exact .inr (.inl n)
  · obtain ⟨j, m, e1, _⟩ := n
    simp at e1
theorem ms_retN : MS X W (.Return none pos) sRetN := ⟨_, ps_retN, fun B ρ env st σ H D R h => h ρ env σ H _ (.refl R) mk_non⟩
/-- a new list is handed back as a thing of the store -/
theorem ms_retG (h : ML X W e fl) : MS X W (.Return (some e) pos) (sRetG fl) := by
  obtain ⟨t, p, q⟩ := h
  refine ⟨_, ps_ret p, fun B ρ env st σ H D R h => ?_⟩
  refine q B ρ env st σ H _ R (ROk.mono (SOk.toS h) fun l ρ1 st1 H1 E1 h1 p xs H2 np e2 hl rxs => ?_)
  subst e2
  have R1 := E1.rep
  have pn : p ∉ ρ1 := fun z => R1.rT p z np
  have pb : ¬ B p := fun z => R1.bT p z np
  have po : ¬ Owned env σ p := fun z => R1.tr (.inr (.inr z)) np
  have less : ∀ a o, H1 a = some o → Excl B (ρ1 ++ [p]) env σ a → Excl B ρ1 env σ a := fun a o e n => by
    rcases n with n | n | n
    · exact .inl n
    · rcases List.mem_append.mp n with n | n
      · exact .inr (.inl n)
      · have z : a = p := by simpa using n
        rw [z, np] at e
        cases e
    · exact .inr (.inr n)
  have EX : Ext H1 (upd H1 p (.lst xs)) := .new np
  have kk : ∀ a o, H1 a = some o → ¬ Excl B ρ1 env σ a → (upd H1 p (.lst xs)) a = some o := fun a o e _ => EX a o e
  have tr : ∀ a, H1 a ≠ none → (upd H1 p (.lst xs)) a ≠ none := fun a h z => by
    cases e : H1 a with
    | none => exact h e
    | some o => rw [EX a o e] at z; cases z
  have pre : ρ1 <+: ρ1 ++ [p] := List.prefix_append ρ1 [p]
  have RR : Rep X.K B (ρ1 ++ [p]) env (st1 ++ [.lst l]) σ (upd H1 p (.lst xs)) := by
    refine ⟨R1.lenE, by simp [R1.lenC], ?_, fun n c a h1 h2 => ?_, fun a h => ?_, fun a h => ?_, fun a h => tr a (R1.bT a h), fun i ev h => ?_, fun a h => ⟨fun z => ?_, (R1.oR a h).2⟩, R1.sep⟩
    · exact List.nodup_append.mpr ⟨R1.nd, by simp, fun a ha c hc z => pn (by
        have : c = p := by simpa using hc
        rw [← this, ← z]; exact ha)⟩
    · by_cases hn : n < st1.length
      · rw [List.getElem?_append_left hn] at h1
        rw [List.getElem?_append_left (by rw [R1.lenC]; exact hn)] at h2
        have q := R1.cell n c a h1 h2
        exact q.carry less kk pre fun o q1 => EX _ _ q1
      · rw [List.getElem?_append_right (by omega)] at h1
        rw [List.getElem?_append_right (by rw [R1.lenC]; omega), R1.lenC] at h2
        have e0 : n - st1.length = 0 := by
          by_cases h0 : n - st1.length = 0
          · exact h0
          · rw [List.getElem?_eq_none (by simp; omega)] at h1
            cases h1
        rw [e0] at h1 h2
        cases h1
        cases h2
        exact ⟨xs, upd_same, hl, RVs.carry less kk pre _ _ rxs⟩
    · rcases List.mem_append.mp h with h | h
      · exact tr a (R1.rT a h)
      · have z : a = p := by simpa using h
        rw [z, upd_same]
        exact fun y => by cases y
    · rcases List.mem_append.mp h with h | h
      · exact R1.rB a h
      · have z : a = p := by simpa using h
        rw [z]
        exact pb
    · have q := R1.slot i ev h
      cases ev with
      | non => trivial
      | val v =>
        obtain ⟨w, q1, q2⟩ := q
        exact ⟨w, q1, RV.carry less kk pre _ _ q2⟩
      | own m =>
        obtain ⟨a, ys, q0, q1, q2, q3⟩ := q
        exact ⟨a, ys, q0, EX _ _ q1, q2, RVs.carry less kk pre _ _ q3⟩
    · rcases List.mem_append.mp z with z | z
      · exact (R1.oR a h).1 z
      · have z : a = p := by simpa using z
        rw [z] at h
        exact po h
  have PP : Post X.K B ρ1 env σ H1 (ρ1 ++ [p]) env (st1 ++ [.lst l]) σ (upd H1 p (.lst xs)) := by
    refine ⟨RR, pre, fun a o e _ _ => EX a o e, tr, fun a h n => ?_, fun a h => .inl h⟩
    rcases List.mem_append.mp h with h | h
    · exact absurd h n
    · have z : a = p := by simpa using h
      rw [z]
      exact np
  refine h1 (ρ1 ++ [p]) env σ _ (.ref p) PP ?_
  unfold RV
  refine ⟨p, rfl, ?_⟩
  rw [List.getElem?_append_right (by rw [R1.lenC]; exact Nat.le_refl _), R1.lenC, Nat.sub_self]
  rfl
/-- a name's own list is handed back -/
theorem ms_retO {i : Nat} {x : Str} {pos' : Pos} (hN : X.N[i]? = some x) (hv : Vis X.env.scope x) (hd : (x == ("__debug__" : Str)) = false := by decide) (hcd : (x == ("__classdict__" : Str)) = false := by decide) : MS X W (.Return (some (.Name x pos')) pos) (sRetO i) := by
  refine ⟨_, ps_ret (pe_var hN hv hd hcd), fun B ρ env st σ H D R h => ?_⟩
  unfold sRetO at h
  cases q : env[i]? with
  | none => rw [q] at h; exact h.elim
  | some ev =>
    rw [q] at h
    cases ev with
    | non => exact h.elim
    | val p => exact h.elim
    | own l =>
      obtain ⟨z, xs, h1, h2, h3, h4⟩ := R.slot i _ q
      obtain ⟨o1, o2⟩ := R.oR z ⟨i, l, q, h1⟩
      refine ⟨.ref z, h1, h ρ env σ H _ (.refl R) (mk_lst (fun n => ?_) h2 h3 (RVs.carry (fun a o _ n => ?_) (fun _ _ e _ => e) List.prefix_rfl _ _ h4))⟩
      · rcases n with n | n | n
        · exact o2 n
        · exact o1 n
        · obtain ⟨j, m, e1, _⟩ := n
          simp at e1
      · rcases n with n | n | n
        · exact .inl n
        · exact .inr (.inl n)
        · obtain ⟨j, m, e1, _⟩ := n
          simp at e1
theorem ms_if (hc : MT X W c fc) (ha : MSs X W a f) (hb : MSs X W b g) : MS X W (.If c a b pos) (sIf fc f g) := by
  obtain ⟨tc, pc, qc⟩ := hc
  obtain ⟨ta, pa, qa⟩ := ha
  obtain ⟨tb, pb, qb⟩ := hb
  refine ⟨_, ps_if pc pa pb, fun B ρ env st σ H D R h => ?_⟩
  refine qc B ρ env st σ H _ R (ROk.mono (SOk.toS h) fun k ρ1 st1 H1 E1 h1 => ?_)
  cases k with
  | true => rw [if_pos rfl]; rw [if_pos rfl] at h1; exact qa B ρ1 env st1 σ H1 D E1.rep h1
  | false => rw [if_neg Bool.false_ne_true]; rw [if_neg Bool.false_ne_true] at h1; exact qb B ρ1 env st1 σ H1 D E1.rep h1
/-- an expression for its effect -/
theorem ms_expr (h : ME X W e fe) (hs : swapsWith e none pos.line X.env = pure false := by rfl) : MS X W (.Expr e pos) (sDrop fe) := by
  obtain ⟨t, p, q⟩ := h
  refine ⟨_, ps_expr p hs, fun B ρ env st σ H D R h => ?_⟩
  exact q B ρ env st σ H _ R (ROk.mono (SOk.toS h) fun v ρ1 st1 H1 E1 h1 u ru => h1 ρ1 σ H1 (.refl E1.rep))
/-- target = value -/
theorem ms_asg (h : ME X W e fe) (hg : MG X tg bf vs) (hs : swapsWithSole [tg] e pos.line X.env = pure false := by rfl) (hw : swappedStores [tg] e X.env = pure none := by rfl)
    (h1 : (assignEach [tg] X.env).map (·.2) = [assign tg X.env] := by rfl) : MS X W (.Assign [tg] e pos) (sAsg bf fe) := by
  obtain ⟨t, p, q⟩ := h
  obtain ⟨_, g, pg, qg⟩ := hg
  refine ⟨_, ps_asg p pg hs hw h1, fun B ρ env st σ H D R h => ?_⟩
  refine q B ρ env st σ H _ R (ROk.mono (SOk.toS h) fun v ρ1 st1 H1 E1 h1 u ru => ?_)
  cases e1 : bf v env with
  | none => rw [e1] at h1; exact h1.elim
  | some env1 =>
    rw [e1] at h1
    exact qg B ρ1 env st1 σ H1 v u env1 _ E1.rep ru e1 fun σ1 P1 _ _ => h1 ρ1 σ1 H1 P1
/-- name = value -/
theorem ms_set {i : Nat} {x : Str} {pos' : Pos} (h : ME X W e fe) (hN : X.N.Nodup) (hi : X.N[i]? = some x) (hx : Loc X.env.scope x) (hs : swapsWith e (some (.Name x pos')) pos.line X.env = pure false := by rfl) (hf : X.fn x = true ∨ X.env.scope.names.lookup x = some .local := by first | exact .inl rfl | exact .inr rfl | assumption) :
    MS X W (.Assign [.Name x pos'] e pos) (sAsg (bName i) fe) := by
  obtain ⟨t, p, q⟩ := h
  refine ⟨_, ps_set hN hi hx p hs hf, fun B ρ env st σ H D R h => ?_⟩
  refine q B ρ env st σ H _ R (ROk.mono (SOk.toS h) fun v ρ1 st1 H1 E1 h1 u ru => ?_)
  unfold bName at h1
  by_cases hl : i < env.length
  · rw [if_pos hl] at h1
    exact h1 ρ1 _ H1 (E1.rep.setVal hl ru)
  · rw [if_neg hl] at h1
    exact h1.elim
/-- name = a new list, its own -/
theorem ms_setO {i : Nat} {x : Str} {pos' : Pos} (h : ML X W e fl) (hN : X.N.Nodup) (hi : X.N[i]? = some x) (hx : Loc X.env.scope x) (hs : swapsWith e (some (.Name x pos')) pos.line X.env = pure false := by rfl) (hf : X.fn x = true ∨ X.env.scope.names.lookup x = some .local := by first | exact .inl rfl | exact .inr rfl | assumption) :
    MS X W (.Assign [.Name x pos'] e pos) (sAsgO i fl) := by
  obtain ⟨t, p, q⟩ := h
  refine ⟨_, ps_set hN hi hx p hs hf, fun B ρ env st σ H D R h => ?_⟩
  refine q B ρ env st σ H _ R (ROk.mono (SOk.toS h) fun l ρ1 st1 H1 E1 h1 p xs H2 np e2 hl rxs => ?_)
  subst e2
  by_cases hl2 : i < env.length
  · rw [if_pos hl2] at h1
    exact h1 ρ1 _ _ (E1.rep.setOwn hl2 np hl rxs)
  · rw [if_neg hl2] at h1
    exact h1.elim
end
section
variable {X : Cx} {W : WX} {elt tg iter : Expr} {ifs : List Expr} {scope : Scope} {own : List (Str × Nat)} {pos spos py : Pos} {it : EF (List PV)} {b : BF} {c : EF Bool} {t : EF PV} {i : Nat} {y : Str}
/-- name = [..] on one line, the name a local: as a value that never changes -/
theorem ms_setLc (hb : BOk b (own.map (·.2))) (hc : X.calm = true) (hN : X.N.Nodup) (hy : X.N[i]? = some y) (hyl : X.env.scope.names.lookup y = some .local)
    (hsw : swapsWith (.ListComp elt [⟨tg, iter, ifs, 0⟩] scope pos) (some (.Name y py)) spos.line X.env = pure true) (hi : MIc X W tg iter it) (ok : BlkOk X.N X.env.scope scope own)
    (hg : ∀ (s : Shared) (H : Hp) (C : Addr) (cl : List (Str × Addr)) (fp : List Addr), MG (X.blk s H scope (compEnvC scope cl C X.env) fp) tg b (own.map (·.2)))
    (ht : ∀ (s : Shared) (H : Hp) (C : Addr) (cl : List (Str × Addr)) (fp : List Addr), MTs (X.blk s H scope (compEnvC scope cl C X.env) fp) WF ifs c)
    (he : ∀ (s : Shared) (H : Hp) (C : Addr) (cl : List (Str × Addr)) (fp : List Addr), ME (X.blk s H scope (compEnvC scope cl C X.env) fp) WF elt t) (hs : ∀ x, foldedSetIterable iter X.env x = pure x := by intro _; rfl) :
    MS X W (.Assign [.Name y py] (.ListComp elt [⟨tg, iter, ifs, 0⟩] scope pos) spos) (sAsg (bName i) (eLst (lLc it b (own.map (·.2)) c t))) := by
  refine ⟨_, L2.ps_setLc (i := i) (g := canG X.K b (own.map (·.2))) (wi := canI X.K W it) hc hN hy hyl hsw hi.can ok (fun s H C cl fp => (hg s H C cl fp).can) (tt := canT X.K WF c) (te := canE X.K WF t) (fun s H C cl fp => ht s H C cl fp) (fun s H C cl fp => (he s H C cl fp).can) hs, fun B ρ env st σ H D R h => ?_⟩
  refine lc_reads hb R (ROk.mono (ROk.bind (SOk.toS h)) fun l ρ1 st1 H1 E1 h1 p xs H2 np e2 hl rxs => ?_)
  subst e2
  have EE : EPost X.K B ρ1 env σ H1 ρ1 st1 (upd H1 p (.lst xs)) := .ext E1.rep (.new np)
  have h1 := h1 ρ1 _ EE
  dsimp only at h1
  unfold bName at h1
  by_cases hl2 : i < env.length
  · rw [if_pos hl2] at h1
    exact h1 ρ1 _ _ (EE.rep.setVal hl2 (mk_lst (E1.rep.fresh np) upd_same hl (EE.post.rvs rxs)))
  · rw [if_neg hl2] at h1
    exact h1.elim
/-- .. as a list of its own -/
theorem ms_setLcO (hb : BOk b (own.map (·.2))) (hc : X.calm = true) (hN : X.N.Nodup) (hy : X.N[i]? = some y) (hyl : X.env.scope.names.lookup y = some .local)
    (hsw : swapsWith (.ListComp elt [⟨tg, iter, ifs, 0⟩] scope pos) (some (.Name y py)) spos.line X.env = pure true) (hi : MIc X W tg iter it) (ok : BlkOk X.N X.env.scope scope own)
    (hg : ∀ (s : Shared) (H : Hp) (C : Addr) (cl : List (Str × Addr)) (fp : List Addr), MG (X.blk s H scope (compEnvC scope cl C X.env) fp) tg b (own.map (·.2)))
    (ht : ∀ (s : Shared) (H : Hp) (C : Addr) (cl : List (Str × Addr)) (fp : List Addr), MTs (X.blk s H scope (compEnvC scope cl C X.env) fp) WF ifs c)
    (he : ∀ (s : Shared) (H : Hp) (C : Addr) (cl : List (Str × Addr)) (fp : List Addr), ME (X.blk s H scope (compEnvC scope cl C X.env) fp) WF elt t) (hs : ∀ x, foldedSetIterable iter X.env x = pure x := by intro _; rfl) :
    MS X W (.Assign [.Name y py] (.ListComp elt [⟨tg, iter, ifs, 0⟩] scope pos) spos) (sAsgO i (lLc it b (own.map (·.2)) c t)) := by
  refine ⟨_, L2.ps_setLc (i := i) (g := canG X.K b (own.map (·.2))) (wi := canI X.K W it) hc hN hy hyl hsw hi.can ok (fun s H C cl fp => (hg s H C cl fp).can) (tt := canT X.K WF c) (te := canE X.K WF t) (fun s H C cl fp => ht s H C cl fp) (fun s H C cl fp => (he s H C cl fp).can) hs, fun B ρ env st σ H D R h => ?_⟩
  refine lc_reads hb R (ROk.mono (SOk.toS h) fun l ρ1 st1 H1 E1 h1 p xs H2 np e2 hl rxs => ?_)
  subst e2
  by_cases hl2 : i < env.length
  · rw [if_pos hl2] at h1
    exact h1 ρ1 _ _ (E1.rep.setOwn hl2 np hl rxs)
  · rw [if_neg hl2] at h1
    exact h1.elim
end
/-! ### loops -/
section
variable {K : PySem.W.Frag} {W : WX} {B : Addr → Prop} {ρ : List Addr} {env : Env} {st : Sto} {σ : L2.St} {H : Hp} {D : Ends}
/-- one item's turn, then the others' -/
theorem for_turn {b : BF} {t : SF} {x : PV} {xs : List PV} {env1 : Env} {P : St → Hp → Prop} (hb : b x env = some env1) (h : SOk K W B ρ env σ H (forLoop b t (x :: xs) env st) D)
    (hP : ∀ {e2 st2 ρ2 σ2 H2}, Post K B ρ env σ H ρ2 e2 st2 σ2 H2 → SOk K W B ρ2 e2 σ2 H2 (forLoop b t xs e2 st2) D → P σ2 H2) : SOk K W B ρ env σ H (t env1 st) { D with nx := P, ct := P, bk := D.nx } := by
  unfold forLoop at h
  rw [hb] at h
  dsimp only at h
  cases ht : t env1 st with
  | nx e2 st2 => rw [ht] at h; exact fun ρ2 σ2 H2 P2 => hP P2 (SOk.shift P2 h)
  | ct e2 st2 => rw [ht] at h; exact fun ρ2 σ2 H2 P2 => hP P2 (SOk.shift P2 h)
  | bk e2 st2 => rw [ht] at h; exact h
  | rt v st2 => rw [ht] at h; exact h
  | exc x e2 st2 => rw [ht] at h; exact h
  | stuck => rw [ht] at h; exact h
end
section
variable {X : Cx} {W : WX} {tg iter c : Expr} {body : List Stmt} {it : EF (List PV)} {b : BF} {vs : List Nat} {t : SF} {fc : EF Bool} {pos : Pos}
theorem ms_for (hp : PassesOwn (model X.prog X.w) X.A X.env X.xe) (hc : X.calm = true) (hi : MI X W tg iter it) (hg : MG X tg b vs) (hb : MSs X W body t) (hs : ∀ x, foldedSetIterable iter X.env x = pure x := by intro _; rfl) : MS X W (.For tg iter body [] pos) (sFor it b t) := by
  obtain ⟨wi, pi, qi⟩ := hi
  obtain ⟨hbok, g, pg, qg⟩ := hg
  obtain ⟨tb, pb, qb⟩ := hb
  refine ⟨_, ps_for hp hc pi pg pb hs, fun B ρ env st σ H D R h => ?_⟩
  refine qi B ρ env st σ H _ R (ROk.mono (SOk.toS h) fun items ρ1 st1 H1 E1 h1 J H1' EX IT => ?_)
  have EE : EPost X.K B ρ1 env σ H1 ρ1 st1 H1' := .ext E1.rep EX
  have h1 := SOk.shift EE.post h1
  let Pw : Nat → L2.St → Hp → Prop := fun i σi Hi => ∃ ρi ei sti, Post X.K B ρ1 env σ H1' ρi ei sti σi Hi ∧ SOk X.K W B ρi ei σi Hi (forLoop b t (items.drop i) ei sti) D
  refine ⟨fun i m σi Hi => m = items.length - i ∧ i ≤ items.length ∧ Pw i σi Hi, ⟨items.length, by simp, Nat.zero_le _, ρ1, env, st1, .refl EE.rep, by rw [List.drop_zero]; exact h1⟩, ?_⟩
  rintro i m σi Hi ⟨rfl, hi, ρi, ei, sti, Pi, hk⟩
  have kp : Keep (Excl B ρ1 env σ) H1' Hi := Pi.later.keep
  by_cases hlt : i < items.length
  · refine .inr ⟨IT.go i Hi hlt kp, fun σ' H' => ∃ m', m' < items.length - i ∧ (m' = items.length - (i + 1) ∧ i + 1 ≤ items.length ∧ Pw (i + 1) σ' H'), fun σ' H' h' => h', fun x Hy hy => ?_⟩
    obtain ⟨EY, ry⟩ := IT.yld i Hi x Hy hlt kp hy
    have hitem : items[i]? = some items[i] := List.getElem?_eq_getElem hlt
    have rx := ry items[i] _ ρi hitem Pi.later
    have EYp : EPost X.K B ρi ei σi Hi ρi sti Hy := .ext Pi.rep EY
    rw [List.drop_eq_getElem_cons hlt] at hk
    have hk := SOk.shift EYp.post hk
    cases hbv : b items[i] ei with
    | none => unfold forLoop at hk; rw [hbv] at hk; exact hk.elim
    | some env2 =>
      refine qg B ρi ei sti σi Hy items[i] x env2 _ EYp.rep rx hbv fun σ2 P2 _ _ => ?_
      refine qb B ρi env2 sti σ2 Hy _ P2.rep (SOk.shift P2 (for_turn hbv hk fun {e3 st3 ρ3 σ3 H3} P3 h3 => ?_))
      exact ⟨items.length - (i + 1), by omega, rfl, hlt, ρ3, e3, st3, (Pi.trans EYp.post).trans P3, h3⟩
  · have ei' : i = items.length := by omega
    subst ei'
    rw [List.drop_length] at hk
    exact .inl ⟨IT.stop Hi kp, hk ρi σi Hi (.refl Pi.rep)⟩
theorem ms_while {n : Nat} (hp : PassesOwn (model X.prog X.w) X.A X.env X.xe) (hc : MT X W c fc) (hb : MSs X W body t) : MS X W (.While c body [] pos) (sWhile n fc t) := by
  obtain ⟨tc, pc, qc⟩ := hc
  obtain ⟨tb, pb, qb⟩ := hb
  refine ⟨_, ps_while hp pc pb, fun B ρ env st σ H D R h => ?_⟩
  refine ⟨fun m σi Hi => ∃ ρi ei sti, Post X.K B ρ env σ H ρi ei sti σi Hi ∧ SOk X.K W B ρi ei σi Hi (whileLoop fc t m ei sti) D, ⟨n, ρ, env, st, .refl R, h⟩, ?_⟩
  rintro m σi Hi ⟨ρi, ei, sti, Pi, hk⟩
  cases m with
  | zero => exact hk.elim
  | succ m =>
    unfold whileLoop at hk
    refine qc B ρi ei sti σi Hi _ Pi.rep (ROk.mono (SOk.toS hk) fun k ρ1 st1 H1 E1 h1 => ?_)
    cases k with
    | false =>
      rw [if_neg Bool.false_ne_true]
      rw [if_neg Bool.false_ne_true] at h1
      exact h1 ρ1 σi H1 (.refl E1.rep)
    | true =>
      rw [if_pos rfl]
      rw [if_pos rfl] at h1
      refine ⟨fun σ' H' => ∃ m', m' < m + 1 ∧ ∃ ρi ei sti, Post X.K B ρ env σ H ρi ei sti σ' H' ∧ SOk X.K W B ρi ei σ' H' (whileLoop fc t m' ei sti) D, fun σ' H' h' => h', ?_⟩
      refine qb B ρ1 ei st1 σi H1 _ E1.rep ?_
      cases ht : t ei st1 with
      | nx e2 st2 => rw [ht] at h1; exact fun ρ2 σ2 H2 P2 => ⟨m, by omega, ρ2, e2, st2, (Pi.trans E1.post).trans P2, SOk.shift P2 h1⟩
      | ct e2 st2 => rw [ht] at h1; exact fun ρ2 σ2 H2 P2 => ⟨m, by omega, ρ2, e2, st2, (Pi.trans E1.post).trans P2, SOk.shift P2 h1⟩
      | bk e2 st2 => rw [ht] at h1; exact h1
      | rt v st2 => rw [ht] at h1; exact h1
      | exc x e2 st2 => rw [ht] at h1; exact h1
      | stuck => rw [ht] at h1; exact h1
end
end PL
/-! PLg: lists that change; things of the store; defs and their calls. -/
namespace PL
open PySem PySem.Spec L2
section
variable {K : PySem.W.Frag} {B : Addr → Prop} {ρ : List Addr} {env : Env} {st : Sto} {σ : L2.St} {H : Hp}
theorem own_same {i : Nat} {l m : List PV} (e : env[i]? = some (.own l)) (a : Addr) : Owned (env.set i (.own m)) σ a ↔ Owned env σ a := by
  have hi : i < env.length := (List.getElem?_eq_some_iff.mp e).1
  constructor
  · rintro ⟨j, k, h1, h2⟩
    by_cases hj : i = j
    · subst hj
      exact ⟨i, l, e, h2⟩
    · rw [List.getElem?_set_ne hj] at h1
      exact ⟨j, k, h1, h2⟩
  · rintro ⟨j, k, h1, h2⟩
    by_cases hj : i = j
    · subst hj
      exact ⟨i, m, List.getElem?_set_self hi, h2⟩
    · exact ⟨j, k, by rw [List.getElem?_set_ne hj]; exact h1, h2⟩
/-- a name's own list is written -/
theorem Rep.ownWrite (R : Rep K B ρ env st σ H) {i : Nat} {l m : List PV} {a : Addr} {ys : List V} (e : env[i]? = some (.own l)) (ea : σ[i]? = some (some (.ref a))) (hl : ys.length ≤ LINE) (r : RVs K (Excl B ρ env σ) ρ H m ys) :
    Post K B ρ env σ H ρ (env.set i (.own m)) st σ (upd H a (.lst ys)) := by
  have hi : i < env.length := (List.getElem?_eq_some_iff.mp e).1
  have oa : Owned env σ a := ⟨i, l, e, ea⟩
  obtain ⟨n1, n2⟩ := R.oR a oa
  have EQ : Excl B ρ (env.set i (.own m)) σ = Excl B ρ env σ := funext fun b => propext (by unfold Excl; rw [own_same e])
  have k1 : ∀ b u, H b = some u → ¬ Excl B ρ env σ b → (upd H a (.lst ys)) b = some u := fun b u h n => by
    rw [upd_ne (fun z => n (by rw [z]; exact .inr (.inr oa)))]
    exact h
  have tr : ∀ b, H b ≠ none → (upd H a (.lst ys)) b ≠ none := fun b h => by
    by_cases hb : b = a
    · rw [hb, upd_same]
      exact fun z => by cases z
    · rw [upd_ne hb]
      exact h
  refine ⟨⟨by rw [List.length_set]; exact R.lenE, R.lenC, R.nd, fun n c b h1 h2 => ?_, fun b h => tr b (R.rT b h), R.rB, fun b h => tr b (R.bT b h), fun j ev h => ?_, fun b h => R.oR b ((own_same e b).mp h), fun j k l1 l2 b h1 h2 h3 h4 => ?_⟩,
    List.prefix_rfl, fun b u h _ n => ?_, tr, fun _ h n => absurd h n, fun b h => .inl ((own_same e b).mp h)⟩
  · have q := R.cell n c b h1 h2
    rw [EQ]
    exact q.carry (fun _ _ _ z => z) k1 List.prefix_rfl fun o q1 => by rw [upd_ne (fun z => n1 (by rw [← z]; exact List.mem_of_getElem? h2))]; exact q1
  · rw [EQ]
    by_cases hj : i = j
    · subst hj
      rw [List.getElem?_set_self hi] at h
      cases h
      exact ⟨a, ys, ea, upd_same, hl, RVs.carry (fun _ _ _ z => z) k1 List.prefix_rfl _ _ r⟩
    · rw [List.getElem?_set_ne hj] at h
      have q := R.slot j ev h
      cases ev with
      | non => trivial
      | val p =>
        obtain ⟨v, q1, q2⟩ := q
        exact ⟨v, q1, RV.carry (fun _ _ _ z => z) k1 List.prefix_rfl _ _ q2⟩
      | own k =>
        obtain ⟨b, xs, q0, q1, q2, q3⟩ := q
        have nb : b ≠ a := fun z => hj (R.sep i j l k a e h ea (by rw [← z]; exact q0))
        exact ⟨b, xs, q0, by rw [upd_ne nb]; exact q1, q2, RVs.carry (fun _ _ _ z => z) k1 List.prefix_rfl _ _ q3⟩
  · have no : ∀ (j : Nat) (k : List PV), (env.set i (EV.own m))[j]? = some (EV.own k) → ∃ k', env[j]? = some (EV.own k') := fun j k h => by
      by_cases hj : i = j
      · subst hj
        exact ⟨l, e⟩
      · rw [List.getElem?_set_ne hj] at h
        exact ⟨k, h⟩
    obtain ⟨k1, e1⟩ := no j l1 h1
    obtain ⟨k2, e2⟩ := no k l2 h2
    exact R.sep j k k1 k2 b e1 e2 h3 h4
  · rw [upd_ne (fun z => n (by rw [z]; exact oa))]
    exact h
/-- a list of the store is written -/
theorem Rep.cellWrite (R : Rep K B ρ env st σ H) {n : Nat} {l m : List PV} {a : Addr} {ys : List V} (e : st[n]? = some (.lst l)) (ea : ρ[n]? = some a) (hl : ys.length ≤ LINE) (r : RVs K (Excl B ρ env σ) ρ H m ys) :
    Post K B ρ env σ H ρ env (st.set n (.lst m)) σ (upd H a (.lst ys)) := by
  have hn : n < st.length := (List.getElem?_eq_some_iff.mp e).1
  have ra : a ∈ ρ := List.mem_of_getElem? ea
  have k1 : ∀ b u, H b = some u → ¬ Excl B ρ env σ b → (upd H a (.lst ys)) b = some u := fun b u h n => by
    rw [upd_ne (fun z => n (by rw [z]; exact .inr (.inl ra)))]
    exact h
  have tr : ∀ b, H b ≠ none → (upd H a (.lst ys)) b ≠ none := fun b h => by
    by_cases hb : b = a
    · rw [hb, upd_same]
      exact fun z => by cases z
    · rw [upd_ne hb]
      exact h
  refine ⟨⟨R.lenE, by rw [List.length_set]; exact R.lenC, R.nd, fun k c b h1 h2 => ?_, fun b h => tr b (R.rT b h), R.rB, fun b h => tr b (R.bT b h), fun j ev h => ?_, R.oR, R.sep⟩,
    List.prefix_rfl, fun b u h n _ => ?_, tr, fun _ h n => absurd h n, fun b h => .inl h⟩
  · by_cases hk : n = k
    · subst hk
      rw [List.getElem?_set_self hn] at h1
      cases h1
      rw [ea] at h2
      cases h2
      exact ⟨ys, upd_same, hl, RVs.carry (fun _ _ _ z => z) k1 List.prefix_rfl _ _ r⟩
    · rw [List.getElem?_set_ne hk] at h1
      have q := R.cell k c b h1 h2
      have nb : b ≠ a := fun z => hk (by
        subst z
        obtain ⟨g1, e1⟩ := List.getElem?_eq_some_iff.mp ea
        obtain ⟨g2, e2⟩ := List.getElem?_eq_some_iff.mp h2
        exact (List.getElem_inj R.nd).mp (e1.trans e2.symm))
      exact q.carry (fun _ _ _ z => z) k1 List.prefix_rfl fun o q1 => by rw [upd_ne nb]; exact q1
  · have q := R.slot j ev h
    cases ev with
    | non => trivial
    | val p =>
      obtain ⟨v, q1, q2⟩ := q
      exact ⟨v, q1, RV.carry (fun _ _ _ z => z) k1 List.prefix_rfl _ _ q2⟩
    | own k =>
      obtain ⟨b, xs, q0, q1, q2, q3⟩ := q
      have nb : b ≠ a := fun z => (R.oR b ⟨j, k, h, q0⟩).1 (by rw [z]; exact ra)
      exact ⟨b, xs, q0, by rw [upd_ne nb]; exact q1, q2, RVs.carry (fun _ _ _ z => z) k1 List.prefix_rfl _ _ q3⟩
  · rw [upd_ne (fun z => n (by rw [z]; exact ra))]
    exact h
end
section
variable {X : Cx} {W : WX} {e o k a b : Expr} {es : List Expr} {fe fo fk fa fb : EF PV} {fl g : EF (List PV)} {pos apos cpos pos' : Pos} {i : Nat} {x : Str}
/-- x.append(e), x's own list -/
theorem ms_app (h : ME X W e fe) (hN : X.N[i]? = some x) (hv : Vis X.env.scope x) (hd : (x == ("__debug__" : Str)) = false := by decide) (hcd : (x == ("__classdict__" : Str)) = false := by decide)
    (hbase : attributeBase (.Name x pos') "append" X.env (eval (.Name x pos') X.env) = eval (.Name x pos') X.env := by rfl)
    (hfew : ((backTo cpos (starEach [e] X.env)).all (fun x => !x.1) && (backToKw cpos (keywordEach [] X.env)).all (fun x => x.1.isSome) && decide ([e].length + ([] : List Keyword).length + (if ([] : List Keyword).isEmpty then 0 else 1) < 30)) = true := by rfl)
    (hline : (apos.endLine == cpos.line) = true := by rfl) (hs : starEach [e] X.env = (false, eval e X.env) :: starEach [] X.env := by rfl) (hplain : (backTo cpos (starEach [] X.env)).any (·.1) = false := by rfl)
    (hsw : swapsWith (.Call (.Attribute (.Name x pos') "append" apos) [e] [] cpos) none pos.line X.env = pure false := by rfl) :
    MS X W (.Expr (.Call (.Attribute (.Name x pos') "append" apos) [e] [] cpos) pos) (sApp i fe) := by
  obtain ⟨t, p, q⟩ := h
  refine ⟨_, ps_expr (pe_bm PySem.F.plainAttrs_list PySem.F.slot_list_append PySem.F.type_list_append mt_append (pe_var hN hv hd hcd) (pa_cons p pa_nil hs) hbase hfew hline hs hplain) hsw, fun B ρ env st σ H D R h => ?_⟩
  unfold sApp at h
  cases e0 : env[i]? with
  | none => rw [e0] at h; exact h.elim
  | some ev =>
    rw [e0] at h
    cases ev with
    | non => exact h.elim
    | val _ => exact h.elim
    | own l =>
      obtain ⟨z, xs, h1, h2, h3, h4⟩ := R.slot i _ e0
      refine ⟨.ref z, h1, .inl ⟨rfl, xs, SqL.of h2⟩, ?_⟩
      refine q B ρ env st σ H _ R (ROk.mono (SOk.toS h) fun v ρ1 st1 H1 E1 k1 u ru => ?_)
      obtain ⟨z', xs', g1, g2, g3, g4⟩ := E1.rep.slot i _ e0
      rw [h1] at g1
      cases g1
      by_cases hl : l.length < LINE
      · rw [if_pos hl] at k1
        have hl2 : (xs' ++ [u]).length ≤ LINE := by rw [List.length_append, g4.len, List.length_singleton]; omega
        exact ⟨z, xs', u, rfl, rfl, g2, by rw [← LINE_eq, g4.len]; exact hl, k1 ρ1 σ _ (E1.rep.ownWrite e0 h1 hl2 (g4.append (.cons ru .nil)))⟩
      · rw [if_neg hl] at k1
        exact k1.elim
/-- x.extend([..]), x's own list -/
theorem ms_ext (h : ML X W e fl) (hN : X.N[i]? = some x) (hv : Vis X.env.scope x) (hd : (x == ("__debug__" : Str)) = false := by decide) (hcd : (x == ("__classdict__" : Str)) = false := by decide)
    (hbase : attributeBase (.Name x pos') "extend" X.env (eval (.Name x pos') X.env) = eval (.Name x pos') X.env := by rfl)
    (hfew : ((backTo cpos (starEach [e] X.env)).all (fun x => !x.1) && (backToKw cpos (keywordEach [] X.env)).all (fun x => x.1.isSome) && decide ([e].length + ([] : List Keyword).length + (if ([] : List Keyword).isEmpty then 0 else 1) < 30)) = true := by rfl)
    (hline : (apos.endLine == cpos.line) = true := by rfl) (hs : starEach [e] X.env = (false, eval e X.env) :: starEach [] X.env := by rfl) (hplain : (backTo cpos (starEach [] X.env)).any (·.1) = false := by rfl)
    (hsw : swapsWith (.Call (.Attribute (.Name x pos') "extend" apos) [e] [] cpos) none pos.line X.env = pure false := by rfl) :
    MS X W (.Expr (.Call (.Attribute (.Name x pos') "extend" apos) [e] [] cpos) pos) (sExt i fl) := by
  obtain ⟨t, p, q⟩ := h
  refine ⟨_, ps_expr (pe_bm PySem.F.plainAttrs_list PySem.F.slot_list_extend PySem.F.type_list_extend mt_extend (pe_var hN hv hd hcd) (pa_cons p pa_nil hs) hbase hfew hline hs hplain) hsw, fun B ρ env st σ H D R h => ?_⟩
  unfold sExt at h
  cases e0 : env[i]? with
  | none => rw [e0] at h; exact h.elim
  | some ev =>
    rw [e0] at h
    cases ev with
    | non => exact h.elim
    | val _ => exact h.elim
    | own l =>
      obtain ⟨z, xs, h1, h2, h3, h4⟩ := R.slot i _ e0
      refine ⟨.ref z, h1, .inl ⟨rfl, xs, SqL.of h2⟩, ?_⟩
      refine q B ρ env st σ H _ R (ROk.mono (SOk.toS h) fun m ρ1 st1 H1 E1 k1 p ys H2 np e2 hly rys => ?_)
      subst e2
      have EE : EPost X.K B ρ1 env σ H1 ρ1 st1 (upd H1 p (.lst ys)) := .ext E1.rep (.new np)
      have k1 := SOk.shift EE.post k1
      have rys := EE.post.rvs rys
      obtain ⟨z', xs', g1, g2, g3, g4⟩ := EE.rep.slot i _ e0
      rw [h1] at g1
      cases g1
      by_cases hl : l.length + m.length ≤ LINE
      · rw [if_pos hl] at k1
        have hl2 : (xs' ++ ys).length ≤ LINE := by rw [List.length_append, g4.len, rys.len]; exact hl
        exact ⟨z, p, xs', ys, rfl, rfl, g2, upd_same, by rw [← LINE_eq, ← List.length_append]; exact hl2, k1 ρ1 σ _ (EE.rep.ownWrite e0 h1 hl2 (g4.append rys))⟩
      · rw [if_neg hl] at k1
        exact k1.elim
/-- a[k] = v, a thing of the store -/
theorem ms_setG (he : ME X W e fe) (ho : ME X W o fo) (hk : ME X W k fk)
    (ha : ∀ v, assign (.Subscript o k pos') X.env v = (do
      let ov ← holding [v] (eval o X.env)
      let iv ← holding [v, ov] (eval k X.env)
      standAt pos'
      holding [v, ov, iv] (setItem ov iv v)
      release [v, ov, iv] []) := by intro _; rfl)
    (hs : swapsWithSole [.Subscript o k pos'] e pos.line X.env = pure false := by rfl) (hw : swappedStores [.Subscript o k pos'] e X.env = pure none := by rfl)
    (h1 : (assignEach [.Subscript o k pos'] X.env).map (·.2) = [assign (.Subscript o k pos') X.env] := by rfl) : MS X W (.Assign [.Subscript o k pos'] e pos) (sSetG fo fk fe) := by
  obtain ⟨t1, p1, q1⟩ := he
  obtain ⟨t2, p2, q2⟩ := ho
  obtain ⟨t3, p3, q3⟩ := hk
  refine ⟨_, ps_asg p1 (pg_sub p2 p3 set_list ha) hs hw h1, fun B ρ env st σ H D R h => ?_⟩
  refine q1 B ρ env st σ H _ R (ROk.mono (SOk.toS h) fun v ρ1 st1 H1 E1 h1 u ru => ?_)
  refine q2 B ρ1 env st1 σ H1 _ E1.rep (ROk.mono (SOk.toS h1) fun a ρ2 st2 H2 E2 h2 w rw' => ?_)
  refine q3 B ρ2 env st2 σ H2 _ E2.rep (ROk.mono (SOk.toS h2) fun c ρ3 st3 H3 E3 h3 y ry => ?_)
  cases a with
  | gl n =>
    cases c with
    | int j =>
      dsimp only at h3
      cases es : st3[n]? with
      | none => rw [es] at h3; exact h3.elim
      | some cl =>
        rw [es] at h3
        cases cl with
        | dead => exact h3.elim
        | ins _ _ _ => exact h3.elim
        | lst l =>
          dsimp only at h3
          cases ei : ixN l.length j with
          | none => rw [ei] at h3; exact h3.elim
          | some jj =>
            rw [ei] at h3
            obtain ⟨z, rfl, hz⟩ := rv_gl (E3.post.rv rw')
            have ey := rv_int ry
            subst ey
            obtain ⟨xs, c1, c2, c3⟩ := E3.rep.cell n _ z es hz
            refine ⟨z, xs, j, jj, rfl, rfl, c1, by rw [c3.len]; exact ei, h3 ρ3 σ _ (E3.rep.cellWrite es hz (by rw [List.length_set]; exact c2) (RVs.set ((E2.trans E3).post.rv ru) jj c3))⟩
    | _ => exact h3.elim
  | _ => cases c <;> exact h3.elim
/-! ### a[k] -/
theorem atI_rv {K : PySem.W.Frag} {N : Addr → Prop} {ρ : List Addr} {H : Hp} {l : List PV} {xs : List V} {j : Int} {p : PV} (r : RVs K N ρ H l xs) (h : atI l j = some p) : ∃ v, atI xs j = some v ∧ RV K N ρ H p v := by
  unfold atI at h ⊢
  rw [r.len]
  cases e : ixN l.length j with
  | none => rw [e] at h; cases h
  | some n =>
    rw [e] at h
    exact r.get h
theorem m_ixs (ha : MB X W a fa) (hb : ME X W b fb) (hs : PlainIx b) : ME X W (.Subscript a b pos) (eIx fa fb) := by
  obtain ⟨ta, pa, qa⟩ := ha
  obtain ⟨tb, pb, qb⟩ := hb
  refine ⟨_, pe_ix ix_seq pa pb hs, fun B ρ env st σ H Q R h => ?_⟩
  refine qa B ρ env st σ H _ R (ROk.mono (ROk.bind h) fun p ρ1 st1 H1 E1 h1 x rx => ?_)
  refine qb B ρ1 env st1 σ H1 _ E1.rep (ROk.mono (ROk.bind h1) fun c ρ2 st2 H2 E2 h2 y ry => ?_)
  cases c with
  | int j =>
    have ey := rv_int ry
    subst ey
    obtain ⟨z, e, hz⟩ := ROk.of E2.rep h2
    have rx2 := (RVl.on E2 E2.fr rx).1
    cases p with
    | tup l =>
      obtain ⟨t, xs, rfl, g1, g2, g3⟩ := rvb_tup rx2
      obtain ⟨v, e1, r1⟩ := atI_rv g3 e
      exact .inr (.inl ⟨t, xs, j, v, rfl, rfl, g1.sq, e1, hz H2 Ext.refl v r1⟩)
    | lst l =>
      obtain ⟨t, xs, rfl, g1, g2, g3⟩ := rvb_lst rx2
      obtain ⟨v, e1, r1⟩ := atI_rv g3 e
      exact .inl ⟨t, xs, j, v, rfl, rfl, SqL.of g1, e1, hz H2 Ext.refl v r1⟩
    | scr l =>
      obtain ⟨t, rfl, g1⟩ := rvb_scr rx2
      have e : (atI l j).map PV.int = some z := e
      cases e1 : atI l j with
      | none => rw [e1] at e; cases e
      | some m =>
        rw [e1] at e
        cases e
        have e2 : atI (l.map V.int) j = some (.int m) := by
          unfold atI at e1 ⊢
          rw [List.length_map]
          cases e3 : ixN l.length j with
          | none => rw [e3] at e1; cases e1
          | some n =>
            rw [e3] at e1
            have e1 : l[n]? = some m := e1
            show (l.map V.int)[n]? = some (.int m)
            rw [List.getElem?_map, e1]
            rfl
        exact .inl ⟨t, _, j, .int m, rfl, rfl, g1.sq, e2, hz H2 Ext.refl _ mk_int⟩
    | gl n =>
      obtain ⟨t, rfl, g1⟩ := rv_gl (show RV X.K (Excl B ρ2 env σ) ρ2 H2 (PV.gl n) x from rx2)
      have e : (match st2[n]? with
        | some (.lst l) => atI l j
        | _ => none) = some z := e
      cases e1 : st2[n]? with
      | none => rw [e1] at e; cases e
      | some cl =>
        rw [e1] at e
        cases cl with
        | dead => cases e
        | ins _ _ _ => cases e
        | lst l =>
          obtain ⟨xs, c1, c2, c3⟩ := E2.rep.cell n _ t e1 g1
          obtain ⟨v, e3, r1⟩ := atI_rv c3 e
          exact .inl ⟨t, xs, j, v, rfl, rfl, SqL.of c1, e3, hz H2 Ext.refl v r1⟩
    | non => cases e
    | ins _ _ _ => cases e
    | bl _ => cases e
    | int _ => cases e
    | str _ => cases e
  | _ => exact h2.elim
end
/-! ### defs -/
/-- a def's promise: it computes F -/
def spF (K : PySem.W.Frag) (n : Nat) (F : Fn) : Sp := fun vs H Q E => ∃ B ρ st ps, Rep K B ρ [] st [] H ∧ RVs K (Excl B ρ [] []) ρ H ps vs ∧ ps.length = n ∧
  ROk K (fun cls d _ H' => E cls d H') B ρ [] [] H (F ps st) fun p ρ' st' H' => ∀ u, RV K (Excl B ρ' [] []) ρ' H' p u → Q u H'
structure FnG (P : Program) (w : World) (K : PySem.W.Frag) (mg : Str → Option Value) (base : Heap) (k : Nat) (f : Addr) (fd : FuncData) (ps : List Str) (sp : Sp) : Prop where
  len : ∀ vs H Q E, sp vs H Q E → vs.length = ps.length
  run : ∀ (A : Around) (outer : List PySem.Env) (s : Shared) (H : Hp) (args : Args) (us : List Value) (vs : List V) (Q : VK) (E : XK), Room k A → A.guards = some [] → Env0 P w K mg base A outer s H →
    BindsTo s fd args (ps.zip us) → Vals vs us → sp vs H Q E → codeAny (model P w) A (.call (.ref f) args) (CR (L2.CX P w) outer P w H s Q E) s
/-- a def by its name, what it computes -/
def Cal (P : Program) (w : World) (K : PySem.W.Frag) (mg : Str → Option Value) (base : Heap) (k : Nat) (x : Str) (ps : List Str) (F : Fn) : Prop :=
  ∃ f fd, FnG P w K mg base k f fd ps (spF K ps.length F) ∧ mg x = some (.ref f) ∧ PySem.W.keepIn K (.ref f) = true ∧ Binds K fd ps []
section
variable {P : Program} {w : World} {K : PySem.W.Frag} {mg : Str → Option Value} {base : Heap} {B : Addr → Prop} {ρ ρ' : List Addr} {env : Env} {st st' : Sto} {σ : L2.St} {H H' : Hp}
theorem FnG.mono {j k : Nat} {f : Addr} {fd : FuncData} {ps : List Str} {sp : Sp} (F : FnG P w K mg base j f fd ps sp) (h : j ≤ k) : FnG P w K mg base k f fd ps sp :=
  ⟨F.len, fun A outer s H args us vs Q E hr hg => F.run A outer s H args us vs Q E (hr.mono h) hg⟩
theorem Cal.mono {j k : Nat} {x : Str} {ps : List Str} {F : Fn} (c : Cal P w K mg base j x ps F) (h : j ≤ k) : Cal P w K mg base k x ps F := by
  obtain ⟨f, fd, c1, c2⟩ := c
  exact ⟨f, fd, c1.mono h, c2⟩
/-- what a callee must leave -/
def Outer (B : Addr → Prop) (env : Env) (σ : L2.St) (a : Addr) : Prop := B a ∨ Owned env σ a
theorem no_own {a : Addr} : ¬ Owned [] ([] : L2.St) a := fun ⟨j, m, e, _⟩ => by simp at e
theorem excl_outer : Excl (Outer B env σ) ρ [] [] = Excl B ρ env σ := by
  funext a
  refine propext ⟨fun h => ?_, fun h => ?_⟩
  · rcases h with (h | h) | h | h
    · exact .inl h
    · exact .inr (.inr h)
    · exact .inr (.inl h)
    · exact (no_own h).elim
  · rcases h with h | h | h
    · exact .inl (.inl h)
    · exact .inr (.inl h)
    · exact .inl (.inr h)
theorem Rep.call (R : Rep K B ρ env st σ H) : Rep K (Outer B env σ) ρ [] st [] H := by
  refine ⟨rfl, R.lenC, R.nd, fun n c a h1 h2 => ?_, R.rT, fun a h z => ?_, fun a h => ?_, fun i e h => by simp at h, fun a h => (no_own h).elim, fun i j l l' a h => by simp at h⟩
  · rw [excl_outer]
    exact R.cell n c a h1 h2
  · rcases z with z | z
    · exact R.rB a h z
    · exact (R.oR a z).1 h
  · rcases h with h | h
    · exact R.bT a h
    · exact R.tr (.inr (.inr h))
theorem EPost.called (R : Rep K B ρ env st σ H) (E : EPost K (Outer B env σ) ρ [] [] H ρ' st' H') : EPost K B ρ env σ H ρ' st' H' :=
  ⟨Rep.back R E.rep E.pre E.kp E.fr (fun _ _ => rfl) (fun _ _ e _ => e) (fun a n => by rw [excl_outer]; exact n) fun a h z => E.rep.rB a h (.inl z), E.pre, E.kp, E.tr, E.fr⟩
end
section
variable {X : Cx} {W : WX} {k : Nat} {x : Str} {ps : List Str} {F : Fn} {p pos : Pos} {e : Expr} {es : List Expr} {g : EF (List PV)}
theorem ExR.imp {K : PySem.W.Frag} {N N' : Addr → Prop} {ρ : List Addr} {H : Hp} {y : Ex} {cls : Value} {d : Option Addr} (h : ExR K N ρ H y cls d) (e : N = N') : ExR K N' ρ H y cls d := by
  rw [← e]
  exact h
/-- the callee runs -/
theorem runG {pins : List (Addr × Obj)} {σ : L2.St} {H : Hp} {s : Shared} {Q : VK} {us : List Value} {vs : List V} {f : Addr} {fd : FuncData} {sp : Sp} (G : FnG X.prog X.w X.K X.mg X.base k f fd ps sp) (hr : Room k X.A) (hgd : X.A.guards = some []) (hb : Binds X.K fd ps []) (tk : Takes X W)
    (I : Inv X pins σ H s) (r : Vals vs us) (h : sp vs H Q fun cls d H' => W cls d σ H') : wpAny (model X.prog X.w) X.A (call (.ref f) us) (EP X pins σ Q) X.xe s := by
  have hl : (us ++ []).length = ps.length := by rw [List.append_nil, ← r.length]; exact G.len _ _ _ _ h
  have hb' := hb s us I.kIn hl
  rw [List.append_nil] at hb'
  refine wpAny_call (codeAny_mono (G.run X.A X.stack s H ⟨us, []⟩ us vs Q _ hr hgd I.env0 hb' r h) fun r s' hq => ?_)
  cases r with
  | error e => exact tk e s' (XE.of_call I (fun _ _ _ h => h) hq)
  | ok fl =>
    cases fl with
    | ret u => exact I.after hq
    | next => exact False.elim hq
    | brk => exact False.elim hq
    | cont => exact False.elim hq
theorem spF_of {K : PySem.W.Frag} {B : Addr → Prop} {ρ : List Addr} {env : Env} {st : Sto} {σ : L2.St} {H : Hp} {n : Nat} {Q : VK} {vl : List PV} {vs : List V} (R : Rep K B ρ env st σ H) (r : RVs K (Excl B ρ env σ) ρ H vl vs) (hn : vl.length = n)
    (h : ROk K W B ρ env σ H (F vl st) fun p ρ' st' H' => ∀ u, RV K (Excl B ρ' env σ) ρ' H' p u → Q u H') : spF K n F vs H Q fun cls d H' => W cls d σ H' := by
  refine ⟨Outer B env σ, ρ, st, vl, R.call, by rw [excl_outer]; exact r, hn, ?_⟩
  cases hF : F vl st with
  | ok v st' =>
    rw [hF] at h
    exact fun ρ' H' E u ru => h ρ' H' (.called R E) u (by rw [excl_outer] at ru; exact ru)
  | exc y st' =>
    rw [hF] at h
    exact fun ρ' H' cls d E hx => h ρ' H' cls d (.called R E) (hx.imp excl_outer)
  | stuck => rw [hF] at h; exact h.elim
theorem m_call (c : Cal X.prog X.w X.K X.mg X.base k x ps F) (hr : Room k X.A) (hgd : X.A.guards = some []) (tk : Takes X W) (hg : Gl X x) (ha : MA X W (e :: es) g) (hn : (e :: es).length = ps.length := by rfl) (hlen : ∀ en st l st', g en st = .ok l st' → l.length = (e :: es).length)
    (hdb : (x == ("__debug__" : Str)) = false := by decide) (he : starEach (e :: es) X.env = (false, eval e X.env) :: starEach es X.env := by rfl) (hpl : (backTo pos (starEach es X.env)).any (·.1) = false := by rfl) : ME X W (.Call (.Name x p) (e :: es) [] pos) (eCall F g) := by
  obtain ⟨f, fd, G, gm, kp, hb⟩ := c
  obtain ⟨t, pa, q⟩ := ha
  refine ⟨fun σ H Q => t σ H fun vs H1 => spF X.K ps.length F vs H1 Q fun cls d H' => W cls d σ H', ⟨fun pins s σ H Q I h => ?_⟩, fun B ρ env st σ H Q R h => ?_⟩
  · refine wpAny_Call_Name_kw (ld_glob I hg gm ?_ hdb)
    refine PySem.W.callWith_K (h₀ := X.base) I.ok.mod.kin kp (thn (pa.run pos pins s σ H _ I h) fun us s1 ⟨vs, H1, I1, r, q⟩ => ⟨I1.kIn, ?_⟩) he hpl
    exact runG G hr hgd hb tk I1 r q
  · refine q B ρ env st σ H _ R ?_
    have h := ROk.bind h
    cases hg : g env st with
    | ok l st' =>
      rw [hg] at h
      exact fun ρ1 H1 E1 us rus => spF_of E1.rep rus ((hlen _ _ _ _ hg).trans hn) (h ρ1 H1 E1)
    | exc y st' => rw [hg] at h; exact h
    | stuck => rw [hg] at h; exact h
theorem m_call0 (c : Cal X.prog X.w X.K X.mg X.base k x [] F) (hr : Room k X.A) (hgd : X.A.guards = some []) (tk : Takes X W) (hg : Gl X x) (hdb : (x == ("__debug__" : Str)) = false := by decide) : ME X W (.Call (.Name x p) [] [] pos) (eCall F aNil) := by
  obtain ⟨f, fd, G, gm, kp, hb⟩ := c
  refine ⟨fun σ H Q => spF X.K 0 F [] H Q fun cls d H' => W cls d σ H', ⟨fun pins s σ H Q I h => ?_⟩, fun B ρ env st σ H Q R h => ?_⟩
  · refine wpAny_Call_Name_kw (ld_glob I hg gm ?_ hdb)
    exact PySem.W.callWith_K0 I.kIn kp (runG (us := []) G hr hgd hb tk I .nil h)
  · exact spF_of R .nil rfl h
end
end PL
/-! PLh: a def by its body; the law at the end. -/
namespace PL
open PySem PySem.Spec L2
section
variable {P : Program} {w : World} {K : PySem.W.Frag} {mg : Str → Option Value} {base : Heap} {B : Addr → Prop} {ρ ρ' : List Addr} {env env' : Env} {st st' : Sto} {σ σ' : L2.St} {H H' : Hp}
theorem excl_drop {a : Addr} (h : Excl B ρ [] ([] : L2.St) a) : Excl B ρ env σ a := by
  rcases h with h | h | h
  · exact .inl h
  · exact .inr (.inl h)
  · exact (no_own h).elim
theorem Rep.drop (R : Rep K B ρ env st σ H) : Rep K B ρ [] st [] H := by
  refine ⟨rfl, R.lenC, R.nd, fun n c a h1 h2 => ?_, R.rT, R.rB, R.bT, fun i e h => by simp at h, fun a h => (no_own h).elim, fun i j l l' a h => by simp at h⟩
  have q := R.cell n c a h1 h2
  exact q.carry (fun a _ _ n => excl_drop n) (fun _ _ e _ => e) List.prefix_rfl fun o q1 => q1
theorem Post.drop (P : Post K B ρ env σ H ρ' env' st' σ' H') (no : ∀ a, ¬ Owned env σ a) : EPost K B ρ [] [] H ρ' st' H' :=
  ⟨P.rep.drop, P.pre, fun a o e n => P.kp a o e n (no a), P.tr, P.fr⟩
def env0 (m : Nat) (ps : List PV) : Env := ps.map .val ++ List.replicate (m - ps.length) .non
theorem no_own0 {m : Nat} {ps : List PV} {σ : L2.St} (a : Addr) : ¬ Owned (env0 m ps) σ a := by
  rintro ⟨j, l, h, _⟩
  unfold env0 at h
  by_cases hj : j < ps.length
  · rw [List.getElem?_append_left (by rw [List.length_map]; exact hj), List.getElem?_map] at h
    cases e : ps[j]? with
    | none => rw [e] at h; cases h
    | some p => rw [e] at h; cases h
  · rw [List.getElem?_append_right (by rw [List.length_map]; omega), List.getElem?_replicate] at h
    split at h <;> cases h
theorem Rep.enter {N : List Str} {ps : List PV} {vs : List V} (R : Rep K B ρ [] st [] H) (r : RVs K (Excl B ρ [] []) ρ H ps vs) (hn : ps.length ≤ N.length) : Rep K B ρ (env0 N.length ps) st (L2.start N vs) H := by
  have el := r.len
  have eq : ∀ a, Excl B ρ (env0 N.length ps) (L2.start N vs) a → Excl B ρ [] ([] : L2.St) a := fun a h => by
    rcases h with h | h | h
    · exact .inl h
    · exact .inr (.inl h)
    · exact (no_own0 a h).elim
  refine ⟨?_, R.lenC, R.nd, fun n c a h1 h2 => ?_, R.rT, R.rB, R.bT, fun i e h => ?_, fun a h => (no_own0 a h).elim, fun i j l l' a h1 h2 h3 h4 => (no_own0 a ⟨i, l, h1, h3⟩).elim⟩
  · unfold env0 L2.start
    simp only [List.length_append, List.length_map, List.length_replicate]
    omega
  · have q := R.cell n c a h1 h2
    exact q.carry (fun a _ _ n => eq a n) (fun _ _ e _ => e) List.prefix_rfl fun o q1 => q1
  · unfold env0 at h
    by_cases hj : i < ps.length
    · rw [List.getElem?_append_left (by rw [List.length_map]; exact hj), List.getElem?_map, List.getElem?_eq_getElem hj] at h
      cases h
      obtain ⟨v, h1, h2⟩ := r.get (List.getElem?_eq_getElem hj)
      refine ⟨v, ?_, RV.carry (fun a _ _ n => eq a n) (fun _ _ e _ => e) List.prefix_rfl _ _ h2⟩
      unfold L2.start
      rw [List.getElem?_append_left (by rw [List.length_map, el]; exact hj), List.getElem?_map, h1]
      rfl
    · rw [List.getElem?_append_right (by rw [List.length_map]; omega), List.getElem?_replicate] at h
      split at h
      · cases h; trivial
      · cases h
/-- the ways out of a body are those of its function -/
theorem sok_fn {W : WX} {E : XK} {ps : List PV} {σ0 : L2.St} {body : SF} {m : Nat} {Q : VK} (hE : ∀ cls d σ H, W cls d σ H = E cls d H)
    (h : ROk K (fun cls d _ H' => E cls d H') B ρ [] [] H (mkFn m body ps st) fun p ρ' st' H' => ∀ u, RV K (Excl B ρ' [] []) ρ' H' p u → Q u H') :
    SOk K W B ρ (env0 m ps) σ0 H (body (env0 m ps) st) { nx := fun _ H' => Q .non H', rt := Q } := by
  have h : ROk K (fun cls d _ H' => E cls d H') B ρ [] [] H (match body (env0 m ps) st with
    | .nx _ st => .ok .non st
    | .rt v st => .ok v st
    | .exc x _ st => .exc x st
    | _ => .stuck) fun p ρ' st' H' => ∀ u, RV K (Excl B ρ' [] []) ρ' H' p u → Q u H' := h
  cases hb : body (env0 m ps) st with
  | nx e st' => rw [hb] at h; exact fun ρ' σ' H' P => h ρ' H' (P.drop no_own0) _ mk_non
  | rt v st' => rw [hb] at h; exact fun ρ' e' σ' H' u P ru => h ρ' H' (P.drop no_own0) u ru
  | bk e st' => rw [hb] at h; exact h.elim
  | ct e st' => rw [hb] at h; exact h.elim
  | stuck => rw [hb] at h; exact h.elim
  | exc x e st' =>
    rw [hb] at h
    refine fun ρ' σ' H' cls d P hx => ?_
    rw [hE]
    refine h ρ' H' cls d (P.drop no_own0) ⟨hx.1, hx.2.imp id ?_⟩
    rintro ⟨dd, fvs, e1, e2, e3, e4⟩
    exact ⟨dd, fvs, e1, e2, e3, RVs.carry (fun a _ _ n => excl_drop n) (fun _ _ e _ => e) List.prefix_rfl _ _ e4⟩
abbrev WE (E : XK) : WX := fun cls d _ H' => E cls d H'
/-- THE RULE for a def -/
theorem fnG_of {k : Nat} {f : Addr} {fd : FuncData} {x qual : Str} {params : Arguments} {body : List Stmt} {scope : Scope} {dvs : List V} {kws : List (Str × V)} {N ps : List Str} {g : SF}
    (F : FunD K x qual params body scope dvs kws f fd) (S : FnScope N ps scope) (hN : Nat.ble ps.length N.length = true)
    (hbody : ∀ (cdv : Value) (A : Around) (outer : List PySem.Env) (s : Shared) (H : Hp) (E : XK), Room k (A.deeper (PyProof.Rows.envOfC qual scope s.heap.objs.size f cdv)) → A.guards = some [] →
      MSs (cxOf (L2.CX P w) P w K mg base N qual scope f cdv A outer s H E) (WE E) body g) : FnG P w K mg base (k + 1) f fd ps (spF K ps.length (mkFn N.length g)) := by
  obtain ⟨oc, od, dV, kV, doc, pm, an, cdv, ct, osl, rfl, lk, hcd, _, _⟩ := F.ex
  have len : ∀ vs H Q E, spF K ps.length (mkFn N.length g) vs H Q E → vs.length = ps.length := fun vs H Q E ⟨B, ρ, st, pl, _, r, h, _⟩ => r.len.trans h
  refine ⟨len, ?_⟩
  intro A outer s H args us vs Q E hr hg e0 hb r hsp
  have hlen := len _ _ _ _ hsp
  have inK : K.In s.heap := e0.mod.kin.keeps (fun b o e => (e0.bs b o e).1)
  have noLim : s.heap.NoLimit := e0.mod.nolimit.keeps (fun b o e => (e0.bs b o e).1)
  have kinds : ∀ y ∈ ps.zip us, scope.names.lookup y.1 = some .local ∨ (scope.names.lookup y.1 = some .cell ∧ ((cellsFrom (s.heap.objs.size + 1) scope.names []).lookup y.1).isSome = true) := by
    rintro ⟨n, v⟩ hy
    rcases S.par n (List.of_mem_zip hy).1 with q | q
    · exact Or.inl q
    · exact Or.inr ⟨q, PySem.W.cellsFrom_some _ _ _ (.inl q)⟩
  refine codeAny_call_function hr.depth (inK _ _ lk) rfl S.co S.gen rfl (PySem.W.codeRec_of inK hcd) (hb _ _ _ _ ?_)
  refine wpAny_newFunctionEnv_cells S.kind kinds fun env he s1 xx => ?_
  subst he
  refine ⟨noLim.keeps xx.toInCall.keep, codeAny_func ?_⟩
  obtain ⟨t, ht, hq⟩ := hbody cdv A outer s H E (hr.deeper _) hg
  obtain ⟨B, ρ, st, pl, R, rp, hpl, hF⟩ := hsp
  have I := inv_start (CX := L2.CX P w) (E := E) S hr.hd e0 hlen r xx
  have RE0 : Rep K B ρ (env0 N.length pl) st (L2.start N vs) H := R.enter rp (by rw [hpl]; exact Nat.le_of_ble_eq_true hN)
  refine wpAny_mono (ht.run [] s1 (L2.start N vs) H { nx := fun _ H' => Q .non H', rt := Q } I (hq B ρ _ st _ H _ RE0 (sok_fn (fun _ _ _ _ => rfl) hF))) (fun fl s' hs => ?_) (fun e s' hs => hs)
  have out : ∀ {σ2 : L2.St} {H2 : Hp} {v : V} {u : Value}, Inv (cxOf (L2.CX P w) P w K mg base N qual scope f cdv A outer s H E) [] σ2 H2 s' → RelV v u → Q v H2 → CE outer P w H s Q u s' :=
    fun {σ2 H2 v u} J rv q => ⟨v, H2, J.os, J.bare, J.base, J.hok, rv, q⟩
  cases fl with
  | brk => exact hs.elim fun _ ⟨_, _, q⟩ => False.elim q
  | cont => exact hs.elim fun _ ⟨_, _, q⟩ => False.elim q
  | next =>
    obtain ⟨σ2, H2, J, q⟩ := hs
    exact out (v := V.non) (u := Value.none) J rfl q
  | ret u =>
    obtain ⟨v, σ2, H2, J, rv, q⟩ := hs
    exact out J rv q
end
/-! ### the law -/
section
variable {P : Program} {w : World} {K : PySem.W.Frag} {mg mb : Str → Option Value} {k : Nat} {fa a : Addr} {fd : FuncData} {x : Str} {sp : Sp} {s₁ : Shared} {vs : List Value} {ns : List Int}
/-- from an abstract heap in which at most the script is tracked -/
theorem law_from {H : Hp} (KX : K.In s₁.heap) (hns : s₁.heap.Ns mainGlobals mg) (hb : s₁.heap.Ns builtinsNs mb) (hbb : ∀ x : Str, x ≠ "__name__" → mb x = bootBuiltins x) (hlim : s₁.heap.NoLimit) (hg : s₁.gens = #[])
    (ha : s₁.heap.get? a = some { cls := .type "list", data := .seq vs.toArray }) (hr : Room k callerA) (hbind : ∀ (s : Shared) (u : Value), BindsTo s fd ⟨[u], []⟩ [(x, u)])
    (F : ∀ base : Heap, K.In base → base.Ns mainGlobals mg → FnG P w K mg base k fa fd [x] sp) (hO : Only H) (hok : HOk P w H s₁.heap) (hA : ∀ b, H b ≠ none → b = a) (hK : H a ≠ none → K.lookup a = none)
    (hsp : sp [.ref a] H (fun v _ => v = .bl true) fun _ _ _ => False) :
    codeAny (model P w) callerA (.call (.ref fa) ⟨[.ref a], []⟩) (fun r s' => r = .ok (.ret (.bool true)) ∧ PySem.OldK s₁.heap s'.heap ∧ s'.os = s₁.os ∧ PyProof.Rows.AllBare s'.gens) s₁ := by
  have there : ∀ {b : Addr}, H b ≠ none → s₁.heap.get? b = some { cls := .type "list", data := .seq vs.toArray } := fun {b} h => by rw [hA b h]; exact ha
  have hidden : ∀ {b : Addr} {o : Obj}, s₁.heap.get? b = some o → H b = none → (hidT s₁.heap H).get? b = some o := fun e n => hidT_get e n
  have plain : ∀ {b : Addr} {o : Obj} {es : Array DictEntry} {ep : Nat}, s₁.heap.get? b = some o → o.data = .dict es ep → H b = none := fun {b o es ep} e d => by
    refine Classical.byContradiction fun h => ?_
    rw [there h] at e
    cases e
    cases d
  have names : ∀ {b : Addr} {m : Str → Option Value}, s₁.heap.Ns b m → (hidT s₁.heap H).Ns b m := fun {b m} h => by
    obtain ⟨o, es, ep, e, d, r⟩ := h
    exact ⟨o, es, ep, hidden e (plain e d), d, r⟩
  have kin : K.In (hidT s₁.heap H) := fun b o e => hidden (KX b o e) (by
    refine Classical.byContradiction fun h => ?_
    have e2 := hA b h
    subst e2
    rw [hK h] at e
    cases e)
  have hM : Mod K mg (hidT s₁.heap H) := ⟨kin, names hns, ⟨mb, names hb, hbb⟩, let ⟨mc, h1, h2⟩ := hlim; ⟨mc, names h1, h2⟩⟩
  have e0 : Env0 P w K mg (hidT s₁.heap H) callerA [] s₁ H := ⟨rfl, hM, fun b o e => of_hidT e, Nat.le_of_eq (hidT_size _ _), trivial, fun b hb => absurd (show b ∈ ([] : List Addr) from hb) (by simp), hok, .of_eq hg⟩
  refine codeAny_mono ((F _ kin (names hns)).run callerA [] s₁ H ⟨[.ref a], []⟩ [.ref a] [.ref a] _ _ hr rfl e0 (hbind s₁ (.ref a)) (.cons rfl .nil) hsp) fun r s' h => ?_
  cases r with
  | error e =>
    obtain ⟨_, _, _, _, _, _, _, _, _, _, _, _, z⟩ := h
    exact z.elim
  | ok fl =>
    cases fl with
    | next => exact False.elim h
    | brk => exact False.elim h
    | cont => exact False.elim h
    | ret u =>
      obtain ⟨v, H', os, bare, un, hok', r', q⟩ := h
      have q' : v = .bl true := q
      subst q'
      obtain rfl : u = Value.bool true := r'
      refine ⟨rfl, PySem.OldK.of_keep fun b o e => ?_, os, bare⟩
      rcases hO b with z | ⟨ob, xs, z⟩
      · exact un.keep b o e z (by intro y; exact absurd (show b ∈ ([] : List Addr) from y) (by simp)) (by simp)
      · obtain ⟨e1, _⟩ := hok b _ z
        obtain ⟨e2, _⟩ := hok' b _ (un.frzs b ob _ z)
        rw [e] at e1
        cases e1
        exact e2
theorem law_G (KX : K.In s₁.heap) (hns : s₁.heap.Ns mainGlobals mg) (hb : s₁.heap.Ns builtinsNs mb) (hbb : ∀ x : Str, x ≠ "__name__" → mb x = bootBuiltins x) (hlim : s₁.heap.NoLimit) (hg : s₁.gens = #[])
    (ha : s₁.heap.get? a = some { cls := .type "list", data := .seq vs.toArray }) (hi : PyProof.Rows.IntsAre vs ns) (hl : ns.length ≤ LINE) (hr : Room k callerA) (hbind : ∀ (s : Shared) (u : Value), BindsTo s fd ⟨[u], []⟩ [(x, u)])
    (F : ∀ base : Heap, K.In base → base.Ns mainGlobals mg → FnG P w K mg base k fa fd [x] sp)
    (hsp : ∀ H : Hp, Only H → ScrAt K (fun _ => False) H a ns → sp [.ref a] H (fun v _ => v = .bl true) fun _ _ _ => False) :
    codeAny (model P w) callerA (.call (.ref fa) ⟨[.ref a], []⟩) (fun r s' => r = .ok (.ret (.bool true)) ∧ PySem.OldK s₁.heap s'.heap ∧ s'.os = s₁.os ∧ PyProof.Rows.AllBare s'.gens) s₁ := by
  have rv := vals_ints hi
  have lenV := hi.length
  have hl' : ns.length ≤ sizeLine := by rw [← LINE_eq]; exact hl
  cases hk : K.lookup a with
  | some o =>
    have e := KX a o hk
    rw [ha] at e
    cases e
    have hO : Only (fun _ => none) := fun _ => .inl rfl
    exact law_from KX hns hb hbb hlim hg ha hr hbind F hO (fun b u z => by cases (show (none : Option HO) = some u from z)) (fun b z => absurd rfl z) (fun z => absurd rfl z)
      (hsp _ hO ⟨hl, .inr ⟨_, vs.toArray, _, hk, rfl, rfl, rfl, by rw [List.size_toArray, lenV]; exact hl', by simpa using rv⟩⟩)
  | none =>
    let H : Hp := fun b => if b = a then some (.frz { cls := .type "list", data := .seq vs.toArray } (.lst (ns.map V.int))) else none
    have Ha : H a = some (.frz { cls := .type "list", data := .seq vs.toArray } (.lst (ns.map V.int))) := if_pos rfl
    have Hn : ∀ {b}, b ≠ a → H b = none := fun h => if_neg h
    have hO : Only H := fun b => by
      by_cases hb : b = a
      · exact .inr ⟨_, _, by rw [hb]; exact Ha⟩
      · exact .inl (Hn hb)
    refine law_from KX hns hb hbb hlim hg ha hr hbind F hO (fun b u z => ?_) (fun b z => ?_) (fun _ => hk) (hsp H hO ⟨hl, .inl ⟨_, Ha, fun z => z⟩⟩)
    · by_cases hb : b = a
      · subst hb
        rw [Ha] at z
        cases z
        exact ⟨ha, by rw [List.length_map]; exact hl', vs, _, rv, ha⟩
      · rw [Hn hb] at z
        cases z
    · refine Classical.byContradiction fun hb => z (Hn hb)
end
/-- the end of a law's proof: what its function says at every script -/
theorem walk_G {l : PySem.W.OpenLaw} {n k : Nat} {q : Program} {loose : List Str} {XP : (Str → Option Value) → Heap → Prop} {YP : World → Heap → Prop} {d : PySem.DefRec} {x : Str} {F : Fn}
    (hn : l.most = some n) (hn2 : n ≤ LINE) (hdf : d.params.defaults = []) (hr : Room k callerA)
    (G : ∀ (w : World) (mg : Str → Option Value) (fa : Addr) (h : Heap), YP w h → h.Ns mainGlobals mg → mg d.name = some (.ref fa) →
      ∃ (K : PySem.W.Frag) (fd : FuncData), K.In h ∧ (∀ (s : Shared) (u : Value), BindsTo s fd ⟨[u], []⟩ [(x, u)]) ∧ ∀ base : Heap, K.In base → base.Ns mainGlobals mg → FnG l.prog w K mg base k fa fd [x] (spF K 1 F))
    (law : ∀ ns : List Int, ns.length ≤ n → ∃ st, F [.scr ns] [] = .ok (.bl true) st) :
    PySem.W.WalkO q loose XP YP l.row.toRowW d [] (fun f vs => PySem.call f vs) := by
  refine Att.attach_call hn hdf fun w s₀ s₁ mg mb fa o pm cd doc a vs ns T Y ho hd hcd hmg hobj hints hlen hg => ?_
  obtain ⟨K, fd, KX, hb, hF⟩ := G w mg fa _ Y T.T.g hmg
  refine law_G KX T.T.g T.T.b T.T.builtins T.T.nolimit hg hobj hints (Nat.le_trans hlen hn2) hr hb hF fun H hO hS => ?_
  obtain ⟨st, e⟩ := law ns hlen
  refine ⟨fun _ => False, [], [], [.scr ns], ?_, .cons ?_ .nil, rfl, ?_⟩
  · exact ⟨rfl, rfl, List.nodup_nil, fun n c a h => by simp at h, fun a h => by simp at h, fun a h => by simp at h, fun a h => h.elim, fun i e h => by simp at h, fun a h => (no_own h).elim, fun i j l l' a h => by simp at h⟩
  · unfold RV
    refine ⟨a, rfl, hS.1, hS.2.imp (fun ⟨o, h1, _⟩ => ⟨o, h1, fun z => ?_⟩) id⟩
    rcases z with z | z | z
    · exact z
    · simp at z
    · exact no_own z
  · rw [e]
    exact fun ρ' H' E u ru => rv_bl ru
end PL
/-! PLi: the built-in operations on values. -/
namespace PL
open PySem PySem.Spec L2
/-! ### values as data -/
mutual
def toD : PV → Option PyData
  | .non => some .none
  | .bl b => some (.bool b)
  | .int i => some (.int i)
  | .str x => some (.str x)
  | .tup l => (toDs l).map .tuple
  | .lst l => (toDs l).map .list
  | .scr _ => none
  | .gl _ => none
  | .ins _ _ _ => none
def toDs : List PV → Option (List PyData)
  | [] => some []
  | p :: ps => match toD p, toDs ps with
    | some d, some ds => some (d :: ds)
    | _, _ => none
end
section
variable {K : PySem.W.Frag} {N : Addr → Prop} {ρ : List Addr} {H : Hp}
mutual
theorem RV.dp : ∀ (p : PV) (v : V) (d : PyData), RV K N ρ H p v → toD p = some d → Dp K H v d
  | .non, v, d, h, e => by
    have h := rv_non h
    subst h
    unfold toD at e
    cases e
    exact .non
  | .bl b, v, d, h, e => by
    have h := rv_bl h
    subst h
    unfold toD at e
    cases e
    exact .bl b
  | .int i, v, d, h, e => by
    have h := rv_int h
    subst h
    unfold toD at e
    cases e
    exact .int i
  | .str x, v, d, h, e => by
    have h := rv_str h
    subst h
    unfold toD at e
    cases e
    exact .str x
  | .tup l, v, d, h, e => by
    obtain ⟨a, xs, rfl, h1, _, h2⟩ := rv_tup h
    unfold toD at e
    cases e1 : toDs l with
    | none => rw [e1] at e; cases e
    | some ds =>
      rw [e1] at e
      cases e
      exact .tup h1.sq (RVs.dp l xs ds h2 e1)
  | .lst l, v, d, h, e => by
    obtain ⟨a, xs, rfl, _, h1, _, h2⟩ := rv_lst h
    unfold toD at e
    cases e1 : toDs l with
    | none => rw [e1] at e; cases e
    | some ds =>
      rw [e1] at e
      cases e
      exact .lst (SqL.of h1) (RVs.dp l xs ds h2 e1)
  | .scr _, _, _, _, e => by
    unfold toD at e
    cases e
  | .gl _, _, _, _, e => by
    unfold toD at e
    cases e
  | .ins _ _ _, _, _, _, e => by
    unfold toD at e
    cases e
theorem RVs.dp : ∀ (l : List PV) (xs : List V) (ds : List PyData), RVs K N ρ H l xs → toDs l = some ds → DpAll K H xs ds
  | [], xs, ds, h, e => by
    rw [h.unnil]
    unfold toDs at e
    cases e
    exact .nil
  | p :: ps, xs, ds, h, e => by
    obtain ⟨v, vs, rfl, h1, h2⟩ := h.uncons
    unfold toDs at e
    cases e1 : toD p with
    | none => rw [e1] at e; cases e
    | some d =>
      cases e2 : toDs ps with
      | none => rw [e1, e2] at e; cases e
      | some ds' =>
        rw [e1, e2] at e
        cases e
        exact .cons (RV.dp p v d h1 e1) (RVs.dp ps vs ds' h2 e2)
end
theorem RVb.dp {p : PV} {v : V} {d : PyData} (h : RVb K N ρ H p v) (e : toD p = some d) : Dp K H v d := by
  cases p with
  | lst l =>
    obtain ⟨a, xs, rfl, h1, _, h2⟩ := rvb_lst h
    unfold toD at e
    cases e1 : toDs l with
    | none => rw [e1] at e; cases e
    | some ds =>
      rw [e1] at e
      cases e
      exact .lst (SqL.of h1) (RVs.dp l xs ds h2 e1)
  | non => exact RV.dp _ v d h e
  | bl _ => exact RV.dp _ v d h e
  | int _ => exact RV.dp _ v d h e
  | str _ => exact RV.dp _ v d h e
  | tup _ => exact RV.dp _ v d h e
  | scr _ => exact RV.dp _ v d h e
  | gl _ => exact RV.dp _ v d h e
  | ins _ _ _ => exact RV.dp _ v d h e
end
def intsOf : List PV → Option (List Int)
  | [] => some []
  | .int i :: ps => (intsOf ps).map (i :: ·)
  | _ :: _ => none
def blsOf : List PV → Option (List Bool)
  | [] => some []
  | .bl i :: ps => (blsOf ps).map (i :: ·)
  | _ :: _ => none
theorem intsOf_eq : ∀ {l : List PV} {ns : List Int}, intsOf l = some ns → l = ns.map PV.int
  | [], ns, e => by cases e; rfl
  | .int i :: ps, ns, e => by
    unfold intsOf at e
    cases e1 : intsOf ps with
    | none => rw [e1] at e; cases e
    | some ms =>
      rw [e1] at e
      cases e
      rw [intsOf_eq e1]
      rfl
  | .non :: _, _, e => by cases e
  | .bl _ :: _, _, e => by cases e
  | .str _ :: _, _, e => by cases e
  | .tup _ :: _, _, e => by cases e
  | .lst _ :: _, _, e => by cases e
  | .scr _ :: _, _, e => by cases e
  | .gl _ :: _, _, e => by cases e
  | .ins _ _ _ :: _, _, e => by cases e
theorem intsOf_map : ∀ (ns : List Int), intsOf (ns.map PV.int) = some ns
  | [] => rfl
  | i :: ns => by
    show (intsOf (ns.map PV.int)).map (i :: ·) = some (i :: ns)
    rw [intsOf_map ns]
    rfl
theorem blsOf_eq : ∀ {l : List PV} {ns : List Bool}, blsOf l = some ns → l = ns.map PV.bl
  | [], ns, e => by cases e; rfl
  | .bl i :: ps, ns, e => by
    unfold blsOf at e
    cases e1 : blsOf ps with
    | none => rw [e1] at e; cases e
    | some ms =>
      rw [e1] at e
      cases e
      rw [blsOf_eq e1]
      rfl
  | .non :: _, _, e => by cases e
  | .int _ :: _, _, e => by cases e
  | .str _ :: _, _, e => by cases e
  | .tup _ :: _, _, e => by cases e
  | .lst _ :: _, _, e => by cases e
  | .scr _ :: _, _, e => by cases e
  | .gl _ :: _, _, e => by cases e
  | .ins _ _ _ :: _, _, e => by cases e
theorem blsOf_map : ∀ (ns : List Bool), blsOf (ns.map PV.bl) = some ns
  | [] => rfl
  | i :: ns => by
    show (blsOf (ns.map PV.bl)).map (i :: ·) = some (i :: ns)
    rw [blsOf_map ns]
    rfl
/-! ### what the operations give -/
def mulB (i j : Int) : Bool := decide ((-(2 ^ 64) < i ∧ i < 2 ^ 64) ∨ (-(2 ^ 64) < j ∧ j < 2 ^ 64))
def addF : PV → PV → Option PV
  | .int i, .int j => some (.int (i + j))
  | .str x, .str y => if x.length + y.length ≤ LINE then some (.str (x ++ y)) else none
  | .tup l, .tup m => if l.length + m.length ≤ LINE then some (.tup (l ++ m)) else none
  | .lst l, .lst m => if l.length + m.length ≤ LINE then some (.lst (l ++ m)) else none
  | _, _ => none
def subF : PV → PV → Option PV
  | .int i, .int j => some (.int (i - j))
  | _, _ => none
def mulF : PV → PV → Option PV
  | .int i, .int j => if mulB i j = true then some (.int (i * j)) else none
  | _, _ => none
def divF : PV → PV → Option PV
  | .int i, .int j => if 0 < j ∧ j < 1073741824 then some (.int (i / j)) else none
  | _, _ => none
def modF : PV → PV → Option PV
  | .int i, .int j => if 0 < j then some (.int (i % j)) else none
  | _, _ => none
def powF : PV → PV → Option PV
  | .int i, .int j => if 0 ≤ j ∧ j ≤ 1000 ∧ i.natAbs < 18446744073709551616 then some (.int (i ^ j.toNat)) else none
  | _, _ => none
def negF : PV → Option PV
  | .int i => some (.int (-i))
  | _ => none
def cmpF (f : Int → Int → Bool) : PV → PV → Option PV
  | .int i, .int j => some (.bl (f i j))
  | _, _ => none
def ltF : PV → PV → Option PV
  | .int i, .int j => some (.bl (decide (i < j)))
  | .tup l, .tup m => match intsOf l, intsOf m with
    | some ns, some ms => some (.bl (HT.lexLt ns ms))
    | _, _ => none
  | _, _ => none
def eqG (p q : PV) : Option PV := match toD p, toD q with
  | some d, some e => if SeqAt.shaped d = true ∧ SeqAt.shaped e = true then some (.bl (PyData.eqv d e)) else none
  | _, _ => none
def neG (p q : PV) : Option PV := match toD p, toD q with
  | some d, some e => if SeqAt.shaped d = true ∧ SeqAt.shaped e = true then some (.bl (!PyData.eqv d e)) else none
  | _, _ => none
def eqF : PV → PV → Option PV
  | .str x, .str y => some (.bl (decide (x = y)))
  | p, q => eqG p q
def neF : PV → PV → Option PV
  | .str x, .str y => some (.bl (!decide (x = y)))
  | p, q => neG p q
def isNonB : PV → Bool
  | .non => true
  | _ => false
def isF : PV → PV → Option PV
  | p, .non => some (.bl (isNonB p))
  | _, _ => none
def isntF : PV → PV → Option PV
  | p, .non => some (.bl (!isNonB p))
  | _, _ => none
def flatB : PV → Bool
  | .non => true
  | .bl _ => true
  | .int _ => true
  | .str _ => true
  | _ => false
def eqFl : PV → PV → Bool
  | .non, .non => true
  | .bl a, .bl b => a == b
  | .bl a, .int b => (if a then 1 else 0) == b
  | .int a, .bl b => a == (if b then 1 else 0)
  | .int a, .int b => a == b
  | .str a, .str b => a == b
  | _, _ => false
def inF (p q : PV) : Option PV := match seqOf q with
  | some l => if flatB p = true ∧ l.all flatB = true then some (.bl (l.any fun y => eqFl y p)) else none
  | none => none
def notInF (p q : PV) : Option PV := match seqOf q with
  | some l => if flatB p = true ∧ l.all flatB = true then some (.bl (!l.any fun y => eqFl y p)) else none
  | none => none
section
variable {X : Cx}
/-- an operation of two ints alone -/
theorem opp_int {f : Value → Value → Sem Value} {op : PV → PV → Option PV} {C : Int → Int → Prop} {g : Int → Int → V} (h : OpR X f (rI C g)) (e : ∀ p q z, op p q = some z → ∃ i j, p = .int i ∧ q = .int j ∧ C i j ∧ ∀ K N ρ H, RV K N ρ H z (g i j)) : OpP X f op := by
  refine ⟨_, h, fun N ρ H x y p q z Q hN hx hy ho hQ => ?_⟩
  obtain ⟨i, j, rfl, rfl, c, r⟩ := e p q z ho
  exact ⟨i, j, rvb_int hx, rvb_int hy, c, hQ H _ Ext.refl (r _ _ _ _)⟩
theorem opp_int0 {f : Value → Value → Sem Value} {op : PV → PV → Option PV} {g : Int → Int → V} (h : OpR X f (rI0 g)) (e : ∀ p q z, op p q = some z → ∃ i j, p = .int i ∧ q = .int j ∧ ∀ K N ρ H, RV K N ρ H z (g i j)) : OpP X f op := by
  refine ⟨_, h, fun N ρ H x y p q z Q hN hx hy ho hQ => ?_⟩
  obtain ⟨i, j, rfl, rfl, r⟩ := e p q z ho
  exact ⟨i, j, rvb_int hx, rvb_int hy, hQ H _ Ext.refl (r _ _ _ _)⟩
theorem p_sub : OpP X (binaryOp .Sub) subF := opp_int0 op_sub fun p q z h => by
  unfold subF at h
  split at h
  · cases h; exact ⟨_, _, rfl, rfl, fun _ _ _ _ => mk_int⟩
  · cases h
theorem p_mul : OpP X (binaryOp .Mult) mulF := opp_int op_mul fun p q z h => by
  unfold mulF at h
  split at h
  · split at h
    · rename_i hm
      cases h
      unfold mulB at hm
      have hm2 := of_decide_eq_true hm
      exact ⟨_, _, rfl, rfl, hm2, fun _ _ _ _ => mk_int⟩
    · cases h
  · cases h
theorem p_div : OpP X (binaryOp .FloorDiv) divF := opp_int op_fdiv fun p q z h => by
  unfold divF at h
  split at h
  · split at h
    · rename_i hm
      cases h
      exact ⟨_, _, rfl, rfl, hm, fun _ _ _ _ => mk_int⟩
    · cases h
  · cases h
theorem p_mod : OpP X (binaryOp .Mod) modF := opp_int op_mod fun p q z h => by
  unfold modF at h
  split at h
  · split at h
    · rename_i hm
      cases h
      exact ⟨_, _, rfl, rfl, hm, fun _ _ _ _ => mk_int⟩
    · cases h
  · cases h
theorem p_pow : OpP X (binaryOp .Pow) powF := opp_int op_pow fun p q z h => by
  unfold powF at h
  split at h
  · split at h
    · rename_i hm
      cases h
      exact ⟨_, _, rfl, rfl, ⟨hm.1, by omega, by have := hm.2.2; exact this⟩, fun _ _ _ _ => mk_int⟩
    · cases h
  · cases h
theorem p_neg : UnP X (unaryOp .USub) negF := by
  refine ⟨_, un_neg, fun N ρ H x p z Q hN hx ho hQ => ?_⟩
  unfold negF at ho
  split at ho
  · cases ho
    exact ⟨_, rvb_int hx, hQ H _ Ext.refl mk_int⟩
  · cases ho
theorem p_cmp {f : Value → Value → Sem Value} {g : Int → Int → Bool} (h : OpR X f (rI0 fun i j => .bl (g i j))) : OpP X f (cmpF g) := opp_int0 h fun p q z h => by
  unfold cmpF at h
  split at h
  · cases h; exact ⟨_, _, rfl, rfl, fun _ _ _ _ => mk_bl⟩
  · cases h
theorem p_le : OpP X (compareOp .LtE) (cmpF fun i j => decide (i ≤ j)) := p_cmp op_le
theorem p_gt : OpP X (compareOp .Gt) (cmpF fun i j => decide (j < i)) := p_cmp op_gt
theorem p_ge : OpP X (compareOp .GtE) (cmpF fun i j => decide (j ≤ i)) := p_cmp op_ge
theorem p_lt (hu : X.A.units < cLine) : OpP X (compareOp .Lt) ltF := by
  refine ⟨_, op_lt.or (op_ltT hu), fun N ρ H x y p q z Q hN hx hy ho hQ => ?_⟩
  unfold ltF at ho
  split at ho
  · cases ho
    exact .inl ⟨_, _, rvb_int hx, rvb_int hy, hQ H _ Ext.refl mk_bl⟩
  · split at ho
    · rename_i ns ms e1 e2
      cases ho
      obtain ⟨a, xs, rfl, h1, _, h2⟩ := rvb_tup hx
      obtain ⟨b, ys, rfl, h3, _, h4⟩ := rvb_tup hy
      rw [intsOf_eq e1] at h2
      rw [intsOf_eq e2] at h4
      rw [h2.ints] at h1
      rw [h4.ints] at h3
      exact .inr ⟨a, b, ns, ms, rfl, rfl, h1.sq, h3.sq, hQ H _ Ext.refl mk_bl⟩
    · cases ho
  · cases ho
theorem p_add : OpP X (binaryOp .Add) addF := by
  refine ⟨_, op_add.or (op_add_str.or (op_catA.or op_cat)), fun N ρ H x y p q z Q hN hx hy ho hQ => ?_⟩
  unfold addF at ho
  split at ho
  · cases ho
    exact .inl ⟨_, _, rvb_int hx, rvb_int hy, hQ H _ Ext.refl mk_int⟩
  · split at ho
    · rename_i hl
      cases ho
      exact .inr (.inl ⟨_, _, rvb_str hx, rvb_str hy, by rw [← LINE_eq]; exact hl, hQ H _ Ext.refl mk_str⟩)
    · cases ho
  · split at ho
    · rename_i l m hl
      cases ho
      obtain ⟨a, xs, rfl, h1, h1', h2⟩ := rvb_tup hx
      obtain ⟨b, ys, rfl, h3, h3', h4⟩ := rvb_tup hy
      have ll : (xs ++ ys).length ≤ LINE := by rw [List.length_append, h2.len, h4.len]; exact hl
      refine .inr (.inr (.inl ⟨a, b, xs, ys, rfl, rfl, h1.sq, h3.sq, by rw [← LINE_eq, ← List.length_append]; exact ll, fun e => ?_, fun _ e => ?_, fun _ _ p np => ?_⟩))
      · subst e
        have e2 : l = [] := List.eq_nil_of_length_eq_zero (by rw [← h2.len]; rfl)
        subst e2
        exact hQ H _ Ext.refl (mk_tupK h3 h3' h4)
      · subst e
        have e2 : m = [] := List.eq_nil_of_length_eq_zero (by rw [← h4.len]; rfl)
        subst e2
        exact hQ H _ Ext.refl (mk_tupK h1 h1' (by rw [List.append_nil]; exact h2))
      · exact hQ _ _ (.new np) (mk_tup (fun z => hN p z np) upd_same ll (RVs.ext (.new np) (h2.append h4)))
    · cases ho
  · split at ho
    · rename_i l m hl
      cases ho
      obtain ⟨a, xs, rfl, h1, h1', h2⟩ := rvb_lst hx
      obtain ⟨b, ys, rfl, h3, h3', h4⟩ := rvb_lst hy
      have ll : (xs ++ ys).length ≤ LINE := by rw [List.length_append, h2.len, h4.len]; exact hl
      refine .inr (.inr (.inr ⟨a, b, xs, ys, rfl, rfl, h1, h3, by rw [← LINE_eq, ← List.length_append]; exact ll, fun p np => ?_⟩))
      exact hQ _ _ (.new np) (mk_lst (fun z => hN p z np) upd_same ll (RVs.ext (.new np) (h2.append h4)))
    · cases ho
  · cases ho
theorem dec_str {x y : Str} : decide (V.str x = V.str y) = decide (x = y) := by
  by_cases h : x = y
  · rw [decide_eq_true h, decide_eq_true (by rw [h])]
  · rw [decide_eq_false h, decide_eq_false (fun e => h (by cases e; rfl))]
theorem p_eq (hu : X.A.units + 64 < cLine) : OpP X (compareOp .Eq) eqF := by
  refine ⟨_, op_eq.or (op_eqD hu), fun N ρ H x y p q z Q hN hx hy ho hQ => ?_⟩
  unfold eqF at ho
  split at ho
  · cases ho
    have h1 := rvb_str hx
    have h2 := rvb_str hy
    subst h1 h2
    exact .inl ⟨rfl, by rw [dec_str]; exact hQ H _ Ext.refl mk_bl⟩
  · unfold eqG at ho
    split at ho
    · rename_i d e e1 e2
      split at ho
      · rename_i hs
        cases ho
        exact .inr ⟨d, e, hx.dp e1, hy.dp e2, hs.1, hs.2, hQ H _ Ext.refl mk_bl⟩
      · cases ho
    · cases ho
theorem p_ne (hu : X.A.units + 64 < cLine) : OpP X (compareOp .NotEq) neF := by
  refine ⟨_, op_ne.or (op_neD hu), fun N ρ H x y p q z Q hN hx hy ho hQ => ?_⟩
  unfold neF at ho
  split at ho
  · cases ho
    have h1 := rvb_str hx
    have h2 := rvb_str hy
    subst h1 h2
    exact .inl ⟨rfl, by rw [dec_str]; exact hQ H _ Ext.refl mk_bl⟩
  · unfold neG at ho
    split at ho
    · rename_i d e e1 e2
      split at ho
      · rename_i hs
        cases ho
        exact .inr ⟨d, e, hx.dp e1, hy.dp e2, hs.1, hs.2, hQ H _ Ext.refl mk_bl⟩
      · cases ho
    · cases ho
theorem non_iff {K : PySem.W.Frag} {N : Addr → Prop} {ρ : List Addr} {H : Hp} {p : PV} {x : V} (h : RVb K N ρ H p x) : decide (x = .non) = isNonB p := by
  cases p with
  | non => rw [rvb_non h]; rfl
  | bl b => rw [rvb_bl h]; rfl
  | int b => rw [rvb_int h]; rfl
  | str b => rw [rvb_str h]; rfl
  | tup l => obtain ⟨a, xs, rfl, _⟩ := rvb_tup h; rfl
  | lst l => obtain ⟨a, xs, rfl, _⟩ := rvb_lst h; rfl
  | scr l => obtain ⟨a, rfl, _⟩ := rvb_scr h; rfl
  | gl n => obtain ⟨a, rfl, _⟩ := rv_gl (show RV K N ρ H (.gl n) x from h); rfl
  | ins c ns l => obtain ⟨a, ws, rfl, _⟩ := rvb_ins h; rfl
theorem p_is : OpP X (compareOp .Is) isF := by
  refine ⟨_, op_isN, fun N ρ H x y p q z Q hN hx hy ho hQ => ?_⟩
  cases q with
  | non =>
    cases ho
    exact ⟨rvb_non hy, by rw [non_iff hx]; exact hQ H _ Ext.refl mk_bl⟩
  | _ => cases ho
theorem p_isnt : OpP X (compareOp .IsNot) isntF := by
  refine ⟨_, op_notN, fun N ρ H x y p q z Q hN hx hy ho hQ => ?_⟩
  cases q with
  | non =>
    cases ho
    exact ⟨rvb_non hy, by rw [non_iff hx]; exact hQ H _ Ext.refl mk_bl⟩
  | _ => cases ho
section
variable {K : PySem.W.Frag} {N : Addr → Prop} {ρ : List Addr} {H : Hp}
theorem flat_rv {p : PV} {x : V} (h : RVb K N ρ H p x) (f : flatB p = true) : flatV x = true := by
  cases p with
  | non => rw [rvb_non h]; rfl
  | bl b => rw [rvb_bl h]; rfl
  | int b => rw [rvb_int h]; rfl
  | str b => rw [rvb_str h]; rfl
  | _ => cases f
theorem eqFl_rv {p q : PV} {x y : V} (h : RVb K N ρ H p x) (k : RVb K N ρ H q y) (f : flatB p = true) (g : flatB q = true) : eqV x y = eqFl p q := by
  cases p with
  | non => rw [rvb_non h]; cases q with
    | non => rw [rvb_non k]; rfl
    | bl b => rw [rvb_bl k]; rfl
    | int b => rw [rvb_int k]; rfl
    | str b => rw [rvb_str k]; rfl
    | _ => cases g
  | bl b => rw [rvb_bl h]; cases q with
    | non => rw [rvb_non k]; rfl
    | bl b => rw [rvb_bl k]; rfl
    | int b => rw [rvb_int k]; rfl
    | str b => rw [rvb_str k]; rfl
    | _ => cases g
  | int b => rw [rvb_int h]; cases q with
    | non => rw [rvb_non k]; rfl
    | bl b => rw [rvb_bl k]; rfl
    | int b => rw [rvb_int k]; rfl
    | str b => rw [rvb_str k]; rfl
    | _ => cases g
  | str b => rw [rvb_str h]; cases q with
    | non => rw [rvb_non k]; rfl
    | bl b => rw [rvb_bl k]; rfl
    | int b => rw [rvb_int k]; rfl
    | str b => rw [rvb_str k]; rfl
    | _ => cases g
  | _ => cases f
theorem flats_rv : ∀ {l : List PV} {xs : List V}, RVs K N ρ H l xs → l.all flatB = true → xs.all flatV = true
  | [], _, h, _ => by rw [h.unnil]; rfl
  | p :: ps, _, h, f => by
    obtain ⟨v, vs, rfl, h1, h2⟩ := h.uncons
    rw [List.all_cons, Bool.and_eq_true] at f ⊢
    exact ⟨flat_rv h1.b f.1, flats_rv h2 f.2⟩
theorem inV_rv {p : PV} {x : V} (k : RVb K N ρ H p x) (g : flatB p = true) : ∀ {l : List PV} {xs : List V}, RVs K N ρ H l xs → l.all flatB = true → inV x xs = l.any fun y => eqFl y p
  | [], _, h, _ => by rw [h.unnil]; rfl
  | q :: ps, _, h, f => by
    obtain ⟨v, vs, rfl, h1, h2⟩ := h.uncons
    rw [List.all_cons, Bool.and_eq_true] at f
    have ih := inV_rv k g h2 f.2
    unfold inV at ih ⊢
    rw [List.any_cons, List.any_cons, ih, eqFl_rv h1.b k f.1 g]
end
theorem p_in : OpP X (compareOp .In) inF := by
  refine ⟨_, op_in_seq, fun N ρ H x y p q z Q hN hx hy ho hQ => ?_⟩
  unfold inF at ho
  cases q with
  | tup l =>
    dsimp only [seqOf] at ho
    split at ho
    · rename_i hf
      cases ho
      obtain ⟨a, xs, rfl, h1, _, h2⟩ := rvb_tup hy
      refine ⟨a, xs, rfl, .inr h1.sq, flat_rv hx hf.1, flats_rv h2 hf.2, ?_⟩
      rw [inV_rv hx hf.1 h2 hf.2]
      exact hQ H _ Ext.refl mk_bl
    · cases ho
  | lst l =>
    dsimp only [seqOf] at ho
    split at ho
    · rename_i hf
      cases ho
      obtain ⟨a, xs, rfl, h1, _, h2⟩ := rvb_lst hy
      refine ⟨a, xs, rfl, .inl (SqL.of h1), flat_rv hx hf.1, flats_rv h2 hf.2, ?_⟩
      rw [inV_rv hx hf.1 h2 hf.2]
      exact hQ H _ Ext.refl mk_bl
    · cases ho
  | _ => cases ho
theorem p_notIn : OpP X (compareOp .NotIn) notInF := by
  refine ⟨_, op_notIn_seq, fun N ρ H x y p q z Q hN hx hy ho hQ => ?_⟩
  unfold notInF at ho
  cases q with
  | tup l =>
    dsimp only [seqOf] at ho
    split at ho
    · rename_i hf
      cases ho
      obtain ⟨a, xs, rfl, h1, _, h2⟩ := rvb_tup hy
      refine ⟨a, xs, rfl, .inr h1.sq, flat_rv hx hf.1, flats_rv h2 hf.2, ?_⟩
      rw [inV_rv hx hf.1 h2 hf.2]
      exact hQ H _ Ext.refl mk_bl
    · cases ho
  | lst l =>
    dsimp only [seqOf] at ho
    split at ho
    · rename_i hf
      cases ho
      obtain ⟨a, xs, rfl, h1, _, h2⟩ := rvb_lst hy
      refine ⟨a, xs, rfl, .inl (SqL.of h1), flat_rv hx hf.1, flats_rv h2 hf.2, ?_⟩
      rw [inV_rv hx hf.1 h2 hf.2]
      exact hQ H _ Ext.refl mk_bl
    · cases ho
  | _ => cases ho
end
end PL
/-! PLj: built-ins that are called; two names at once; what enumerate and zip walk. -/
namespace PL
open PySem PySem.Spec L2
/-! ### built-ins -/
def lenF : List PV → Option PV
  | [.tup l] => some (.int l.length)
  | [.lst l] => some (.int l.length)
  | [.scr l] => some (.int l.length)
  | [.str x] => if x.length ≤ LINE then some (.int x.length) else none
  | _ => none
def allF : List PV → Option PV
  | [.lst l] => (blsOf l).map fun bs => .bl (bs.all id)
  | _ => none
def anyF : List PV → Option PV
  | [.lst l] => (blsOf l).map fun bs => .bl (bs.any id)
  | _ => none
def sumF : List PV → Option PV
  | [.lst l] => (intsOf l).map fun ns => .int ns.sum
  | _ => none
def minL : List Int → Option Int
  | [] => none
  | i :: l => some (l.foldl (fun a b => if b < a then b else a) i)
def maxL : List Int → Option Int
  | [] => none
  | i :: l => some (l.foldl (fun a b => if a < b then b else a) i)
def minF : List PV → Option PV
  | [.lst l] => (intsOf l).bind fun ns => (minL ns).map .int
  | [.int i, .int j] => some (.int (if j < i then j else i))
  | _ => none
def maxF : List PV → Option PV
  | [.lst l] => (intsOf l).bind fun ns => (maxL ns).map .int
  | [.int i, .int j] => some (.int (if j > i then j else i))
  | _ => none
def tupF : List PV → Option PV
  | [.lst l] => some (.tup l)
  | [.tup l] => some (.tup l)
  | _ => none
def listF : List PV → Option (List PV)
  | [.lst l] => some l
  | [.tup l] => some l
  | _ => none
def reprF : List PV → Option PV
  | [p] => match toD p with
    | some d => if d.showable = true ∧ d.hasDict = false ∧ d.shown.length ≤ LINE ∧ d.depth ≤ 30 then some (.str d.shown) else none
    | none => none
  | _ => none
inductive Ty where
  | int
  | bool
  | tuple
  | list
  | str
def Ty.name : Ty → String
  | .int => "int"
  | .bool => "bool"
  | .tuple => "tuple"
  | .list => "list"
  | .str => "str"
def isiB : Ty → PV → Option Bool
  | .int, .int _ => some true
  | .int, .bl _ => some true
  | .bool, .bl _ => some true
  | .tuple, .tup _ => some true
  | .list, .lst _ => some true
  | .str, .str _ => some true
  | _, .scr _ => none
  | _, .gl _ => none
  | _, .ins _ _ _ => none
  | _, _ => some false
def isiF (T : Ty) (p : PV) : Option PV := (isiB T p).map .bl
section
variable {K : PySem.W.Frag} {N : Addr → Prop} {ρ : List Addr} {H : Hp}
def tyN : PV → String
  | .non => "NoneType"
  | .bl _ => "bool"
  | .int _ => "int"
  | .str _ => "str"
  | .tup _ => "tuple"
  | .lst _ => "list"
  | _ => ""
theorem ty_of {p : PV} {x : V} (h : RVb K N ρ H p x) (hs : ∀ l, p ≠ .scr l) (hg : ∀ n, p ≠ .gl n) (hi : ∀ c ns l, p ≠ .ins c ns l) : TyX K H x (.type (tyN p)) := by
  cases p with
  | non => rw [rvb_non h]; exact .base .non
  | bl b => rw [rvb_bl h]; exact .base (.bl b)
  | int b => rw [rvb_int h]; exact .base (.int b)
  | str b => rw [rvb_str h]; exact .base (.str b)
  | tup l =>
    obtain ⟨a, xs, rfl, e, _⟩ := rvb_tup h
    rcases e with ⟨_, e⟩ | ⟨o, _, _, e, c, _⟩
    · exact .base (.tup e)
    · exact .kTuple e c
  | lst l => obtain ⟨a, xs, rfl, e, _⟩ := rvb_lst h; exact .base (.lst e)
  | scr l => exact absurd rfl (hs l)
  | gl n => exact absurd rfl (hg n)
  | ins c ns l => exact absurd rfl (hi c ns l)
theorem isi_kit {T : Ty} {p : PV} {b : Bool} (h : isiB T p = some b) : kitB (tyN p) T.name = some b ∧ (∀ l, p ≠ .scr l) ∧ (∀ n, p ≠ .gl n) ∧ ∀ c ns l, p ≠ .ins c ns l := by
  cases T <;> cases p <;> cases h <;> refine ⟨?_, (fun _ z => by cases z), (fun _ z => by cases z), (fun _ _ _ z => by cases z)⟩ <;> dsimp only [tyN, Ty.name] <;> decide +kernel
theorem foldl_min : ∀ (l : List Int) (i : Int), (l.foldl (fun a b => if b < a then b else a) i = i ∨ l.foldl (fun a b => if b < a then b else a) i ∈ l) ∧ l.foldl (fun a b => if b < a then b else a) i ≤ i ∧ ∀ y ∈ l, l.foldl (fun a b => if b < a then b else a) i ≤ y
  | [], i => ⟨.inl rfl, Int.le_refl _, fun y h => by simp at h⟩
  | x :: l, i => by
    obtain ⟨h1, h2, h3⟩ := foldl_min l (if x < i then x else i)
    rw [List.foldl_cons]
    have hx : (if x < i then x else i) ≤ i ∧ (if x < i then x else i) ≤ x ∧ ((if x < i then x else i) = i ∨ (if x < i then x else i) = x) := by
      split
      · exact ⟨by omega, by omega, .inr rfl⟩
      · exact ⟨by omega, by omega, .inl rfl⟩
    refine ⟨?_, by omega, fun y hy => ?_⟩
    · rcases h1 with h1 | h1
      · rcases hx.2.2 with e | e
        · exact .inl (h1.trans e)
        · exact .inr (by rw [h1.trans e]; exact List.mem_cons_self)
      · exact .inr (List.mem_cons_of_mem _ h1)
    · rcases List.mem_cons.mp hy with e | e
      · rw [e]; omega
      · exact h3 y e
theorem foldl_max : ∀ (l : List Int) (i : Int), (l.foldl (fun a b => if a < b then b else a) i = i ∨ l.foldl (fun a b => if a < b then b else a) i ∈ l) ∧ i ≤ l.foldl (fun a b => if a < b then b else a) i ∧ ∀ y ∈ l, y ≤ l.foldl (fun a b => if a < b then b else a) i
  | [], i => ⟨.inl rfl, Int.le_refl _, fun y h => by simp at h⟩
  | x :: l, i => by
    obtain ⟨h1, h2, h3⟩ := foldl_max l (if i < x then x else i)
    rw [List.foldl_cons]
    have hx : i ≤ (if i < x then x else i) ∧ x ≤ (if i < x then x else i) ∧ ((if i < x then x else i) = i ∨ (if i < x then x else i) = x) := by
      split
      · exact ⟨by omega, by omega, .inr rfl⟩
      · exact ⟨by omega, by omega, .inl rfl⟩
    refine ⟨?_, by omega, fun y hy => ?_⟩
    · rcases h1 with h1 | h1
      · rcases hx.2.2 with e | e
        · exact .inl (h1.trans e)
        · exact .inr (by rw [h1.trans e]; exact List.mem_cons_self)
      · exact .inr (List.mem_cons_of_mem _ h1)
    · rcases List.mem_cons.mp hy with e | e
      · rw [e]; omega
      · exact h3 y e
theorem minL_ok {ns : List Int} {m : Int} (h : minL ns = some m) : m ∈ ns ∧ ∀ y ∈ ns, m ≤ y := by
  cases ns with
  | nil => cases h
  | cons i l =>
    have h := Option.some.inj h
    obtain ⟨h1, h2, h3⟩ := foldl_min l i
    rw [h] at h1 h2 h3
    refine ⟨h1.elim (fun e => by rw [e]; exact List.mem_cons_self) (List.mem_cons_of_mem _), fun y hy => ?_⟩
    rcases List.mem_cons.mp hy with e | e
    · rw [e]; exact h2
    · exact h3 y e
theorem maxL_ok {ns : List Int} {m : Int} (h : maxL ns = some m) : m ∈ ns ∧ ∀ y ∈ ns, y ≤ m := by
  cases ns with
  | nil => cases h
  | cons i l =>
    have h := Option.some.inj h
    obtain ⟨h1, h2, h3⟩ := foldl_max l i
    rw [h] at h1 h2 h3
    refine ⟨h1.elim (fun e => by rw [e]; exact List.mem_cons_self) (List.mem_cons_of_mem _), fun y hy => ?_⟩
    rcases List.mem_cons.mp hy with e | e
    · rw [e]; exact h2
    · exact h3 y e
theorem one_of {g : PV → Option PV} {ps : List PV} {z : PV} : True := trivial
end
section
variable {X : Cx}
theorem c_len : CallP X (.builtin "len") lenF := by
  refine ⟨_, call_len, fun N ρ H xs ps z Q hN hx ho hQ => ?_⟩
  unfold lenF at ho
  split at ho
  · cases ho
    obtain ⟨v, rfl, r, _⟩ := hx.one
    obtain ⟨a, ys, rfl, h1, _, h2⟩ := rvb_tup r
    exact ⟨_, ys.length, rfl, .inr ⟨ys, h1.sq, rfl⟩, by rw [h2.len]; exact hQ H _ Ext.refl mk_int⟩
  · cases ho
    obtain ⟨v, rfl, r, _⟩ := hx.one
    obtain ⟨a, ys, rfl, h1, _, h2⟩ := rvb_lst r
    exact ⟨_, ys.length, rfl, .inl ⟨ys, SqL.of h1, rfl⟩, by rw [h2.len]; exact hQ H _ Ext.refl mk_int⟩
  · cases ho
    obtain ⟨v, rfl, r, _⟩ := hx.one
    obtain ⟨a, rfl, h1⟩ := rvb_scr r
    exact ⟨_, _, rfl, .inl ⟨_, h1.sq, rfl⟩, by rw [List.length_map]; exact hQ H _ Ext.refl mk_int⟩
  · split at ho
    · rename_i hl
      cases ho
      obtain ⟨v, rfl, r, _⟩ := hx.one
      have e := rvb_str r
      subst e
      exact ⟨_, _, rfl, ⟨by rw [← LINE_eq]; exact hl, rfl⟩, hQ H _ Ext.refl mk_int⟩
    · cases ho
  · cases ho
theorem c_all (hc : X.calm = true) : CallP X (.builtin "all") allF := by
  refine ⟨_, cr_all hc, fun N ρ H xs ps z Q hN hx ho hQ => ?_⟩
  unfold allF at ho
  split at ho
  · rename_i l
    cases e : blsOf l with
    | none => rw [e] at ho; cases ho
    | some bs =>
      rw [e] at ho
      cases ho
      obtain ⟨v, rfl, r, _⟩ := hx.one
      obtain ⟨a, ys, rfl, h1, _, h2⟩ := rvb_lst r
      rw [blsOf_eq e] at h2
      rw [h2.bls] at h1
      exact ⟨a, bs, rfl, SqL.of h1, hQ H _ Ext.refl mk_bl⟩
  · cases ho
theorem c_any (hc : X.calm = true) : CallP X (.builtin "any") anyF := by
  refine ⟨_, cr_any hc, fun N ρ H xs ps z Q hN hx ho hQ => ?_⟩
  unfold anyF at ho
  split at ho
  · rename_i l
    cases e : blsOf l with
    | none => rw [e] at ho; cases ho
    | some bs =>
      rw [e] at ho
      cases ho
      obtain ⟨v, rfl, r, _⟩ := hx.one
      obtain ⟨a, ys, rfl, h1, _, h2⟩ := rvb_lst r
      rw [blsOf_eq e] at h2
      rw [h2.bls] at h1
      exact ⟨a, bs, rfl, SqL.of h1, hQ H _ Ext.refl mk_bl⟩
  · cases ho
theorem c_sum (hc : X.calm = true) : CallP X (.builtin "sum") sumF := by
  refine ⟨_, cr_sum hc, fun N ρ H xs ps z Q hN hx ho hQ => ?_⟩
  unfold sumF at ho
  split at ho
  · rename_i l
    cases e : intsOf l with
    | none => rw [e] at ho; cases ho
    | some bs =>
      rw [e] at ho
      cases ho
      obtain ⟨v, rfl, r, _⟩ := hx.one
      obtain ⟨a, ys, rfl, h1, _, h2⟩ := rvb_lst r
      rw [intsOf_eq e] at h2
      rw [h2.ints] at h1
      exact ⟨a, bs, rfl, SqL.of h1, hQ H _ Ext.refl mk_int⟩
  · cases ho
theorem CallR.or {f : Value} {r r' : List V → Hp → VK → Prop} (h : CallR X f r) (h' : CallR X f r') : CallR X f (fun xs H Q => r xs H Q ∨ r' xs H Q) :=
  fun pins s σ H xs us Q I v q => q.elim (h pins s σ H xs us Q I v) (h' pins s σ H xs us Q I v)
theorem c_min (hc : X.calm = true) : CallP X (.builtin "min") minF := by
  refine ⟨_, CallR.or (cr_min hc) (call_min2 hc), fun N ρ H xs ps z Q hN hx ho hQ => ?_⟩
  unfold minF at ho
  split at ho
  · rename_i l
    cases e : intsOf l with
    | none => rw [e] at ho; cases ho
    | some bs =>
      rw [e] at ho
      have ho : (minL bs).map PV.int = some z := ho
      cases em : minL bs with
      | none => rw [em] at ho; cases ho
      | some m =>
        rw [em] at ho
        cases ho
        obtain ⟨v, rfl, r, _⟩ := hx.one
        obtain ⟨a, ys, rfl, h1, _, h2⟩ := rvb_lst r
        rw [intsOf_eq e] at h2
        rw [h2.ints] at h1
        obtain ⟨m1, m2⟩ := minL_ok em
        refine .inl ⟨a, bs, rfl, SqL.of h1, List.length_pos_of_mem m1, fun k k1 k2 => ?_⟩
        have ek : k = m := Int.le_antisymm (k2 m m1) (m2 k k1)
        rw [ek]
        exact hQ H _ Ext.refl mk_int
  · cases ho
    obtain ⟨v, w, rfl, r1, r2⟩ := hx.two
    exact .inr ⟨_, _, by rw [rvb_int r1.1, rvb_int r2.1], hQ H _ Ext.refl mk_int⟩
  · cases ho
theorem c_max (hc : X.calm = true) : CallP X (.builtin "max") maxF := by
  refine ⟨_, CallR.or (cr_max hc) (call_max2 hc), fun N ρ H xs ps z Q hN hx ho hQ => ?_⟩
  unfold maxF at ho
  split at ho
  · rename_i l
    cases e : intsOf l with
    | none => rw [e] at ho; cases ho
    | some bs =>
      rw [e] at ho
      have ho : (maxL bs).map PV.int = some z := ho
      cases em : maxL bs with
      | none => rw [em] at ho; cases ho
      | some m =>
        rw [em] at ho
        cases ho
        obtain ⟨v, rfl, r, _⟩ := hx.one
        obtain ⟨a, ys, rfl, h1, _, h2⟩ := rvb_lst r
        rw [intsOf_eq e] at h2
        rw [h2.ints] at h1
        obtain ⟨m1, m2⟩ := maxL_ok em
        refine .inl ⟨a, bs, rfl, SqL.of h1, List.length_pos_of_mem m1, fun k k1 k2 => ?_⟩
        have ek : k = m := Int.le_antisymm (m2 k k1) (k2 m m1)
        rw [ek]
        exact hQ H _ Ext.refl mk_int
  · cases ho
    obtain ⟨v, w, rfl, r1, r2⟩ := hx.two
    exact .inr ⟨_, _, by rw [rvb_int r1.1, rvb_int r2.1], hQ H _ Ext.refl mk_int⟩
  · cases ho
theorem c_tuple : CallP X (.type "tuple") tupF := by
  refine ⟨_, call_tuple_of, fun N ρ H xs ps z Q hN hx ho hQ => ?_⟩
  unfold tupF at ho
  split at ho
  · cases ho
    obtain ⟨v, rfl, r, _⟩ := hx.one
    obtain ⟨a, ys, rfl, h1, h1', h2⟩ := rvb_lst r
    exact ⟨a, ys, rfl, .inl ⟨SqL.of h1, fun l nl => hQ _ _ (.new nl) (mk_tup (fun z => hN l z nl) upd_same h1' (RVs.ext (.new nl) h2))⟩⟩
  · cases ho
    obtain ⟨v, rfl, r, _⟩ := hx.one
    obtain ⟨a, ys, rfl, h1, h1', h2⟩ := rvb_tup r
    exact ⟨a, ys, rfl, .inr ⟨h1.sq, hQ H _ Ext.refl (mk_tupK h1 h1' h2)⟩⟩
  · cases ho
theorem c_list : CallL X (.type "list") listF := by
  refine ⟨_, call_list_of, fun N ρ H xs ps z Q hN hx ho hQ => ?_⟩
  unfold listF at ho
  split at ho
  · cases ho
    obtain ⟨v, rfl, r, _⟩ := hx.one
    obtain ⟨a, ys, rfl, h1, h1', h2⟩ := rvb_lst r
    exact ⟨a, ys, rfl, .inl (SqL.of h1), fun l nl => hQ H l ys _ Ext.refl nl rfl h1' h2⟩
  · cases ho
    obtain ⟨v, rfl, r, _⟩ := hx.one
    obtain ⟨a, ys, rfl, h1, h1', h2⟩ := rvb_tup r
    exact ⟨a, ys, rfl, .inr h1.sq, fun l nl => hQ H l ys _ Ext.refl nl rfl h1' h2⟩
  · cases ho
/-- repr of data -/
theorem c_repr (hg : X.A.guards = some []) (hu : X.A.units + 64 < cLine) : CallP X (.builtin "repr") reprF := by
  refine ⟨fun xs H Q => ∃ x d, xs = [x] ∧ Dp X.K H x d ∧ d.showable = true ∧ d.hasDict = false ∧ d.shown.length ≤ LINE ∧ d.depth ≤ 30 ∧ Q (.str d.shown) H, fun pins s σ H xs us Q I r h => ?_, fun N ρ H xs ps z Q hN hx ho hQ => ?_⟩
  · obtain ⟨x, d, rfl, hd, h1, h2, h3, h4, q⟩ := h
    obtain ⟨u, rfl, ru⟩ := vals1 r
    have h3' : d.shown.length ≤ sizeLine := by rw [← LINE_eq]; exact h3
    obtain ⟨as, rd⟩ := Dp.reads I d x u hd ru
    have fin : ∀ (h' : Heap) (t : Tok) (tk : Nat), (∀ b o, s.heap.get? b = some o → h'.get? b = some o) → EP X pins σ Q (.str d.shown t) { s with heap := h', toks := tk } := fun h' t tk kk => ⟨.str d.shown, H, I.kept (t' := tk) kk, ⟨t, rfl⟩, q⟩
    cases rd with
    | none => exact P.repr_of_none (by have := fin s.heap s.toks (s.toks + 1) (fun _ _ e => e); simpa [PyData.shown] using this)
    | bool b => exact P.repr_of_bool (by have := fin s.heap s.toks (s.toks + 1) (fun _ _ e => e); simpa [PyData.shown] using this)
    | int i t => exact P.repr_of_int (by simpa [PyData.showable] using h1) (by have := fin s.heap s.toks (s.toks + 1) (fun _ _ e => e); simpa [PyData.shown] using this)
    | str y t => exact P.repr_of_str (by have := fin s.heap s.toks (s.toks + 1) (fun _ _ e => e); simpa [PyData.shown] using this) (by simpa [PyData.shown] using h3')
    | list a1 a2 a3 a4 => exact repr_of_reads' (.list a1 a2 a3 a4) h1 (PyData.noDict_hsm h2) hg (by omega) (fun _ _ e => e) (fun h' t tk kk => fin h' t tk kk) h3'
    | tuple a1 a2 a3 a4 => exact repr_of_reads' (.tuple a1 a2 a3 a4) h1 (PyData.noDict_hsm h2) hg (by omega) (fun _ _ e => e) (fun h' t tk kk => fin h' t tk kk) h3'
    | dict a1 a2 a3 a4 a5 => simp [PyData.hasDict] at h2
  · unfold reprF at ho
    split at ho
    · split at ho
      · rename_i p _ d e
        split at ho
        · rename_i hd
          cases ho
          obtain ⟨v, rfl, r, _⟩ := hx.one
          exact ⟨v, d, rfl, r.dp e, hd.1, hd.2.1, hd.2.2.1, hd.2.2.2, hQ H _ Ext.refl mk_str⟩
        · cases ho
      · cases ho
    · cases ho
end
section
variable {X : Cx} {W : WX} {a b e : Expr} {fa : EF PV} {p p2 p3 pos : Pos}
/-- isinstance(a, T) -/
theorem m_isi {T : Ty} {n : Str} (ha : MB X W a fa) (hg : Gl X "isinstance") (hm : X.mg "isinstance" = none) (hg2 : Gl X n) (hm2 : X.mg n = none) (hv : bootBuiltins n = some (.type T.name)) (hn : n ≠ "__name__" := by decide) (hd : (n == ("__debug__" : Str)) = false := by decide)
    (h1 : starEach [a, .Name n p2] X.env = (false, eval a X.env) :: starEach [.Name n p2] X.env := by rfl) (h2 : starEach [.Name n p2] X.env = (false, eval (.Name n p2) X.env) :: starEach [] X.env := by rfl)
    (hpl : (backTo pos (starEach [.Name n p2] X.env)).any (·.1) = false := by rfl) : ME X W (.Call (.Name "isinstance" p) [a, .Name n p2] [] pos) (eUn (isiF T) fa) := by
  obtain ⟨ta, pa, qa⟩ := ha
  refine ⟨_, pe_callB call_isi hg hm (by decide +kernel) (pa_cons pa (pa_cons (pe_bltn (v := .ty T.name) hg2 hm2 hv rfl hn hd) pa_nil h2) h1) (by decide) (by decide) h1 hpl, fun B ρ env st σ H Q R h => ?_⟩
  refine qa B ρ env st σ H _ R (ROk.mono (ROk.bind h) fun q ρ1 st1 H1 E1 h1 x rx => ?_)
  obtain ⟨z, ez, hz⟩ := ROk.of E1.rep h1
  unfold isiF at ez
  cases eb : isiB T q with
  | none => rw [eb] at ez; cases ez
  | some k =>
    rw [eb] at ez
    cases ez
    obtain ⟨k1, k2, k3, k4⟩ := isi_kit eb
    exact ⟨x, .ty T.name, .type (tyN q), .type T.name, k, rfl, .ty T.name, ty_of rx.1 k2 k3 k4, kit_ty k1, hz H1 Ext.refl _ mk_bl⟩
def rngL (f : EF PV) : EF (List PV) := fun e st => (f e st).bind fun v st => match v with
  | .int n => if -LINE ≤ n ∧ n ≤ LINE then .ok (rangeF 0 n.toNat) st else .stuck
  | _ => .stuck
/-- list(range(a)) -/
theorem ml_listRg (ha : ME X W a fa) (hc : X.calm = true) (hg : Gl X "list") (hm : X.mg "list" = none) (hg2 : Gl X "range") (hm2 : X.mg "range" = none) (na : starEach [a] X.env = (false, eval a X.env) :: starEach [] X.env := by rfl)
    (nb : starEach [.Call (.Name "range" p2) [a] [] p3] X.env = (false, eval (.Call (.Name "range" p2) [a] [] p3) X.env) :: starEach [] X.env := by rfl) : ML X W (.Call (.Name "list" p) [.Call (.Name "range" p2) [a] [] p3] [] pos) (rngL fa) := by
  obtain ⟨ta, pa, qa⟩ := ha
  refine ⟨_, pe_listRg hc hg hm (prg_1 hg2 hm2 pa na) nb, fun B ρ env st σ H Q R h => ?_⟩
  refine qa B ρ env st σ H _ R (ROk.mono (ROk.bind h) fun q ρ1 st1 H1 E1 h1 x rx => ?_)
  cases q with
  | int n =>
    have ex := rv_int rx
    subst ex
    dsimp only at h1
    by_cases hn : -LINE ≤ n ∧ n ≤ LINE
    · rw [if_pos hn] at h1
      have l62 := line62
      have hL : LINE = 2 ^ 24 := by decide
      refine ⟨n, rfl, ⟨by decide, by decide, by omega, by omega, by omega⟩, fun l nl => ?_⟩
      refine h1 ρ1 H1 (.refl E1.rep) l (rgV 0 n) _ nl rfl (by rw [rgV_length]; omega) ?_
      have hr : ∀ (m : List Nat), RVs X.K (Excl B ρ1 env σ) ρ1 H1 (m.map fun (i : Nat) => PV.int (0 + i)) (m.map fun (i : Nat) => V.int (0 + i)) := fun m => by
        induction m with
        | nil => exact .nil
        | cons i m ih => exact .cons mk_int ih
      have e0 : (n - 0).toNat = n.toNat := by omega
      unfold rangeF rgV
      rw [e0]
      exact hr _
    · rw [if_neg hn] at h1
      exact h1.elim
  | _ => exact h1.elim
end
end PL
/-! PLk: enumerate and zip; two names at once; list.remove. -/
namespace PL
open PySem PySem.Spec L2
/-! ### enumerate of a tuple -/
theorem enum1_meets {v : Value} {o : Obj} {G : Heap → Prop} (B : Begins v o G) :
    Meets (Builtin.«enumerate.__new__» ⟨[.type "enumerate", v], []⟩) (fun _ R s => G s.heap ∧ R (.ok (.ret (.ref (s.heap.push o).objs.size)))
      { s with heap := (s.heap.push o).push { cls := .type "enumerate", data := .fields #[.none, .bool false, .ref s.heap.objs.size, rawInt 0, .none, .none] } }) :=
  .of_wp fun prog w A R s h => by
    obtain ⟨hp, g, d, tk, os⟩ := s
    obtain ⟨h1, h⟩ := h
    have hsub := sub_enumerate
    have q1 : ∀ {A' : Around} {E : Value → Shared → Prop} {Q : Value → Shared → Prop}, Q (.ref hp.objs.size) ⟨hp.push o, g, d, tk, os⟩ → wpAny (model prog w) A' (pyIter v) Q E ⟨hp, g, d, tk, os⟩ := fun q => B.iter prog w _ _ ⟨hp, g, d, tk, os⟩ _ h1 q
    wp_walk using q1
    refine wpAny_stack_any fun st => wpAny_pure ?_
    split
    · rename_i c _ _ _ _ _
      cases (c == Value.type "enumerate")
      all_goals
        wp_walk using q1
        exact ⟨_, rfl, h⟩
    · wp_walk using q1
      exact ⟨_, rfl, h⟩
theorem enum1_begins {prog : Program} {w : World} {A : Around} {E : Value → Shared → Prop} {s : Shared} {v : Value} {o : Obj} {G : Heap → Prop} {Q : Value → Shared → Prop} (B : Begins v o G) (h1 : G s.heap)
    (h : ∀ h', IsEnum h' (s.heap.objs.size + 1) s.heap.objs.size 0 .none → h'.get? s.heap.objs.size = some o → h'.objs.size = s.heap.objs.size + 2 → (∀ b o, s.heap.get? b = some o → h'.get? b = some o) → Q (.ref (s.heap.objs.size + 1)) { s with heap := h' }) :
    wpAny (model prog w) A (call (.type "enumerate") [v]) Q E s := by
  refine callType_new F.called_enumerate (by decide) (F.typeCall_enumerate_1 _) (F.newCall_enumerate_1 _) (fun obj => F.args_object_init_2 obj _) F.entry_enumerate_new (enum1_meets B) ⟨h1, ?_⟩
  have hz : (s.heap.push o).objs.size = s.heap.objs.size + 1 := Heap.size_push ..
  show _ ∧ _
  rw [hz]
  have he := Heap.get?_push_size (s.heap.push o) (o := { cls := .type "enumerate", data := .fields #[.none, .bool false, .ref s.heap.objs.size, rawInt 0, .none, .none] }) rfl
  rw [hz] at he
  exact ⟨⟨_, he, rfl⟩, h _ he (Heap.get?_push_of_some _ (Heap.get?_push_size _ B.free)) (by rw [Heap.size_push, hz]) fun b u x => Heap.get?_push_of_some _ (Heap.get?_push_of_some _ x)⟩
def IteT (K : PySem.W.Frag) (a : Addr) : It :=
  ⟨fun i H => ∃ (xs : List V) (x : V), SqT K H a xs ∧ xs[i]? = some x, fun i H v H' => ∃ T x, v = .ref T ∧ H T = none ∧ H' = upd H T (.tup [.int (i : Nat), x]) ∧ ∀ xs, SqT K H a xs → xs[i]? = some x,
    fun i H => ∃ xs : List V, SqT K H a xs ∧ xs.length = i⟩
theorem turn_enumT {P : Program} {w : World} {K : PySem.W.Frag} {elts : List Expr} {kk : Nat} {tpos : Pos} (a e it : Addr) (hai : a ≠ it) (hea : e ≠ a) :
    Turn P w K (.Tuple elts kk tpos) (IteT K a) [e, it] e (fun i h => (∃ old, IsEnum h e it ((i : Nat) : Int) old) ∧ h.IsTupleIter it a i ∧ e ≠ it) where
  mem := by simp
  obj := fun i h st b hb => by
    obtain ⟨⟨old, he⟩, ⟨o, ho, hc, hd⟩, _⟩ := st
    have e' : b = e ∨ b = it := by simpa using hb
    rcases e' with z | z
    · exact ⟨_, by rw [z]; exact he, fun v q => by have q' : Data.fields _ = Data.cell v := q; cases q'⟩
    · exact ⟨o, by rw [z]; exact ho, fun v q => by rw [hd] at q; cases q⟩
  keep := fun i h h' st k => by
    obtain ⟨⟨old, he⟩, hi, hne⟩ := st
    exact ⟨⟨old, k e (by simp) _ he⟩, hi.at fun o q => k it (by simp) o q, hne⟩
  item := by
    intro X hP hw hK hc i pins s σ H E I hf st hg
    subst hP hw hK
    obtain ⟨⟨old, he⟩, hit, hne⟩ := st
    obtain ⟨xs, x, hq, hx⟩ := hg
    obtain ⟨its, rv, p, hz⟩ := I.tuple hq
    obtain ⟨u, hu, ru⟩ := rv.get hx
    have hel : e < s.heap.objs.size := Heap.lt_size he
    have hil : it < s.heap.objs.size := by obtain ⟨_, q, _⟩ := hit; exact Heap.lt_size q
    have hlt : i < its.toArray.size := by
      rw [List.size_toArray]
      exact (List.getElem?_eq_some_iff.mp hu).1
    have hef : e ∉ [it, a] := by simp only [List.mem_cons, List.not_mem_nil, or_false, not_or]; exact ⟨hne, hea⟩
    refine wpAny_pyNext_enum_itemD (Draws.tuple (A := X.A.in1) (prog := X.prog) (w := X.w) (I.ok.hd hc) it a hai its.toArray) he ⟨hit, p⟩ hlt hne hef fun x' h' tk hx' ho hit' hT hsz hk => ?_
    have ex : x' = u := by
      have q : its.toArray[i]? = some x' := hx'
      rw [List.getElem?_toArray, hu] at q
      cases q
      rfl
    subst ex
    refine ⟨_, rfl, wpAny_letOwnedTupleGo_enum (s := { s with heap := h', toks := tk + 1 }) ho fun h'' he' sb => ?_⟩
    have hT2 : h''.get? s.heap.objs.size = some { cls := .type "tuple", data := .seq #[.int i tk, x'] } := (sb.2 _ (Nat.ne_of_gt hel)).trans hT
    have new : ObjOk X.prog X.w (upd H s.heap.objs.size (.tup [.int (i : Nat), x])) h'' s.heap.objs.size (.tup [.int (i : Nat), x]) :=
      ⟨by show 2 ≤ sizeLine; decide, [.int i tk, x'], .cons ⟨_, rfl⟩ (.cons ru .nil), ⟨_, hT2, rfl, _, rfl⟩⟩
    have I1 : Inv X pins σ (upd H s.heap.objs.size (.tup [.int (i : Nat), x])) { s with heap := h'', toks := tk + 1 } :=
      I.turnedNew (ch := [e, it]) (fun b ob hb q => (sb.2 b (fun z => hb (by simp [z]))).trans (hk b ob (fun z => hb (by simp [z])) (fun z => hb (by simp [z])) q)) hf (Nat.le_refl _) new
    refine ⟨.ref s.heap.objs.size, _, I1, rfl, ⟨_, x, rfl, I.hok.fresh (Nat.le_refl _), rfl, fun ys hy => by rw [I.tuple_inj hy hq]; exact hx⟩, ⟨⟨x', ?_⟩, hit'.1.at fun o q => (sb.2 it (Ne.symm hne)).trans q, hne⟩, fun b hb => ?_⟩
    · rw [show ((i + 1 : Nat) : Int) = (i : Int) + 1 by omega]
      exact he'
    · have hb' : b < s.heap.objs.size := by
        have e' : b = e ∨ b = it := by simpa using hb
        rcases e' with z | z <;> rw [z] <;> assumption
      rw [upd_ne (Nat.ne_of_lt hb')]
      exact (hf b hb).1
  done := by
    intro X hP hw hK hc i pins s σ H E I hf st hg
    subst hP hw hK
    obtain ⟨⟨old, he⟩, hit, hne⟩ := st
    obtain ⟨xs, hq, hx⟩ := hg
    obtain ⟨its, rv, p, hz⟩ := I.tuple hq
    obtain ⟨f0, f1, f2, f3, f4, f5⟩ := hf it (by simp)
    have hn : its.toArray.size = i := by rw [List.size_toArray, ← rv.length]; exact hx
    exact wpAny_pyNext_enum_endD (Draws.tuple (A := X.A.in1) (prog := X.prog) (w := X.w) (I.ok.hd hc) it a hai its.toArray) he (by rw [hn]; exact ⟨hit, p⟩) fun h' eb => ⟨rfl, I.turned (t' := s.toks) (fun b o hb q => eb b o hb q) f0 f1 f3 f4 f5⟩
  self := fun A i s Q E st h => by
    obtain ⟨⟨_, he⟩, _⟩ := st
    exact wpAny_pyIter_enum he h
/-- enumerate(t), t a tuple -/
def iEnumT (K : PySem.W.Frag) (ta : TA) : TI := fun σ H R => ta σ H fun vs H1 => ∃ a xs, vs = [.ref a] ∧ SqT K H1 a xs ∧ R (IteT K a) H1
theorem pi_enumT {X : Cx} {e : Expr} {ta : TA} {p pos tpos : Pos} {elts : List Expr} {kk : Nat} (hg : Gl X "enumerate") (hm : X.mg "enumerate" = none) (ha : PA X [e] ta) (hs : starEach [e] X.env = [(false, eval e X.env)] := by rfl) :
    PI X (.Tuple elts kk tpos) (.Call (.Name "enumerate" p) [e] [] pos) (iEnumT X.K ta) := by
  refine ⟨fun pins s σ H R I h => ?_⟩
  refine PyProof.Rows.Call_ (ld_blt I hg hm PyProof.Rows.boot_enumerate (PyProof.Rows.callWith_type1 (thn (ha.run pos pins s σ H _ I h) fun us s1 ⟨vs, H1, I1, r1, q1⟩ => ?_) hs rfl))
  obtain ⟨a, xs, rfl, hq, q⟩ := q1
  obtain ⟨u, rfl, ru⟩ := vals1 r1
  cases ru
  obtain ⟨its, rv, p', hz⟩ := I1.tuple hq
  have hal : a < s1.heap.objs.size := p'.lt
  refine enum1_begins (begins_tuple a its.toArray) p' fun h' he hit hsz hk => wpAny_pyIter_enum he ?_
  have I2 : Inv X pins σ H1 { s1 with heap := h' } := I1.kept (t' := s1.toks) hk
  refine ⟨s1.heap.objs.size + 1, [s1.heap.objs.size + 1, s1.heap.objs.size], _, _, H1, rfl, I2, turn_enumT a (s1.heap.objs.size + 1) s1.heap.objs.size (Nat.ne_of_lt hal) (Nat.ne_of_gt (Nat.lt_succ_of_lt hal)), ⟨⟨.none, he⟩, ⟨_, hit, rfl, rfl⟩, Nat.succ_ne_self _⟩, fun b hb => ?_, q⟩
  have hle : s1.heap.objs.size ≤ b := by
    have e' : b = s1.heap.objs.size + 1 ∨ b = s1.heap.objs.size := by simpa using hb
    rcases e' with z | z
    · rw [z]; exact Nat.le_succ _
    · rw [z]; exact Nat.le_refl _
  exact I1.fpOk hle (I1.hok.fresh hle)
theorem walk_enumT {K : PySem.W.Frag} {a : Addr} {xs : List V} : Walk (IteT K a) xs.length (fun H => SqT K H a xs) (YPair (fun i => some (.int (i : Nat))) (fun i => xs[i]?)) := by
  refine ⟨fun i _ hi q => ⟨xs, xs[i], q, by simp [hi]⟩, fun _ q => ⟨xs, q, rfl⟩, fun i H v H' _ q y => ?_⟩
  obtain ⟨T, x, h1, h2, h3, h4⟩ := y
  exact ⟨T, .int (i : Nat), x, h1, h2, h3, rfl, h4 xs q⟩
theorem walk_zipT {K : PySem.W.Frag} {a b : Addr} {xs ys : List V} {n : Nat} (hn : n = min xs.length ys.length) : Walk (RZ.ItzT K a b) n (fun H => SqT K H a xs ∧ SqT K H b ys) (YPair (fun i => xs[i]?) (fun i => ys[i]?)) := by
  subst hn
  refine ⟨fun i _ hi q => ⟨xs, ys, xs[i]'(by omega), ys[i]'(by omega), q.1, q.2, by simp, by simp⟩, fun _ q => ⟨xs, ys, q.1, q.2, by omega⟩, fun i H v H' _ q y => ?_⟩
  obtain ⟨T, x, z, h1, h2, h3, h4, h5⟩ := y
  exact ⟨T, x, z, h1, h2, h3, h4 xs q.1, h5 ys q.2⟩
/-! ### their items -/
theorem enumF_len : ∀ (l : List PV) (n : Nat), (enumF n l).length = l.length
  | [], _ => rfl
  | _ :: l, n => by unfold enumF; rw [List.length_cons, List.length_cons, enumF_len l]
theorem enumF_get : ∀ (l : List PV) (n i : Nat) (p : PV), (enumF n l)[i]? = some p → ∃ q, l[i]? = some q ∧ p = .tup [.int ((n + i : Nat) : Int), q]
  | [], _, _, _, h => by simp [enumF] at h
  | x :: l, n, 0, p, h => by
    unfold enumF at h
    have h' : PV.tup [.int n, x] = p := by simpa using h
    exact ⟨x, rfl, by rw [← h']; rfl⟩
  | x :: l, n, i + 1, p, h => by
    unfold enumF at h
    obtain ⟨q, h1, h2⟩ := enumF_get l (n + 1) i p (by simpa using h)
    refine ⟨q, by simpa using h1, ?_⟩
    rw [h2, show n + 1 + i = n + (i + 1) by omega]
theorem zipF_len : ∀ (l m : List PV), (zipF l m).length = min l.length m.length
  | [], _ => by simp [zipF]
  | _ :: _, [] => by simp [zipF]
  | _ :: l, _ :: m => by
    unfold zipF
    rw [List.length_cons, List.length_cons, List.length_cons, zipF_len l m]
    omega
theorem zipF_get : ∀ (l m : List PV) (i : Nat) (p : PV), (zipF l m)[i]? = some p → ∃ q r, l[i]? = some q ∧ m[i]? = some r ∧ p = .tup [q, r]
  | [], _, _, _, h => by simp [zipF] at h
  | _ :: _, [], _, _, h => by simp [zipF] at h
  | x :: l, y :: m, 0, p, h => by
    unfold zipF at h
    have h' : PV.tup [x, y] = p := by simpa using h
    exact ⟨x, y, rfl, rfl, h'.symm⟩
  | x :: l, y :: m, i + 1, p, h => by
    unfold zipF at h
    obtain ⟨q, r, h1, h2, h3⟩ := zipF_get l m i p (by simpa using h)
    exact ⟨q, r, by simpa using h1, by simpa using h2, h3⟩
section
variable {K : PySem.W.Frag} {N M : Addr → Prop} {ρ : List Addr} {H0 : Hp}
theorem enum_items {l : List PV} {xs : List V} (r : RVs K N ρ H0 l xs) (i : Nat) (p : PV) (x y : V) (hp : (enumF 0 l)[i]? = some p) (hx : some (V.int (i : Nat)) = some x) (hy : xs[i]? = some y) : ∃ q s, p = .tup [q, s] ∧ RV K N ρ H0 q x ∧ RV K N ρ H0 s y := by
  obtain ⟨q, h1, h2⟩ := enumF_get l 0 i p hp
  obtain ⟨v, h3, h4⟩ := r.get h1
  rw [hy] at h3
  cases h3
  cases hx
  exact ⟨_, _, h2, by rw [Nat.zero_add]; exact mk_int, h4⟩
theorem zip_items {l m : List PV} {xs ys : List V} (r : RVs K N ρ H0 l xs) (s : RVs K N ρ H0 m ys) (i : Nat) (p : PV) (x y : V) (hp : (zipF l m)[i]? = some p) (hx : xs[i]? = some x) (hy : ys[i]? = some y) : ∃ q t, p = .tup [q, t] ∧ RV K N ρ H0 q x ∧ RV K N ρ H0 t y := by
  obtain ⟨q, t, h1, h2, h3⟩ := zipF_get l m i p hp
  obtain ⟨v, h4, h5⟩ := r.get h1
  obtain ⟨w, h6, h7⟩ := s.get h2
  rw [hx] at h4
  rw [hy] at h6
  cases h4
  cases h6
  exact ⟨q, t, h3, h5, h7⟩
end
def iEnum1 (g : EF (List PV)) : EF (List PV) := fun e st => (g e st).bind fun vs st => match vs with
  | [.tup l] => .ok (enumF 0 l) st
  | [.lst l] => .ok (enumF 0 l) st
  | _ => .stuck
def iZip2 (g : EF (List PV)) : EF (List PV) := fun e st => (g e st).bind fun vs st => match vs with
  | [.tup l, .tup m] => .ok (zipF l m) st
  | [.lst l, .lst m] => .ok (zipF l m) st
  | _ => .stuck
section
variable {X : Cx} {W : WX} {e e2 : Expr} {g : EF (List PV)} {p pos tpos : Pos} {elts : List Expr} {kk : Nat}
theorem mi_enum (hg : Gl X "enumerate") (hm : X.mg "enumerate" = none) (ha : MA X W [e] g) (hs : starEach [e] X.env = [(false, eval e X.env)] := by rfl) : MI X W (.Tuple elts kk tpos) (.Call (.Name "enumerate" p) [e] [] pos) (iEnum1 g) := by
  obtain ⟨t, pt, q⟩ := ha
  refine ⟨_, PI.or (pi_enum hg hm pt hs) (pi_enumT hg hm pt hs), fun B ρ env st σ H R Rp h => ?_⟩
  unfold iEnum1 at h
  cases hf : g env st with
  | stuck => rw [hf] at h; exact h.elim
  | exc x st1 =>
    rw [hf] at h
    refine .inl (q B ρ env st σ H _ Rp ?_)
    rw [hf]
    exact h
  | ok vl st1 =>
    rw [hf] at h
    have h : ROk X.K W B ρ env σ H (match vl with
      | [.tup l] => RE.ok (enumF 0 l) st1
      | [.lst l] => .ok (enumF 0 l) st1
      | _ => .stuck) _ := h
    split at h
    · rename_i l
      refine .inr (q B ρ env st σ H _ Rp ?_)
      rw [hf]
      intro ρ1 H1 E1 us rus
      obtain ⟨u, rfl, ru⟩ := rus.one
      obtain ⟨z, xs, rfl, h1, h2, h3⟩ := rv_tup ru
      exact ⟨z, xs, rfl, h1.sq, h ρ1 H1 E1 _ H1 Ext.refl (iter_pair walk_enumT (fun H k => h1.keep k fun _ z => z) (by rw [enumF_len, h3.len]) h2 (enum_items h3))⟩
    · rename_i l
      refine .inl (q B ρ env st σ H _ Rp ?_)
      rw [hf]
      intro ρ1 H1 E1 us rus
      obtain ⟨u, rfl, ru⟩ := rus.one
      obtain ⟨z, xs, rfl, n, h1, h2, h3⟩ := rv_lst ru
      exact ⟨z, xs, rfl, SqL.of h1, h ρ1 H1 E1 _ H1 Ext.refl (iter_pair walk_enum (fun H k => SqL.of (k z _ h1 n)) (by rw [enumF_len, h3.len]) h2 (enum_items h3))⟩
    · exact h.elim
theorem mi_zip (hg : Gl X "zip") (hm : X.mg "zip" = none) (ha : MA X W [e, e2] g) (hs : starEach [e, e2] X.env = (false, eval e X.env) :: starEach [e2] X.env := by rfl) (hpl : (backTo pos (starEach [e2] X.env)).any (·.1) = false := by rfl) :
    MI X W (.Tuple elts kk tpos) (.Call (.Name "zip" p) [e, e2] [] pos) (iZip2 g) := by
  obtain ⟨t, pt, q⟩ := ha
  refine ⟨_, RZ.pi_zipA hg hm pt hs hpl, fun B ρ env st σ H R Rp h => ?_⟩
  refine q B ρ env st σ H _ Rp (ROk.mono (ROk.bind h) fun vl ρ1 st1 H1 E1 h us rus => ?_)
  split at h
  · rename_i l m
    obtain ⟨u, v, rfl, ru, rv⟩ := rus.two
    obtain ⟨z, xs, rfl, h1, h2, h3⟩ := rv_tup ru
    obtain ⟨y, ys, rfl, h1', h2', h3'⟩ := rv_tup rv
    exact ⟨z, y, xs, ys, rfl, .inr ⟨h1.sq, h1'.sq, h ρ1 H1 (.refl E1.rep) _ H1 Ext.refl (iter_pair (walk_zipT rfl) (fun H k => ⟨h1.keep k fun _ z => z, h1'.keep k fun _ z => z⟩) (by rw [zipF_len, h3.len, h3'.len]) (Nat.le_trans (Nat.min_le_left _ _) h2) (zip_items h3 h3'))⟩⟩
  · rename_i l m
    obtain ⟨u, v, rfl, ru, rv⟩ := rus.two
    obtain ⟨z, xs, rfl, n, h1, h2, h3⟩ := rv_lst ru
    obtain ⟨y, ys, rfl, n', h1', h2', h3'⟩ := rv_lst rv
    exact ⟨z, y, xs, ys, rfl, .inl ⟨SqL.of h1, SqL.of h1', h ρ1 H1 (.refl E1.rep) _ H1 Ext.refl (iter_pair (walk_zip rfl) (fun H k => ⟨SqL.of (k z _ h1 n), SqL.of (k y _ h1' n')⟩) (by rw [zipF_len, h3.len, h3'.len]) (Nat.le_trans (Nat.min_le_left _ _) h2) (zip_items h3 h3'))⟩⟩
  · exact h.elim
end
end PL
/-! PLl: several names at once; lists cut; an item taken out. -/
namespace PL
open PySem PySem.Spec L2
/-- what is put in a name: a value, or a new list -/
def NewE (K : PySem.W.Frag) (N : Addr → Prop) (ρ : List Addr) (Hv : Hp) : EV → V → Hp → Hp → Prop
  | .non, _, _, _ => False
  | .val v, u, H, H' => H' = H ∧ RV K N ρ Hv v u
  | .own l, u, H, H' => ∃ p xs, u = .ref p ∧ H p = none ∧ H' = upd H p (.lst xs) ∧ xs.length ≤ LINE ∧ RVs K N ρ Hv l xs
def NewEs (K : PySem.W.Frag) (N : Addr → Prop) (ρ : List Addr) (Hv : Hp) : List EV → List V → Hp → Hp → Prop
  | [], us, H, H' => us = [] ∧ H' = H
  | x :: xs, us, H, H' => ∃ u ws H1, us = u :: ws ∧ NewE K N ρ Hv x u H H1 ∧ NewEs K N ρ Hv xs ws H1 H'
def setEs : List Nat → List EV → Env → Option Env
  | [], [], e => some e
  | i :: is, x :: xs, e => if i < e.length then setEs is xs (e.set i x) else none
  | _, _, _ => none
def eVal (f : EF PV) : EF EV := fun e st => (f e st).bind fun v st => .ok (.val v) st
def eNew (f : EF (List PV)) : EF EV := fun e st => (f e st).bind fun v st => .ok (.own v) st
def nNil : EF (List EV) := fun _ st => .ok [] st
def nCons (f : EF EV) (r : EF (List EV)) : EF (List EV) := fun e st => (f e st).bind fun x st => (r e st).bind fun xs st => .ok (x :: xs) st
def sPar (is : List Nat) (f : EF (List EV)) : SF := fun e st => (f e st).toS e fun xs st => match setEs is xs e with
  | some e1 => .nx e1 st
  | none => .stuck
section
variable {K : PySem.W.Frag} {B : Addr → Prop} {N : Addr → Prop} {ρ ρ1 ρ2 : List Addr} {env : Env} {st st1 st2 : Sto} {σ : L2.St} {H H1 H2 H3 Hv : Hp}
theorem NewE.ext {x : EV} {u : V} (h : NewE K N ρ Hv x u H H1) : Ext H H1 := by
  cases x with
  | non => exact h.elim
  | val v => obtain ⟨rfl, _⟩ := h; exact Ext.refl
  | own l => obtain ⟨p, xs, rfl, h1, rfl, _⟩ := h; exact Ext.new h1
theorem NewEs.ext : ∀ {xs : List EV} {us : List V} {H H1 : Hp}, NewEs K N ρ Hv xs us H H1 → Ext H H1
  | [], _, _, _, h => by obtain ⟨_, rfl⟩ := h; exact Ext.refl
  | x :: xs, _, _, _, h => by
    obtain ⟨u, ws, H2, rfl, h1, h2⟩ := h
    exact h1.ext.trans (NewEs.ext h2)
theorem NewE.re {N' : Addr → Prop} {ρ' : List Addr} {Hv' : Hp} (f : ∀ p v, RV K N ρ Hv p v → RV K N' ρ' Hv' p v) (g : ∀ p v, RVs K N ρ Hv p v → RVs K N' ρ' Hv' p v) {x : EV} {u : V} (h : NewE K N ρ Hv x u H H1) : NewE K N' ρ' Hv' x u H H1 := by
  cases x with
  | non => exact h.elim
  | val v => exact ⟨h.1, f _ _ h.2⟩
  | own l => obtain ⟨p, xs, h0, h1, h2, h3, h4⟩ := h; exact ⟨p, xs, h0, h1, h2, h3, g _ _ h4⟩
theorem NewEs.re {N' : Addr → Prop} {ρ' : List Addr} {Hv' : Hp} (f : ∀ p v, RV K N ρ Hv p v → RV K N' ρ' Hv' p v) (g : ∀ p v, RVs K N ρ Hv p v → RVs K N' ρ' Hv' p v) : ∀ {xs : List EV} {us : List V} {H H1 : Hp}, NewEs K N ρ Hv xs us H H1 → NewEs K N' ρ' Hv' xs us H H1
  | [], _, _, _, h => h
  | x :: xs, _, _, _, h => by
    obtain ⟨u, ws, H2, e, h1, h2⟩ := h
    exact ⟨u, ws, H2, e, h1.re f g, NewEs.re f g h2⟩
theorem Rep.setNew (R : Rep K B ρ env st σ H) {i : Nat} {x : EV} {u : V} (hi : i < env.length) (h : NewE K (Excl B ρ env σ) ρ H x u H H1) : Post K B ρ env σ H ρ (env.set i x) st (σ.set i (some u)) H1 := by
  cases x with
  | non => exact h.elim
  | val v => obtain ⟨rfl, r⟩ := h; exact R.setVal hi r
  | own l => obtain ⟨p, xs, rfl, h1, rfl, h3, h4⟩ := h; exact R.setOwn hi h1 h3 h4
/-- the names' slots filled -/
def setVs : List Nat → List V → L2.St → L2.St
  | i :: is, u :: us, σ => setVs is us (σ.set i (some u))
  | _, _, σ => σ
theorem Rep.setNews : ∀ {is : List Nat} {xs : List EV} {us : List V} {env env1 : Env} {σ : L2.St} {H H1 : Hp}, Rep K B ρ env st σ H → setEs is xs env = some env1 → NewEs K (Excl B ρ env σ) ρ H xs us H H1 →
    Post K B ρ env σ H ρ env1 st (setVs is us σ) H1
  | [], [], us, env, env1, σ, H, H1, R, e, h => by
    cases e
    obtain ⟨rfl, rfl⟩ := h
    exact .refl R
  | i :: is, x :: xs, us, env, env1, σ, H, H1, R, e, h => by
    obtain ⟨u, ws, H2, rfl, h1, h2⟩ := h
    unfold setEs at e
    split at e
    · rename_i hi
      have P1 := R.setNew hi h1
      exact P1.trans (Rep.setNews P1.rep e (h2.re (fun _ _ => P1.rv) (fun _ _ => P1.rvs)))
    · cases e
  | [], _ :: _, _, _, _, _, _, _, _, e, _ => by cases e
  | _ :: _, [], _, _, _, _, _, _, _, e, _ => by cases e
/-- a new list that stands aside -/
theorem EPost.aside {p : Addr} {xs : List V} (R1 : Rep K B ρ1 env st1 σ H1) (np : H1 p = none) (E : EPost K (Inner B env σ [] p) ρ1 env σ (upd H1 p (.lst xs)) ρ2 st2 H2) :
    ∃ Hz : Hp, Hz p = none ∧ H2 = upd Hz p (.lst xs) ∧ EPost K B ρ1 env σ H1 ρ2 st2 Hz ∧ (∀ a o, H2 a = some o → ¬ Excl (Inner B env σ [] p) ρ2 env σ a → Hz a = some o) ∧ ∀ a, Excl B ρ2 env σ a → Excl (Inner B env σ [] p) ρ2 env σ a := by
  let Hz : Hp := fun a => if a = p then none else H2 a
  have zD : Hz p = none := if_pos rfl
  have zn : ∀ {a}, a ≠ p → Hz a = H2 a := fun h => if_neg h
  have pR : p ∉ ρ1 := fun z => R1.rT p z np
  have hD : H2 p = some (.lst xs) := E.kp p _ upd_same pR
  have nR : ∀ a ∈ ρ2, a ≠ p := fun a h z => E.rep.rB a h (.inr (.inl z))
  have EX : Ext H1 (upd H1 p (.lst xs)) := .new np
  have k0 : ∀ a o, H1 a = some o → a ∉ ρ1 → Hz a = some o := fun a o e n => by
    rw [zn (ne_of_none e np)]
    exact E.kp a o (EX a o e) n
  have k1 : ∀ a o, H2 a = some o → ¬ Excl (Inner B env σ [] p) ρ2 env σ a → Hz a = some o := fun a o e n => by
    rw [zn (fun z => n (by rw [z]; exact .inl (.inr (.inl rfl))))]
    exact e
  have less : ∀ a, Excl B ρ2 env σ a → Excl (Inner B env σ [] p) ρ2 env σ a := fun a n => (excl_inner (vs := [])).mpr (.inl n)
  have fr : ∀ a ∈ ρ2, a ∉ ρ1 → H1 a = none := fun a h n => by
    have q := E.fr a h n
    rw [upd_ne (nR a h)] at q
    exact q
  have trz : ∀ a, H1 a ≠ none → Hz a ≠ none := fun a h => by
    rw [zn (fun z => h (by rw [z]; exact np))]
    exact E.tr a fun z => by
      cases e : H1 a with
      | none => exact h e
      | some o => rw [EX a o e] at z; cases z
  refine ⟨Hz, zD, ?_, ⟨Rep.back R1 E.rep E.pre k0 fr (fun a h => zn (nR a h)) k1 less fun a h z => E.rep.rB a h (.inl z), E.pre, k0, trz, fr⟩, k1, less⟩
  funext a
  by_cases ha : a = p
  · rw [ha, upd_same, hD]
  · rw [upd_ne ha, zn ha]
end
def MN (X : Cx) (W : WX) (e : Expr) (f : EF EV) : Prop := ∃ t, PE X e t ∧ ∀ B ρ env st σ H Q, Rep X.K B ρ env st σ H →
  ROk X.K W B ρ env σ H (f env st) (fun x ρ' st' H' => ∀ u H'', NewE X.K (Excl B ρ' env σ) ρ' H' x u H' H'' → Q u H'') → t σ H Q
def MNs (X : Cx) (W : WX) (es : List Expr) (f : EF (List EV)) : Prop := ∃ t, PA X es t ∧ ∀ B ρ env st σ H Q, Rep X.K B ρ env st σ H →
  ROk X.K W B ρ env σ H (f env st) (fun xs ρ' st' H' => ∀ us H'', NewEs X.K (Excl B ρ' env σ) ρ' H' xs us H' H'' → Q us H'') → t σ H Q
section
variable {X : Cx} {W : WX} {e a b : Expr} {es : List Expr} {f : EF PV} {fl : EF (List PV)} {fe : EF EV} {fs : EF (List EV)}
theorem ME.mn (h : ME X W e f) : MN X W e (eVal f) := by
  obtain ⟨t, p, q⟩ := h
  refine ⟨t, p, fun B ρ env st σ H Q R h => q B ρ env st σ H Q R (ROk.mono (ROk.bind h) fun v ρ1 st1 H1 E1 h1 u ru => ?_)⟩
  exact h1 ρ1 H1 (.refl E1.rep) u H1 ⟨rfl, ru⟩
theorem ML.mn (h : ML X W e fl) : MN X W e (eNew fl) := by
  obtain ⟨t, p, q⟩ := h
  refine ⟨t, p, fun B ρ env st σ H Q R h => q B ρ env st σ H Q R (ROk.mono (ROk.bind h) fun v ρ1 st1 H1 E1 h1 p xs H2 np e2 hl rxs => ?_)⟩
  exact h1 ρ1 H1 (.refl E1.rep) (.ref p) H2 ⟨p, xs, rfl, np, e2, hl, rxs⟩
theorem mns_nil : MNs X W [] nNil := ⟨tNil, pa_nil, fun B ρ env st σ H Q R h => h ρ H (.refl R) [] H ⟨rfl, rfl⟩⟩
theorem mns_cons (he : MN X W e fe) (hr : MNs X W es fs) (hs : starEach (e :: es) X.env = (false, eval e X.env) :: starEach es X.env := by rfl) : MNs X W (e :: es) (nCons fe fs) := by
  obtain ⟨t, p, q⟩ := he
  obtain ⟨t2, p2, q2⟩ := hr
  refine ⟨_, pa_cons p p2 hs, fun B ρ env st σ H Q R h => ?_⟩
  refine q B ρ env st σ H _ R (ROk.mono (ROk.bind h) fun x ρ1 st1 H1 E1 h1 u H2 hn => ?_)
  cases x with
  | non => exact hn.elim
  | val v =>
    obtain ⟨rfl, ru⟩ := hn
    refine q2 B ρ1 env st1 σ H2 _ E1.rep (ROk.mono (ROk.bind h1) fun xs ρ2 st2 H3 E2 h2 us H4 hns => ?_)
    exact h2 ρ2 H3 (.refl E2.rep) (u :: us) H4 ⟨u, us, H3, rfl, ⟨rfl, E2.post.rv ru⟩, hns⟩
  | own l =>
    obtain ⟨p, xv, rfl, np, rfl, hl, rl⟩ := hn
    have R1 := E1.rep
    have RI : Rep X.K (Inner B env σ [] p) ρ1 env st1 σ (upd H1 p (.lst xv)) := R1.wiped np []
    refine q2 (Inner B env σ [] p) ρ1 env st1 σ (upd H1 p (.lst xv)) _ RI ?_
    cases hf : fs env st1 with
    | stuck => rw [hf] at h1; exact h1.elim
    | exc y st2 =>
      rw [hf] at h1
      intro ρ2 H2 cls d E2 hx
      obtain ⟨Hz, z1, z2, EZ, k1, less⟩ := E2.aside R1 np
      have EE : EPost X.K B ρ2 env σ Hz ρ2 st2 H2 := by rw [z2]; exact .ext EZ.rep (.new z1)
      refine h1 ρ2 H2 cls d (EZ.trans EE) ⟨hx.1, hx.2.imp id ?_⟩
      rintro ⟨dd, fvs, e1, e2, e3, e4⟩
      exact ⟨dd, fvs, e1, e2, e3, RVs.carry (fun a _ _ n => less a n) (fun _ _ e _ => e) List.prefix_rfl _ _ e4⟩
    | ok xs st2 =>
      rw [hf] at h1
      intro ρ2 H2 E2 us H4 hns
      obtain ⟨Hz, z1, z2, EZ, k1, less⟩ := E2.aside R1 np
      have h2 := h1 ρ2 Hz EZ
      refine h2 (.ref p :: us) H4 ⟨.ref p, us, H2, rfl, ⟨p, xv, rfl, z1, z2, hl, EZ.post.rvs rl⟩, ?_⟩
      exact hns.re (fun q v r => RV.carry (fun a _ _ n => less a n) k1 List.prefix_rfl q v r) (fun q v r => RVs.carry (fun a _ _ n => less a n) k1 List.prefix_rfl q v r)
theorem NewEs.two {K : PySem.W.Frag} {N : Addr → Prop} {ρ : List Addr} {Hv H H' : Hp} {x y : EV} {us : List V} (h : NewEs K N ρ Hv [x, y] us H H') : ∃ u w, us = [u, w] := by
  obtain ⟨u, ws, H1, rfl, _, w, ws2, H2, rfl, _, rfl, _⟩ := h
  exact ⟨u, w, rfl⟩
theorem setEs_len : ∀ {is : List Nat} {xs : List EV} {e e1 : Env}, setEs is xs e = some e1 → xs.length = is.length
  | [], [], _, _, _ => rfl
  | i :: is, x :: xs, e, e1, h => by
    unfold setEs at h
    split at h
    · rw [List.length_cons, List.length_cons, setEs_len h]
    · cases h
  | [], _ :: _, _, _, h => by cases h
  | _ :: _, [], _, _, h => by cases h
theorem NewEs.len {K : PySem.W.Frag} {N : Addr → Prop} {ρ : List Addr} {Hv : Hp} : ∀ {xs : List EV} {us : List V} {H H' : Hp}, NewEs K N ρ Hv xs us H H' → us.length = xs.length
  | [], _, _, _, h => by rw [h.1]; rfl
  | _ :: _, _, _, _, h => by
    obtain ⟨u, ws, H1, rfl, _, h2⟩ := h
    rw [List.length_cons, List.length_cons, NewEs.len h2]
/-- a, b = x, y, the names plain -/
theorem ms_par {i j : Nat} {x y : Str} {px py pt pos : Pos} {kt k2 pt2} (h : MNs X W [a, b] fs) (hc : X.calm = true) (hN : X.N.Nodup) (hi : X.N[i]? = some x) (hj : X.N[j]? = some y) (hij : i ≠ j)
    (hx : X.env.scope.names.lookup x = some .local) (hy : X.env.scope.names.lookup y = some .local)
    (hw : swappedStores [.Tuple [.Name x px, .Name y py] kt pt] (.Tuple [a, b] k2 pt2) X.env = pure (some [x, y]))
    (hs : swapsWithSole [.Tuple [.Name x px, .Name y py] kt pt] (.Tuple [a, b] k2 pt2) pos.line X.env = pure false := by rfl) :
    MS X W (.Assign [.Tuple [.Name x px, .Name y py] kt pt] (.Tuple [a, b] k2 pt2) pos) (sPar [i, j] fs) := by
  obtain ⟨t, p, q⟩ := h
  refine ⟨_, ps_par hc hN hi hj hij hx hy p hw hs, fun B ρ env st σ H D R h => ?_⟩
  refine q B ρ env st σ H _ R (ROk.mono (SOk.toS h) fun xs ρ1 st1 H1 E1 h1 us H2 hn => ?_)
  cases e : setEs [i, j] xs env with
  | none => rw [e] at h1; exact h1.elim
  | some env1 =>
    rw [e] at h1
    have hl : us.length = 2 := hn.len.trans (setEs_len e)
    match us, hl with
    | [u, w], _ => exact ⟨u, w, rfl, h1 ρ1 _ H2 (E1.rep.setNews e hn)⟩
/-- .. stored from the left -/
theorem ms_parU {i j : Nat} {x y : Str} {px py pt pos : Pos} {kt k2 pt2} (h : MNs X W [a, b] fs) (hc : X.calm = true) (hN : X.N.Nodup) (hi : X.N[i]? = some x) (hj : X.N[j]? = some y)
    (hx : Loc X.env.scope x) (hy : Loc X.env.scope y) (hfx : X.fn x = true ∨ X.env.scope.names.lookup x = some .local) (hfy : X.fn y = true ∨ X.env.scope.names.lookup y = some .local)
    (hw : swappedStores [.Tuple [.Name x px, .Name y py] kt pt] (.Tuple [a, b] k2 pt2) X.env = pure none)
    (hs : swapsWithSole [.Tuple [.Name x px, .Name y py] kt pt] (.Tuple [a, b] k2 pt2) pos.line X.env = pure false := by rfl)
    (h1 : (assignEach [.Tuple [.Name x px, .Name y py] kt pt] X.env).map (·.2) = [assign (.Tuple [.Name x px, .Name y py] kt pt) X.env] := by rfl)
    (h2 : (assignEach [.Name x px, .Name y py] X.env).map (·.2) = assign (.Name x px) X.env :: (assignEach [.Name y py] X.env).map (·.2) := by rfl)
    (h3 : (assignEach [.Name y py] X.env).map (·.2) = assign (.Name y py) X.env :: (assignEach [] X.env).map (·.2) := by rfl)
    (hst : (assignEach [.Name x px, .Name y py] X.env).findIdx? (·.1) = none := by rfl) (hn : (assignEach [.Name x px, .Name y py] X.env).length = 2 := by rfl) :
    MS X W (.Assign [.Tuple [.Name x px, .Name y py] kt pt] (.Tuple [a, b] k2 pt2) pos) (sPar [i, j] fs) := by
  obtain ⟨t, p, q⟩ := h
  refine ⟨_, ps_asg (pe_tup p) (pg_tup (n := 2) hc (pgs_cons (pg_name hN hi hx hfx) (pgs_cons (pg_name hN hj hy hfy) pgs_nil h3) h2) hn hst) hs hw h1, fun B ρ env st σ H D R h => ?_⟩
  refine q B ρ env st σ H _ R (ROk.mono (SOk.toS h) fun xs ρ1 st1 H1 E1 h1 us H2 hn => ?_)
  cases e : setEs [i, j] xs env with
  | none => rw [e] at h1; exact h1.elim
  | some env1 =>
    rw [e] at h1
    have hl : us.length = 2 := hn.len.trans (setEs_len e)
    match us, hl with
    | [u, w], _ =>
      refine ⟨by rw [← LINE_eq]; show 2 ≤ 16777216; decide, fun T nT => ⟨T, [u, w], rfl, SqT.of upd_same, rfl, u, [w], rfl, w, [], rfl, rfl, ?_⟩⟩
      have P := E1.rep.setNews e hn
      exact h1 ρ1 _ _ (P.trans (EPost.ext P.rep (.new nT)).post)
end
end PL
/-! PLm: slices; an item taken out of a list. -/
namespace PL
open PySem PySem.Spec L2
/-! ### a[lo:hi] -/
def cutF (l : List PV) (lo hi : Option Int) : List PV := (l.drop (HT.sIx l.length 0 lo)).take (HT.sIx l.length l.length hi - HT.sIx l.length 0 lo)
def oNone : EF (Option Int) := fun _ st => .ok none st
def oSome (f : EF PV) : EF (Option Int) := fun e st => (f e st).bind fun v st => match v with
  | .int i => .ok (some i) st
  | _ => .stuck
def slF : PV → Option Int → Option Int → Option PV
  | .tup l, lo, hi => some (.tup (cutF l lo hi))
  | .lst l, lo, hi => some (.lst (cutF l lo hi))
  | .scr l, lo, hi => some (.lst (cutF (l.map PV.int) lo hi))
  | _, _, _ => none
def eSl (f : EF PV) (lo hi : EF (Option Int)) : EF PV := fun e st => (f e st).bind fun v st => (lo e st).bind fun i st => (hi e st).bind fun j st => .of (slF v i j) st
def MO (X : Cx) (W : WX) (o : Option Expr) (f : EF (Option Int)) : Prop := ∃ t, PO X o t ∧ ∀ B ρ env st σ H Q, Rep X.K B ρ env st σ H →
  ROk X.K W B ρ env σ H (f env st) (fun k ρ' st' H' => Q k H') → t σ H Q
section
variable {X : Cx} {W : WX} {e : Expr} {lo hi : Option Expr} {f : EF PV} {fl fh : EF (Option Int)} {pos p2 : Pos}
theorem mo_none : MO X W none oNone := ⟨_, po_none, fun B ρ env st σ H Q R h => h ρ H (.refl R)⟩
theorem mo_some (h : ME X W e f) : MO X W (some e) (oSome f) := by
  obtain ⟨t, p, q⟩ := h
  refine ⟨_, po_some p, fun B ρ env st σ H Q R h => q B ρ env st σ H _ R (ROk.mono (ROk.bind h) fun v ρ1 st1 H1 E1 h1 u ru => ?_)⟩
  cases v with
  | int i => exact ⟨i, rv_int ru, h1 ρ1 H1 (.refl E1.rep)⟩
  | _ => exact h1.elim
theorem RVs.cut {K : PySem.W.Frag} {N : Addr → Prop} {ρ : List Addr} {H : Hp} {l : List PV} {xs : List V} (r : RVs K N ρ H l xs) (lo hi : Option Int) : RVs K N ρ H (cutF l lo hi) (cutV xs lo hi) := by
  unfold cutF cutV
  rw [r.len]
  exact (r.drop _).take _
theorem sIx_le (n d : Nat) (o : Option Int) (h : d ≤ n) : HT.sIx n d o ≤ n := by
  unfold HT.sIx
  split
  · exact h
  · split <;> omega
theorem cut_whole {l : List V} {lo hi : Option Int} (h1 : HT.sIx l.length 0 lo = 0) (h2 : HT.sIx l.length l.length hi = l.length) : cutV l lo hi = l := by
  unfold cutV
  rw [h1, h2, List.drop_zero, Nat.sub_zero, List.take_length]
theorem cutF_whole {l : List PV} {lo hi : Option Int} (h1 : HT.sIx l.length 0 lo = 0) (h2 : HT.sIx l.length l.length hi = l.length) : cutF l lo hi = l := by
  unfold cutF
  rw [h1, h2, List.drop_zero, Nat.sub_zero, List.take_length]
theorem m_slice (ha : MB X W e f) (hl : MO X W lo fl) (hh : MO X W hi fh) : ME X W (.Subscript e (.Slice lo hi none p2) pos) (eSl f fl fh) := by
  obtain ⟨ta, pa, qa⟩ := ha
  obtain ⟨tl, pl, ql⟩ := hl
  obtain ⟨th, ph, qh⟩ := hh
  refine ⟨_, pe_slice (SlR.or sl_tupA sl_list) pa pl ph, fun B ρ env st σ H Q R h => ?_⟩
  refine qa B ρ env st σ H _ R (ROk.mono (ROk.bind h) fun p ρ1 st1 H1 E1 h1 x rx => ?_)
  refine ql B ρ1 env st1 σ H1 _ E1.rep (ROk.mono (ROk.bind h1) fun i ρ2 st2 H2 E2 h2 => ?_)
  refine qh B ρ2 env st2 σ H2 _ E2.rep (ROk.mono (ROk.bind h2) fun j ρ3 st3 H3 E3 h3 => ?_)
  obtain ⟨z, e, hz⟩ := ROk.of E3.rep h3
  have E23 := E2.trans E3
  have rx2 := (RVl.on E23 E23.fr rx).1
  cases p with
  | tup l =>
    cases e
    obtain ⟨t, xs, rfl, g1, g2, g3⟩ := rvb_tup rx2
    have hl : (cutV xs i j).length ≤ LINE := Nat.le_trans (cutV_length xs i j) g2
    refine .inl ⟨t, xs, rfl, g1.sq, fun hw => ?_, fun _ p np => ?_⟩
    · rw [g3.len] at hw
      refine hz H3 Ext.refl _ (mk_tupK g1 g2 ?_)
      rw [cutF_whole hw.1 hw.2]
      exact g3
    · exact hz _ (.new np) _ (mk_tup (E3.rep.fresh np) upd_same hl (RVs.ext (.new np) (g3.cut i j)))
  | lst l =>
    cases e
    obtain ⟨t, xs, rfl, g1, g2, g3⟩ := rvb_lst rx2
    have hl : (cutV xs i j).length ≤ LINE := Nat.le_trans (cutV_length xs i j) g2
    exact .inr ⟨t, xs, rfl, SqL.of g1, fun p np => hz _ (.new np) _ (mk_lst (E3.rep.fresh np) upd_same hl (RVs.ext (.new np) (g3.cut i j)))⟩
  | scr l =>
    cases e
    obtain ⟨t, rfl, g1⟩ := rvb_scr rx2
    have hl : (cutV (l.map V.int) i j).length ≤ LINE := Nat.le_trans (cutV_length _ i j) (by rw [List.length_map]; exact g1.1)
    exact .inr ⟨t, _, rfl, g1.sq, fun p np => hz _ (.new np) _ (mk_lst (E3.rep.fresh np) upd_same hl (RVs.ext (.new np) ((RVs.ofInts l).cut i j)))⟩
  | _ => cases e
end
/-! ### x.remove(k), x's own list of ints -/
def sRem (i : Nat) (a : EF PV) : SF := fun e st => match e[i]? with
  | some (.own l) => (a e st).toS e fun v st => match v, intsOf l with
    | .int k, some ns => if ns.idxOf k < ns.length then .nx (e.set i (.own ((ns.eraseIdx (ns.idxOf k)).map PV.int))) st else .stuck
    | _, _ => .stuck
  | _ => .stuck
/-- x.append(y.pop(k)), x and y own lists -/
def popAt (l : List PV) (k : Int) : Option (PV × List PV) := match ixN l.length k with
  | some j => match l[j]? with
    | some y => some (y, l.eraseIdx j)
    | none => none
  | none => none
section
variable {X : Cx} {W : WX} {e : Expr} {fe : EF PV} {pos apos cpos pos' : Pos} {i : Nat} {x : Str}
theorem ms_rem (h : ME X W e fe) (hN : X.N[i]? = some x) (hv : Vis X.env.scope x) (hd : (x == ("__debug__" : Str)) = false := by decide) (hcd : (x == ("__classdict__" : Str)) = false := by decide)
    (hbase : attributeBase (.Name x pos') "remove" X.env (eval (.Name x pos') X.env) = eval (.Name x pos') X.env := by rfl)
    (hfew : ((backTo cpos (starEach [e] X.env)).all (fun x => !x.1) && (backToKw cpos (keywordEach [] X.env)).all (fun x => x.1.isSome) && decide ([e].length + ([] : List Keyword).length + (if ([] : List Keyword).isEmpty then 0 else 1) < 30)) = true := by rfl)
    (hline : (apos.endLine == cpos.line) = true := by rfl) (hs : starEach [e] X.env = (false, eval e X.env) :: starEach [] X.env := by rfl) (hplain : (backTo cpos (starEach [] X.env)).any (·.1) = false := by rfl)
    (hsw : swapsWith (.Call (.Attribute (.Name x pos') "remove" apos) [e] [] cpos) none pos.line X.env = pure false := by rfl) :
    MS X W (.Expr (.Call (.Attribute (.Name x pos') "remove" apos) [e] [] cpos) pos) (sRem i fe) := by
  obtain ⟨t, p, q⟩ := h
  refine ⟨_, ps_expr (pe_bm PySem.F.plainAttrs_list PySem.F.slot_list_remove PySem.F.type_list_remove mt_remove (pe_var hN hv hd hcd) (pa_cons p pa_nil hs) hbase hfew hline hs hplain) hsw, fun B ρ env st σ H D R h => ?_⟩
  unfold sRem at h
  cases e0 : env[i]? with
  | none => rw [e0] at h; exact h.elim
  | some ev =>
    rw [e0] at h
    cases ev with
    | non => exact h.elim
    | val _ => exact h.elim
    | own l =>
      obtain ⟨z, xs, h1, h2, h3, h4⟩ := R.slot i _ e0
      refine ⟨.ref z, h1, .inl ⟨rfl, xs, SqL.of h2⟩, ?_⟩
      refine q B ρ env st σ H _ R (ROk.mono (SOk.toS h) fun v ρ1 st1 H1 E1 k1 u ru => ?_)
      obtain ⟨z', xs', g1, g2, g3, g4⟩ := E1.rep.slot i _ e0
      rw [h1] at g1
      cases g1
      cases v with
      | int k =>
        cases e1 : intsOf l with
        | none => rw [e1] at k1; exact k1.elim
        | some ns =>
          rw [e1] at k1
          dsimp only at k1
          by_cases hl : ns.idxOf k < ns.length
          · rw [if_pos hl] at k1
            have ru := rv_int ru
            subst ru
            have el := intsOf_eq e1
            rw [el] at g4
            have ex := g4.ints
            subst ex
            have hl2 : ((ns.eraseIdx (ns.idxOf k)).map V.int).length ≤ LINE := by
              rw [List.length_map] at g3 ⊢
              exact Nat.le_trans (List.length_eraseIdx_le _ _) g3
            refine ⟨z, ns, k, ns.idxOf k, rfl, rfl, g2, by rw [List.getElem?_eq_getElem hl, List.getElem_idxOf hl], fun m hm e => ?_, k1 ρ1 σ _ (E1.rep.ownWrite e0 h1 hl2 (RVs.ofInts _))⟩
            have hm2 : m < ns.length := Nat.lt_trans hm hl
            rw [List.getElem?_eq_getElem hm2] at e
            cases e
            have q := List.not_of_lt_findIdx (p := (· == ns[m])) (xs := ns) hm
            simp at q
          · rw [if_neg hl] at k1
            exact k1.elim
      | _ => exact k1.elim
end
end PL
/-! PLn: the rules, with their small conditions filled in. -/
namespace PL
open PySem PySem.Spec L2
def leF : PV → PV → Option PV := cmpF fun i j => decide (i ≤ j)
def gtF : PV → PV → Option PV := cmpF fun i j => decide (j < i)
def geF : PV → PV → Option PV := cmpF fun i j => decide (j ≤ i)
def ALen (g : EF (List PV)) (n : Nat) : Prop := ∀ en st l st', g en st = .ok l st' → l.length = n
theorem alen_nil : ALen aNil 0 := fun en st l st' h => by cases h; rfl
theorem alen_cons {f : EF PV} {g : EF (List PV)} {n : Nat} (h : ALen g n) : ALen (aCons f g) (n + 1) := fun en st l st' e => by
  have e : ((f en st).bind fun x st => (g en st).bind fun xs st => .ok (x :: xs) st) = .ok l st' := e
  cases hf : f en st with
  | stuck => rw [hf] at e; cases e
  | exc _ _ => rw [hf] at e; cases e
  | ok x st1 =>
    rw [hf] at e
    have e : ((g en st1).bind fun xs st => RE.ok (x :: xs) st) = .ok l st' := e
    cases hg : g en st1 with
    | stuck => rw [hg] at e; cases e
    | exc _ _ => rw [hg] at e; cases e
    | ok xs st2 =>
      rw [hg] at e
      cases e
      rw [List.length_cons, h _ _ _ _ hg]
section
variable {X : Cx} {W : WX} {a b c e : Expr} {es : List Expr} {fa fb fc f : EF PV} {g : EF (List PV)} {pos p : Pos}
theorem takes_F : Takes X WF := fun u s' ⟨_, _, _, _, _, _, _, _, _, _, _, _, _, _, _, _, z⟩ => z.elim
theorem gv (i : Nat) {x : Str} (hN : X.N[i]? = some x := by rfl) (hv : Vis X.env.scope x := by first | exact .inl rfl | exact .inr (.inl rfl) | exact .inr (.inr rfl)) (hd : (x == ("__debug__" : Str)) = false := by decide) (hcd : (x == ("__classdict__" : Str)) = false := by decide) : ME X W (.Name x pos) (eVar i) := m_var hN hv hd hcd
theorem go (i : Nat) {x : Str} (hN : X.N[i]? = some x := by rfl) (hv : Vis X.env.scope x := by first | exact .inl rfl | exact .inr (.inl rfl) | exact .inr (.inr rfl)) (hd : (x == ("__debug__" : Str)) = false := by decide) (hcd : (x == ("__classdict__" : Str)) = false := by decide) : MB X W (.Name x pos) (eOwn i) := mb_own hN hv hd hcd
theorem gI {x : Str} {i : Int} (hm : ∃ t, X.mg x = some (.int i t)) (hg : Gl X x := by rfl) (hd : (x == ("__debug__" : Str)) = false := by decide) : ME X W (.Name x pos) (eC (.int i)) := m_globI hg hm hd
theorem gS {x : Str} {i : Str} (hm : ∃ t, X.mg x = some (.str i t)) (hg : Gl X x := by rfl) (hd : (x == ("__debug__" : Str)) = false := by decide) : ME X W (.Name x pos) (eC (.str i)) := m_globS hg hm hd
theorem o_lt {k : Nat} (r : Room k X.A) : OpP X (compareOp .Lt) ltF := p_lt r.units0
theorem o_le : OpP X (compareOp .LtE) leF := p_le
theorem o_gt : OpP X (compareOp .Gt) gtF := p_gt
theorem o_ge : OpP X (compareOp .GtE) geF := p_ge
theorem o_eq {k : Nat} (r : Room k X.A) : OpP X (compareOp .Eq) eqF := p_eq r.units
theorem o_ne {k : Nat} (r : Room k X.A) : OpP X (compareOp .NotEq) neF := p_ne r.units
theorem g_cmp {op : CmpOp} {k : PV → PV → Option PV} (ho : OpP X (compareOp op) k) (ha : MB X W a fa) (hb : MB X W b fb) (h1 : op ≠ .In := by decide) (h2 : op ≠ .NotIn := by decide) : ME X W (.Compare a [op] [b] pos) (eOp k fa fb) := m_cmp ho ha hb (nomark b h1 h2)
theorem g_in {op : CmpOp} {k : PV → PV → Option PV} (ho : OpP X (compareOp op) k) (ha : MB X W a fa) (hb : MB X W b fb) (h1 : behindInMarks op b = false := by with_unfolding_all rfl) : ME X W (.Compare a [op] [b] pos) (eOp k fa fb) := m_cmp ho ha hb h1
theorem gt_cmp {op : CmpOp} {k : PV → PV → Option PV} (ho : OpP X (compareOp op) k) (ha : MB X W a fa) (hb : MB X W b fb) (h1 : op ≠ .In := by decide) (h2 : op ≠ .NotIn := by decide) : MT X W (.Compare a [op] [b] pos) (tV (eOp k fa fb)) := mt_cmp ho ha hb (nomark b h1 h2)
theorem gt_in {op : CmpOp} {k : PV → PV → Option PV} (ho : OpP X (compareOp op) k) (ha : MB X W a fa) (hb : MB X W b fb) (h1 : behindInMarks op b = false := by with_unfolding_all rfl) : MT X W (.Compare a [op] [b] pos) (tV (eOp k fa fb)) := mt_cmp ho ha hb h1
theorem g_ix (ha : MB X W a fa) (hb : ME X W b fb) (hs : PlainIx b := by exact fun _ _ => rfl) : ME X W (.Subscript a b pos) (eIx fa fb) := m_ixs ha hb hs
theorem g_call {k j : Nat} {x : Str} {ps : List Str} {F : Fn} (c : Cal X.prog X.w X.K X.mg X.base k x ps F) (hr : Room j X.A) (hgd : X.A.guards = some []) (tk : Takes X W) (ha : MA X W (e :: es) g) (hlen : ALen g (e :: es).length) (hk : k ≤ j := by decide) (hn : (e :: es).length = ps.length := by rfl) (hg : Gl X x := by rfl)
    (hdb : (x == ("__debug__" : Str)) = false := by decide) (he : starEach (e :: es) X.env = (false, eval e X.env) :: starEach es X.env := by rfl) (hpl : (backTo pos (starEach es X.env)).any (·.1) = false := by rfl) : ME X W (.Call (.Name x p) (e :: es) [] pos) (eCall F g) := m_call (c.mono hk) hr hgd tk hg ha hn hlen hdb he hpl
theorem g_len (hm : X.mg "len" = none) (ha : MAb X W (e :: es) g) (hg : Gl X "len" := by rfl) (he : starEach (e :: es) X.env = (false, eval e X.env) :: starEach es X.env := by rfl) (hpl : (backTo pos (starEach es X.env)).any (·.1) = false := by rfl) : ME X W (.Call (.Name "len" p) (e :: es) [] pos) (eB lenF g) := m_callB c_len hg hm (by decide +kernel) ha (by decide) (by decide) he hpl
theorem g_all (hm : X.mg "all" = none) (ha : MAb X W (e :: es) g) (hc : X.calm = true := by rfl) (hg : Gl X "all" := by rfl) (he : starEach (e :: es) X.env = (false, eval e X.env) :: starEach es X.env := by rfl) (hpl : (backTo pos (starEach es X.env)).any (·.1) = false := by rfl) : ME X W (.Call (.Name "all" p) (e :: es) [] pos) (eB allF g) := m_callB (c_all hc) hg hm (by decide +kernel) ha (by decide) (by decide) he hpl
theorem g_any (hm : X.mg "any" = none) (ha : MAb X W (e :: es) g) (hc : X.calm = true := by rfl) (hg : Gl X "any" := by rfl) (he : starEach (e :: es) X.env = (false, eval e X.env) :: starEach es X.env := by rfl) (hpl : (backTo pos (starEach es X.env)).any (·.1) = false := by rfl) : ME X W (.Call (.Name "any" p) (e :: es) [] pos) (eB anyF g) := m_callB (c_any hc) hg hm (by decide +kernel) ha (by decide) (by decide) he hpl
theorem g_sum (hm : X.mg "sum" = none) (ha : MAb X W (e :: es) g) (hc : X.calm = true := by rfl) (hg : Gl X "sum" := by rfl) (he : starEach (e :: es) X.env = (false, eval e X.env) :: starEach es X.env := by rfl) (hpl : (backTo pos (starEach es X.env)).any (·.1) = false := by rfl) : ME X W (.Call (.Name "sum" p) (e :: es) [] pos) (eB sumF g) := m_callB (c_sum hc) hg hm (by decide +kernel) ha (by decide) (by decide) he hpl
theorem g_min (hm : X.mg "min" = none) (ha : MAb X W (e :: es) g) (hc : X.calm = true := by rfl) (hg : Gl X "min" := by rfl) (he : starEach (e :: es) X.env = (false, eval e X.env) :: starEach es X.env := by rfl) (hpl : (backTo pos (starEach es X.env)).any (·.1) = false := by rfl) : ME X W (.Call (.Name "min" p) (e :: es) [] pos) (eB minF g) := m_callB (c_min hc) hg hm (by decide +kernel) ha (by decide) (by decide) he hpl
theorem g_max (hm : X.mg "max" = none) (ha : MAb X W (e :: es) g) (hc : X.calm = true := by rfl) (hg : Gl X "max" := by rfl) (he : starEach (e :: es) X.env = (false, eval e X.env) :: starEach es X.env := by rfl) (hpl : (backTo pos (starEach es X.env)).any (·.1) = false := by rfl) : ME X W (.Call (.Name "max" p) (e :: es) [] pos) (eB maxF g) := m_callB (c_max hc) hg hm (by decide +kernel) ha (by decide) (by decide) he hpl
theorem g_repr {k : Nat} (r : Room k X.A) (hgd : X.A.guards = some []) (hm : X.mg "repr" = none) (ha : MAb X W (e :: es) g) (hg : Gl X "repr" := by rfl) (he : starEach (e :: es) X.env = (false, eval e X.env) :: starEach es X.env := by rfl) (hpl : (backTo pos (starEach es X.env)).any (·.1) = false := by rfl) : ME X W (.Call (.Name "repr" p) (e :: es) [] pos) (eB reprF g) := m_callB (c_repr hgd r.units) hg hm (by decide +kernel) ha (by decide) (by decide) he hpl
theorem g_tuple (hm : X.mg "tuple" = none) (ha : MAb X W (e :: es) g) (hg : Gl X "tuple" := by rfl) (he : starEach (e :: es) X.env = (false, eval e X.env) :: starEach es X.env := by rfl) (hpl : (backTo pos (starEach es X.env)).any (·.1) = false := by rfl) : ME X W (.Call (.Name "tuple" p) (e :: es) [] pos) (eB tupF g) := m_callTy c_tuple hg hm (by decide +kernel) ha (by decide) (by decide) he hpl
theorem g_list (hm : X.mg "list" = none) (ha : MAb X W (e :: es) g) (hg : Gl X "list" := by rfl) (he : starEach (e :: es) X.env = (false, eval e X.env) :: starEach es X.env := by rfl) (hpl : (backTo pos (starEach es X.env)).any (·.1) = false := by rfl) : ML X W (.Call (.Name "list" p) (e :: es) [] pos) (lB listF g) := ml_callTy c_list hg hm (by decide +kernel) ha (by decide) (by decide) he hpl
theorem g_listR {p2 p3 : Pos} (hm : X.mg "list" = none) (hm2 : X.mg "range" = none) (ha : ME X W a fa) (hc : X.calm = true := by rfl) (hg : Gl X "list" := by rfl) (hg2 : Gl X "range" := by rfl) (na : starEach [a] X.env = (false, eval a X.env) :: starEach [] X.env := by rfl)
    (nb : starEach [.Call (.Name "range" p2) [a] [] p3] X.env = (false, eval (.Call (.Name "range" p2) [a] [] p3) X.env) :: starEach [] X.env := by rfl) : ML X W (.Call (.Name "list" p) [.Call (.Name "range" p2) [a] [] p3] [] pos) (rngL fa) := ml_listRg ha hc hg hm hg2 hm2 na nb
theorem g_isi (T : Ty) {n : Str} {p2 : Pos} (hm : X.mg "isinstance" = none) (hm2 : X.mg n = none) (ha : MB X W a fa) (hg : Gl X "isinstance" := by rfl) (hg2 : Gl X n := by rfl) (hv : bootBuiltins n = some (.type T.name) := by decide +kernel) (hn : n ≠ "__name__" := by decide) (hd : (n == ("__debug__" : Str)) = false := by decide)
    (h1 : starEach [a, .Name n p2] X.env = (false, eval a X.env) :: starEach [.Name n p2] X.env := by rfl) (h2 : starEach [.Name n p2] X.env = (false, eval (.Name n p2) X.env) :: starEach [] X.env := by rfl)
    (hpl : (backTo pos (starEach [.Name n p2] X.env)).any (·.1) = false := by rfl) : ME X W (.Call (.Name "isinstance" p) [a, .Name n p2] [] pos) (eUn (isiF T) fa) := m_isi ha hg hm hg2 hm2 hv hn hd h1 h2 hpl
end
/-! ### statements -/
section
variable {X : Cx} {W : WX} {s : Stmt} {rest body : List Stmt} {a b e tg iter c : Expr} {f g : SF} {fe : EF PV} {fl it : EF (List PV)} {fc : EF Bool} {bf : BF} {vs : List Nat} {pos pos' : Pos}
theorem g_set (i : Nat) {x : Str} (hN : X.N.Nodup) (h : ME X W e fe) (hi : X.N[i]? = some x := by rfl) (hx : Loc X.env.scope x := by first | exact .inl rfl | exact .inr rfl) (hs : swapsWith e (some (.Name x pos')) pos.line X.env = pure false := by rfl) (hf : X.fn x = true ∨ X.env.scope.names.lookup x = some .local := by first | exact .inr rfl | exact .inl rfl) :
    MS X W (.Assign [.Name x pos'] e pos) (sAsg (bName i) fe) := ms_set h hN hi hx hs hf
theorem g_setO (i : Nat) {x : Str} (hN : X.N.Nodup) (h : ML X W e fl) (hi : X.N[i]? = some x := by rfl) (hx : Loc X.env.scope x := by first | exact .inl rfl | exact .inr rfl) (hs : swapsWith e (some (.Name x pos')) pos.line X.env = pure false := by rfl) (hf : X.fn x = true ∨ X.env.scope.names.lookup x = some .local := by first | exact .inr rfl | exact .inl rfl) :
    MS X W (.Assign [.Name x pos'] e pos) (sAsgO i fl) := ms_setO h hN hi hx hs hf
theorem g_nm (i : Nat) {x : Str} (hN : X.N.Nodup) (hi : X.N[i]? = some x := by rfl) (hx : Loc X.env.scope x := by first | exact .inl rfl | exact .inr rfl) (hf : X.fn x = true ∨ X.env.scope.names.lookup x = some .local := by first | exact .inr rfl | exact .inl rfl) : MG X (.Name x pos) (bName i) [i] := mg_name hN hi hx hf
theorem g_asg (h : ME X W e fe) (hg : MG X tg bf vs) (hs : swapsWithSole [tg] e pos.line X.env = pure false := by rfl) (hw : swappedStores [tg] e X.env = pure none := by rfl)
    (h1 : (assignEach [tg] X.env).map (·.2) = [assign tg X.env] := by rfl) : MS X W (.Assign [tg] e pos) (sAsg bf fe) := ms_asg h hg hs hw h1
theorem g_app (i : Nat) {x : Str} {apos cpos : Pos} (h : ME X W e fe) (hN : X.N[i]? = some x := by rfl) (hv : Vis X.env.scope x := by first | exact .inl rfl | exact .inr (.inl rfl) | exact .inr (.inr rfl)) (hd : (x == ("__debug__" : Str)) = false := by decide) (hcd : (x == ("__classdict__" : Str)) = false := by decide)
    (hbase : attributeBase (.Name x pos') "append" X.env (eval (.Name x pos') X.env) = eval (.Name x pos') X.env := by rfl)
    (hfew : ((backTo cpos (starEach [e] X.env)).all (fun x => !x.1) && (backToKw cpos (keywordEach [] X.env)).all (fun x => x.1.isSome) && decide ([e].length + ([] : List Keyword).length + (if ([] : List Keyword).isEmpty then 0 else 1) < 30)) = true := by rfl)
    (hline : (apos.endLine == cpos.line) = true := by rfl) (hs : starEach [e] X.env = (false, eval e X.env) :: starEach [] X.env := by rfl) (hplain : (backTo cpos (starEach [] X.env)).any (·.1) = false := by rfl)
    (hsw : swapsWith (.Call (.Attribute (.Name x pos') "append" apos) [e] [] cpos) none pos.line X.env = pure false := by rfl) :
    MS X W (.Expr (.Call (.Attribute (.Name x pos') "append" apos) [e] [] cpos) pos) (sApp i fe) := ms_app h hN hv hd hcd hbase hfew hline hs hplain hsw
theorem g_ext (i : Nat) {x : Str} {apos cpos : Pos} (h : ML X W e fl) (hN : X.N[i]? = some x := by rfl) (hv : Vis X.env.scope x := by first | exact .inl rfl | exact .inr (.inl rfl) | exact .inr (.inr rfl)) (hd : (x == ("__debug__" : Str)) = false := by decide) (hcd : (x == ("__classdict__" : Str)) = false := by decide)
    (hbase : attributeBase (.Name x pos') "extend" X.env (eval (.Name x pos') X.env) = eval (.Name x pos') X.env := by rfl)
    (hfew : ((backTo cpos (starEach [e] X.env)).all (fun x => !x.1) && (backToKw cpos (keywordEach [] X.env)).all (fun x => x.1.isSome) && decide ([e].length + ([] : List Keyword).length + (if ([] : List Keyword).isEmpty then 0 else 1) < 30)) = true := by rfl)
    (hline : (apos.endLine == cpos.line) = true := by rfl) (hs : starEach [e] X.env = (false, eval e X.env) :: starEach [] X.env := by rfl) (hplain : (backTo cpos (starEach [] X.env)).any (·.1) = false := by rfl)
    (hsw : swapsWith (.Call (.Attribute (.Name x pos') "extend" apos) [e] [] cpos) none pos.line X.env = pure false := by rfl) :
    MS X W (.Expr (.Call (.Attribute (.Name x pos') "extend" apos) [e] [] cpos) pos) (sExt i fl) := ms_ext h hN hv hd hcd hbase hfew hline hs hplain hsw
theorem g_rem (i : Nat) {x : Str} {apos cpos : Pos} (h : ME X W e fe) (hN : X.N[i]? = some x := by rfl) (hv : Vis X.env.scope x := by first | exact .inl rfl | exact .inr (.inl rfl) | exact .inr (.inr rfl)) (hd : (x == ("__debug__" : Str)) = false := by decide) (hcd : (x == ("__classdict__" : Str)) = false := by decide)
    (hbase : attributeBase (.Name x pos') "remove" X.env (eval (.Name x pos') X.env) = eval (.Name x pos') X.env := by rfl)
    (hfew : ((backTo cpos (starEach [e] X.env)).all (fun x => !x.1) && (backToKw cpos (keywordEach [] X.env)).all (fun x => x.1.isSome) && decide ([e].length + ([] : List Keyword).length + (if ([] : List Keyword).isEmpty then 0 else 1) < 30)) = true := by rfl)
    (hline : (apos.endLine == cpos.line) = true := by rfl) (hs : starEach [e] X.env = (false, eval e X.env) :: starEach [] X.env := by rfl) (hplain : (backTo cpos (starEach [] X.env)).any (·.1) = false := by rfl)
    (hsw : swapsWith (.Call (.Attribute (.Name x pos') "remove" apos) [e] [] cpos) none pos.line X.env = pure false := by rfl) :
    MS X W (.Expr (.Call (.Attribute (.Name x pos') "remove" apos) [e] [] cpos) pos) (sRem i fe) := ms_rem h hN hv hd hcd hbase hfew hline hs hplain hsw
end
end PL
/-! PLp: how functions are reckoned out. -/
namespace PL
open PySem PySem.Spec L2
section
variable {α β : Type} {e : Env} {st : Sto}
@[simp] theorem bind_ok (a : α) (st : Sto) (f : α → Sto → RE β) : (RE.ok a st).bind f = f a st := rfl
@[simp] theorem bind_stuck (f : α → Sto → RE β) : (RE.stuck : RE α).bind f = .stuck := rfl
@[simp] theorem toS_ok (a : α) (st : Sto) (e : Env) (f : α → Sto → RS) : (RE.ok a st).toS e f = f a st := rfl
@[simp] theorem thn_nx (e : Env) (st : Sto) (f : Env → Sto → RS) : (RS.nx e st).thn f = f e st := rfl
@[simp] theorem thn_rt (v : PV) (st : Sto) (f : Env → Sto → RS) : (RS.rt v st).thn f = .rt v st := rfl
@[simp] theorem thn_bk (e : Env) (st : Sto) (f : Env → Sto → RS) : (RS.bk e st).thn f = .bk e st := rfl
@[simp] theorem thn_ct (e : Env) (st : Sto) (f : Env → Sto → RS) : (RS.ct e st).thn f = .ct e st := rfl
@[simp] theorem of_some (a : α) (st : Sto) : RE.of (some a) st = .ok a st := rfl
@[simp] theorem noE_okk (a : α) (st : Sto) : (RE.ok a st).noE = .ok a st := rfl
@[simp] theorem eC_e (v : PV) : eC v e st = .ok v st := rfl
@[simp] theorem eVar_e (i : Nat) : eVar i e st = (match e[i]? with | some (.val v) => RE.ok v st | _ => .stuck) := rfl
@[simp] theorem eOwn_e (i : Nat) : eOwn i e st = (match e[i]? with | some (.own l) => RE.ok (.lst l) st | _ => .stuck) := rfl
@[simp] theorem eOp_e (op : PV → PV → Option PV) (a b : EF PV) : eOp op a b e st = (a e st).bind fun x st => (b e st).bind fun y st => .of (op x y) st := rfl
@[simp] theorem eUn_e (op : PV → Option PV) (a : EF PV) : eUn op a e st = (a e st).bind fun x st => .of (op x) st := rfl
@[simp] theorem aNil_e : aNil e st = .ok [] st := rfl
@[simp] theorem aCons_e (a : EF PV) (r : EF (List PV)) : aCons a r e st = (a e st).bind fun x st => (r e st).bind fun xs st => .ok (x :: xs) st := rfl
@[simp] theorem eTup_e (a : EF (List PV)) : eTup a e st = (a e st).bind fun xs st => if xs.length ≤ LINE then .ok (.tup xs) st else .stuck := rfl
@[simp] theorem eLst_e (a : EF (List PV)) : eLst a e st = (a e st).bind fun xs st => .ok (.lst xs) st := rfl
@[simp] theorem lDisp_e (a : EF (List PV)) : lDisp a e st = (a e st).bind fun xs st => if xs.length ≤ LINE then .ok xs st else .stuck := rfl
@[simp] theorem eB_e (g : List PV → Option PV) (a : EF (List PV)) : eB g a e st = (a e st).bind fun xs st => .of (g xs) st := rfl
@[simp] theorem lB_e (g : List PV → Option (List PV)) (a : EF (List PV)) : lB g a e st = (a e st).bind fun xs st => .of (g xs) st := rfl
@[simp] theorem eCall_e (F : Fn) (a : EF (List PV)) : eCall F a e st = (a e st).bind fun xs st => F xs st := rfl
@[simp] theorem eIf_e (c : EF Bool) (a b : EF PV) : eIf c a b e st = (c e st).bind fun k st => if k = true then a e st else b e st := rfl
@[simp] theorem eAnd_e (a b : EF PV) : eAnd a b e st = (a e st).bind fun x st => match x with | .bl true => b e st | .bl false => .ok (.bl false) st | _ => .stuck := rfl
@[simp] theorem eOr_e (a b : EF PV) : eOr a b e st = (a e st).bind fun x st => match x with | .bl true => .ok (.bl true) st | .bl false => b e st | _ => .stuck := rfl
@[simp] theorem eNot_e (a : EF PV) : eNot a e st = (a e st).bind fun x st => match x with | .bl k => .ok (.bl (!k)) st | _ => .stuck := rfl
@[simp] theorem eChain_e (op op' : PV → PV → Option PV) (a b c : EF PV) : eChain op op' a b c e st = (a e st).bind fun x st => (b e st).bind fun y st => match op x y with | some (.bl true) => (c e st).bind fun z st => .of (op' y z) st | some (.bl false) => .ok (.bl false) st | _ => .stuck := rfl
@[simp] theorem tV_e (a : EF PV) : tV a e st = (a e st).bind fun x st => match x with | .bl k => .ok k st | _ => .stuck := rfl
@[simp] theorem tAndF_e (a b : EF Bool) : tAndF a b e st = (a e st).bind fun k st => if k = true then b e st else .ok false st := rfl
@[simp] theorem tOrF_e (a b : EF Bool) : tOrF a b e st = (a e st).bind fun k st => if k = true then .ok true st else b e st := rfl
@[simp] theorem tNotF_e (a : EF Bool) : tNotF a e st = (a e st).bind fun k st => .ok (!k) st := rfl
@[simp] theorem tYesF_e : tYesF e st = .ok true st := rfl
@[simp] theorem bName_e (i : Nat) (v : PV) : bName i v e = if i < e.length then some (e.set i (.val v)) else none := rfl
@[simp] theorem bTup_e (bs : List BF) (l : List PV) : bTup bs (.tup l) e = bSeq bs l e := rfl
@[simp] theorem bSeq_nil : bSeq [] [] e = some e := rfl
@[simp] theorem bSeq_cons (b : BF) (bs : List BF) (v : PV) (vs : List PV) : bSeq (b :: bs) (v :: vs) e = (match b v e with | some e1 => bSeq bs vs e1 | none => none) := rfl
@[simp] theorem sNil_e : sNil e st = .nx e st := rfl
@[simp] theorem sSeq_e (a b : SF) : sSeq a b e st = (a e st).thn b := rfl
@[simp] theorem sAsg_e (b : BF) (a : EF PV) : sAsg b a e st = (a e st).toS e fun v st => match b v e with | some e1 => .nx e1 st | none => .stuck := rfl
@[simp] theorem sAsgO_e (i : Nat) (a : EF (List PV)) : sAsgO i a e st = (a e st).toS e fun l st => if i < e.length then .nx (e.set i (.own l)) st else .stuck := rfl
@[simp] theorem sDrop_e (a : EF PV) : sDrop a e st = (a e st).toS e fun _ st => .nx e st := rfl
@[simp] theorem sRet_e (a : EF PV) : sRet a e st = (a e st).toS e fun v st => .rt v st := rfl
@[simp] theorem sRetN_e : sRetN e st = .rt .non st := rfl
@[simp] theorem sRetG_e (a : EF (List PV)) : sRetG a e st = (a e st).toS e fun l st => .rt (.gl st.length) (st ++ [.lst l]) := rfl
@[simp] theorem sRetO_e (i : Nat) : sRetO i e st = (match e[i]? with | some (.own l) => RS.rt (.lst l) st | _ => .stuck) := rfl
@[simp] theorem sIf_e (c : EF Bool) (a b : SF) : sIf c a b e st = (c e st).toS e fun k st => if k = true then a e st else b e st := rfl
@[simp] theorem sFrz_e (i : Nat) : sFrz i e st = (match e[i]? with | some (.own l) => RS.nx (e.set i (.val (.lst l))) st | _ => .nx e st) := rfl
@[simp] theorem sApp_e (i : Nat) (a : EF PV) : sApp i a e st = (match e[i]? with | some (.own l) => (a e st).toS e fun v st => if l.length < LINE then .nx (e.set i (.own (l ++ [v]))) st else .stuck | _ => .stuck) := rfl
@[simp] theorem sExt_e (i : Nat) (a : EF (List PV)) : sExt i a e st = (match e[i]? with | some (.own l) => (a e st).toS e fun m st => if l.length + m.length ≤ LINE then .nx (e.set i (.own (l ++ m))) st else .stuck | _ => .stuck) := rfl
@[simp] theorem sRem_e (i : Nat) (a : EF PV) : sRem i a e st = (match e[i]? with | some (.own l) => (a e st).toS e fun v st => (match v, intsOf l with | .int k, some ns => if ns.idxOf k < ns.length then .nx (e.set i (.own ((ns.eraseIdx (ns.idxOf k)).map PV.int))) st else .stuck | _, _ => .stuck) | _ => .stuck) := rfl
@[simp] theorem sFor_e (it : EF (List PV)) (b : BF) (t : SF) : sFor it b t e st = (it e st).toS e fun xs st => forLoop b t xs e st := rfl
@[simp] theorem sWhile_e (n : Nat) (c : EF Bool) (t : SF) : sWhile n c t e st = whileLoop c t n e st := rfl
@[simp] theorem lLc_e (it : EF (List PV)) (b : BF) (vs : List Nat) (c : EF Bool) (t : EF PV) : lLc it b vs c t e st = (it e st).bind fun xs st => lcLoop b c t (wipeE e vs) xs st := rfl
@[simp] theorem wipeE_nil : wipeE e [] = e := rfl
@[simp] theorem wipeE_cons (v : Nat) (vs : List Nat) : wipeE e (v :: vs) = (wipeE e vs).set v .non := rfl
@[simp] theorem sPar_e (is : List Nat) (f : EF (List EV)) : sPar is f e st = (f e st).toS e fun xs st => match setEs is xs e with | some e1 => .nx e1 st | none => .stuck := rfl
@[simp] theorem nNil_e : nNil e st = .ok [] st := rfl
@[simp] theorem nCons_e (f : EF EV) (r : EF (List EV)) : nCons f r e st = (f e st).bind fun x st => (r e st).bind fun xs st => .ok (x :: xs) st := rfl
@[simp] theorem eVal_e (f : EF PV) : eVal f e st = (f e st).bind fun v st => .ok (.val v) st := rfl
@[simp] theorem eNew_e (f : EF (List PV)) : eNew f e st = (f e st).bind fun v st => .ok (.own v) st := rfl
@[simp] theorem setEs_nil : setEs [] [] e = some e := rfl
@[simp] theorem setEs_cons (i : Nat) (is : List Nat) (x : EV) (xs : List EV) : setEs (i :: is) (x :: xs) e = if i < e.length then setEs is xs (e.set i x) else none := rfl
@[simp] theorem sSetG_e (a k v : EF PV) : sSetG a k v e st = (v e st).toS e fun v st => (a e st).toS e fun a st => (k e st).toS e fun k st => match a, k with
  | .gl n, .int i => match st[n]? with
    | some (.lst l) => match ixN l.length i with
      | some j => .nx e (st.set n (.lst (l.set j v)))
      | none => .stuck
    | _ => .stuck
  | _, _ => .stuck := rfl
@[simp] theorem eIx_e (a k : EF PV) : eIx a k e st = (a e st).bind fun a st => (k e st).bind fun k st => match k with | .int i => .of (ixF st a i) st | _ => .stuck := rfl
@[simp] theorem eSl_e (f : EF PV) (lo hi : EF (Option Int)) : eSl f lo hi e st = (f e st).bind fun v st => (lo e st).bind fun i st => (hi e st).bind fun j st => .of (slF v i j) st := rfl
@[simp] theorem oNone_e : oNone e st = .ok none st := rfl
@[simp] theorem oSome_e (f : EF PV) : oSome f e st = (f e st).bind fun v st => match v with | .int i => .ok (some i) st | _ => .stuck := rfl
@[simp] theorem iSeq_e (f : EF PV) : iSeq f e st = (f e st).bind fun v st => match v with | .tup l => .ok l st | .lst l => .ok l st | _ => .stuck := rfl
@[simp] theorem iRng1_e (g : EF (List PV)) : iRng1 g e st = (g e st).bind fun vs st => match int1 vs with | some j => if -LINE ≤ j ∧ j ≤ LINE then .ok (rangeF 0 j.toNat) st else .stuck | none => .stuck := rfl
@[simp] theorem int1_e (j : Int) : int1 [.int j] = some j := rfl
@[simp] theorem rngL_e (f : EF PV) : rngL f e st = (f e st).bind fun v st => match v with | .int n => if -LINE ≤ n ∧ n ≤ LINE then .ok (rangeF 0 n.toNat) st else .stuck | _ => .stuck := rfl
@[simp] theorem iEnum1_e (g : EF (List PV)) : iEnum1 g e st = (g e st).bind fun vs st => match vs with | [.tup l] => .ok (enumF 0 l) st | [.lst l] => .ok (enumF 0 l) st | _ => .stuck := rfl
@[simp] theorem iZip2_e (g : EF (List PV)) : iZip2 g e st = (g e st).bind fun vs st => match vs with | [.tup l, .tup m] => .ok (zipF l m) st | [.lst l, .lst m] => .ok (zipF l m) st | _ => .stuck := rfl
@[simp] theorem lenF_tup (l : List PV) : lenF [.tup l] = some (.int l.length) := rfl
@[simp] theorem lenF_lst (l : List PV) : lenF [.lst l] = some (.int l.length) := rfl
@[simp] theorem ixF_tup (st : Sto) (l : List PV) (i : Int) : ixF st (.tup l) i = atI l i := rfl
@[simp] theorem ixF_lst (st : Sto) (l : List PV) (i : Int) : ixF st (.lst l) i = atI l i := rfl
@[simp] theorem ixF_gl (st : Sto) (n : Nat) (i : Int) : ixF st (.gl n) i = (match st[n]? with | some (.lst l) => atI l i | _ => none) := rfl
@[simp] theorem addF_int (i j : Int) : addF (.int i) (.int j) = some (.int (i + j)) := rfl
@[simp] theorem subF_int (i j : Int) : subF (.int i) (.int j) = some (.int (i - j)) := rfl
@[simp] theorem ltF_int (i j : Int) : ltF (.int i) (.int j) = some (.bl (decide (i < j))) := rfl
@[simp] theorem leF_int (i j : Int) : leF (.int i) (.int j) = some (.bl (decide (i ≤ j))) := rfl
@[simp] theorem gtF_int (i j : Int) : gtF (.int i) (.int j) = some (.bl (decide (j < i))) := rfl
@[simp] theorem geF_int (i j : Int) : geF (.int i) (.int j) = some (.bl (decide (j ≤ i))) := rfl
theorem eqv_int (i j : Int) : PyData.eqv (.int i) (.int j) = decide (i = j) := by
  first
    | rfl
    | simp [PyData.eqv]
@[simp] theorem eqF_int (i j : Int) : eqF (.int i) (.int j) = some (.bl (decide (i = j))) := by
  show (if SeqAt.shaped (.int i) = true ∧ SeqAt.shaped (.int j) = true then some (PV.bl (PyData.eqv (.int i) (.int j))) else none) = _
  rw [if_pos ⟨rfl, rfl⟩, eqv_int]
theorem mulF_r {i j : Int} (h1 : -(2 ^ 64) < j) (h2 : j < 2 ^ 64) : mulF (.int i) (.int j) = some (.int (i * j)) := by
  unfold mulF mulB
  dsimp only
  rw [if_pos (decide_eq_true (.inr ⟨h1, h2⟩))]
theorem mulF_l {i j : Int} (h1 : -(2 ^ 64) < i) (h2 : i < 2 ^ 64) : mulF (.int i) (.int j) = some (.int (i * j)) := by
  unfold mulF mulB
  dsimp only
  rw [if_pos (decide_eq_true (.inl ⟨h1, h2⟩))]
theorem modF_ok {i j : Int} (h : 0 < j) : modF (.int i) (.int j) = some (.int (i % j)) := by
  unfold modF
  dsimp only
  rw [if_pos h]
theorem divF_ok {i j : Int} (h : 0 < j) (h2 : j < 1073741824) : divF (.int i) (.int j) = some (.int (i / j)) := by
  unfold divF
  dsimp only
  rw [if_pos ⟨h, h2⟩]
theorem atI_nat {α : Type} {l : List α} {i : Nat} (h : i < l.length) : atI l (i : Int) = some l[i] := by
  unfold atI ixN
  simp [h]
theorem rangeF_len (lo : Int) (n : Nat) : (rangeF lo n).length = n := by unfold rangeF; rw [List.length_map, List.length_range]
end
theorem iRng1_ok {g : EF (List PV)} {e : Env} {st st' : Sto} {j : Int} (h : g e st = .ok [.int j] st') (h1 : -(LINE : Int) ≤ j) (h2 : j ≤ LINE) : iRng1 g e st = .ok (rangeF 0 j.toNat) st' := by
  rw [iRng1_e, h, bind_ok, int1_e]
  dsimp only
  rw [if_pos ⟨h1, h2⟩]
/-! ### repr of small values -/
mutual
def smB : PV → Bool
  | .non => true
  | .bl _ => true
  | .int i => decide (-999999999999 ≤ i ∧ i ≤ 999999999999)
  | .tup l => smBs l
  | .lst l => smBs l
  | .str y => PyData.strOk y
  | .scr _ => false
  | .gl _ => false
  | .ins _ _ _ => false
def smBs : List PV → Bool
  | [] => true
  | p :: ps => smB p && smBs ps
end
mutual
def wtN : PV → Nat
  | .int _ => 40
  | .str y => y.cps.size
  | .tup l => wtNs l
  | .lst l => wtNs l
  | _ => 0
def wtNs : List PV → Nat
  | [] => 0
  | p :: ps => wtN p + 1 + wtNs ps
end
mutual
def dpN : PV → Nat
  | .tup l => dpNs l + 1
  | .lst l => dpNs l + 1
  | _ => 0
def dpNs : List PV → Nat
  | [] => 0
  | p :: ps => max (dpN p) (dpNs ps)
end
theorem log_le {i : Int} (h : -999999999999 ≤ i ∧ i ≤ 999999999999) (h0 : i ≠ 0) : i.natAbs.log2 + 1 ≤ 40 := by
  have : i.natAbs < 2 ^ 40 := by omega
  have := (Nat.log2_lt (by omega)).mpr this
  omega
mutual
theorem sm_data : ∀ (p : PV), smB p = true → ∃ d, toD p = some d ∧ d.canLay0 = true ∧ d.intsShort 13 = true ∧ d.showable = true ∧ d.hasDict = false ∧ d.depth = dpN p ∧ d.weight ≤ wtN p
  | .non, _ => ⟨.none, by unfold toD; rfl, rfl, rfl, rfl, rfl, rfl, Nat.le_refl _⟩
  | .bl b, _ => ⟨.bool b, by unfold toD; rfl, rfl, rfl, rfl, rfl, rfl, Nat.le_refl _⟩
  | .int i, h => by
    have h : decide (-999999999999 ≤ i ∧ i ≤ 999999999999) = true := by unfold smB at h; exact h
    have h := of_decide_eq_true h
    refine ⟨.int i, by unfold toD; rfl, rfl, ?_, ?_, rfl, rfl, ?_⟩
    · exact decide_eq_true (PySem.PyData.shown_int_le2 h.1 h.2)
    · refine decide_eq_true ?_
      by_cases h0 : i = 0
      · subst h0
        decide
      · have := log_le h h0
        omega
    · show (if i == 0 then 0 else i.natAbs.log2 + 1) ≤ 40
      by_cases h0 : i = 0
      · subst h0
        decide
      · have := log_le h h0
        rw [if_neg (by simpa using h0)]
        omega
  | .tup l, h => by
    have h : smBs l = true := by unfold smB at h; exact h
    obtain ⟨ds, e, h1, h2, h3, h4, h5, h6⟩ := sm_datas l h
    exact ⟨.tuple ds, by unfold toD; rw [e]; rfl, h1, h2, h3, h4, by unfold dpN; rw [← h5]; rfl, by unfold wtN; exact h6⟩
  | .lst l, h => by
    have h : smBs l = true := by unfold smB at h; exact h
    obtain ⟨ds, e, h1, h2, h3, h4, h5, h6⟩ := sm_datas l h
    exact ⟨.list ds, by unfold toD; rw [e]; rfl, h1, h2, h3, h4, by unfold dpN; rw [← h5]; rfl, by unfold wtN; exact h6⟩
  | .str y, h => ⟨.str y, by unfold toD; rfl, by unfold smB at h; exact h, rfl, rfl, rfl, rfl, by unfold wtN; exact Nat.le_refl _⟩
  | .scr _, h => by unfold smB at h; cases h
  | .gl _, h => by unfold smB at h; cases h
  | .ins _ _ _, h => by unfold smB at h; cases h
theorem sm_datas : ∀ (l : List PV), smBs l = true → ∃ ds, toDs l = some ds ∧ PyData.canLayAll0 ds = true ∧ PyData.intsShortAll 13 ds = true ∧ PyData.showableAll ds = true ∧ PyData.hasDictAll ds = false ∧ PyData.depthAll ds = dpNs l ∧ PyData.weightAll ds ≤ wtNs l
  | [], _ => ⟨[], by unfold toDs; rfl, rfl, rfl, rfl, rfl, rfl, Nat.le_refl _⟩
  | p :: ps, h => by
    have h : (smB p && smBs ps) = true := by unfold smBs at h; exact h
    rw [Bool.and_eq_true] at h
    obtain ⟨d, e, h1, h2, h3, h4, h5, h6⟩ := sm_data p h.1
    obtain ⟨ds, e', k1, k2, k3, k4, k5, k6⟩ := sm_datas ps h.2
    refine ⟨d :: ds, by unfold toDs; rw [e, e'], ?_, ?_, ?_, ?_, ?_, ?_⟩
    · show (d.canLay0 && PyData.canLayAll0 ds) = true
      rw [h1, k1]; rfl
    · show (d.intsShort 13 && PyData.intsShortAll 13 ds) = true
      rw [h2, k2]; rfl
    · show (d.showable && PyData.showableAll ds) = true
      rw [h3, k3]; rfl
    · show (d.hasDict || PyData.hasDictAll ds) = false
      rw [h4, k4]; rfl
    · show max d.depth (PyData.depthAll ds) = dpNs (p :: ps)
      unfold dpNs
      rw [h5, k5]
    · show d.weight + 1 + PyData.weightAll ds ≤ wtNs (p :: ps)
      unfold wtNs
      omega
end
theorem repr_sm {p : PV} (h1 : smB p = true) (h2 : dpN p ≤ 30) (h3 : wtN p ≤ 1048576) : ∃ x, reprF [p] = some (.str x) := by
  obtain ⟨d, e, k1, k2, k3, k4, k5, k6⟩ := sm_data p h1
  have hs := PyProof.Rows.shown_le13 (d := d) (by
    show (PyData.canLay0 d && decide (PyData.depth d ≤ 64) && decide (PyData.weight d ≤ 2 ^ 20)) = true
    simp only [Bool.and_eq_true, decide_eq_true_eq]
    exact ⟨⟨k1, by omega⟩, by omega⟩) k2
  refine ⟨d.shown, ?_⟩
  unfold reprF
  dsimp only
  rw [e]
  dsimp only
  rw [if_pos ⟨k3, k4, by show _ ≤ 16777216; omega, by omega⟩]
theorem for_inv {b : BF} {t : SF} (I : List PV → Env → Sto → Prop) (step : ∀ x xs e st, I (x :: xs) e st → ∃ e1 e2 st2, b x e = some e1 ∧ t e1 st = .nx e2 st2 ∧ I xs e2 st2) :
    ∀ (xs : List PV) (e : Env) (st : Sto), I xs e st → ∃ e' st', forLoop b t xs e st = .nx e' st' ∧ I [] e' st'
  | [], e, st, h => ⟨e, st, rfl, h⟩
  | x :: xs, e, st, h => by
    obtain ⟨e1, e2, st2, h1, h2, h3⟩ := step x xs e st h
    obtain ⟨e', st', h4, h5⟩ := for_inv I step xs e2 st2 h3
    refine ⟨e', st', ?_, h5⟩
    unfold forLoop
    rw [h1]
    dsimp only
    rw [h2]
    exact h4
/-- a comprehension whose block changes nothing of the store -/
theorem lc_map {b : BF} {c : EF Bool} {t : EF PV} {e : Env} {st : Sto} {α : Type} (v : α → PV) (p : α → Bool) (g : α → PV) :
    ∀ (l : List α), (∀ x ∈ l, ∃ e1, b (v x) e = some e1 ∧ c e1 st = .ok (p x) st ∧ (p x = true → t e1 st = .ok (g x) st)) → lcLoop b c t e (l.map v) st = .ok ((l.filter p).map g) st
  | [], _ => rfl
  | x :: l, h => by
    obtain ⟨e1, h1, h2, h3⟩ := h x (List.mem_cons_self ..)
    have ih := lc_map v p g l fun y hy => h y (List.mem_cons_of_mem _ hy)
    rw [List.map_cons]
    unfold lcLoop
    rw [h1]
    dsimp only
    rw [h2]
    cases hp : p x with
    | false =>
      rw [List.filter_cons_of_neg (by rw [hp]; exact Bool.false_ne_true)]
      simpa using ih
    | true =>
      rw [List.filter_cons_of_pos hp, List.map_cons]
      simp only [noE_okk, bind_ok, if_true, h3 hp, ih]
end PL
/-! PLq: enumerate over a zip of two tuples: the zip's pairs are held by the enumerate's, so they are made anew. -/
namespace PL
open PySem PySem.Spec L2
/-- a zip's object, whatever it knows of its pair -/
abbrev ZipObj (h : Heap) (z TI TO : Addr) (own : Value) (k : Bool) : Prop :=
  h.get? z = some { cls := .type "zip", dict := none, data := .fields #[own, .bool k, .bool false, .ref TI, .ref TO], slots := #[] }
def OwnOk (v : Value) : Prop := v = .none ∨ ∃ T : Nat, v = rawInt T
section
variable {prog : Program} {w : World} {A : Around} {E : Value → Shared → Prop} {s : Shared}
theorem alive_any {a : Addr} {Q : Option Obj → Shared → Prop} (h : Q (s.heap.get? a) s) : wpAny (model prog w) A (loadIfAlive a) Q E s := fun _ _ _ => h
theorem zip_free {z TI TO : Addr} {own : Value} {k : Bool} {Q : Bool → Shared → Prop} (hz : ZipObj s.heap z TI TO own k) (ho : OwnOk own) (yes : Q true s)
    (no : ∀ g, ZipObj g z TI TO own true → Heap.SameBut z s.heap g → Q false { s with heap := g }) : wpAny (model prog w) A (Builtin.SmallTypes.ownedTupleIsFree (.ref z)) Q E s := by
  unfold Builtin.SmallTypes.ownedTupleIsFree
  rcases ho with e | ⟨T, e⟩
  · subst e
    exact wpAny_bind (wpAny_field hz rfl (x := Value.none) rfl (wpAny_pure yes))
  · subst e
    refine wpAny_bind (wpAny_field hz rfl (x := rawInt T) rfl ?_)
    refine (show wpAny (model prog w) A (loadIfAlive ((T : Int).toNat) >>= _) Q E s from ?_)
    rw [Int.toNat_natCast]
    refine wpAny_bind (alive_any ?_)
    cases s.heap.get? T with
    | none => exact wpAny_pure yes
    | some o =>
      refine wpAny_bind (wpAny_field hz rfl (x := Value.bool k) rfl ?_)
      cases k with
      | true => exact wpAny_pure (no s.heap hz (.refl _ _))
      | false => exact wpAny_bind (wpAny_setField_rec hz (by simp) fun g y c => wpAny_pure (no g y c))
variable {z TI TO i1 i2 l1 l2 : Addr} {k1 k2 : Nat} {xs ys : Array Value} {x y a b own : Value} {k : Bool}
theorem zip_any_item {Q : Value → Shared → Prop} (D : ZipApart z TI TO i1 i2 l1 l2) (hz : ZipObj s.heap z TI TO own k) (ho : OwnOk own) (pI : IsPair s.heap TI (.ref i1) (.ref i2)) (pO : IsPair s.heap TO a b)
    (t1 : s.heap.IsTupleIter i1 l1 k1) (t2 : s.heap.IsTupleIter i2 l2 k2) (q1 : s.heap.IsTuple l1 xs) (q2 : s.heap.IsTuple l2 ys) (hx : xs[k1]? = some x) (hy : ys[k2]? = some y)
    (hQ : ∀ g own' k', OwnOk own' → ZipObj g z TI TO own' k' → (∃ a b, IsPair g TO a b) → g.IsTupleIter i1 l1 (k1 + 1) → g.IsTupleIter i2 l2 (k2 + 1) → IsPair g s.heap.objs.size x y → g.objs.size = s.heap.objs.size + 1 →
      (∀ c o, c ≠ z → c ≠ TO → c ≠ i1 → c ≠ i2 → s.heap.get? c = some o → g.get? c = some o) → Q (.ref s.heap.objs.size) { s with heap := g }) :
    wpAny (model prog w) A (Builtin.«zip.__next__» ⟨[.ref z], []⟩) (fun fin s' => ∃ v, fin = .done (.ret v) ∧ Q v s') E s := by
  refine (show wpAny (model prog w) A (field (.ref z) 2 >>= _) _ E s from wpAny_bind (wpAny_field hz rfl (x := Value.bool false) rfl ?_))
  refine (show wpAny (model prog w) A (field (.ref z) 3 >>= _) _ E s from wpAny_bind (wpAny_field hz rfl (x := Value.ref TI) rfl ?_))
  refine wpAny_bind (wpAny_seqItems pI rfl ?_)
  refine (show wpAny (model prog w) A (Builtin.SmallTypes.ownedTupleIsFree (.ref z) >>= _) _ E s from wpAny_bind (zip_free hz ho ?_ fun g1 y1 c1 => ?_))
  · -- its own pair again
    simp only [if_true]
    refine wpAny_bind (wpAny_rule (wpAny_bind (wpAny_field hz rfl (x := Value.ref TO) rfl (wpAny_bind (wpAny_setField_rec hz (by simp) fun g1 y1 c1 => ?_)))))
    replace y1 : ZipObj g1 z TI TO .ellipsis k := y1
    refine wpAny_bind ?_
    simp only [List.zipIdx_cons, List.zipIdx_nil, List.forIn_cons, List.forIn_nil]
    refine wpAny_bind (wpAny_bind (wpAny_onRaise (show wpAny (model prog w) A (Builtin.SmallTypes.nextOf (.ref i1) >>= _) _ _ _ from wpAny_bind (RZ.nextOf_tuple_item (t1.extBut c1.extBut D.i1z) (q1.extBut c1.extBut D.l1z) hx fun g2 u1 c2 => wpAny_pure ?_))))
    have w2 : IsPair g2 TO a b := c2.extBut _ _ D.TOi1 (c1.extBut _ _ D.TOz pO)
    refine wpAny_bind (wpAny_seqItems w2 rfl (wpAny_bind (wpAny_updateSeq_pair w2 fun g3 w3 c3 => ?_)))
    replace w3 : IsPair g3 TO x b := w3
    refine wpAny_bind (wpAny_letGo (wpAny_pure (wpAny_bind (wpAny_bind (wpAny_onRaise ?_)))))
    refine (show wpAny (model prog w) A (Builtin.SmallTypes.nextOf (.ref i2) >>= _) _ _ _ from wpAny_bind (RZ.nextOf_tuple_item (((t2.extBut c1.extBut D.i2z).extBut c2.extBut D.i12.symm).extBut c3.extBut D.TOi2.symm)
      (((q2.extBut c1.extBut D.l2z).extBut c2.extBut D.l2i1).extBut c3.extBut D.l2TO) hy fun g4 u2 c4 => wpAny_pure ?_))
    have w4 : IsPair g4 TO x b := c4.extBut _ _ D.TOi2 w3
    refine wpAny_bind (wpAny_seqItems w4 rfl (wpAny_bind (wpAny_updateSeq_pair w4 fun g5 w5 c5 => ?_)))
    replace w5 : IsPair g5 TO x y := w5
    refine wpAny_bind (wpAny_letGo (wpAny_pure (wpAny_pure (wpAny_bind (wpAny_seqItems w5 rfl (wpAny_bind (wpAny_newTuple ?_)))))))
    have es : g5.objs.size = s.heap.objs.size := by rw [c5.1, c4.1, c3.1, c2.1, c1.1]
    have y5 : ZipObj g5 z TI TO .ellipsis k := c5.extBut _ _ D.TOz.symm (c4.extBut _ _ D.i2z.symm (c3.extBut _ _ D.TOz.symm (c2.extBut _ _ D.i1z.symm y1)))
    have kp : ∀ c o, c ≠ z → c ≠ TO → c ≠ i1 → c ≠ i2 → s.heap.get? c = some o → g5.get? c = some o := fun c o n1 n2 n3 n4 e => c5.extBut _ _ n2 (c4.extBut _ _ n4 (c3.extBut _ _ n2 (c2.extBut _ _ n3 (c1.extBut _ _ n1 e))))
    have v1 : g5.IsTupleIter i1 l1 (k1 + 1) := ((u1.extBut c3.extBut D.TOi1.symm).extBut c4.extBut D.i12).extBut c5.extBut D.TOi1.symm
    have v2 : g5.IsTupleIter i2 l2 (k2 + 1) := u2.extBut c5.extBut D.TOi2.symm
    have zl : z < g5.objs.size := Heap.lt_size y5
    refine (show wpAny (model prog w) A (Builtin.SmallTypes.ownedTupleHandOut (.ref z) (.ref g5.objs.size) >>= _) _ _ _ from wpAny_bind ?_)
    unfold Builtin.SmallTypes.ownedTupleHandOut
    have y6 : ZipObj (g5.push { cls := .type "tuple", data := .seq #[x, y] }) z TI TO .ellipsis k := Heap.get?_push_of_some _ y5
    refine wpAny_bind (wpAny_setField_rec y6 (by simp) fun g7 y7 c7 => ?_)
    replace y7 : ZipObj g7 z TI TO (rawInt g5.objs.size) k := y7
    refine wpAny_setField_rec y7 (by simp) fun g8 y8 c8 => ?_
    replace y8 : ZipObj g8 z TI TO (rawInt g5.objs.size) false := y8
    have up : ∀ c o, c ≠ z → g5.get? c = some o → g8.get? c = some o := fun c o n e => c8.extBut _ _ n (c7.extBut _ _ n (Heap.get?_push_of_some _ e))
    have pT : IsPair g8 g5.objs.size x y := c8.extBut _ _ (Nat.ne_of_gt zl) (c7.extBut _ _ (Nat.ne_of_gt zl) (Heap.get?_push_size _ rfl))
    have z8 : g8.objs.size = g5.objs.size + 1 := by rw [c8.1, c7.1, Heap.size_push]
    refine wpAny_pure ⟨_, rfl, (show Q (.ref g5.objs.size) _ from ?_)⟩
    rw [es] at pT z8 ⊢
    exact hQ g8 _ _ (.inr ⟨g5.objs.size, rfl⟩) y8 ⟨x, y, up _ _ D.TOz w5⟩ (v1.at fun o e => up _ o D.i1z e) (v2.at fun o e => up _ o D.i2z e) pT z8 fun c o n1 n2 n3 n4 e => up c o n1 (kp c o n1 n2 n3 n4 e)
  · -- a new pair
    simp only [Bool.false_eq_true, if_false]
    refine wpAny_bind ?_
    rw [← Array.forIn_toList]
    simp only [List.forIn_cons, List.forIn_nil]
    refine wpAny_bind (wpAny_bind (wpAny_holding (show wpAny (model prog w) A (Builtin.SmallTypes.nextOf (.ref i1) >>= _) _ _ _ from wpAny_bind (RZ.nextOf_tuple_item (s := { s with heap := g1 }) (t1.extBut c1.extBut D.i1z) (q1.extBut c1.extBut D.l1z) hx fun g2 u1 c2 => wpAny_pure (wpAny_pure ?_)))))
    refine wpAny_bind (wpAny_bind (wpAny_holding (show wpAny (model prog w) A (Builtin.SmallTypes.nextOf (.ref i2) >>= _) _ _ _ from wpAny_bind (RZ.nextOf_tuple_item (s := { s with heap := g2 }) ((t2.extBut c1.extBut D.i2z).extBut c2.extBut D.i12.symm) ((q2.extBut c1.extBut D.l2z).extBut c2.extBut D.l2i1) hy fun g3 u2 c3 => wpAny_pure (wpAny_pure (wpAny_pure ?_))))))
    refine (show wpAny (model prog w) A (newTuple [x, y] >>= _) _ _ _ from wpAny_bind (wpAny_newTuple ?_))
    have es : g3.objs.size = s.heap.objs.size := by rw [c3.1, c2.1, c1.1]
    have y3 : ZipObj g3 z TI TO own true := c3.extBut _ _ D.i2z.symm (c2.extBut _ _ D.i1z.symm y1)
    have kp : ∀ c o, c ≠ z → c ≠ i1 → c ≠ i2 → s.heap.get? c = some o → g3.get? c = some o := fun c o n1 n2 n3 e => c3.extBut _ _ n3 (c2.extBut _ _ n2 (c1.extBut _ _ n1 e))
    have v1 : g3.IsTupleIter i1 l1 (k1 + 1) := u1.extBut c3.extBut D.i12
    have pT : IsPair (g3.push { cls := .type "tuple", data := .seq #[x, y] }) g3.objs.size x y := Heap.get?_push_size _ rfl
    have z4 : (g3.push { cls := .type "tuple", data := .seq #[x, y] }).objs.size = g3.objs.size + 1 := Heap.size_push ..
    refine wpAny_pure ⟨_, rfl, (show Q (.ref g3.objs.size) _ from ?_)⟩
    rw [es] at pT z4 ⊢
    exact hQ _ _ _ ho (Heap.get?_push_of_some _ y3) ⟨a, b, Heap.get?_push_of_some _ (kp _ _ D.TOz D.TOi1 D.TOi2 pO)⟩ (v1.at fun o e => Heap.get?_push_of_some _ e) (u2.at fun o e => Heap.get?_push_of_some _ e) pT z4 fun c o n1 _ n3 n4 e => Heap.get?_push_of_some _ (kp c o n1 n3 n4 e)
theorem zip_any_end {Q : Fin → Shared → Prop} (hh : A.handled = none) (D : ZipApart z TI TO i1 i2 l1 l2) (hz : ZipObj s.heap z TI TO own k) (ho : OwnOk own) (pI : IsPair s.heap TI (.ref i1) (.ref i2)) (pO : IsPair s.heap TO a b)
    (t1 : s.heap.IsTupleIter i1 l1 k1) (t2 : s.heap.IsTupleIter i2 l2 k2) (q1 : s.heap.IsTuple l1 xs) (q2 : s.heap.IsTuple l2 ys) (hend : xs[k1]? = none ∨ ys[k2]? = none)
    (hE : ∀ g e, (∀ c o, c ≠ z → c ≠ TO → c ≠ i1 → c ≠ i2 → s.heap.get? c = some o → g.get? c = some o) → (∃ o, g.get? e = some o ∧ o.cls = .type "StopIteration") → E (.ref e) { s with heap := g }) :
    wpAny (model prog w) A (Builtin.«zip.__next__» ⟨[.ref z], []⟩) Q E s := by
  refine (show wpAny (model prog w) A (field (.ref z) 2 >>= _) _ E s from wpAny_bind (wpAny_field hz rfl (x := Value.bool false) rfl ?_))
  refine (show wpAny (model prog w) A (field (.ref z) 3 >>= _) _ E s from wpAny_bind (wpAny_field hz rfl (x := Value.ref TI) rfl ?_))
  refine wpAny_bind (wpAny_seqItems pI rfl ?_)
  have second : ∀ {x}, xs[k1]? = some x → ys[k2]? = none := fun {x} hx => hend.elim (fun z => by rw [hx] at z; cases z) id
  refine (show wpAny (model prog w) A (Builtin.SmallTypes.ownedTupleIsFree (.ref z) >>= _) _ E s from wpAny_bind (zip_free hz ho ?_ fun g1 y1 c1 => ?_))
  · simp only [if_true]
    refine wpAny_bind (wpAny_rule (wpAny_bind (wpAny_field hz rfl (x := Value.ref TO) rfl (wpAny_bind (wpAny_setField_rec hz (by simp) fun g1 y1 c1 => ?_)))))
    replace y1 : ZipObj g1 z TI TO .ellipsis k := y1
    refine wpAny_bind ?_
    simp only [List.zipIdx_cons, List.zipIdx_nil, List.forIn_cons, List.forIn_nil]
    refine wpAny_bind (wpAny_bind (wpAny_onRaise (show wpAny (model prog w) A (Builtin.SmallTypes.nextOf (.ref i1) >>= _) _ _ _ from ?_)))
    cases hx : xs[k1]? with
    | none =>
      refine wpAny_bind (RZ.nextOf_tuple_end hh (t1.extBut c1.extBut D.i1z) (q1.extBut c1.extBut D.l1z) hx fun g2 e c2 he => ?_)
      obtain ⟨oe, e1, e2⟩ := he
      have y2 : ZipObj g2 z TI TO .ellipsis k := c2 _ _ D.i1z.symm y1
      have nz : e ≠ z := fun q => by subst q; rw [y2] at e1; cases e1; simp at e2
      exact wpAny_setField_rec y2 (by simp) fun g3 _ c3 => hE g3 e (fun c o n1 _ n3 _ q => c3.extBut _ _ n1 (c2 _ _ n3 (c1.extBut _ _ n1 q))) ⟨oe, c3.extBut _ _ nz e1, e2⟩
    | some x =>
      refine wpAny_bind (RZ.nextOf_tuple_item (t1.extBut c1.extBut D.i1z) (q1.extBut c1.extBut D.l1z) hx fun g2 u1 c2 => wpAny_pure ?_)
      have w2 : IsPair g2 TO a b := c2.extBut _ _ D.TOi1 (c1.extBut _ _ D.TOz pO)
      refine wpAny_bind (wpAny_seqItems w2 rfl (wpAny_bind (wpAny_updateSeq_pair w2 fun g3 w3 c3 => ?_)))
      refine wpAny_bind (wpAny_letGo (wpAny_pure (wpAny_bind (wpAny_bind (wpAny_onRaise ?_)))))
      refine (show wpAny (model prog w) A (Builtin.SmallTypes.nextOf (.ref i2) >>= _) _ _ _ from wpAny_bind (RZ.nextOf_tuple_end hh (((t2.extBut c1.extBut D.i2z).extBut c2.extBut D.i12.symm).extBut c3.extBut D.TOi2.symm)
        (((q2.extBut c1.extBut D.l2z).extBut c2.extBut D.l2i1).extBut c3.extBut D.l2TO) (second hx) fun g4 e c4 he => ?_))
      obtain ⟨oe, e1, e2⟩ := he
      have y4 : ZipObj g4 z TI TO .ellipsis k := c4 _ _ D.i2z.symm (c3.extBut _ _ D.TOz.symm (c2.extBut _ _ D.i1z.symm y1))
      have nz : e ≠ z := fun q => by subst q; rw [y4] at e1; cases e1; simp at e2
      exact wpAny_setField_rec y4 (by simp) fun g5 _ c5 => hE g5 e (fun c o n1 n2 n3 n4 q => c5.extBut _ _ n1 (c4 _ _ n4 (c3.extBut _ _ n2 (c2.extBut _ _ n3 (c1.extBut _ _ n1 q))))) ⟨oe, c5.extBut _ _ nz e1, e2⟩
  · simp only [Bool.false_eq_true, if_false]
    refine wpAny_bind ?_
    rw [← Array.forIn_toList]
    simp only [List.forIn_cons, List.forIn_nil]
    refine wpAny_bind (wpAny_bind (wpAny_holding (show wpAny (model prog w) A (Builtin.SmallTypes.nextOf (.ref i1) >>= _) _ _ _ from ?_)))
    cases hx : xs[k1]? with
    | none => exact wpAny_bind (RZ.nextOf_tuple_end (s := { s with heap := g1 }) hh (t1.extBut c1.extBut D.i1z) (q1.extBut c1.extBut D.l1z) hx fun g2 e c2 he => hE g2 e (fun c o n1 _ n3 _ q => c2 _ _ n3 (c1.extBut _ _ n1 q)) he)
    | some x =>
      refine wpAny_bind (RZ.nextOf_tuple_item (s := { s with heap := g1 }) (t1.extBut c1.extBut D.i1z) (q1.extBut c1.extBut D.l1z) hx fun g2 u1 c2 => wpAny_pure (wpAny_pure ?_))
      refine wpAny_bind (wpAny_bind (wpAny_holding (show wpAny (model prog w) A (Builtin.SmallTypes.nextOf (.ref i2) >>= _) _ _ _ from ?_)))
      exact wpAny_bind (RZ.nextOf_tuple_end (s := { s with heap := g2 }) hh ((t2.extBut c1.extBut D.i2z).extBut c2.extBut D.i12.symm) ((q2.extBut c1.extBut D.l2z).extBut c2.extBut D.l2i1) (second hx) fun g3 e c3 he => hE g3 e (fun c o n1 _ n3 n4 q => c3 _ _ n4 (c2.extBut _ _ n3 (c1.extBut _ _ n1 q))) he)
/-! ### an enumerate over it -/
theorem enumz_next {e : Addr} {i : Nat} {old : Value} {Q : Value → Shared → Prop} (D : ZipApart z TI TO i1 i2 l1 l2) (ez : e ≠ z) (eO : e ≠ TO) (e1 : e ≠ i1) (e2 : e ≠ i2) (he : IsEnum s.heap e z i old) (hz : ZipObj s.heap z TI TO own k) (ho : OwnOk own)
    (pI : IsPair s.heap TI (.ref i1) (.ref i2)) (pO : IsPair s.heap TO a b) (t1 : s.heap.IsTupleIter i1 l1 k1) (t2 : s.heap.IsTupleIter i2 l2 k2) (q1 : s.heap.IsTuple l1 xs) (q2 : s.heap.IsTuple l2 ys) (hx : xs[k1]? = some x) (hy : ys[k2]? = some y)
    (hQ : ∀ g own' k', OwnOk own' → ZipObj g z TI TO own' k' → (∃ a b, IsPair g TO a b) → g.IsTupleIter i1 l1 (k1 + 1) → g.IsTupleIter i2 l2 (k2 + 1) → IsPair g s.heap.objs.size x y → IsEnumOut g e z ((i : Int) + 1) (.ref s.heap.objs.size) (s.heap.objs.size + 1) →
      g.get? (s.heap.objs.size + 1) = some { cls := .type "tuple", data := .seq #[.int i s.toks, .ref s.heap.objs.size] } → (∀ c o, c ≠ e → c ≠ z → c ≠ TO → c ≠ i1 → c ≠ i2 → s.heap.get? c = some o → g.get? c = some o) →
      Q (.ref (s.heap.objs.size + 1)) { s with heap := g, toks := s.toks + 1 }) :
    wpAny (model prog w) A (Builtin.«enumerate.__next__» ⟨[.ref e], []⟩) (fun fin s' => ∃ v, fin = .done (.ret v) ∧ Q v s') E s := by
  obtain ⟨hp, g, d, tk, os⟩ := s
  have tZ : (⟨hp, g, d, tk, os⟩ : Shared).TypeIs (.ref z) "zip" := ⟨_, hz, rfl⟩
  refine (show wpAny (model prog w) A (field (.ref e) 2 >>= _) _ E _ from wpAny_bind (wpAny_field he rfl (x := Value.ref z) rfl ?_))
  refine wpAny_bind ?_
  unfold Builtin.SmallTypes.nextOf
  refine wpAny_bind (wpAny_callSpecial?_slot (name := Str.ofString "__next__") tZ F.slot_zip_next (wpAny_call_entry F.slot_zip_next tZ F.entry_zip_next (zip_any_item D hz ho pI pO t1 t2 q1 q2 hx hy fun g1 own' k' ho' y1 pO' v1 v2 pN zs kp => wpAny_pure ?_) (F.args_zip_next_1 _)))
  replace zs : g1.objs.size = hp.objs.size + 1 := zs
  replace pN : IsPair g1 hp.objs.size x y := pN
  replace kp : ∀ c o, c ≠ z → c ≠ TO → c ≠ i1 → c ≠ i2 → hp.get? c = some o → g1.get? c = some o := kp
  have n1 : IsEnum g1 e z i old := kp _ _ ez eO e1 e2 he
  have el : e < hp.objs.size := Heap.lt_size he
  refine (show wpAny (model prog w) A (field (.ref e) 3 >>= _) _ E ⟨g1, g, d, tk, os⟩ from wpAny_bind (wpAny_field n1 rfl (x := rawInt i) rfl ?_))
  refine (show wpAny (model prog w) A (field (.ref e) 4 >>= _) _ E ⟨g1, g, d, tk, os⟩ from wpAny_bind (wpAny_field n1 rfl (x := Value.none) rfl ?_))
  refine (show wpAny (model prog w) A (mkInt i >>= _) _ E ⟨g1, g, d, tk, os⟩ from wpAny_bind (wpAny_mkInt ?_))
  refine (show wpAny (model prog w) A (setField (.ref e) 3 (rawInt ((i : Int) + 1)) >>= _) _ E ⟨g1, g, d, tk + 1, os⟩ from wpAny_bind (wpAny_setField_rec n1 (by simp) fun g2 n2 c2 => ?_))
  replace c2 : Heap.SameBut e g1 g2 := c2
  replace n2 : IsEnum g2 e z ((i : Int) + 1) old := n2
  refine (show wpAny (model prog w) A (setField (.ref e) 4 .none >>= _) _ E ⟨g2, g, d, tk + 1, os⟩ from wpAny_bind (wpAny_setField_rec n2 (by simp) fun g3 n3 c3 => ?_))
  replace c3 : Heap.SameBut e g2 g3 := c3
  replace n3 : IsEnum g3 e z ((i : Int) + 1) old := n3
  refine (show wpAny (model prog w) A (newTuple [.int i tk, .ref hp.objs.size] >>= _) _ E ⟨g3, g, d, tk + 1, os⟩ from wpAny_bind (wpAny_newTuple ?_))
  have es : g3.objs.size = hp.objs.size + 1 := by rw [c3.1, c2.1, zs]
  have n4 : IsEnum (g3.push { cls := .type "tuple", data := .seq #[.int i tk, .ref hp.objs.size] }) e z ((i : Int) + 1) old := Heap.get?_push_of_some _ n3
  have p4 : (g3.push { cls := .type "tuple", data := .seq #[.int i tk, .ref hp.objs.size] }).get? (hp.objs.size + 1) = some { cls := .type "tuple", data := .seq #[.int i tk, .ref hp.objs.size] } := by rw [← es]; exact Heap.get?_push_size _ rfl
  have up4 : ∀ c o, c ≠ e → g1.get? c = some o → (g3.push { cls := .type "tuple", data := .seq #[.int i tk, .ref hp.objs.size] }).get? c = some o := fun c o n q => Heap.get?_push_of_some _ (c3.extBut c o n (c2.extBut c o n q))
  generalize g3.push { cls := .type "tuple", data := .seq #[.int i tk, .ref hp.objs.size] } = g4 at n4 p4 up4
  refine (show wpAny (model prog w) A (Builtin.SmallTypes.ownedTupleIsFree (.ref e) >>= _) _ E ⟨g4, g, d, tk + 1, os⟩ from ?_)
  rw [es]
  refine wpAny_bind ?_
  unfold Builtin.SmallTypes.ownedTupleIsFree
  refine wpAny_bind (wpAny_field n4 rfl (x := Value.none) rfl (wpAny_pure ?_))
  simp only [if_true]
  refine wpAny_bind (wpAny_rule (wpAny_bind (wpAny_field n4 rfl (x := old) rfl (wpAny_bind (wpAny_setField_rec n4 (by simp) fun g5 n5 c5 => ?_)))))
  replace c5 : Heap.SameBut e g4 g5 := c5
  replace n5 : IsEnum g5 e z ((i : Int) + 1) (.ref hp.objs.size) := n5
  refine (show wpAny (model prog w) A (Builtin.SmallTypes.ownedTupleHandOut (.ref e) (.ref (hp.objs.size + 1)) >>= _) _ E ⟨g5, g, d, tk + 1, os⟩ from wpAny_bind ?_)
  unfold Builtin.SmallTypes.ownedTupleHandOut
  refine wpAny_bind (wpAny_setField_rec n5 (by simp) fun g6 n6 c6 => ?_)
  replace c6 : Heap.SameBut e g5 g6 := c6
  replace n6 : IsEnumOut g6 e z ((i : Int) + 1) (.ref hp.objs.size) (hp.objs.size + 1) := n6
  refine wpAny_setField_rec n6 (by simp) fun g7 n7 c7 => ?_
  replace c7 : Heap.SameBut e g6 g7 := c7
  replace n7 : IsEnumOut g7 e z ((i : Int) + 1) (.ref hp.objs.size) (hp.objs.size + 1) := n7
  have up5 : ∀ c o, c ≠ e → g4.get? c = some o → g7.get? c = some o := fun c o n q => c7.extBut c o n (c6.extBut c o n (c5.extBut c o n q))
  have up : ∀ c o, c ≠ e → g1.get? c = some o → g7.get? c = some o := fun c o n q => up5 c o n (up4 c o n q)
  obtain ⟨a', b', pO''⟩ := pO'
  refine wpAny_bind (wpAny_letGo (wpAny_pure ⟨_, rfl, hQ g7 own' k' ho' (up _ _ (Ne.symm ez) y1) ⟨a', b', up _ _ (Ne.symm eO) pO''⟩ (v1.at fun o q => up _ o (Ne.symm e1) q) (v2.at fun o q => up _ o (Ne.symm e2) q) (up _ _ (Nat.ne_of_gt el) pN) n7
    (up5 _ _ (Nat.ne_of_gt (Nat.lt_succ_of_lt el)) p4) fun c o m1 m2 m3 m4 m5 q => up c o m1 (kp c o m2 m3 m4 m5 q)⟩))
theorem enumz_item {e : Addr} {i : Nat} {old : Value} {Q : Option Value → Shared → Prop} (D : ZipApart z TI TO i1 i2 l1 l2) (ez : e ≠ z) (eO : e ≠ TO) (e1 : e ≠ i1) (e2 : e ≠ i2) (he : IsEnum s.heap e z i old) (hz : ZipObj s.heap z TI TO own k) (ho : OwnOk own)
    (pI : IsPair s.heap TI (.ref i1) (.ref i2)) (pO : IsPair s.heap TO a b) (t1 : s.heap.IsTupleIter i1 l1 k1) (t2 : s.heap.IsTupleIter i2 l2 k2) (q1 : s.heap.IsTuple l1 xs) (q2 : s.heap.IsTuple l2 ys) (hx : xs[k1]? = some x) (hy : ys[k2]? = some y)
    (hQ : ∀ g own' k', OwnOk own' → ZipObj g z TI TO own' k' → (∃ a b, IsPair g TO a b) → g.IsTupleIter i1 l1 (k1 + 1) → g.IsTupleIter i2 l2 (k2 + 1) → IsPair g s.heap.objs.size x y → IsEnumOut g e z ((i : Int) + 1) (.ref s.heap.objs.size) (s.heap.objs.size + 1) →
      g.get? (s.heap.objs.size + 1) = some { cls := .type "tuple", data := .seq #[.int i s.toks, .ref s.heap.objs.size] } → (∀ c o, c ≠ e → c ≠ z → c ≠ TO → c ≠ i1 → c ≠ i2 → s.heap.get? c = some o → g.get? c = some o) →
      Q (some (.ref (s.heap.objs.size + 1))) { s with heap := g, toks := s.toks + 1 }) :
    wpAny (model prog w) A (pyNext (.ref e)) Q E s := by
  have tE : s.TypeIs (.ref e) "enumerate" := ⟨_, he, rfl⟩
  unfold pyNext
  exact wpAny_bind (wpAny_attempt (wpAny_callSpecial?_slot (name := Str.ofString "__next__") tE F.slot_enumerate_next (wpAny_call_entry F.slot_enumerate_next tE F.entry_enumerate_next
    (enumz_next D ez eO e1 e2 he hz ho pI pO t1 t2 q1 q2 hx hy fun g own' k' w1 w2 w3 w4 w5 w6 w7 w8 w9 => wpAny_pure (hQ g own' k' w1 w2 w3 w4 w5 w6 w7 w8 w9)) (F.args_enumerate_next_1 _))))
theorem enumz_end {e : Addr} {i : Int} {old : Value} {Q : Option Value → Shared → Prop} (hh : A.handled = none) (D : ZipApart z TI TO i1 i2 l1 l2) (he : IsEnum s.heap e z i old) (hz : ZipObj s.heap z TI TO own k) (ho : OwnOk own)
    (pI : IsPair s.heap TI (.ref i1) (.ref i2)) (pO : IsPair s.heap TO a b) (t1 : s.heap.IsTupleIter i1 l1 k1) (t2 : s.heap.IsTupleIter i2 l2 k2) (q1 : s.heap.IsTuple l1 xs) (q2 : s.heap.IsTuple l2 ys) (hend : xs[k1]? = none ∨ ys[k2]? = none)
    (hQ : ∀ g, (∀ c o, c ≠ z → c ≠ TO → c ≠ i1 → c ≠ i2 → s.heap.get? c = some o → g.get? c = some o) → Q none { s with heap := g }) : wpAny (model prog w) A (pyNext (.ref e)) Q E s := by
  have tE : s.TypeIs (.ref e) "enumerate" := ⟨_, he, rfl⟩
  have tZ : s.TypeIs (.ref z) "zip" := ⟨_, hz, rfl⟩
  unfold pyNext
  refine wpAny_bind (wpAny_attempt (wpAny_callSpecial?_slot (name := Str.ofString "__next__") tE F.slot_enumerate_next (wpAny_call_entry F.slot_enumerate_next tE F.entry_enumerate_next ?_ (F.args_enumerate_next_1 _))))
  refine (show wpAny (model prog w) A.in1 (field (.ref e) 2 >>= _) _ _ s from wpAny_bind (wpAny_field he rfl (x := Value.ref z) rfl ?_))
  refine wpAny_bind ?_
  unfold Builtin.SmallTypes.nextOf
  refine wpAny_bind (wpAny_callSpecial?_slot (name := Str.ofString "__next__") tZ F.slot_zip_next (wpAny_call_entry F.slot_zip_next tZ F.entry_zip_next (zip_any_end hh D hz ho pI pO t1 t2 q1 q2 hend fun g x kp hx => ?_) (F.args_zip_next_1 _)))
  obtain ⟨o, e1, e2⟩ := hx
  refine wpAny_bind (wpAny_isInstance (T := "StopIteration") (b := true) ⟨o, e1, e2⟩ isSubtype_stop ?_)
  exact wpAny_pure (hQ _ kp)
end
/-! ### enumerate(zip(a, b)) is made -/
theorem enumz_meets (z TI TO : Addr) : Meets (Builtin.«enumerate.__new__» ⟨[.type "enumerate", .ref z], []⟩) (fun _ R s => IsZip s.heap z TI TO .none ∧ R (.ok (.ret (.ref s.heap.objs.size)))
      { s with heap := s.heap.push { cls := .type "enumerate", data := .fields #[.none, .bool false, .ref z, rawInt 0, .none, .none] } }) :=
  .of_wp fun prog w A R s h => by
    obtain ⟨hp, g, d, tk, os⟩ := s
    obtain ⟨h1, h⟩ := h
    have hsub := sub_enumerate
    have q1 : ∀ {A' : Around} {E : Value → Shared → Prop} {Q : Value → Shared → Prop}, Q (.ref z) ⟨hp, g, d, tk, os⟩ → wpAny (model prog w) A' (pyIter (.ref z)) Q E ⟨hp, g, d, tk, os⟩ := fun q => wpAny_pyIter_zip (s := ⟨hp, g, d, tk, os⟩) h1 q
    wp_walk using q1
    refine wpAny_stack_any fun st => wpAny_pure ?_
    split
    · rename_i c _ _ _ _ _
      cases (c == Value.type "enumerate")
      all_goals
        wp_walk using q1
        exact ⟨_, rfl, h⟩
    · wp_walk using q1
      exact ⟨_, rfl, h⟩
theorem enumz_call {prog : Program} {w : World} {A : Around} {E : Value → Shared → Prop} {s : Shared} {z TI TO : Addr} {Q : Value → Shared → Prop} (hz : IsZip s.heap z TI TO .none)
    (h : ∀ g, IsEnum g s.heap.objs.size z 0 .none → g.objs.size = s.heap.objs.size + 1 → (∀ b o, s.heap.get? b = some o → g.get? b = some o) → Q (.ref s.heap.objs.size) { s with heap := g }) :
    wpAny (model prog w) A (call (.type "enumerate") [.ref z]) Q E s := by
  refine callType_new F.called_enumerate (by decide) (F.typeCall_enumerate_1 _) (F.newCall_enumerate_1 _) (fun obj => F.args_object_init_2 obj _) F.entry_enumerate_new (enumz_meets z TI TO) ⟨hz, ?_⟩
  have he := Heap.get?_push_size s.heap (o := { cls := .type "enumerate", data := .fields #[.none, .bool false, .ref z, rawInt 0, .none, .none] }) rfl
  exact ⟨⟨_, he, rfl⟩, h _ he (Heap.size_push ..) fun b u x => Heap.get?_push_of_some _ x⟩
/-! ### its turns -/
def ItzE (K : PySem.W.Frag) (a b : Addr) : It :=
  ⟨fun i H => ∃ (xs ys : List V) (x y : V), SqT K H a xs ∧ SqT K H b ys ∧ xs[i]? = some x ∧ ys[i]? = some y,
    fun i H v H' => ∃ T U x y, v = .ref U ∧ H T = none ∧ (upd H T (.tup [x, y])) U = none ∧ H' = upd (upd H T (.tup [x, y])) U (.tup [.int (i : Nat), .ref T]) ∧ (∀ xs, SqT K H a xs → xs[i]? = some x) ∧ ∀ ys, SqT K H b ys → ys[i]? = some y,
    fun i H => ∃ xs ys : List V, SqT K H a xs ∧ SqT K H b ys ∧ (xs.length ≤ i ∨ ys.length ≤ i)⟩
def zeState (a b e z TI TO i1 i2 : Addr) (i : Nat) (h : Heap) : Prop :=
  (∃ old, IsEnum h e z ((i : Nat) : Int) old) ∧ (∃ own k, OwnOk own ∧ ZipObj h z TI TO own k) ∧ IsPair h TI (.ref i1) (.ref i2) ∧ (∃ x y, IsPair h TO x y) ∧ h.IsTupleIter i1 a i ∧ h.IsTupleIter i2 b i
theorem turn_enumZ {P : Program} {w : World} {K : PySem.W.Frag} {elts : List Expr} {kk : Nat} {tpos : Pos} {a b e z TI TO i1 i2 : Addr} (D : ZipApart z TI TO i1 i2 a b) (ez : e ≠ z) (eI : e ≠ TI) (eO : e ≠ TO) (e1 : e ≠ i1) (e2 : e ≠ i2) :
    Turn P w K (.Tuple elts kk tpos) (ItzE K a b) [e, z, TI, TO, i1, i2] e (zeState a b e z TI TO i1 i2) where
  mem := by simp
  obj := fun i h st c hc => by
    obtain ⟨⟨old, he⟩, ⟨own, k, _, hz⟩, pI, ⟨x, y, pO⟩, ⟨o1, f1, _, d1⟩, ⟨o2, f2, _, d2⟩⟩ := st
    have e' : c = e ∨ c = z ∨ c = TI ∨ c = TO ∨ c = i1 ∨ c = i2 := by simpa using hc
    rcases e' with q | q | q | q | q | q
    · rw [q]; exact ⟨_, he, fun v q => nomatch q⟩
    · rw [q]; exact ⟨_, hz, fun v q => nomatch q⟩
    · rw [q]; exact ⟨_, pI, fun v q => nomatch q⟩
    · rw [q]; exact ⟨_, pO, fun v q => nomatch q⟩
    · rw [q]; exact ⟨o1, f1, fun v q => by rw [d1] at q; cases q⟩
    · rw [q]; exact ⟨o2, f2, fun v q => by rw [d2] at q; cases q⟩
  keep := fun i h h' st k => by
    obtain ⟨⟨old, he⟩, ⟨own, k', ho, hz⟩, pI, ⟨x, y, pO⟩, h1, h2⟩ := st
    exact ⟨⟨old, k e (by simp) _ he⟩, ⟨own, k', ho, k z (by simp) _ hz⟩, k TI (by simp) _ pI, ⟨x, y, k TO (by simp) _ pO⟩, h1.at fun o q => k i1 (by simp) o q, h2.at fun o q => k i2 (by simp) o q⟩
  item := by
    intro X hP hw hK hc i pins s σ H E I hf st hg
    subst hP hw hK
    obtain ⟨⟨old, he⟩, ⟨own, k, ho, hz⟩, pI, ⟨x0, y0, pO⟩, h1, h2⟩ := st
    obtain ⟨xs, ys, x, y, hqx, hqy, hx, hy⟩ := hg
    obtain ⟨its, rv, p, _⟩ := I.tuple hqx
    obtain ⟨its2, rv2, p2, _⟩ := I.tuple hqy
    obtain ⟨u, hu, ru⟩ := rv.get hx
    obtain ⟨u2, hu2, ru2⟩ := rv2.get hy
    have el : e < s.heap.objs.size := Heap.lt_size he
    have lt6 : ∀ c ∈ [e, z, TI, TO, i1, i2], c < s.heap.objs.size := fun c hc => by
      have e' : c = e ∨ c = z ∨ c = TI ∨ c = TO ∨ c = i1 ∨ c = i2 := by simpa using hc
      rcases e' with q | q | q | q | q | q
      · rw [q]; exact el
      · rw [q]; exact Heap.lt_size hz
      · rw [q]; exact Heap.lt_size pI
      · rw [q]; exact Heap.lt_size pO
      · rw [q]; obtain ⟨_, f, _⟩ := h1; exact Heap.lt_size f
      · rw [q]; obtain ⟨_, f, _⟩ := h2; exact Heap.lt_size f
    refine enumz_item D ez eO e1 e2 he hz ho pI pO h1 h2 p p2 (x := u) (y := u2) (by simpa using hu) (by simpa using hu2) fun g own' k' ho' y1 pO' v1 v2 pN nE pU kp => ?_
    refine ⟨_, rfl, wpAny_letOwnedTupleGo_enum (s := { s with heap := g, toks := s.toks + 1 }) nE fun g' nE' sb => ?_⟩
    replace sb : Heap.SameBut e g g' := sb
    have pN2 : g'.get? s.heap.objs.size = some { cls := .type "tuple", data := .seq #[u, u2] } := (sb.2 _ (Nat.ne_of_gt el)).trans pN
    have pU2 : g'.get? (s.heap.objs.size + 1) = some { cls := .type "tuple", data := .seq #[.int i s.toks, .ref s.heap.objs.size] } := (sb.2 _ (Nat.ne_of_gt (Nat.lt_succ_of_lt el))).trans pU
    have I1 : Inv X pins σ (upd H s.heap.objs.size (.tup [x, y])) { s with heap := s.heap.push { cls := .type "tuple", data := .seq #[u, u2] } } :=
      I.laid (t' := s.toks) (fun b o q => Heap.get?_push_of_some _ q) (Nat.le_refl _) ⟨by show 2 ≤ sizeLine; decide, [u, u2], .cons ru (.cons ru2 .nil), ⟨_, Heap.get?_push_size _ rfl, rfl, _, rfl⟩⟩
    have hf1 : ∀ b ∈ [e, z, TI, TO, i1, i2], FpOk X pins (upd H s.heap.objs.size (.tup [x, y])) b := fun b hb => ⟨by rw [upd_ne (Nat.ne_of_lt (lt6 b hb))]; exact (hf b hb).1, (hf b hb).2⟩
    have zp : (s.heap.push { cls := .type "tuple", data := .seq #[u, u2] }).objs.size = s.heap.objs.size + 1 := Heap.size_push ..
    have I2 : Inv X pins σ (upd (upd H s.heap.objs.size (.tup [x, y])) (s.heap.objs.size + 1) (.tup [.int (i : Nat), .ref s.heap.objs.size])) { s with heap := g', toks := s.toks + 1 } :=
      I1.turnedNew (t' := s.toks + 1) (ch := [e, z, TI, TO, i1, i2]) (fun c o hb q => by
        rcases Heap.get?_push_cases q with ⟨q1, q2⟩ | q1
        · rw [q1, q2]
          exact pN2
        · exact (sb.2 c (fun z => hb (by simp [z]))).trans (kp c o (fun z => hb (by simp [z])) (fun z => hb (by simp [z])) (fun z => hb (by simp [z])) (fun z => hb (by simp [z])) (fun z => hb (by simp [z])) q1)) hf1 (Nat.le_of_eq zp)
        ⟨by show 2 ≤ sizeLine; decide, [.int i s.toks, .ref s.heap.objs.size], .cons ⟨_, rfl⟩ (.cons rfl .nil), ⟨_, pU2, rfl, _, rfl⟩⟩
    refine ⟨.ref (s.heap.objs.size + 1), _, I2, rfl, ⟨s.heap.objs.size, s.heap.objs.size + 1, x, y, rfl, I.hok.fresh (Nat.le_refl _), ?_, rfl, fun l hl => by rw [I.tuple_inj hl hqx]; exact hx, fun l hl => by rw [I.tuple_inj hl hqy]; exact hy⟩, ⟨⟨.ref s.heap.objs.size, ?_⟩, ⟨own', k', ho', (sb.2 _ (Ne.symm ez)).trans y1⟩, ?_, ?_, ?_, ?_⟩, fun c hc => ?_⟩
    · rw [upd_ne (Nat.succ_ne_self _)]
      exact I.hok.fresh (Nat.le_succ _)
    · rw [show ((i + 1 : Nat) : Int) = (i : Int) + 1 by omega]
      exact nE'
    · exact (sb.2 _ (Ne.symm eI)).trans (kp _ _ (Ne.symm eI) D.TIz D.TITO D.TIi1 D.TIi2 pI)
    · obtain ⟨a', b', q⟩ := pO'
      exact ⟨a', b', (sb.2 _ (Ne.symm eO)).trans q⟩
    · exact v1.at fun o q => (sb.2 _ (Ne.symm e1)).trans q
    · exact v2.at fun o q => (sb.2 _ (Ne.symm e2)).trans q
    · have := lt6 c hc
      rw [upd_ne (Nat.ne_of_lt (Nat.lt_succ_of_lt this)), upd_ne (Nat.ne_of_lt this)]
      exact (hf c hc).1
  done := by
    intro X hP hw hK hc i pins s σ H E I hf st hg
    subst hP hw hK
    obtain ⟨⟨old, he⟩, ⟨own, k, ho, hz⟩, pI, ⟨x0, y0, pO⟩, h1, h2⟩ := st
    obtain ⟨xs, ys, hqx, hqy, hend⟩ := hg
    obtain ⟨its, rv, p, _⟩ := I.tuple hqx
    obtain ⟨its2, rv2, p2, _⟩ := I.tuple hqy
    have l1 := rv.length
    have l2 := rv2.length
    have hE : its.toArray[i]? = none ∨ its2.toArray[i]? = none := by
      rcases hend with q | q
      · exact .inl (by simp; omega)
      · exact .inr (by simp; omega)
    exact enumz_end (I.ok.hd hc) D he hz ho pI pO h1 h2 p p2 hE fun g kp => ⟨rfl, I.turnedL (t' := s.toks) (ch := [e, z, TI, TO, i1, i2]) (fun c o hb q =>
      kp c o (fun z => hb (by simp [z])) (fun z => hb (by simp [z])) (fun z => hb (by simp [z])) (fun z => hb (by simp [z])) q) hf⟩
  self := fun A i s Q E st h => by
    obtain ⟨⟨_, he⟩, _⟩ := st
    exact wpAny_pyIter_enum he h
def iEnumZ (K : PySem.W.Frag) (ta : TA) : TI := fun σ H R => ta σ H fun vs H1 => ∃ a b xs ys, vs = [.ref a, .ref b] ∧ SqT K H1 a xs ∧ SqT K H1 b ys ∧ R (ItzE K a b) H1
theorem pi_enumZ {X : Cx} {c d : Expr} {ta : TA} {p pos p2 pos2 tpos : Pos} {elts : List Expr} {kk : Nat} (hg : Gl X "enumerate") (hm : X.mg "enumerate" = none) (hg2 : Gl X "zip") (hm2 : X.mg "zip" = none) (ha : PA X [c, d] ta)
    (hs : starEach [c, d] X.env = (false, eval c X.env) :: starEach [d] X.env := by rfl) (hpl : (backTo pos2 (starEach [d] X.env)).any (·.1) = false := by rfl)
    (hs2 : starEach [.Call (.Name "zip" p2) [c, d] [] pos2] X.env = (false, eval (.Call (.Name "zip" p2) [c, d] [] pos2) X.env) :: starEach [] X.env := by rfl) :
    PI X (.Tuple elts kk tpos) (.Call (.Name "enumerate" p) [.Call (.Name "zip" p2) [c, d] [] pos2] [] pos) (iEnumZ X.K ta) := by
  refine ⟨fun pins s σ H R I h => ?_⟩
  refine PyProof.Rows.Call_ (ld_blt I hg hm PyProof.Rows.boot_enumerate (PyProof.Rows.callWith_type1 (PyProof.Rows.spliced_more ?_ hs2) hs2 rfl))
  refine PyProof.Rows.Call_ (ld_blt I hg2 hm2 PyProof.Rows.boot_zip (PyProof.Rows.callWith_type1 (thn (ha.run pos2 pins s σ H _ I h) fun us s1 ⟨vs, H1, I1, r1, q1⟩ => ?_) hs hpl))
  obtain ⟨a, b, xs, ys, rfl, hqx, hqy, q⟩ := q1
  cases r1 with
  | cons r rr =>
    cases rr with
    | cons r' rr =>
      cases rr
      cases r
      cases r'
      obtain ⟨its, rv, p1, _⟩ := I1.tuple hqx
      obtain ⟨its2, rv2, p2', _⟩ := I1.tuple hqy
      have la := p1.lt
      have lb := p2'.lt
      refine RZ.call_zipT (show s1.heap.IsTuple a its.toArray from p1) (show s1.heap.IsTuple b its2.toArray from p2') fun h' hz hTI hTO h1 h2 hsz hk => PyProof.Rows.spliced_none ?_
      refine enumz_call (s := { s1 with heap := h' }) hz fun g he hgz hk2 => wpAny_pyIter_enum he ?_
      replace he : IsEnum g h'.objs.size (s1.heap.objs.size + 4) 0 .none := he
      replace hk2 : ∀ b o, h'.get? b = some o → g.get? b = some o := hk2
      have I2 : Inv X pins σ H1 { s1 with heap := g } := I1.kept (t' := s1.toks) fun b o q => hk2 b o (hk b o q)
      replace hsz : h'.objs.size = s1.heap.objs.size + 5 := hsz
      have m4 : h'.objs.size ≠ s1.heap.objs.size + 4 := by rw [hsz]; exact Nat.ne_of_gt (Nat.add_lt_add_left (by decide) _)
      have m3 : h'.objs.size ≠ s1.heap.objs.size + 3 := by rw [hsz]; exact Nat.ne_of_gt (Nat.add_lt_add_left (by decide) _)
      have m2 : h'.objs.size ≠ s1.heap.objs.size + 2 := by rw [hsz]; exact Nat.ne_of_gt (Nat.add_lt_add_left (by decide) _)
      have m1 : h'.objs.size ≠ s1.heap.objs.size + 1 := by rw [hsz]; exact Nat.ne_of_gt (Nat.add_lt_add_left (by decide) _)
      have m0 : h'.objs.size ≠ s1.heap.objs.size := by rw [hsz]; exact Nat.ne_of_gt (Nat.lt_add_of_pos_right (by decide))
      refine ⟨h'.objs.size, [h'.objs.size, s1.heap.objs.size + 4, s1.heap.objs.size + 2, s1.heap.objs.size + 3, s1.heap.objs.size, s1.heap.objs.size + 1], _, _, H1, rfl, I2, turn_enumZ (PySem.W.ktu_apart s1.heap.objs.size a b la lb) m4 m2 m3 m0 m1, ⟨⟨.none, he⟩, ⟨.none, false, .inl rfl, hk2 _ _ hz⟩, hk2 _ _ hTI, ⟨_, _, hk2 _ _ hTO⟩, h1.at fun o q => hk2 _ o q, h2.at fun o q => hk2 _ o q⟩, fun c hc => ?_, q⟩
      have hle : s1.heap.objs.size ≤ c := by
        simp only [List.mem_cons, List.not_mem_nil, or_false] at hc
        rcases hc with e | e | e | e | e | e
        · rw [e]
          show s1.heap.objs.size ≤ h'.objs.size
          rw [hsz]
          exact Nat.le_add_right _ _
        · rw [e]; exact Nat.le_add_right _ _
        · rw [e]; exact Nat.le_add_right _ _
        · rw [e]; exact Nat.le_add_right _ _
        · rw [e]; exact Nat.le_refl _
        · rw [e]; exact Nat.le_add_right _ _
      exact I1.fpOk hle (I1.hok.fresh hle)
/-! ### as a function -/
theorem iter_nest {K : PySem.W.Frag} {N M : Addr → Prop} {ρ : List Addr} {H0 : Hp} {a b : Addr} {xs ys : List V} {l m : List PV} (qa : ∀ H, Keep M H0 H → SqT K H a xs) (qb : ∀ H, Keep M H0 H → SqT K H b ys) (hl : l.length ≤ LINE) (r : RVs K N ρ H0 l xs) (t : RVs K N ρ H0 m ys) :
    IterOk K N M ρ (ItzE K a b) (enumF 0 (zipF l m)) H0 := by
  have e1 := r.len
  have e2 := t.len
  have el : (enumF 0 (zipF l m)).length = min l.length m.length := by rw [enumF_len, zipF_len]
  refine ⟨by rw [el]; omega, fun i H hi k => ?_, fun H k => ⟨xs, ys, qa H k, qb H k, by rw [el]; omega⟩, fun i H v H' hi k y => ?_⟩
  · rw [el] at hi
    exact ⟨xs, ys, xs[i]'(by omega), ys[i]'(by omega), qa H k, qb H k, by simp, by simp⟩
  · obtain ⟨T, U, x, y, rfl, nT, nU, rfl, gx, gy⟩ := y
    have hx := gx xs (qa H k)
    have hy := gy ys (qb H k)
    have E1 : Ext H (upd H T (.tup [x, y])) := .new nT
    have E2 : Ext (upd H T (.tup [x, y])) (upd (upd H T (.tup [x, y])) U (.tup [.int (i : Nat), .ref T])) := .new nU
    refine ⟨E1.trans E2, fun p N' ρ' hp L => ?_⟩
    obtain ⟨q, h1, rfl⟩ := enumF_get _ 0 i p hp
    obtain ⟨c, d, h2, h3, rfl⟩ := zipF_get l m i q h1
    obtain ⟨v1, g1, g2⟩ := r.get h2
    obtain ⟨v2, g3, g4⟩ := t.get h3
    rw [hx] at g1
    rw [hy] at g3
    cases g1
    cases g3
    have nT' : ¬ N' T := fun z => L.tr T z nT
    have nU' : ¬ N' U := fun z => L.tr U z (by
      by_cases e : U = T
      · rw [e]; exact nT
      · rw [upd_ne e] at nU; exact nU)
    have e12 : (E1.trans E2) = (E1.trans E2) := rfl
    refine mk_tup nU' upd_same (by show 2 ≤ 16777216; decide) (.cons (by rw [Nat.zero_add]; exact mk_int) (.cons ?_ .nil))
    exact mk_tup nT' (E2 _ _ upd_same) (by show 2 ≤ 16777216; decide) (.cons (RV.ext (E1.trans E2) (L.rv g2)) (.cons (RV.ext (E1.trans E2) (L.rv g4)) .nil))
def iEnumZip (g : EF (List PV)) : EF (List PV) := fun e st => (g e st).bind fun vs st => match vs with
  | [.tup l, .tup m] => .ok (enumF 0 (zipF l m)) st
  | _ => .stuck
theorem mi_enumZip {X : Cx} {W : WX} {c d : Expr} {g : EF (List PV)} {p pos p2 pos2 tpos : Pos} {elts : List Expr} {kk : Nat} (hg : Gl X "enumerate") (hm : X.mg "enumerate" = none) (hg2 : Gl X "zip") (hm2 : X.mg "zip" = none) (ha : MA X W [c, d] g)
    (hs : starEach [c, d] X.env = (false, eval c X.env) :: starEach [d] X.env := by rfl) (hpl : (backTo pos2 (starEach [d] X.env)).any (·.1) = false := by rfl)
    (hs2 : starEach [.Call (.Name "zip" p2) [c, d] [] pos2] X.env = (false, eval (.Call (.Name "zip" p2) [c, d] [] pos2) X.env) :: starEach [] X.env := by rfl) :
    MI X W (.Tuple elts kk tpos) (.Call (.Name "enumerate" p) [.Call (.Name "zip" p2) [c, d] [] pos2] [] pos) (iEnumZip g) := by
  obtain ⟨t, pt, q⟩ := ha
  refine ⟨_, pi_enumZ hg hm hg2 hm2 pt hs hpl hs2, fun B ρ env st σ H R Rp h => ?_⟩
  refine q B ρ env st σ H _ Rp (ROk.mono (ROk.bind h) fun vl ρ1 st1 H1 E1 h us rus => ?_)
  split at h
  · rename_i l m
    obtain ⟨u, v, rfl, ru, rv⟩ := rus.two
    obtain ⟨z, xs, rfl, h1, h2, h3⟩ := rv_tup ru
    obtain ⟨y, ys, rfl, h1', h2', h3'⟩ := rv_tup rv
    exact ⟨z, y, xs, ys, rfl, h1.sq, h1'.sq, h ρ1 H1 (.refl E1.rep) _ H1 Ext.refl (iter_nest (fun H k => h1.keep k fun _ z => z) (fun H k => h1'.keep k fun _ z => z) (by rw [← h3.len]; exact h2) h3 h3')⟩
  · exact h.elim
end PL
/-! PLr: sorted of a tuple of ints; an item popped and appended. -/
namespace PL
open PySem PySem.Spec L2
section
open PyProof.Rows SrtO
variable {prog : Program} {w : World} {A : Around} {E : Value → Shared → Prop} {s : Shared}
theorem collect_tupG {l : Addr} {vs : List Value} {Q : List Value → Shared → Prop} (hl : s.heap.IsTuple l vs.toArray) (hz : vs.length ≤ sizeLine)
    (h : Q vs { s with heap := (s.heap.push (seqObj "list" #[] 0)).update s.heap.objs.size (Obj.mapSeq (· ++ vs.toArray)) }) : wpAny (model prog w) A (collect (.ref l)) Q E s := by
  obtain ⟨o, ho, hc, n, hd⟩ := id hl
  unfold collect
  refine wpAny_bind (wpAny_runValue (codeAny_builtin entry_proto_collect' ?_))
  refine (show wpAny (model prog w) _ (newList [] >>= fun v => again (.builtin "list.__iadd__" ⟨[v, .ref l], []⟩)) _ _ s from wpAny_bind (wpAny_newList (wpAny_pure ⟨Code.quiet_builtin _ (by decide +kernel), codeAny_builtin entry_list_iadd' ?_⟩)))
  refine (show wpAny (model prog w) _ (Builtin.List.listExtendWith (.ref s.heap.objs.size) (.ref l) (.ref s.heap.objs.size)) _ _ { s with heap := s.heap.push (seqObj "list" #[] 0) } from ?_)
  unfold Builtin.List.listExtendWith
  have ho2 : (s.heap.push (seqObj "list" #[] 0)).get? l = some o := Heap.get?_push_of_some _ ho
  refine wpAny_bind (wpAny_typeOf (T := "tuple") ⟨o, ho2, hc⟩ ?_)
  rw [if_pos (by simp)]
  refine wpAny_bind (listItems_at ho2 hd (wpAny_bind (listItems_at (xs := #[]) (n := 0) (Heap.get?_push_size _ rfl) rfl ?_)))
  rw [if_neg (by simp)]
  refine wpAny_bind (listUpdate_at (xs := #[]) (n := 0) (Heap.get?_push_size _ rfl) rfl ?_ (Nat.zero_le _) (by show (#[] ++ vs.toArray).size ≤ sizeLine + 1; simp only [Array.size_append, List.size_toArray, List.length_nil]; omega))
  refine wpAny_pure (wpAny_bind (wpAny_load (get?_update_seq (Heap.get?_push_size _ rfl) _) ?_))
  refine (show wpAny (model prog w) A (pure ((#[] : Array Value) ++ vs.toArray).toList) Q E _ from ?_)
  rw [show ((#[] : Array Value) ++ vs.toArray).toList = vs by simp]
  exact wpAny_pure h
theorem sorted_tup {l : Addr} {vs : List Value} {ltv : Value → Value → Bool} {Q : Value → Shared → Prop} (O : Swo ltv) (hl : s.heap.IsTuple l vs.toArray) (hz : vs.length ≤ sizeLine)
    (hS : 2 ≤ vs.length → ∀ (g : Heap) (a : Addr), g.get? a = some (seqObj "list" vs.toArray 0) → (∀ b o, s.heap.get? b = some o → b ≠ a ∧ g.get? b = some o) → SortableO prog w A.in1.in1 { s with heap := g } a vs ltv)
    (h : ∀ out : List Value, Srtd ltv out → Stb ltv out vs → Q (.ref (s.heap.objs.size + 1)) { s with heap := sortedAll s.heap vs out.toArray }) : wpAny (model prog w) A (call (.builtin "sorted") [.ref l]) Q E s := by
  refine Calls.call_function_entry kind_sorted plain_sorted entry_sorted (args_sorted1 _) ?_
  unfold Builtin.«sorted»
  refine wpAny_bind (m := checkCount "sorted" 1 1 _) (wpAny_pure (wpAny_bind (collect_tupG hl hz (wpAny_bind (wpAny_newList ?_ hz)))))
  have es : ((s.heap.push (seqObj "list" #[] 0)).update s.heap.objs.size (Obj.mapSeq (· ++ vs.toArray))).objs.size = s.heap.objs.size + 1 := by rw [Heap.size_update, size_push']
  generalize eg : ((s.heap.push (seqObj "list" #[] 0)).update s.heap.objs.size (Obj.mapSeq (· ++ vs.toArray))) = g0 at es
  have oL : (g0.push (seqObj "list" vs.toArray 0)).get? (s.heap.objs.size + 1) = some (seqObj "list" vs.toArray 0) := by rw [← es]; exact Heap.get?_push_size _ rfl
  have keep : ∀ b o, s.heap.get? b = some o → b ≠ s.heap.objs.size + 1 ∧ (g0.push (seqObj "list" vs.toArray 0)).get? b = some o := fun b o q => by
    have lt : b < s.heap.objs.size := Heap.lt_size q
    refine ⟨Nat.ne_of_lt (Nat.lt_succ_of_lt lt), Heap.get?_push_of_some _ ?_⟩
    rw [← eg, Heap.get?_update_ne _ _ _ _ (Nat.ne_of_lt lt)]
    exact Heap.get?_push_of_some _ q
  refine (show wpAny _ _ _ _ _ { s with heap := g0.push (seqObj "list" vs.toArray 0) } from ?_)
  rw [es]
  refine wpAny_bind (wpAny_holding (wpAny_call_entry slot_list_sort ⟨_, oL, rfl⟩ entry_list_sort (list_sort_ord O oL hz (fun h2 => hS h2 _ _ oL keep) fun out hs hb => ⟨_, rfl, ?_⟩) (args_list_sort _)))
  have q := h out hs hb
  unfold sortedAll at q
  rw [eg] at q
  exact wpAny_pure ⟨_, rfl, q⟩
end
/-! ### ints in their order -/
def insI (x : Int) : List Int → List Int
  | [] => [x]
  | y :: l => if x ≤ y then x :: y :: l else y :: insI x l
def isort : List Int → List Int
  | [] => []
  | x :: l => insI x (isort l)
theorem insI_perm (x : Int) : ∀ l, (insI x l).Perm (x :: l)
  | [] => .refl _
  | y :: l => by
    unfold insI
    split
    · exact .refl _
    · exact ((insI_perm x l).cons y).trans (.swap x y l)
theorem isort_perm : ∀ l, (isort l).Perm l
  | [] => .refl _
  | x :: l => (insI_perm x (isort l)).trans ((isort_perm l).cons x)
theorem insI_sorted (x : Int) : ∀ l, l.Pairwise (· ≤ ·) → (insI x l).Pairwise (· ≤ ·)
  | [], _ => by unfold insI; simp
  | y :: l, h => by
    unfold insI
    obtain ⟨h1, h2⟩ := List.pairwise_cons.mp h
    split
    · rename_i hxy
      refine List.pairwise_cons.mpr ⟨fun z hz => ?_, h⟩
      rcases List.mem_cons.mp hz with e | e
      · rw [e]; exact hxy
      · exact Int.le_trans hxy (h1 z e)
    · rename_i hxy
      refine List.pairwise_cons.mpr ⟨fun z hz => ?_, insI_sorted x l h2⟩
      rcases List.mem_cons.mp ((insI_perm x l).subset hz) with e | e
      · rw [e]; omega
      · exact h1 z e
theorem isort_sorted : ∀ l, (isort l).Pairwise (· ≤ ·)
  | [] => .nil
  | x :: l => insI_sorted x _ (isort_sorted l)
theorem sorted_unique : ∀ {l m : List Int}, l.Perm m → l.Pairwise (· ≤ ·) → m.Pairwise (· ≤ ·) → l = m
  | [], m, p, _, _ => (List.Perm.nil_eq p)
  | x :: l, [], p, _, _ => by have := p.length_eq; simp at this
  | x :: l, y :: m, p, h, k => by
    obtain ⟨h1, h2⟩ := List.pairwise_cons.mp h
    obtain ⟨k1, k2⟩ := List.pairwise_cons.mp k
    have e : x = y := by
      have a : x ≤ y := by
        rcases List.mem_cons.mp (p.symm.subset (List.mem_cons_self ..)) with z | z
        · omega
        · exact h1 y z
      have b : y ≤ x := by
        rcases List.mem_cons.mp (p.subset (List.mem_cons_self ..)) with z | z
        · omega
        · exact k1 x z
      omega
    subst e
    rw [sorted_unique (List.Perm.cons_inv p) h2 k2]
theorem isort_of {l m : List Int} (p : l.Perm m) (h : l.Pairwise (· ≤ ·)) : l = isort m := sorted_unique (p.trans (isort_perm m).symm) h (isort_sorted m)
def sortedF : List PV → Option (List PV)
  | [.tup l] => (intsOf l).map fun ns => (isort ns).map .int
  | [.lst l] => (intsOf l).map fun ns => (isort ns).map .int
  | _ => none
def rSortTup (K : PySem.W.Frag) : List V → Hp → VK → Prop := fun vs H Q => ∃ (a : Addr) (ns : List Int), vs = [V.ref a] ∧ SqT K H a (ns.map V.int) ∧
  ∀ (ms : List Int) (p : Addr), ms.Perm ns → ms.Pairwise (· ≤ ·) → H p = none → Q (.ref p) (upd H p (.lst (ms.map V.int)))
section
variable {X : Cx}
open SrtO in
theorem cr_sortTup : CallR X (.builtin "sorted") (rSortTup X.K) := by
  intro pins s σ H vs us Q I r h
  obtain ⟨a, ns, rfl, hs, q⟩ := h
  obtain ⟨its, rv, hl, hz⟩ := I.tuple hs
  rw [Vals.ref1 r]
  have hi := rv.ints
  refine sorted_tup swo_int hl (by rw [← rv.length]; exact hz) (fun h2 g a' _ _ => ints_sortable hi h2) fun out o1 o2 => ?_
  obtain ⟨k1, k2, k3⟩ := ints_out hi o1 o2
  obtain ⟨ep, he⟩ := PyProof.Rows.sortedAll_at s.heap its out.toArray
  have hlen : ((out.map iv).map V.int).length ≤ sizeLine := by
    rw [List.length_map] at hz
    rw [List.length_map, k2.length_eq]
    exact hz
  refine ⟨.ref _, upd H (s.heap.objs.size + 1) (.lst ((out.map iv).map V.int)), ?_, rfl, q _ _ k2 k3 (I.hok.fresh (Nat.le_succ _))⟩
  exact I.laid (t' := s.toks) (fun _ _ => PyProof.Rows.sortedAll_old) (Nat.le_succ _) ⟨hlen, out, ep, vals_of_ints k1, he⟩
theorem c_sorted : CallL X (.builtin "sorted") sortedF := by
  refine ⟨_, CallR.or cr_sortTup cr_sortedI, fun N ρ H xs ps z Q hN hx ho hQ => ?_⟩
  unfold sortedF at ho
  split at ho
  · rename_i l
    cases e : intsOf l with
    | none => rw [e] at ho; cases ho
    | some ns =>
      rw [e] at ho
      cases ho
      obtain ⟨v, rfl, r, _⟩ := hx.one
      obtain ⟨a, ys, rfl, h1, h1', h2⟩ := rvb_tup r
      rw [intsOf_eq e] at h2
      have ey := h2.ints
      subst ey
      rw [List.length_map] at h1'
      exact .inl ⟨a, ns, rfl, h1.sq, fun ms p pm hs np => by
        have e2 := isort_of pm hs
        subst e2
        exact hQ H p _ _ Ext.refl np rfl (by rw [List.length_map, (isort_perm ns).length_eq]; exact h1') (RVs.ofInts _)⟩
  · rename_i l
    cases e : intsOf l with
    | none => rw [e] at ho; cases ho
    | some ns =>
      rw [e] at ho
      cases ho
      obtain ⟨v, rfl, r, _⟩ := hx.one
      obtain ⟨a, ys, rfl, h1, h1', h2⟩ := rvb_lst r
      rw [intsOf_eq e] at h2
      have ey := h2.ints
      subst ey
      rw [List.length_map] at h1'
      exact .inr ⟨a, ns, rfl, SqL.of h1, fun ms p pm hs np => by
        have e2 := isort_of pm hs
        subst e2
        exact hQ H p _ _ Ext.refl np rfl (by rw [List.length_map, (isort_perm ns).length_eq]; exact h1') (RVs.ofInts _)⟩
  · cases ho
end
section
variable {X : Cx} {W : WX} {e : Expr} {es : List Expr} {g : EF (List PV)} {p pos : Pos}
theorem g_sorted (hm : X.mg "sorted" = none) (ha : MAb X W (e :: es) g) (hg : Gl X "sorted" := by rfl) (he : starEach (e :: es) X.env = (false, eval e X.env) :: starEach es X.env := by rfl) (hpl : (backTo pos (starEach es X.env)).any (·.1) = false := by rfl) : ML X W (.Call (.Name "sorted" p) (e :: es) [] pos) (lB sortedF g) := ml_callB c_sorted hg hm (by decide +kernel) ha (by decide) (by decide) he hpl
end
/-! ### x.append(y.pop(k)), own lists both -/
def sAppPop (i j : Nat) (a : EF PV) : SF := fun e st => match e[i]?, e[j]? with
  | some (.own l), some (.own m) => (a e st).toS e fun v st => match v with
    | .int k => match popAt m k with
      | some (y, m') => if l.length < LINE then .nx ((e.set j (.own m')).set i (.own (l ++ [y]))) st else .stuck
      | none => .stuck
    | _ => .stuck
  | _, _ => .stuck
theorem RVs.eraseIdx {K : PySem.W.Frag} {N : Addr → Prop} {ρ : List Addr} {H : Hp} : ∀ {l : List PV} {xs : List V} (i : Nat), RVs K N ρ H l xs → RVs K N ρ H (l.eraseIdx i) (xs.eraseIdx i)
  | [], _, i, h => by rw [h.unnil]; exact .nil
  | p :: ps, _, 0, h => by
    obtain ⟨v, vs, rfl, _, t⟩ := h.uncons
    exact t
  | p :: ps, _, i + 1, h => by
    obtain ⟨v, vs, rfl, r, t⟩ := h.uncons
    exact .cons r (RVs.eraseIdx i t)
section
variable {X : Cx} {W : WX} {e : Expr} {fe : EF PV} {pos apos cpos pos' apos2 cpos2 pos2 : Pos} {i j : Nat} {x y : Str}
theorem ms_appPop (h : ME X W e fe) (hij : i ≠ j) (hN : X.N[i]? = some x) (hv : Vis X.env.scope x) (hN2 : X.N[j]? = some y) (hv2 : Vis X.env.scope y) (hd : (x == ("__debug__" : Str)) = false := by decide) (hcd : (x == ("__classdict__" : Str)) = false := by decide) (hd2 : (y == ("__debug__" : Str)) = false := by decide) (hcd2 : (y == ("__classdict__" : Str)) = false := by decide)
    (hbase : attributeBase (.Name x pos') "append" X.env (eval (.Name x pos') X.env) = eval (.Name x pos') X.env := by rfl)
    (hfew : ((backTo cpos (starEach [.Call (.Attribute (.Name y pos2) "pop" apos2) [e] [] cpos2] X.env)).all (fun x => !x.1) && (backToKw cpos (keywordEach [] X.env)).all (fun x => x.1.isSome) && decide ([Expr.Call (.Attribute (.Name y pos2) "pop" apos2) [e] [] cpos2].length + ([] : List Keyword).length + (if ([] : List Keyword).isEmpty then 0 else 1) < 30)) = true := by rfl)
    (hline : (apos.endLine == cpos.line) = true := by rfl) (hs : starEach [.Call (.Attribute (.Name y pos2) "pop" apos2) [e] [] cpos2] X.env = (false, eval (.Call (.Attribute (.Name y pos2) "pop" apos2) [e] [] cpos2) X.env) :: starEach [] X.env := by rfl) (hplain : (backTo cpos (starEach [] X.env)).any (·.1) = false := by rfl)
    (hbase2 : attributeBase (.Name y pos2) "pop" X.env (eval (.Name y pos2) X.env) = eval (.Name y pos2) X.env := by rfl)
    (hfew2 : ((backTo cpos2 (starEach [e] X.env)).all (fun x => !x.1) && (backToKw cpos2 (keywordEach [] X.env)).all (fun x => x.1.isSome) && decide ([e].length + ([] : List Keyword).length + (if ([] : List Keyword).isEmpty then 0 else 1) < 30)) = true := by rfl)
    (hline2 : (apos2.endLine == cpos2.line) = true := by rfl) (hs2 : starEach [e] X.env = (false, eval e X.env) :: starEach [] X.env := by rfl) (hplain2 : (backTo cpos2 (starEach [] X.env)).any (·.1) = false := by rfl)
    (hsw : swapsWith (.Call (.Attribute (.Name x pos') "append" apos) [.Call (.Attribute (.Name y pos2) "pop" apos2) [e] [] cpos2] [] cpos) none pos.line X.env = pure false := by rfl) :
    MS X W (.Expr (.Call (.Attribute (.Name x pos') "append" apos) [.Call (.Attribute (.Name y pos2) "pop" apos2) [e] [] cpos2] [] cpos) pos) (sAppPop i j fe) := by
  obtain ⟨t, p, q⟩ := h
  refine ⟨_, ps_expr (pe_bm PySem.F.plainAttrs_list PySem.F.slot_list_append PySem.F.type_list_append mt_append (pe_var hN hv hd hcd) (pa_cons (pe_bm PySem.F.plainAttrs_list PySem.F.slot_list_pop PySem.F.type_list_pop mt_popAt (pe_var hN2 hv2 hd2 hcd2) (pa_cons p pa_nil hs2) hbase2 hfew2 hline2 hs2 hplain2) pa_nil hs) hbase hfew hline hs hplain) hsw, fun B ρ env st σ H D R h => ?_⟩
  unfold sAppPop at h
  cases e0 : env[i]? with
  | none => rw [e0] at h; exact h.elim
  | some ev =>
    cases e1 : env[j]? with
    | none => rw [e0, e1] at h; cases ev <;> exact h.elim
    | some ew =>
      rw [e0, e1] at h
      cases ev with
      | non => exact h.elim
      | val _ => exact h.elim
      | own l =>
        cases ew with
        | non => exact h.elim
        | val _ => exact h.elim
        | own m =>
          obtain ⟨z, xs, h1, h2, h3, h4⟩ := R.slot i _ e0
          obtain ⟨z2, ys, k1, k2, k3, k4⟩ := R.slot j _ e1
          refine ⟨.ref z, h1, .inl ⟨rfl, xs, SqL.of h2⟩, .ref z2, k1, .inl ⟨rfl, ys, SqL.of k2⟩, ?_⟩
          refine q B ρ env st σ H _ R (ROk.mono (SOk.toS h) fun v ρ1 st1 H1 E1 n1 u ru => ?_)
          obtain ⟨z', ws, g1, g2, g3, g4⟩ := E1.rep.slot j _ e1
          rw [k1] at g1
          cases g1
          cases v with
          | int k =>
            dsimp only at n1
            cases ep : popAt m k with
            | none => rw [ep] at n1; exact n1.elim
            | some r =>
              obtain ⟨pv, m'⟩ := r
              rw [ep] at n1
              dsimp only at n1
              unfold popAt at ep
              cases ei : ixN m.length k with
              | none => rw [ei] at ep; cases ep
              | some jj =>
                rw [ei] at ep
                dsimp only at ep
                cases eg : m[jj]? with
                | none => rw [eg] at ep; cases ep
                | some y0 =>
                  rw [eg] at ep
                  cases ep
                  by_cases hl : l.length < LINE
                  · rw [if_pos hl] at n1
                    obtain ⟨yv, b1, b2⟩ := g4.get eg
                    have lw := g4.len
                    obtain ⟨c1, c2, c3, c4⟩ := ixN_seq ei
                    have eu := rv_int ru
                    subst eu
                    have hL : LINE = 16777216 := rfl
                    refine ⟨z2, ws, k, jj, yv, rfl, rfl, g2, by omega, by omega, by rw [lw]; exact c1, b1, ?_⟩
                    have P1 := E1.rep.ownWrite (m := m.eraseIdx jj) (ys := ws.eraseIdx jj) e1 k1 (Nat.le_trans (List.length_eraseIdx_le _ _) g3) (g4.eraseIdx jj)
                    have e0' : (env.set j (.own (m.eraseIdx jj)))[i]? = some (.own l) := by rw [List.getElem?_set_ne (Ne.symm hij)]; exact e0
                    obtain ⟨z'', xs', d1, d2, d3, d4⟩ := P1.rep.slot i _ e0'
                    rw [h1] at d1
                    cases d1
                    have hl2 : (xs' ++ [yv]).length ≤ LINE := by rw [List.length_append, d4.len, List.length_singleton]; omega
                    exact ⟨z, xs', yv, rfl, rfl, d2, by rw [← LINE_eq, d4.len]; exact hl, n1 ρ1 σ _ (P1.trans (P1.rep.ownWrite e0' h1 hl2 (d4.append (.cons (P1.rv b2) .nil))))⟩
                  · rw [if_neg hl] at n1
                    exact n1.elim
          | _ => exact n1.elim
theorem g_appPop (i j : Nat) (h : ME X W e fe) (hij : i ≠ j := by decide) (hN : X.N[i]? = some x := by rfl) (hv : Vis X.env.scope x := by first | exact .inl rfl | exact .inr (.inl rfl)) (hN2 : X.N[j]? = some y := by rfl) (hv2 : Vis X.env.scope y := by first | exact .inl rfl | exact .inr (.inl rfl)) (hd : (x == ("__debug__" : Str)) = false := by decide) (hcd : (x == ("__classdict__" : Str)) = false := by decide) (hd2 : (y == ("__debug__" : Str)) = false := by decide) (hcd2 : (y == ("__classdict__" : Str)) = false := by decide)
    (hbase : attributeBase (.Name x pos') "append" X.env (eval (.Name x pos') X.env) = eval (.Name x pos') X.env := by rfl)
    (hfew : ((backTo cpos (starEach [.Call (.Attribute (.Name y pos2) "pop" apos2) [e] [] cpos2] X.env)).all (fun x => !x.1) && (backToKw cpos (keywordEach [] X.env)).all (fun x => x.1.isSome) && decide ([Expr.Call (.Attribute (.Name y pos2) "pop" apos2) [e] [] cpos2].length + ([] : List Keyword).length + (if ([] : List Keyword).isEmpty then 0 else 1) < 30)) = true := by rfl)
    (hline : (apos.endLine == cpos.line) = true := by rfl) (hs : starEach [.Call (.Attribute (.Name y pos2) "pop" apos2) [e] [] cpos2] X.env = (false, eval (.Call (.Attribute (.Name y pos2) "pop" apos2) [e] [] cpos2) X.env) :: starEach [] X.env := by rfl) (hplain : (backTo cpos (starEach [] X.env)).any (·.1) = false := by rfl)
    (hbase2 : attributeBase (.Name y pos2) "pop" X.env (eval (.Name y pos2) X.env) = eval (.Name y pos2) X.env := by rfl)
    (hfew2 : ((backTo cpos2 (starEach [e] X.env)).all (fun x => !x.1) && (backToKw cpos2 (keywordEach [] X.env)).all (fun x => x.1.isSome) && decide ([e].length + ([] : List Keyword).length + (if ([] : List Keyword).isEmpty then 0 else 1) < 30)) = true := by rfl)
    (hline2 : (apos2.endLine == cpos2.line) = true := by rfl) (hs2 : starEach [e] X.env = (false, eval e X.env) :: starEach [] X.env := by rfl) (hplain2 : (backTo cpos2 (starEach [] X.env)).any (·.1) = false := by rfl)
    (hsw : swapsWith (.Call (.Attribute (.Name x pos') "append" apos) [.Call (.Attribute (.Name y pos2) "pop" apos2) [e] [] cpos2] [] cpos) none pos.line X.env = pure false := by rfl) :
    MS X W (.Expr (.Call (.Attribute (.Name x pos') "append" apos) [.Call (.Attribute (.Name y pos2) "pop" apos2) [e] [] cpos2] [] cpos) pos) (sAppPop i j fe) := ms_appPop h hij hN hv hN2 hv2 hd hcd hd2 hcd2 hbase hfew hline hs hplain hbase2 hfew2 hline2 hs2 hplain2 hsw
end
section
variable {e : Env} {st : Sto}
@[simp] theorem sAppPop_e (i j : Nat) (a : EF PV) : sAppPop i j a e st = (match e[i]?, e[j]? with
  | some (.own l), some (.own m) => (a e st).toS e fun v st => match v with
    | .int k => match popAt m k with
      | some (y, m') => if l.length < LINE then .nx ((e.set j (.own m')).set i (.own (l ++ [y]))) st else .stuck
      | none => .stuck
    | _ => .stuck
  | _, _ => .stuck) := rfl
@[simp] theorem iEnumZip_e (g : EF (List PV)) : iEnumZip g e st = (g e st).bind fun vs st => match vs with
  | [.tup l, .tup m] => .ok (enumF 0 (zipF l m)) st
  | _ => .stuck := rfl
end
end PL
/-! PLs: instances: their fields, properties, methods; made. -/
namespace PL
open PySem PySem.Spec L2
/-! ### fields -/
def insF (st : Sto) : PV → Option (Str × List Str × List PV)
  | .ins c ns vs => some (c, ns, vs)
  | .gl n => match st[n]? with
    | some (.ins c ns vs) => some (c, ns, vs)
    | _ => none
  | _ => none
def fldF (c0 f : Str) (st : Sto) (p : PV) : Option PV := match insF st p with
  | some (c, ns, vs) => if c = c0 then (ns.zip vs).lookup f else none
  | none => none
def eFld (c0 f : Str) (a : EF PV) : EF PV := fun e st => (a e st).bind fun p st => .of (fldF c0 f st p) st
section
variable {K : PySem.W.Frag} {N : Addr → Prop} {B : Addr → Prop} {ρ : List Addr} {env : Env} {st : Sto} {σ : L2.St} {H : Hp}
theorem zip_rv {f : Str} {p : PV} : ∀ {ns : List Str} {vs : List PV} {ws : List V}, RVs K N ρ H vs ws → (ns.zip vs).lookup f = some p → ∃ v, (ns.zip ws).lookup f = some v ∧ RV K N ρ H p v
  | [], _, _, _, h => by simp at h
  | n :: ns, [], ws, r, h => by simp at h
  | n :: ns, q :: vs, ws, r, h => by
    obtain ⟨w, ws', rfl, r1, r2⟩ := r.uncons
    rw [List.zip_cons_cons, List.lookup_cons] at h ⊢
    split at h
    · cases h
      exact ⟨w, rfl, r1⟩
    · exact zip_rv r2 h
/-- where an instance lies -/
theorem ins_at (R : Rep K B ρ env st σ H) {p : PV} {u : V} (r : RV K (Excl B ρ env σ) ρ H p u) {c : Str} {ns : List Str} {vs : List PV} (h : insF st p = some (c, ns, vs)) :
    ∃ a dx ws, u = .ref a ∧ H a = some (.ins (He.ga K c) dx (ns.zip ws)) ∧ ws.length = ns.length ∧ RVs K (Excl B ρ env σ) ρ H vs ws := by
  cases p with
  | ins c' ns' vs' =>
    cases h
    obtain ⟨a, ws, rfl, ⟨_, h1, dx, h2⟩, h3⟩ := rv_ins r
    exact ⟨a, dx, ws, rfl, h2, h1, h3⟩
  | gl n =>
    obtain ⟨a, rfl, hn⟩ := rv_gl r
    have h : (match st[n]? with
      | some (.ins c ns vs) => some (c, ns, vs)
      | _ => none) = some (c, ns, vs) := h
    cases e : st[n]? with
    | none => rw [e] at h; cases h
    | some cl =>
      rw [e] at h
      cases cl with
      | lst l => cases h
      | dead => cases h
      | ins c' ns' vs' =>
        cases h
        obtain ⟨dx, ws, q1, q2, q3, q4, q5⟩ := R.cell n _ a e hn
        exact ⟨a, dx, ws, rfl, q1, q4, q5⟩
  | _ => cases h
end
section
variable {X : Cx} {W : WX} {e o : Expr} {fe fa : EF PV} {c0 f : Str} {pos pos' : Pos}
theorem m_fld (h : ME X W e fe) (c : Cls X.K (He.ga X.K c0)) (n : NoAttr X.K (He.ga X.K c0) f) (hb : attributeBase e f X.env (eval e X.env) = eval e X.env := by rfl) : ME X W (.Attribute e f pos) (eFld c0 f fe) := by
  obtain ⟨t, p, q⟩ := h
  refine ⟨_, pe_fld p hb, fun B ρ env st σ H Q R h => ?_⟩
  refine q B ρ env st σ H _ R (ROk.mono (ROk.bind h) fun pv ρ1 st1 H1 E1 h1 u ru => ?_)
  obtain ⟨z, ez, hz⟩ := ROk.of E1.rep h1
  unfold fldF at ez
  cases ei : insF st1 pv with
  | none => rw [ei] at ez; cases ez
  | some r =>
    obtain ⟨c', ns, vs⟩ := r
    rw [ei] at ez
    dsimp only at ez
    by_cases hc : c' = c0
    · subst hc
      rw [if_pos rfl] at ez
      obtain ⟨a, dx, ws, rfl, h2, h3, h4⟩ := ins_at E1.rep ru ei
      obtain ⟨v, g1, g2⟩ := zip_rv h4 ez
      exact ⟨a, _, dx, _, v, rfl, h2, c, n, g1, hz H1 Ext.refl v g2⟩
    · rw [if_neg hc] at ez
      cases ez
end
/-! ### properties -/
/-- a def by its address -/
def CalA (P : Program) (w : World) (K : PySem.W.Frag) (mg : Str → Option Value) (base : Heap) (k : Nat) (g : Addr) (ps : List Str) (F : Fn) : Prop :=
  ∃ fd, FnG P w K mg base k g fd ps (spF K ps.length F) ∧ Binds K fd ps []
theorem CalA.mono {P : Program} {w : World} {K : PySem.W.Frag} {mg : Str → Option Value} {base : Heap} {j k : Nat} {g : Addr} {ps : List Str} {F : Fn} (c : CalA P w K mg base j g ps F) (h : j ≤ k) : CalA P w K mg base k g ps F := by
  obtain ⟨fd, c1, c2⟩ := c
  exact ⟨fd, c1.mono h, c2⟩
def isIns (c0 : Str) (st : Sto) (p : PV) : Bool := match insF st p with
  | some (c, _, _) => decide (c = c0)
  | none => false
/-- .. has no attribute of this name -/
def isInsNo (c0 m : Str) (st : Sto) (p : PV) : Bool := match insF st p with
  | some (c, ns, _) => decide (c = c0) && !ns.contains m
  | none => false
def eProp (c0 : Str) (F : Fn) (a : EF PV) : EF PV := fun e st => (a e st).bind fun p st => if isIns c0 st p = true then (F [p] st).noE else .stuck
section
variable {X : Cx} {W : WX} {e : Expr} {fe : EF PV} {c0 f : Str} {pos : Pos} {k : Nat} {g pr : Addr} {ps : List Str} {F : Fn}
theorem prop_runG {pins : List (Addr × Obj)} {σ : L2.St} {H : Hp} {s : Shared} {Q : VK} {b : Bool} {C a dx : Addr} {fs : List (Str × V)} {fd : FuncData} {sp : Sp} (I : Inv X pins σ H s) (ea : H a = some (.ins C dx fs)) (c : Cls X.K C) (hp : PropOf X.K C f pr g)
    (G : FnG X.prog X.w X.K X.mg X.base k g fd ps sp) (hr : Room (k + 1) X.A) (hgd : X.A.guards = some []) (hb : Binds X.K fd ps []) (h : sp [.ref a] H Q fun _ _ _ => False) :
    wpAny (model X.prog X.w) X.A (getAttr (.ref a) f b) (EP X pins σ Q) X.xe s := by
  obtain ⟨mA, O, _⟩ := ins_get I.hok ea
  obtain ⟨od, J, _⟩ := O.look
  obtain ⟨rest, hrec⟩ := hp.rec_
  have I1 := I.tok (s.toks + 1)
  have hl : ([Value.ref a] ++ []).length = ps.length := (by rw [← G.len _ _ _ _ h]; rfl)
  have hc : (PySem.W.clsIn X.K C).isSome = true := by
    obtain ⟨cd, q, _⟩ := PySem.W.any_some c.hd
    rw [q]
    rfl
  have pg := PySem.W.plainGet_of (c.get f)
  refine PySem.W.get_bind I.kIn J pg.1 (PySem.W.findObj_data hc hp.at_ hp.get hp.tak) pg.2 (wpAny_call (PySem.W.prop_get (s := { s with toks := s.toks + 1 }) I.kIn hrec ?_))
  have run := G.run X.A.in1 X.stack { s with toks := s.toks + 1 } H ⟨[.ref a], []⟩ [.ref a] [.ref a] Q (fun _ _ _ => False) hr.in1 hgd I1.env0.in1 (hb _ [.ref a] I1.kIn hl) (.cons rfl .nil) h
  refine codeAny_mono run fun r s' hq => ?_
  cases r with
  | error er =>
    obtain ⟨_, _, _, _, _, _, _, _, _, _, _, _, z⟩ := hq
    exact z.elim
  | ok fl =>
    cases fl with
    | next => exact False.elim hq
    | brk => exact False.elim hq
    | cont => exact False.elim hq
    | ret u =>
      obtain ⟨v, H', I3, rv, q3⟩ := I1.after hq
      refine (show wpAny (model X.prog X.w) X.A (handedOut u) _ _ _ from ?_)
      rw [PySem.W.handedOut_of (handed_of rv)]
      exact wpAny_pure ⟨v, H', I3, rv, q3⟩
def tPropG (K : PySem.W.Frag) (C : Addr) (sp : Sp) (ta : TE) : TE := fun σ H Q => ta σ H fun x H1 => ∃ a dx fs, x = .ref a ∧ H1 a = some (.ins C dx fs) ∧ sp [.ref a] H1 Q fun _ _ _ => False
theorem isIns_some {c0 : Str} {st : Sto} {p : PV} (h : isIns c0 st p = true) : ∃ ns vs, insF st p = some (c0, ns, vs) := by
  unfold isIns at h
  split at h
  · rename_i c ns vs e
    have := of_decide_eq_true h
    subst this
    exact ⟨ns, vs, e⟩
  · cases h
theorem m_prop (h : ME X W e fe) (c : Cls X.K (He.ga X.K c0)) (hp : PropOf X.K (He.ga X.K c0) f pr g) (G : CalA X.prog X.w X.K X.mg X.base k g ps F) (hl : ps.length = 1) (hr : Room (k + 1) X.A) (hgd : X.A.guards = some []) (hb : attributeBase e f X.env (eval e X.env) = eval e X.env := by rfl) :
    ME X W (.Attribute e f pos) (eProp c0 F fe) := by
  obtain ⟨t, p, q⟩ := h
  obtain ⟨fd, G, bd⟩ := G
  refine ⟨tPropG X.K (He.ga X.K c0) (spF X.K ps.length F) t, ⟨fun pins s σ H Q I h => ?_⟩, fun B ρ env st σ H Q R h => ?_⟩
  · refine attr_of hb (thn (p.run pins s σ H _ I h) fun u s1 ⟨x, H1, I1, rx, a, dx, fs, ex, ea, q⟩ => ?_)
    subst ex
    obtain rfl : u = Value.ref a := rx
    exact prop_runG I1 ea c hp G hr hgd bd q
  · refine q B ρ env st σ H _ R (ROk.mono (ROk.bind h) fun pv ρ1 st1 H1 E1 h1 u ru => ?_)
    by_cases hi : isIns c0 st1 pv = true
    · rw [if_pos hi] at h1
      obtain ⟨ns, vs, ei⟩ := isIns_some hi
      obtain ⟨a, dx, ws, rfl, h2, h3, h4⟩ := ins_at E1.rep ru ei
      exact ⟨a, dx, _, rfl, h2, spF_of (W := WF) E1.rep (.cons ru .nil) hl.symm (noE_ok h1)⟩
    · rw [if_neg hi] at h1
      exact h1.elim
end
/-! ### methods -/
def eMeth (c0 m : Str) (F : Fn) (o : EF PV) (a : EF (List PV)) : EF PV := fun e st => (o e st).bind fun p st => if isInsNo c0 m st p = true then (a e st).bind fun xs st => F (p :: xs) st else .stuck
def tMethG (C : Addr) (m : Str) (sp : Sp) (W : WX) (ta : TE) (t : TA) : TE := fun σ H Q => ta σ H fun x H1 => ∃ a dx fs, x = .ref a ∧ H1 a = some (.ins C dx fs) ∧ fs.lookup m = none ∧ t σ H1 fun vs H2 => sp (x :: vs) H2 Q fun cls d H' => W cls d σ H'
theorem zip_no {f : Str} : ∀ {ns : List Str} {ws : List V}, ns.contains f = false → (ns.zip ws).lookup f = none
  | [], _, _ => by simp
  | n :: ns, [], _ => by simp
  | n :: ns, w :: ws, h => by
    rw [List.contains_cons, Bool.or_eq_false_iff] at h
    rw [List.zip_cons_cons, List.lookup_cons]
    rw [h.1]
    exact zip_no h.2
theorem isInsNo_some {c0 m : Str} {st : Sto} {p : PV} (h : isInsNo c0 m st p = true) : ∃ ns vs, insF st p = some (c0, ns, vs) ∧ ns.contains m = false := by
  unfold isInsNo at h
  split at h
  · rename_i c ns vs e
    rw [Bool.and_eq_true, Bool.not_eq_true'] at h
    have := of_decide_eq_true h.1
    subst this
    exact ⟨ns, vs, e, h.2⟩
  · cases h
section
variable {X : Cx} {W : WX} {o e : Expr} {es : List Expr} {fo : EF PV} {g : EF (List PV)} {c0 m : Str} {pos apos : Pos} {k : Nat} {f : Addr} {ps : List Str} {F : Fn}
theorem m_meth {pl : Sem Bool} (h : ME X W o fo) (c : Cls X.K (He.ga X.K c0)) (hm : Meth X.K (He.ga X.K c0) m f) (G : CalA X.prog X.w X.K X.mg X.base k f ps F) (hr : Room k X.A) (hgd : X.A.guards = some []) (tk : Takes X W) (ha : MA X W (e :: es) g) (hn : (e :: es).length + 1 = ps.length) (hlen : ∀ en st l st', g en st = .ok l st' → l.length = (e :: es).length)
    (hst : starEach (e :: es) X.env = (false, eval e X.env) :: starEach es X.env := by rfl) (hpl : (backTo pos (starEach es X.env)).any (·.1) = false := by rfl)
    (ht : eval (.Call (.Attribute o m apos) (e :: es) [] pos) X.env = (do
      let ov ← eval o X.env
      standAt apos.atName
      let (f, first) ← holding [ov] (getMethod ov m pl)
      callWith pos f first (backTo pos (starEach (e :: es) X.env)) (backToKw pos (keywordEach [] X.env))) := by rfl) :
    ME X W (.Call (.Attribute o m apos) (e :: es) [] pos) (eMeth c0 m F fo g) := by
  obtain ⟨to, po, qo⟩ := h
  obtain ⟨ta, pa, qa⟩ := ha
  obtain ⟨fd, G, bd⟩ := G
  refine ⟨tMethG (He.ga X.K c0) m (spF X.K ps.length F) W to ta, ⟨fun pins s σ H Q I h => ?_⟩, fun B ρ env st σ H Q R h => ?_⟩
  · refine PySem.W.methodCall_KW (pl := pl) (thn (po.run pins s σ H _ I h) fun u s1 ⟨x, H1, I1, rx, a, dx, fs, ex, ea, l, q⟩ => ?_) ht
    subst ex
    obtain rfl : u = Value.ref a := rx
    refine getmeth_ok I1 ea c hm l (PySem.W.callWith_K (first := [.ref a]) (h₀ := X.base) I.ok.mod.kin hm.kp (thn (pa.run pos pins s1 σ H1 _ I1 q) fun us s2 ⟨vs, H2, I2, r, q2⟩ => ⟨I2.kIn, ?_⟩) hst hpl)
    exact runG (us := .ref a :: us) (vs := .ref a :: vs) G hr hgd bd tk I2 (.cons rfl r) q2
  · refine qo B ρ env st σ H _ R (ROk.mono (ROk.bind h) fun pv ρ1 st1 H1 E1 h1 u ru => ?_)
    by_cases hi : isInsNo c0 m st1 pv = true
    · rw [if_pos hi] at h1
      obtain ⟨ns, vs, ei, en⟩ := isInsNo_some hi
      obtain ⟨a, dx, ws, rfl, h2, h3, h4⟩ := ins_at E1.rep ru ei
      refine ⟨a, dx, _, rfl, h2, zip_no en, qa B ρ1 env st1 σ H1 _ E1.rep ?_⟩
      cases hg : g env st1 with
      | stuck => rw [hg] at h1; exact h1.elim
      | exc y st' => rw [hg] at h1; exact h1
      | ok l st' =>
        rw [hg] at h1
        refine fun ρ2 H2 E2 us rus => spF_of E2.rep (.cons (E2.post.rv ru) rus) ?_ (ROk.shift E2 h1)
        rw [List.length_cons, hlen _ _ _ _ hg]
        exact hn
    · rw [if_neg hi] at h1
      exact h1.elim
theorem m_meth0 {pl : Sem Bool} (h : ME X W o fo) (c : Cls X.K (He.ga X.K c0)) (hm : Meth X.K (He.ga X.K c0) m f) (G : CalA X.prog X.w X.K X.mg X.base k f ps F) (hr : Room k X.A) (hgd : X.A.guards = some []) (tk : Takes X W) (hn : ps.length = 1)
    (ht : eval (.Call (.Attribute o m apos) [] [] pos) X.env = (do
      let ov ← eval o X.env
      standAt apos.atName
      let (f, first) ← holding [ov] (getMethod ov m pl)
      callWith pos f first (backTo pos (starEach [] X.env)) (backToKw pos (keywordEach [] X.env))) := by rfl) :
    ME X W (.Call (.Attribute o m apos) [] [] pos) (eMeth c0 m F fo aNil) := by
  obtain ⟨to, po, qo⟩ := h
  obtain ⟨fd, G, bd⟩ := G
  refine ⟨tMethG (He.ga X.K c0) m (spF X.K ps.length F) W to tNil, ⟨fun pins s σ H Q I h => ?_⟩, fun B ρ env st σ H Q R h => ?_⟩
  · refine PySem.W.methodCall_KW (pl := pl) (thn (po.run pins s σ H _ I h) fun u s1 ⟨x, H1, I1, rx, a, dx, fs, ex, ea, l, q⟩ => ?_) ht
    subst ex
    obtain rfl : u = Value.ref a := rx
    exact getmeth_ok I1 ea c hm l (PySem.W.callWith_K0 (first := [.ref a]) I1.kIn hm.kp (runG (us := [.ref a]) (vs := [.ref a]) G hr hgd bd tk I1 (.cons rfl .nil) q))
  · refine qo B ρ env st σ H _ R (ROk.mono (ROk.bind h) fun pv ρ1 st1 H1 E1 h1 u ru => ?_)
    by_cases hi : isInsNo c0 m st1 pv = true
    · rw [if_pos hi] at h1
      obtain ⟨ns, vs, ei, en⟩ := isInsNo_some hi
      obtain ⟨a, dx, ws, rfl, h2, h3, h4⟩ := ins_at E1.rep ru ei
      exact ⟨a, dx, _, rfl, h2, zip_no en, spF_of E1.rep (.cons ru .nil) hn.symm h1⟩
    · rw [if_neg hi] at h1
      exact h1.elim
end
end PL
/-! PLt: instances made: within __init__ a thing of the store, behind it a value. -/
namespace PL
open PySem PySem.Spec L2
mutual
/-- names things of the store below n alone -/
def glB (n : Nat) : PV → Bool
  | .gl m => decide (m < n)
  | .tup l => glBs n l
  | .lst l => glBs n l
  | .ins _ _ l => glBs n l
  | .non => true
  | .bl _ => true
  | .int _ => true
  | .str _ => true
  | .scr _ => true
def glBs (n : Nat) : List PV → Bool
  | [] => true
  | p :: ps => glB n p && glBs n ps
end
section
variable {K : PySem.W.Frag} {N : Addr → Prop} {ρ ρ' : List Addr} {H : Hp}
mutual
theorem RV.unpush (hp : ρ <+: ρ') : ∀ (p : PV) (v : V), glB ρ.length p = true → RV K N ρ' H p v → RV K N ρ H p v
  | .non, _, _, h => by unfold RV at h ⊢; exact h
  | .bl _, _, _, h => by unfold RV at h ⊢; exact h
  | .int _, _, _, h => by unfold RV at h ⊢; exact h
  | .str _, _, _, h => by unfold RV at h ⊢; exact h
  | .scr _, _, _, h => by unfold RV at h ⊢; exact h
  | .gl m, v, g, h => by
    obtain ⟨a, rfl, h1⟩ := rv_gl h
    have g : decide (m < ρ.length) = true := by unfold glB at g; exact g
    have g := of_decide_eq_true g
    obtain ⟨t, rfl⟩ := hp
    rw [List.getElem?_append_left g] at h1
    unfold RV
    exact ⟨a, rfl, h1⟩
  | .tup l, v, g, h => by
    obtain ⟨a, xs, rfl, h1, h2, h3⟩ := rv_tup h
    exact mk_tupK h1 h2 (RVs.unpush hp l xs (by unfold glB at g; exact g) h3)
  | .lst l, v, g, h => by
    obtain ⟨a, xs, rfl, n, h1, h2, h3⟩ := rv_lst h
    exact mk_lst n h1 h2 (RVs.unpush hp l xs (by unfold glB at g; exact g) h3)
  | .ins c ns l, v, g, h => by
    obtain ⟨a, ws, rfl, h1, h3⟩ := rv_ins h
    exact mk_ins h1 (RVs.unpush hp l ws (by unfold glB at g; exact g) h3)
theorem RVs.unpush (hp : ρ <+: ρ') : ∀ (l : List PV) (xs : List V), glBs ρ.length l = true → RVs K N ρ' H l xs → RVs K N ρ H l xs
  | [], _, _, h => by rw [h.unnil]; exact .nil
  | p :: ps, _, g, h => by
    obtain ⟨v, vs, rfl, h1, h2⟩ := h.uncons
    have g : (glB ρ.length p && glBs ρ.length ps) = true := by unfold glBs at g; exact g
    rw [Bool.and_eq_true] at g
    exact .cons (RV.unpush hp p v g.1 h1) (RVs.unpush hp ps vs g.2 h2)
end
end
def glC (n : Nat) : Cell → Bool
  | .lst l => glBs n l
  | .ins _ _ l => glBs n l
  | .dead => true
theorem CellOk.unpush {K : PySem.W.Frag} {N : Addr → Prop} {ρ ρ' : List Addr} {H : Hp} (hp : ρ <+: ρ') {c : Cell} {a : Addr} (g : glC ρ.length c = true) (h : CellOk K N ρ' H c a) : CellOk K N ρ H c a := by
  cases c with
  | dead => trivial
  | lst l =>
    obtain ⟨xs, q1, q2, q3⟩ := h
    exact ⟨xs, q1, q2, RVs.unpush hp l xs g q3⟩
  | ins c ns l =>
    obtain ⟨dx, ws, q1, q2, q3, q4, q5⟩ := h
    exact ⟨dx, ws, q1, q2, q3, q4, RVs.unpush hp l ws g q5⟩
section
variable {K : PySem.W.Frag} {B : Addr → Prop} {ρ ρ' : List Addr} {env : Env} {st st' : Sto} {σ : L2.St} {H H' : Hp} {x dx : Addr} {c0 : Str}
/-- a new instance in the store -/
theorem Rep.newIns (R : Rep K B ρ env st σ H) (nx : H x = none) (nd : H dx = none) (ne : dx ≠ x) :
    Rep K (Outer B env σ) (ρ ++ [x]) [] (st ++ [.ins c0 [] []]) [] (upd (upd H dx (.own x)) x (.ins (He.ga K c0) dx [])) := by
  have C := R.call
  have E : Ext H (upd (upd H dx (.own x)) x (.ins (He.ga K c0) dx [])) := (Ext.new nd).trans (.new (by rw [upd_ne (Ne.symm ne)]; exact nx))
  have tr : ∀ a, H a ≠ none → (upd (upd H dx (.own x)) x (.ins (He.ga K c0) dx [])) a ≠ none := fun a h z => by
    cases e : H a with
    | none => exact h e
    | some o => rw [E a o e] at z; cases z
  have xr : x ∉ ρ := fun z => R.rT x z nx
  have xo : ¬ Outer B env σ x := fun z => C.bT x z nx
  have less : ∀ a o, H a = some o → Excl (Outer B env σ) (ρ ++ [x]) [] ([] : L2.St) a → Excl (Outer B env σ) ρ [] ([] : L2.St) a := fun a o e n => by
    rcases n with n | n | n
    · exact .inl n
    · rcases List.mem_append.mp n with n | n
      · exact .inr (.inl n)
      · rw [List.mem_singleton.mp n, nx] at e
        cases e
    · exact .inr (.inr n)
  refine ⟨rfl, by simp [R.lenC], List.nodup_append.mpr ⟨R.nd, by simp, fun a ha c hc z => xr (by rw [← List.mem_singleton.mp hc, ← z]; exact ha)⟩, fun n c a h1 h2 => ?_, fun a h => ?_, fun a h => ?_, fun a h => tr a (C.bT a h), fun i e h => by simp at h, fun a h => (no_own h).elim, fun i j l l' a h => by simp at h⟩
  · by_cases hn : n < st.length
    · rw [List.getElem?_append_left hn] at h1
      rw [List.getElem?_append_left (by rw [R.lenC]; exact hn)] at h2
      exact (C.cell n c a h1 h2).carry less (fun a o e _ => E a o e) (List.prefix_append ρ [x]) fun o q => E a o q
    · rw [List.getElem?_append_right (by omega)] at h1
      rw [List.getElem?_append_right (by rw [R.lenC]; omega), R.lenC] at h2
      have e0 : n - st.length = 0 := by
        by_cases h0 : n - st.length = 0
        · exact h0
        · rw [List.getElem?_eq_none (by simp; omega)] at h1
          cases h1
      rw [e0] at h1 h2
      cases h1
      cases h2
      refine ⟨dx, [], upd_same, fun z => ?_, by rw [upd_ne ne, upd_same], rfl, .nil⟩
      rcases z with z | z | z
      · exact C.bT dx z nd
      · rcases List.mem_append.mp z with z | z
        · exact R.rT dx z nd
        · exact ne (List.mem_singleton.mp z)
      · exact no_own z
  · rcases List.mem_append.mp h with h | h
    · exact tr a (R.rT a h)
    · rw [List.mem_singleton.mp h, upd_same]
      exact fun z => by cases z
  · rcases List.mem_append.mp h with h | h
    · exact C.rB a h
    · rw [List.mem_singleton.mp h]
      exact xo
/-- the last thing of the store is let go -/
theorem Rep.letGo (R : Rep K B ρ env st σ H) (nx : H x = none) (nd : H dx = none) (ne : dx ≠ x) (E : EPost K (Outer B env σ) (ρ ++ [x]) [] [] (upd (upd H dx (.own x)) x (.ins (He.ga K c0) dx [])) ρ' st' H') (hl : st'.length = st.length + 1) (hg : (st'.take st.length).all (glC st.length) = true) :
    ρ' = ρ ++ [x] ∧ EPost K B ρ env σ H ρ (st'.take st.length) H' := by
  have er : ρ' = ρ ++ [x] := by
    refine (List.IsPrefix.eq_of_length E.pre ?_).symm
    rw [E.rep.lenC, hl, List.length_append, R.lenC]
    rfl
  subst er
  have xr : x ∉ ρ := fun z => R.rT x z nx
  have EX : Ext H (upd (upd H dx (.own x)) x (.ins (He.ga K c0) dx [])) := (Ext.new nd).trans (.new (by rw [upd_ne (Ne.symm ne)]; exact nx))
  have k0 : ∀ a o, H a = some o → a ∉ ρ → H' a = some o := fun a o e n => E.kp a o (EX a o e) fun z => by
    rcases List.mem_append.mp z with z | z
    · exact n z
    · rw [List.mem_singleton.mp z, nx] at e
      cases e
  have kk : ∀ a o, H a = some o → ¬ Excl B ρ env σ a → H' a = some o := fun a o e n => k0 a o e fun z => n (.inr (.inl z))
  have tr : ∀ a, H a ≠ none → H' a ≠ none := fun a h => E.tr a fun z => by
    cases e : H a with
    | none => exact h e
    | some o => rw [EX a o e] at z; cases z
  have lt : ∀ {n : Nat} {c : Cell}, (st'.take st.length)[n]? = some c → n < st.length ∧ st'[n]? = some c := fun {n c} h => by
    rw [List.getElem?_take] at h
    split at h
    · exact ⟨by assumption, h⟩
    · cases h
  refine ⟨rfl, ⟨R.lenE, ?_, R.nd, fun n c a h1 h2 => ?_, fun a h => tr a (R.rT a h), R.rB, fun a h => tr a (R.bT a h), fun i e h => ?_, R.oR, R.sep⟩, List.prefix_rfl, k0, tr, fun _ h n => absurd h n⟩
  · rw [R.lenC, List.length_take, hl]
    omega
  · obtain ⟨l1, l2⟩ := lt h1
    have hn : n < ρ.length := by rw [R.lenC]; exact l1
    have q := E.rep.cell n c a l2 (by rw [List.getElem?_append_left hn]; exact h2)
    have gc := List.all_eq_true.mp hg c (List.mem_of_getElem? h1)
    have q2 : CellOk K (Excl B ρ env σ) (ρ ++ [x]) H' c a := q.carry (fun a o _ n => by
      rw [excl_outer]
      rcases n with n | n | n
      · exact .inl n
      · exact .inr (.inl (List.mem_append_left _ n))
      · exact .inr (.inr n)) (fun a o e _ => e) List.prefix_rfl fun o q => q
    exact CellOk.unpush (List.prefix_append ρ [x]) (by rw [R.lenC]; exact gc) q2
  · have q := R.slot i e h
    cases e with
    | non => trivial
    | val p =>
      obtain ⟨v, q1, q2⟩ := q
      exact ⟨v, q1, RV.carry (fun _ _ _ z => z) kk List.prefix_rfl _ _ q2⟩
    | own l =>
      obtain ⟨a, xs, q0, q1, q2, q3⟩ := q
      exact ⟨a, xs, q0, k0 a _ q1 (R.oR a ⟨i, l, h, q0⟩).1, q2, RVs.carry (fun _ _ _ z => z) kk List.prefix_rfl _ _ q3⟩
end
/-- C(..): __init__ at a new thing of the store, which is a value behind it -/
def makF (c0 : Str) (F : Fn) (xs : List PV) (st : Sto) : RE PV := match F (.gl st.length :: xs) (st ++ [.ins c0 [] []]) with
  | .ok .non st' => if st'.length = st.length + 1 ∧ (st'.take st.length).all (glC st.length) = true then
      (match st'[st.length]? with
        | some (.ins c ns vs) => if c = c0 ∧ glBs st.length vs = true then .ok (.ins c ns vs) (st'.take st.length) else .stuck
        | _ => .stuck)
      else .stuck
  | .exc x st' => if (st'.length = st.length + 1 ∧ (st'.take st.length).all (glC st.length) = true) ∧ glBs st.length (x.fs.map (·.2)) = true then .exc x (st'.take st.length) else .stuck
  | _ => .stuck
section
variable {K : PySem.W.Frag} {W : WX} {B : Addr → Prop} {ρ : List Addr} {env : Env} {st : Sto} {σ : L2.St} {H : Hp} {c0 : Str} {F : Fn} {n : Nat} {Q : VK} {vl : List PV} {vs : List V}
theorem spF_make (R : Rep K B ρ env st σ H) (r : RVs K (Excl B ρ env σ) ρ H vl vs) (hn : vl.length + 1 = n)
    (h : ROk K W B ρ env σ H (makF c0 F vl st) fun p ρ' st' H' => ∀ u, RV K (Excl B ρ' env σ) ρ' H' p u → Q u H') (x dx : Addr) (nx : H x = none) (nd : H dx = none) (ne : dx ≠ x) :
    spF K n F (.ref x :: vs) (upd (upd H dx (.own x)) x (.ins (He.ga K c0) dx [])) (fun v H2 => v = .non ∧ Q (.ref x) H2) fun cls d H' => W cls d σ H' := by
  have E : Ext H (upd (upd H dx (.own x)) x (.ins (He.ga K c0) dx [])) := (Ext.new nd).trans (.new (by rw [upd_ne (Ne.symm ne)]; exact nx))
  have RN := R.newIns (c0 := c0) nx nd ne
  have fx : ¬ Excl B ρ env σ x := R.fresh nx
  refine ⟨Outer B env σ, ρ ++ [x], st ++ [.ins c0 [] []], .gl st.length :: vl, RN, .cons ?_ (RVs.carry (fun a o e n => ?_) (fun a o e _ => E a o e) (List.prefix_append ρ [x]) _ _ r), by rw [List.length_cons]; exact hn, ?_⟩
  · unfold RV
    refine ⟨x, rfl, ?_⟩
    rw [List.getElem?_append_right (by rw [R.lenC]; exact Nat.le_refl _), R.lenC, Nat.sub_self]
    rfl
  · rw [← excl_outer]
    rcases n with n | n | n
    · exact .inl n
    · rcases List.mem_append.mp n with n | n
      · exact .inr (.inl n)
      · rw [List.mem_singleton.mp n, nx] at e
        cases e
    · exact .inr (.inr n)
  · unfold makF at h
    cases hF : F (.gl st.length :: vl) (st ++ [.ins c0 [] []]) with
    | stuck => rw [hF] at h; exact h.elim
    | exc y st' =>
      rw [hF] at h
      dsimp only at h
      split at h
      · rename_i hc
        intro ρ' H' cls d E2 hx
        obtain ⟨rfl, E3⟩ := R.letGo nx nd ne E2 hc.1.1 hc.1.2
        refine h ρ H' cls d E3 ⟨hx.1, hx.2.imp id ?_⟩
        rintro ⟨dd, fvs, e1, e2, e3, e4⟩
        refine ⟨dd, fvs, e1, e2, e3, RVs.unpush (List.prefix_append ρ [x]) _ _ (by rw [R.lenC]; exact hc.2) (RVs.carry (fun a o _ n => ?_) (fun _ _ e _ => e) List.prefix_rfl _ _ e4)⟩
        rw [excl_outer]
        rcases n with n | n | n
        · exact .inl n
        · exact .inr (.inl (List.mem_append_left _ n))
        · exact .inr (.inr n)
      · exact h.elim
    | ok v st' =>
      rw [hF] at h
      cases v with
      | non =>
        dsimp only at h
        split at h
        · rename_i hc
          cases ec : st'[st.length]? with
          | none => rw [ec] at h; exact h.elim
          | some cl =>
            rw [ec] at h
            cases cl with
            | lst _ => exact h.elim
            | dead => exact h.elim
            | ins c ns ws =>
              dsimp only at h
              split at h
              · rename_i hd
                obtain ⟨e1, e2⟩ := hd
                subst e1
                intro ρ' H' E2 u ru
                obtain ⟨rfl, E3⟩ := R.letGo nx nd ne E2 hc.1 hc.2
                refine ⟨rv_non ru, h ρ H' E3 (.ref x) ?_⟩
                obtain ⟨dx', vs', q1, q2, q3, q4, q5⟩ := E2.rep.cell st.length _ x ec (by rw [List.getElem?_append_right (by rw [R.lenC]; exact Nat.le_refl _), R.lenC, Nat.sub_self]; rfl)
                refine mk_ins ⟨fx, q4, dx', q1⟩ (RVs.unpush (List.prefix_append ρ [x]) _ _ (by rw [R.lenC]; exact e2) (RVs.carry (fun a o _ n => ?_) (fun _ _ e _ => e) List.prefix_rfl _ _ q5))
                rw [excl_outer]
                rcases n with n | n | n
                · exact .inl n
                · exact .inr (.inl (List.mem_append_left _ n))
                · exact .inr (.inr n)
              · exact h.elim
        · exact h.elim
      | _ => exact h.elim
end
end PL
/-! PLu: C(e, .., k = v, ..) with defaults. -/
namespace PL
open PySem PySem.Spec L2
/-- where a parameter's value comes from -/
inductive Src where
  | pos (i : Nat)
  | dfl (i : Nat)
  | kw (i : Nat)
def Src.get {α : Type} (s : Src) (us ds ws : List α) : Option α := match s with
  | .pos i => us[i]?
  | .dfl i => ds[i]?
  | .kw i => ws[i]?
def plan {α : Type} (l : List Src) (us ds ws : List α) : List α := l.filterMap fun s => s.get us ds ws
theorem vals_get {vs : List V} {us : List Value} (r : Vals vs us) (i : Nat) : (vs[i]? = none ∧ us[i]? = none) ∨ ∃ v u, vs[i]? = some v ∧ us[i]? = some u ∧ RelV v u := by
  induction r generalizing i with
  | nil => exact .inl ⟨rfl, rfl⟩
  | cons h t ih =>
    cases i with
    | zero => exact .inr ⟨_, _, rfl, rfl, h⟩
    | succ i => simpa using ih i
theorem plan_vals {l : List Src} {vs ds zs : List V} {us its ws : List Value} (r1 : Vals vs us) (r2 : Vals ds its) (r3 : Vals zs ws) : Vals (plan l vs ds zs) (plan l us its ws) := by
  induction l with
  | nil => exact .nil
  | cons s l ih =>
    have q : (s.get vs ds zs = none ∧ s.get us its ws = none) ∨ ∃ v u, s.get vs ds zs = some v ∧ s.get us its ws = some u ∧ RelV v u := by
      cases s with
      | pos i => exact vals_get r1 i
      | dfl i => exact vals_get r2 i
      | kw i => exact vals_get r3 i
    unfold plan at ih ⊢
    rcases q with ⟨e1, e2⟩ | ⟨v, u, e1, e2, r⟩
    · rw [List.filterMap_cons_none (f := fun s : Src => s.get vs ds zs) e1, List.filterMap_cons_none (f := fun s : Src => s.get us its ws) e2]
      exact ih
    · rw [List.filterMap_cons_some (f := fun s : Src => s.get vs ds zs) e1, List.filterMap_cons_some (f := fun s : Src => s.get us its ws) e2]
      exact .cons r ih
section
variable {K : PySem.W.Frag} {N : Addr → Prop} {ρ : List Addr} {H : Hp}
theorem rvs_get {ps : List PV} {vs : List V} (r : RVs K N ρ H ps vs) (i : Nat) : (ps[i]? = none ∧ vs[i]? = none) ∨ ∃ p v, ps[i]? = some p ∧ vs[i]? = some v ∧ RV K N ρ H p v := by
  cases e : ps[i]? with
  | none => exact .inl ⟨rfl, List.getElem?_eq_none (by rw [r.len]; exact List.getElem?_eq_none_iff.mp e)⟩
  | some p =>
    obtain ⟨v, h1, h2⟩ := r.get e
    exact .inr ⟨p, v, rfl, h1, h2⟩
theorem plan_rvs {l : List Src} {p1 p2 p3 : List PV} {v1 v2 v3 : List V} (r1 : RVs K N ρ H p1 v1) (r2 : RVs K N ρ H p2 v2) (r3 : RVs K N ρ H p3 v3) : RVs K N ρ H (plan l p1 p2 p3) (plan l v1 v2 v3) := by
  induction l with
  | nil => exact .nil
  | cons s l ih =>
    have q : (s.get p1 p2 p3 = none ∧ s.get v1 v2 v3 = none) ∨ ∃ p v, s.get p1 p2 p3 = some p ∧ s.get v1 v2 v3 = some v ∧ RV K N ρ H p v := by
      cases s with
      | pos i => exact rvs_get r1 i
      | dfl i => exact rvs_get r2 i
      | kw i => exact rvs_get r3 i
    unfold plan at ih ⊢
    rcases q with ⟨e1, e2⟩ | ⟨p, v, e1, e2, r⟩
    · rw [List.filterMap_cons_none (f := fun s : Src => s.get p1 p2 p3) e1, List.filterMap_cons_none (f := fun s : Src => s.get v1 v2 v3) e2]
      exact ih
    · rw [List.filterMap_cons_some (f := fun s : Src => s.get p1 p2 p3) e1, List.filterMap_cons_some (f := fun s : Src => s.get v1 v2 v3) e2]
      exact .cons r ih
end
/-- the defaults' values, as values of any heap -/
def Dfl (K : PySem.W.Frag) (dps : List PV) (dvs : List V) : Prop := ∀ (N : Addr → Prop) ρ H, RVs K N ρ H dps dvs
/-- a class by its name, its __init__ (ps: self too) -/
def Maker (P : Program) (w : World) (K : PySem.W.Frag) (mg : Str → Option Value) (base : Heap) (k : Nat) (x : Str) (ps : List Str) (dps : List PV) (F : Fn) (sh : List (Nat × List Str × List Src)) : Prop :=
  ∃ f fd dvs, FnG P w K mg base k f fd ps (spF K ps.length F) ∧ mg x = some (.ref (He.ga K x)) ∧ Mk K (He.ga K x) f ∧ Dfl K dps dvs ∧
    ∀ q ∈ sh, ∃ its : List Value, KBn K fd ps (q.1 + 1) q.2.1 (fun us ws => plan (.pos 0 :: q.2.2) us its ws) (fun vs zs => plan (.pos 0 :: q.2.2) vs dvs zs)
theorem Maker.mono {P : Program} {w : World} {K : PySem.W.Frag} {mg : Str → Option Value} {base : Heap} {j k : Nat} {x : Str} {ps : List Str} {dps : List PV} {F : Fn} {sh : List (Nat × List Str × List Src)} (c : Maker P w K mg base j x ps dps F sh) (h : j ≤ k) : Maker P w K mg base k x ps dps F sh := by
  obtain ⟨f, fd, dvs, c1, c2⟩ := c
  exact ⟨f, fd, dvs, c1.mono h, c2⟩
/-- keywords' values -/
def MK (X : Cx) (W : WX) (kws : List Keyword) (f : EF (List PV)) : Prop := ∃ t, PK X kws t ∧ ∀ B ρ env st σ H Q, Rep X.K B ρ env st σ H →
  ROk X.K W B ρ env σ H (f env st) (fun l ρ' st' H' => ∀ us, RVs X.K (Excl B ρ' env σ) ρ' H' l us → Q us H') → t σ H Q
/-- C(..): shape l: where each parameter (self left out) comes from -/
def eMake (c0 : Str) (F : Fn) (n m len : Nat) (dps : List PV) (l : List Src) (a gk : EF (List PV)) : EF PV := fun e st => (a e st).bind fun xs st => (gk e st).bind fun zs st =>
  if (xs.length = n ∧ zs.length = m) ∧ (plan l (.non :: xs) dps zs).length + 1 = len then makF c0 F (plan l (.non :: xs) dps zs) st else .stuck
theorem plan_self {α : Type} {l : List Src} (h : l.all (fun s => match s with | .pos 0 => false | _ => true) = true) {x y : α} {us ds ws : List α} : plan l (x :: us) ds ws = plan l (y :: us) ds ws := by
  induction l with
  | nil => rfl
  | cons s l ih =>
    rw [List.all_cons, Bool.and_eq_true] at h
    have q : s.get (x :: us) ds ws = s.get (y :: us) ds ws := by
      cases s with
      | pos i =>
        cases i with
        | zero => exact absurd h.1 (by simp)
        | succ i => rfl
      | dfl i => rfl
      | kw i => rfl
    unfold plan at ih ⊢
    rw [List.filterMap_cons, List.filterMap_cons, q, ih h.2]
section
variable {X : Cx} {W : WX} {k n : Nat} {c0 : Str} {ps ks : List Str} {dps : List PV} {F : Fn} {sh : List (Nat × List Str × List Src)} {l : List Src} {p pos : Pos} {e : Expr} {es : List Expr} {kws : List Keyword} {g gk : EF (List PV)} {nm : Option Str} {kpos : Pos} {fe : EF PV}
theorem mk_nil : MK X W [] aNil := ⟨tNil, pk_nil, fun B ρ env st σ H Q R h => h ρ H (.refl R) _ .nil⟩
theorem mk_cons (he : ME X W e fe) (hr : MK X W kws g) : MK X W (⟨nm, e, kpos⟩ :: kws) (aCons fe g) := by
  obtain ⟨t, p, q⟩ := he
  obtain ⟨tr, pr, qr⟩ := hr
  refine ⟨tCons t tr, pk_cons p pr, fun B ρ env st σ H Q R h => q B ρ env st σ H _ R (ROk.mono (ROk.bind h) fun x ρ1 st1 H1 E1 h1 u ru => ?_)⟩
  refine qr B ρ1 env st1 σ H1 _ E1.rep (ROk.mono (ROk.bind h1) fun xs ρ2 st2 H2 E2 h2 us rus => ?_)
  exact h2 ρ2 H2 (.refl E2.rep) _ (.cons (E2.post.rv ru) rus)
theorem under_make {A : Around} {C : Addr} {us : List Value} {kw : List (Str × Value)} (h : A.guards = some []) : (A.under (.builtin "type.__call__" ⟨.ref C :: us, kw⟩)).guards = some [] := by
  have e : (Code.builtin "type.__call__" ⟨.ref C :: us, kw⟩).guards = [] := by
    have q : (Code.builtin "type.__call__" ⟨.ref C :: us, kw⟩).isGuard = false := by
      show guardIds.contains "type.__call__" = false
      decide
    unfold Code.guards
    rw [q]
    rfl
  show pushGuards (Code.builtin "type.__call__" ⟨.ref C :: us, kw⟩).guards A.guards = some []
  rw [e]
  exact h
theorem run_makeG {pins : List (Addr × Obj)} {σ : L2.St} {H : Hp} {s : Shared} {Q : VK} {us ws : List Value} {vs zs : List V} {C f : Addr} {fd : FuncData} {sp : Sp} {gg : List Value → List Value → List Value} {gV : List V → List V → List V}
    (M : Mk X.K C f) (G : FnG X.prog X.w X.K X.mg X.base k f fd ps sp) (hr : Room (k + 1) X.A) (hgd : X.A.guards = some []) (hb : KBn X.K fd ps (n + 1) ks gg gV)
    (tk : Takes X W) (I : Inv X pins σ H s) (r : Vals vs us) (rz : Vals zs ws) (l1 : vs.length = n) (l2 : zs.length = ks.length)
    (h : ∀ x dx, H x = none → H dx = none → dx ≠ x → sp (gV (.ref x :: vs) zs) (upd (upd H dx (.own x)) x (.ins C dx [])) (fun v H2 => v = .non ∧ Q (.ref x) H2) fun cls d H' => W cls d σ H') :
    wpAny (model X.prog X.w) X.A (call (.ref C) us (ks.zip ws)) (EP X pins σ Q) X.xe s := by
  have hq := h (s.heap.objs.size + 1) s.heap.objs.size (I.hok.fresh (Nat.le_succ _)) (I.hok.fresh (Nat.le_refl _)) (Nat.ne_of_lt (Nat.lt_succ_self _))
  have I2 := Inv.made (C := C) I
  have r1 : Vals (V.ref (s.heap.objs.size + 1) :: vs) (Value.ref (s.heap.objs.size + 1) :: us) := .cons rfl r
  have r2 := hb.rel r1 rz
  have n1 : (Value.ref (s.heap.objs.size + 1) :: us).length = n + 1 := by
    rw [List.length_cons, ← r.length, l1]
  refine wpAny_call (make_map (f := f) I.kIn M.makes M.init (beq_iff_eq.mp M.fn) (codeAny_mono (G.run _ X.stack _ _ ⟨Value.ref (s.heap.objs.size + 1) :: us, ks.zip ws⟩ (gg (Value.ref (s.heap.objs.size + 1) :: us) ws) _ _ _ (hr.make C us (ks.zip ws)) (under_make hgd)
    (I2.env0.make C us (ks.zip ws)) (hb.to _ (Value.ref (s.heap.objs.size + 1) :: us) ws I2.kIn n1 (rz.length.symm.trans l2)) r2 hq) fun r s' hq' => ?_))
  cases r with
  | error e => exact tk e s' (XE.of_call I2 (fun _ _ _ h => h) hq')
  | ok fl =>
    cases fl with
    | ret u =>
      obtain ⟨v, H', I3, rv, ev, q3⟩ := I2.after hq'
      subst ev
      exact ⟨rv, ⟨V.ref (s.heap.objs.size + 1), H', I3, rfl, q3⟩⟩
    | next => exact False.elim hq'
    | brk => exact False.elim hq'
    | cont => exact False.elim hq'
/-- what the values have to be -/
def tMakeG (C : Addr) (W : WX) (n m : Nat) (sp : Sp) (gV : List V → List V → List V) (t tk : TA) : TE := fun σ H Q => t σ H fun vs H1 => tk σ H1 fun zs H2 => (vs.length = n ∧ zs.length = m) ∧
  ∀ x dx, H2 x = none → H2 dx = none → dx ≠ x → sp (gV (.ref x :: vs) zs) (upd (upd H2 dx (.own x)) x (.ins C dx [])) (fun v H3 => v = .non ∧ Q (.ref x) H3) fun cls d H' => W cls d σ H'
theorem ref_make {t tk : TA} {dvs : List V} (hl : l.all (fun s => match s with | .pos 0 => false | _ => true) = true) (hd : Dfl X.K dps dvs)
    (qa : ∀ B ρ env st σ H Q, Rep X.K B ρ env st σ H → ROk X.K W B ρ env σ H (g env st) (fun l ρ' st' H' => ∀ us, RVs X.K (Excl B ρ' env σ) ρ' H' l us → Q us H') → t σ H Q)
    (qk : ∀ B ρ env st σ H Q, Rep X.K B ρ env st σ H → ROk X.K W B ρ env σ H (gk env st) (fun l ρ' st' H' => ∀ us, RVs X.K (Excl B ρ' env σ) ρ' H' l us → Q us H') → tk σ H Q) :
    RefG X.K W (tMakeG (He.ga X.K c0) W n ks.length (spF X.K ps.length F) (fun vs zs => plan (.pos 0 :: l) vs dvs zs) t tk) (eMake c0 F n ks.length ps.length dps l g gk) (RV X.K) := by
  intro B ρ env st σ H Q R h
  refine qa B ρ env st σ H _ R (ROk.mono (ROk.bind h) fun xs ρ1 st1 H1 E1 h1 vs rvs => ?_)
  refine qk B ρ1 env st1 σ H1 _ E1.rep (ROk.mono (ROk.bind h1) fun zs ρ2 st2 H2 E2 h2 ws rws => ?_)
  split at h2
  · rename_i hc
    have rv2 := E2.post.rvs rvs
    refine ⟨⟨rvs.len.trans hc.1.1, rws.len.trans hc.1.2⟩, fun x dx nx nd ne => ?_⟩
    have e : plan (.pos 0 :: l) (.ref x :: vs) dvs ws = .ref x :: plan l (.non :: vs) dvs ws := by
      show (V.ref x) :: plan l (.ref x :: vs) dvs ws = _
      rw [plan_self hl]
    rw [show (fun vs zs => plan (.pos 0 :: l) vs dvs zs) (V.ref x :: vs) ws = .ref x :: plan l (.non :: vs) dvs ws from e]
    exact spF_make (W := W) E2.rep (plan_rvs (RVs.cons mk_non rv2) (hd _ _ _) rws) hc.2 h2 x dx nx nd ne
  · exact h2.elim
variable (hl : l.all (fun s => match s with | .pos 0 => false | _ => true) = true)
/-- C(e, .., k = v, ..) -/
theorem m_make (c : Maker X.prog X.w X.K X.mg X.base k c0 ps dps F sh) (hq : (n, ks, l) ∈ sh) (hl : l.all (fun s => match s with | .pos 0 => false | _ => true) = true) (hr : Room (k + 1) X.A) (hgd : X.A.guards = some []) (tk : Takes X W) (hg : Gl X c0)
    (ha : MA X W (e :: es) g) (hkw : MK X W kws gk) (hall : (backToKw pos (keywordEach kws X.env)).all (·.1.isSome) = true := by rfl) (hks : (backToKw pos (keywordEach kws X.env)).filterMap (·.1) = ks := by rfl)
    (hdb : (c0 == ("__debug__" : Str)) = false := by decide) (he : starEach (e :: es) X.env = (false, eval e X.env) :: starEach es X.env := by rfl)
    (hpl : ((backTo pos (starEach (e :: es) X.env)).any (·.1) || (backToKw pos (keywordEach kws X.env)).any (·.1.isNone)) = false := by rfl) :
    ME X W (.Call (.Name c0 p) (e :: es) kws pos) (eMake c0 F n ks.length ps.length dps l g gk) := by
  obtain ⟨f, fd, dvs, G, hm, M, hd, hs⟩ := c
  obtain ⟨its, kb⟩ := hs _ hq
  obtain ⟨ta, pa, qa⟩ := ha
  obtain ⟨tk', pk, qk⟩ := hkw
  refine ⟨_, ⟨fun pins s σ H Q I h => ?_⟩, ref_make hl hd qa qk⟩
  refine wpAny_Call_Name_kw (ld_glob I hg hm ?_ hdb)
  refine PySem.W.callWith_KW (h₀ := X.base) I.ok.mod.kin M.kp hall (thn (pa.run pos pins s σ H _ I h) fun us s1 ⟨vs, H1, I1, r, q⟩ => ?_) hpl he
  refine thn (pk.run pos pins s1 σ H1 _ I1 q) fun ws s2 ⟨zs, H2, I2, rz, l12, q2⟩ => ⟨I2.kIn, ?_⟩
  rw [hks]
  exact run_makeG M G hr hgd kb tk I2 r rz l12.1 l12.2 q2
/-- C(k = v, ..) -/
theorem m_makeK (c : Maker X.prog X.w X.K X.mg X.base k c0 ps dps F sh) (hq : (0, ks, l) ∈ sh) (hl : l.all (fun s => match s with | .pos 0 => false | _ => true) = true) (hr : Room (k + 1) X.A) (hgd : X.A.guards = some []) (tk : Takes X W) (hg : Gl X c0)
    (hkw : MK X W kws gk) (hall : (backToKw pos (keywordEach kws X.env)).all (·.1.isSome) = true := by rfl) (hks : (backToKw pos (keywordEach kws X.env)).filterMap (·.1) = ks := by rfl)
    (hdb : (c0 == ("__debug__" : Str)) = false := by decide)
    (hpl : ((backTo pos (starEach [] X.env)).any (·.1) || (backToKw pos (keywordEach kws X.env)).any (·.1.isNone)) = false := by rfl) :
    ME X W (.Call (.Name c0 p) [] kws pos) (eMake c0 F 0 ks.length ps.length dps l aNil gk) := by
  obtain ⟨f, fd, dvs, G, hm, M, hd, hs⟩ := c
  obtain ⟨its, kb⟩ := hs _ hq
  obtain ⟨tk', pk, qk⟩ := hkw
  refine ⟨_, ⟨fun pins s σ H Q I h => ?_⟩, ref_make hl hd (t := tNil) (fun B ρ env st σ H Q R h => h ρ H (.refl R) _ .nil) qk⟩
  refine wpAny_Call_Name_kw (ld_glob I hg hm ?_ hdb)
  refine PySem.W.callWith_KW0 (h₀ := X.base) I.ok.mod.kin M.kp hall ?_ hpl
  refine thn (pk.run pos pins s σ H _ I h) fun ws s2 ⟨zs, H2, I2, rz, l12, q2⟩ => ⟨I2.kIn, ?_⟩
  rw [hks]
  exact run_makeG (us := []) (vs := []) M G hr hgd kb tk I2 .nil rz l12.1 l12.2 q2
end
end PL
/-! PLv: o.f = value, several at once; a class's constant; a class's own classmethod-free names. -/
namespace PL
open PySem PySem.Spec L2
section
variable {K : PySem.W.Frag} {B : Addr → Prop} {ρ : List Addr} {env : Env} {st : Sto} {σ : L2.St} {H : Hp}
/-- a thing of the store is written -/
theorem Rep.cellPut (R : Rep K B ρ env st σ H) {n : Nat} {c c' : Cell} {a : Addr} {o : HO} (e : st[n]? = some c) (ea : ρ[n]? = some a) (hc : CellOk K (Excl B ρ env σ) ρ (upd H a o) c' a) :
    Post K B ρ env σ H ρ env (st.set n c') σ (upd H a o) := by
  have hn : n < st.length := (List.getElem?_eq_some_iff.mp e).1
  have ra : a ∈ ρ := List.mem_of_getElem? ea
  have k1 : ∀ b u, H b = some u → ¬ Excl B ρ env σ b → (upd H a o) b = some u := fun b u h n => by
    rw [upd_ne (fun z => n (by rw [z]; exact .inr (.inl ra)))]
    exact h
  have tr : ∀ b, H b ≠ none → (upd H a o) b ≠ none := fun b h => by
    by_cases hb : b = a
    · rw [hb, upd_same]
      exact fun z => by cases z
    · rw [upd_ne hb]
      exact h
  refine ⟨⟨R.lenE, by rw [List.length_set]; exact R.lenC, R.nd, fun k c2 b h1 h2 => ?_, fun b h => tr b (R.rT b h), R.rB, fun b h => tr b (R.bT b h), fun j ev h => ?_, R.oR, R.sep⟩,
    List.prefix_rfl, fun b u h n _ => ?_, tr, fun _ h n => absurd h n, fun b h => .inl h⟩
  · by_cases hk : n = k
    · subst hk
      rw [List.getElem?_set_self hn] at h1
      cases h1
      rw [ea] at h2
      cases h2
      exact hc
    · rw [List.getElem?_set_ne hk] at h1
      have q := R.cell k c2 b h1 h2
      have nb : b ≠ a := fun z => hk (by
        subst z
        obtain ⟨g1, e1⟩ := List.getElem?_eq_some_iff.mp ea
        obtain ⟨g2, e2⟩ := List.getElem?_eq_some_iff.mp h2
        exact (List.getElem_inj R.nd).mp (e1.trans e2.symm))
      exact q.carry (fun _ _ _ z => z) k1 List.prefix_rfl fun o q1 => by rw [upd_ne nb]; exact q1
  · have q := R.slot j ev h
    cases ev with
    | non => trivial
    | val p =>
      obtain ⟨v, q1, q2⟩ := q
      exact ⟨v, q1, RV.carry (fun _ _ _ z => z) k1 List.prefix_rfl _ _ q2⟩
    | own k =>
      obtain ⟨b, xs, q0, q1, q2, q3⟩ := q
      have nb : b ≠ a := fun z => (R.oR b ⟨j, k, h, q0⟩).1 (by rw [z]; exact ra)
      exact ⟨b, xs, q0, by rw [upd_ne nb]; exact q1, q2, RVs.carry (fun _ _ _ z => z) k1 List.prefix_rfl _ _ q3⟩
  · rw [upd_ne (fun z => n (by rw [z]; exact ra))]
    exact h
end
def putNs (f : Str) (ns : List Str) : List Str := match ns with
  | [] => [f]
  | g :: r => if g = f then g :: r else g :: putNs f r
def putVs {α : Type} (f : Str) (v : α) : List Str → List α → List α
  | [], _ => [v]
  | g :: r, x :: xs => if g = f then v :: xs else x :: putVs f v r xs
  | _ :: _, [] => []
theorem put_zip {f : Str} {v : V} : ∀ {ns : List Str} {ws : List V}, ws.length = ns.length → putF f v (ns.zip ws) = (putNs f ns).zip (putVs f v ns ws) ∧ (putVs f v ns ws).length = (putNs f ns).length
  | [], [], _ => ⟨rfl, rfl⟩
  | [], _ :: _, h => by cases h
  | _ :: _, [], h => by cases h
  | g :: r, x :: xs, h => by
    obtain ⟨h1, h2⟩ := put_zip (f := f) (v := v) (ns := r) (ws := xs) (by simpa using h)
    rw [List.zip_cons_cons]
    unfold putF putNs putVs
    by_cases e : g = f
    · subst e
      simp only [if_pos rfl]
      exact ⟨rfl, by simpa using h⟩
    · simp only [if_neg e]
      rw [h1, List.zip_cons_cons, List.length_cons, List.length_cons, h2]
      exact ⟨rfl, rfl⟩
theorem RVs.putVs {K : PySem.W.Frag} {N : Addr → Prop} {ρ : List Addr} {H : Hp} {f : Str} {p : PV} {v : V} (r : RV K N ρ H p v) : ∀ {ns : List Str} {vs : List PV} {ws : List V}, RVs K N ρ H vs ws → RVs K N ρ H (putVs f p ns vs) (putVs f v ns ws)
  | [], vs, ws, h => by
    show RVs K N ρ H [p] [v]
    exact .cons r .nil
  | g :: ns, [], ws, h => by
    have := h.unnil
    subst this
    exact .nil
  | g :: ns, q :: vs, ws, h => by
    obtain ⟨w, ws', rfl, h1, h2⟩ := h.uncons
    unfold PL.putVs
    by_cases e : g = f
    · rw [if_pos e, if_pos e]
      exact .cons r h2
    · rw [if_neg e, if_neg e]
      exact .cons h1 (RVs.putVs r h2)
def fldSet (c0 f : Str) (st : Sto) (o p : PV) : Option Sto := match o with
  | .gl n => match st[n]? with
    | some (.ins c ns vs) => if c = c0 ∧ ns.length < 1000 then some (st.set n (.ins c (putNs f ns) (putVs f p ns vs))) else none
    | _ => none
  | _ => none
theorem Rep.fldPut {K : PySem.W.Frag} {B : Addr → Prop} {ρ : List Addr} {env : Env} {st st' : Sto} {σ : L2.St} {H : Hp} (R : Rep K B ρ env st σ H) {c0 f : Str} {o p : PV} {u v : V} (ro : RV K (Excl B ρ env σ) ρ H o u) (rp : RV K (Excl B ρ env σ) ρ H p v) (h : fldSet c0 f st o p = some st') :
    ∃ a dx fs, u = .ref a ∧ H a = some (.ins (He.ga K c0) dx fs) ∧ fs.length < 1000 ∧ Post K B ρ env σ H ρ env st' σ (upd H a (.ins (He.ga K c0) dx (putF f v fs))) := by
  cases o with
  | gl n =>
    obtain ⟨a, rfl, hn⟩ := rv_gl ro
    have h2 : (match st[n]? with
      | some (.ins c ns vs) => if c = c0 ∧ ns.length < 1000 then some (st.set n (.ins c (putNs f ns) (putVs f p ns vs))) else none
      | _ => none) = some st' := h
    cases e : st[n]? with
    | none => rw [e] at h2; cases h2
    | some cl =>
      rw [e] at h2
      cases cl with
      | lst _ => cases h2
      | dead => cases h2
      | ins c ns vs =>
        dsimp only at h2
        split at h2
        · rename_i hc
          obtain ⟨ec, hl⟩ := hc
          subst ec
          have h := (Option.some.inj h2).symm
          subst h
          obtain ⟨dx, ws, q1, q2, q3, q4, q5⟩ := R.cell n _ a e hn
          have ne : dx ≠ a := fun z => by rw [z, q1] at q3; cases q3
          obtain ⟨z1, z2⟩ := put_zip (f := f) (v := v) q4
          refine ⟨a, dx, _, rfl, q1, by rw [List.length_zip]; omega, R.cellPut e hn ?_⟩
          have ra : a ∈ ρ := List.mem_of_getElem? hn
          refine ⟨dx, putVs f v ns ws, by rw [upd_same, z1], q2, by rw [upd_ne ne]; exact q3, z2, RVs.carry (fun _ _ _ z => z) (fun b o e n => by rw [upd_ne (fun z => n (by rw [z]; exact .inr (.inl ra)))]; exact e) List.prefix_rfl _ _ (RVs.putVs rp q5)⟩
        · cases h2
  | _ => cases h
/-! ### targets that may write the store -/
abbrev GF := PV → Env → Sto → RS
def gxFld (c0 f : Str) (o : EF PV) : GF := fun p e st => (o e st).toS e fun ov st => match fldSet c0 f st ov p with
  | some st' => .nx e st'
  | none => .stuck
def gxName (i : Nat) : GF := fun p e st => match bName i p e with
  | some e1 => .nx e1 st
  | none => .stuck
def gxSeq : List GF → List PV → Env → Sto → RS
  | [], [], e, st => .nx e st
  | g :: gs, p :: ps, e, st => (g p e st).thn fun e st => gxSeq gs ps e st
  | _, _, _, _ => .stuck
def gxTup (gs : List GF) : GF := fun p e st => match p with
  | .tup l => if l.length = gs.length then gxSeq gs l e st else .stuck
  | _ => .stuck
def sAsgX (g : GF) (a : EF PV) : SF := fun e st => (a e st).toS e fun v st => g v e st
/-- the ends of a target -/
def onlyNx (Q : L2.St → Hp → Prop) : Ends := { nx := Q, rt := fun _ _ => False, bk := fun _ _ => False, ct := fun _ _ => False }
def MX (X : Cx) (W : WX) (tg : Expr) (g : GF) : Prop := ∃ t : TG, PG X tg t ∧ ∀ B ρ env st σ H p v Q, Rep X.K B ρ env st σ H → RV X.K (Excl B ρ env σ) ρ H p v → SOk X.K W B ρ env σ H (g p env st) (onlyNx Q) → t v σ H Q
def MXs (X : Cx) (W : WX) (tgs : List Expr) (gs : List GF) : Prop := ∃ t : TGs, PGs X tgs t ∧ ∀ B ρ env st σ H ps vs Q, Rep X.K B ρ env st σ H → RVs X.K (Excl B ρ env σ) ρ H ps vs → ps.length = gs.length → SOk X.K W B ρ env σ H (gxSeq gs ps env st) (onlyNx Q) → t vs σ H Q
section
variable {X : Cx} {W : WX} {o e tg : Expr} {tgs : List Expr} {fo fe : EF PV} {g : GF} {gs : List GF} {c0 f : Str} {pos pos' : Pos}
/-- o.f = .. -/
def gFld (K : PySem.W.Frag) (to : TE) (f : Str) : TG := fun v σ H Q => to σ H fun x H1 => ∃ a C dx fs, x = .ref a ∧ H1 a = some (.ins C dx fs) ∧ Cls K C ∧ NoAttr K C f ∧ fs.length < 1000 ∧ Q σ (upd H1 a (.ins C dx (putF f v fs)))
theorem pg_fld {to : TE} (ho : PE X o to) : PG X (.Attribute o f pos) (gFld X.K to f) := by
  refine ⟨fun pins s σ H v u Q I r h => ?_⟩
  show wpAny (model X.prog X.w) X.A (do
    let ov ← holding [u] (eval o X.env)
    standAt pos.atName
    holding [u, ov] (setAttr ov f u)
    release [u, ov] []) _ _ _
  refine wpAny_bind (wpAny_holding (thn (ho.run pins s σ H _ I h) fun ov s1 ⟨x, H1, I1, r1, a, C, dx, fs, ex, ea, c, n, hl, q1⟩ => ?_))
  subst ex
  obtain rfl : ov = Value.ref a := r1
  refine wpAny_bind (wpAny_standAt (wpAny_bind (wpAny_holding (setattr_ok I1 ea c n hl r fun s2 I2 => ?_))))
  exact wpAny_release ⟨σ, _, I2, q1⟩
theorem mx_fld (h : ME X W o fo) (c : Cls X.K (He.ga X.K c0)) (n : NoAttr X.K (He.ga X.K c0) f) : MX X W (.Attribute o f pos) (gxFld c0 f fo) := by
  obtain ⟨t, p, q⟩ := h
  refine ⟨_, pg_fld p, fun B ρ env st σ H pv v Q R r h => ?_⟩
  refine q B ρ env st σ H _ R (ROk.mono (SOk.toS h) fun ov ρ1 st1 H1 E1 h1 u ru => ?_)
  cases es : fldSet c0 f st1 ov pv with
  | none => rw [es] at h1; exact h1.elim
  | some st' =>
    rw [es] at h1
    obtain ⟨a, dx, fs, rfl, e1, e2, P⟩ := E1.rep.fldPut ru (E1.post.rv r) es
    exact ⟨a, _, dx, fs, rfl, e1, c, n, e2, h1 _ _ _ P⟩
theorem mx_name {i : Nat} {x : Str} (hN : X.N.Nodup) (hi : X.N[i]? = some x) (hx : Loc X.env.scope x) (hf : X.fn x = true ∨ X.env.scope.names.lookup x = some .local := by first | exact .inl rfl | exact .inr rfl | assumption) : MX X W (.Name x pos) (gxName i) := by
  obtain ⟨_, t, p, q⟩ := mg_name (X := X) (pos := pos) hN hi hx hf
  refine ⟨t, p, fun B ρ env st σ H pv v Q R r h => ?_⟩
  unfold gxName at h
  cases e : bName i pv env with
  | none => rw [e] at h; exact h.elim
  | some env1 =>
    rw [e] at h
    exact q B ρ env st σ H pv v env1 Q R r e fun σ1 P1 _ _ => h ρ σ1 H P1
theorem mxs_nil : MXs X W [] [] := by
  refine ⟨_, pgs_nil, fun B ρ env st σ H ps vs Q R r hl h => ?_⟩
  cases ps with
  | nil =>
    have e := r.unnil
    subst e
    exact ⟨rfl, h ρ σ H (.refl R)⟩
  | cons _ _ => cases hl
theorem sok_thn {K : PySem.W.Frag} {B : Addr → Prop} {ρ : List Addr} {env : Env} {σ : L2.St} {H : Hp} {r : RS} {g : Env → Sto → RS} {Q : L2.St → Hp → Prop} (h : SOk K W B ρ env σ H (r.thn g) (onlyNx Q)) :
    (∃ e' st', r = .nx e' st' ∧ ∀ ρ' σ' H', Post K B ρ env σ H ρ' e' st' σ' H' → SOk K W B ρ' e' σ' H' (g e' st') (onlyNx Q)) ∨ (SOk K W B ρ env σ H r (onlyNx Q) ∧ ∀ e' st', r ≠ .nx e' st') := by
  cases r with
  | nx e' st' => exact .inl ⟨e', st', rfl, fun ρ' σ' H' P => SOk.shift P h⟩
  | rt v st' => exact .inr ⟨h, fun _ _ z => by cases z⟩
  | bk e st' => exact .inr ⟨h, fun _ _ z => by cases z⟩
  | ct e st' => exact .inr ⟨h, fun _ _ z => by cases z⟩
  | exc x e st' => exact .inr ⟨h, fun _ _ z => by cases z⟩
  | stuck => exact .inr ⟨h, fun _ _ z => by cases z⟩
theorem mxs_cons (h1 : MX X W tg g) (h2 : MXs X W tgs gs) (hs : (assignEach (tg :: tgs) X.env).map (·.2) = assign tg X.env :: (assignEach tgs X.env).map (·.2) := by rfl) : MXs X W (tg :: tgs) (g :: gs) := by
  obtain ⟨t1, p1, q1⟩ := h1
  obtain ⟨t2, p2, q2⟩ := h2
  refine ⟨_, pgs_cons p1 p2 hs, fun B ρ env st σ H ps vs Q R r hl h => ?_⟩
  cases ps with
  | nil => cases hl
  | cons p ps =>
    obtain ⟨v, vs', rfl, r1, r2⟩ := r.uncons
    have h : SOk X.K W B ρ env σ H ((g p env st).thn fun e st => gxSeq gs ps e st) (onlyNx Q) := h
    refine ⟨v, vs', rfl, q1 B ρ env st σ H p v _ R r1 ?_⟩
    rcases sok_thn h with ⟨e', st', er, h'⟩ | ⟨h', ne⟩
    · rw [er]
      exact fun ρ' σ' H' P => q2 B ρ' e' st' σ' H' ps vs' Q P.rep (P.rvs r2) (by simpa using hl) (h' ρ' σ' H' P)
    · cases er : g p env st with
      | nx e' st' => exact absurd er (ne _ _)
      | rt v st' => rw [er] at h'; exact fun ρ' e' σ' H' u P r => (h' ρ' e' σ' H' u P r).elim
      | bk e st' => rw [er] at h'; exact fun ρ' σ' H' P => (h' ρ' σ' H' P).elim
      | ct e st' => rw [er] at h'; exact fun ρ' σ' H' P => (h' ρ' σ' H' P).elim
      | exc x e st' => rw [er] at h'; exact h'
      | stuck => rw [er] at h'; exact h'.elim
theorem mx_tup {k : Nat} (hc : X.calm = true) (h : MXs X W tgs gs) (hn : (assignEach tgs X.env).length = gs.length := by rfl) (hst : (assignEach tgs X.env).findIdx? (·.1) = none := by rfl) : MX X W (.Tuple tgs k pos) (gxTup gs) := by
  obtain ⟨t, p, q⟩ := h
  refine ⟨_, pg_tup hc p hn hst, fun B ρ env st σ H pv v Q R r h => ?_⟩
  cases pv with
  | tup l =>
    obtain ⟨a, xs, rfl, e1, e2, rl⟩ := rv_tup r
    have h : SOk X.K W B ρ env σ H (if l.length = gs.length then gxSeq gs l env st else .stuck) (onlyNx Q) := h
    split at h
    · rename_i hl
      exact ⟨a, xs, rfl, e1.sq, by rw [rl.len]; exact hl, q B ρ env st σ H l xs Q R rl hl h⟩
    · exact h.elim
  | _ => exact h.elim
theorem ms_asgX (h : ME X W e fe) (hg : MX X W tg g) (hs : swapsWithSole [tg] e pos.line X.env = pure false := by rfl) (hw : swappedStores [tg] e X.env = pure none := by rfl)
    (h1 : (assignEach [tg] X.env).map (·.2) = [assign tg X.env] := by rfl) (hx : ∀ p e st, (match g p e st with | .nx _ _ => true | .exc _ _ _ => true | .stuck => true | _ => false) = true) : MS X W (.Assign [tg] e pos) (sAsgX g fe) := by
  obtain ⟨t, p, q⟩ := h
  obtain ⟨t2, pg, qg⟩ := hg
  refine ⟨_, ps_asg p pg hs hw h1, fun B ρ env st σ H D R h => ?_⟩
  refine q B ρ env st σ H _ R (ROk.mono (SOk.toS h) fun v ρ1 st1 H1 E1 h1 u ru => ?_)
  refine qg B ρ1 env st1 σ H1 v u _ E1.rep ru ?_
  have z := hx v env st1
  cases e1 : g v env st1 with
  | nx e' st' => rw [e1] at h1; exact h1
  | exc x e' st' => rw [e1] at h1; exact h1
  | stuck => rw [e1] at h1; exact h1.elim
  | rt _ _ => rw [e1] at z; cases z
  | bk _ _ => rw [e1] at z; cases z
  | ct _ _ => rw [e1] at z; cases z
end
def GxOk (g : GF) : Prop := ∀ p e st, (match g p e st with | .nx _ _ => true | .exc _ _ _ => true | .stuck => true | _ => false) = true
theorem gxok_fld {c0 f : Str} {o : EF PV} : GxOk (gxFld c0 f o) := fun p e st => by
  unfold gxFld
  cases o e st with
  | ok a st' =>
    dsimp only [RE.toS]
    cases fldSet c0 f st' a p <;> rfl
  | exc _ _ => rfl
  | stuck => rfl
theorem gxok_name {i : Nat} : GxOk (gxName i) := fun p e st => by
  unfold gxName
  cases bName i p e <;> rfl
def GxOks (gs : List GF) : Prop := ∀ ps e st, (match gxSeq gs ps e st with | .nx _ _ => true | .exc _ _ _ => true | .stuck => true | _ => false) = true
theorem gxoks_nil : GxOks [] := fun ps e st => by
  cases ps <;> rfl
theorem gxoks_cons {g : GF} {gs : List GF} (h : GxOk g) (t : GxOks gs) : GxOks (g :: gs) := fun ps e st => by
  cases ps with
  | nil => rfl
  | cons p ps =>
    show (match (g p e st).thn fun e st => gxSeq gs ps e st with | .nx _ _ => true | .exc _ _ _ => true | .stuck => true | _ => false) = true
    have q := h p e st
    cases er : g p e st with
    | nx e' st' => exact t ps e' st'
    | exc _ _ _ => rfl
    | stuck => rfl
    | rt _ _ => rw [er] at q; cases q
    | bk _ _ => rw [er] at q; cases q
    | ct _ _ => rw [er] at q; cases q
theorem gxok_tup {gs : List GF} (h : GxOks gs) : GxOk (gxTup gs) := fun p e st => by
  cases p with
  | tup l =>
    show (match (if l.length = gs.length then gxSeq gs l e st else .stuck : RS) with | .nx _ _ => true | .exc _ _ _ => true | .stuck => true | _ => false) = true
    by_cases hl : l.length = gs.length
    · rw [if_pos hl]
      exact h l e st
    · rw [if_neg hl]
  | _ => rfl
end PL
/-! PLw: own classes: constants, isinstance, len, repr; texts. -/
namespace PL
open PySem PySem.Spec L2
/-! ### a method, run a step below, without exceptions -/
section
variable {X : Cx} {k : Nat} {f C a dx : Addr} {fs : List (Str × V)} {fd : FuncData} {ps : List Str} {sp : Sp}
theorem run1 {pins : List (Addr × Obj)} {σ : L2.St} {H : Hp} {s : Shared} {Q : VK} {us : List Value} {vs : List V} (G : FnG X.prog X.w X.K X.mg X.base k f fd ps sp) (hr : Room (k + 1) X.A) (hgd : X.A.guards = some []) (hb : Binds X.K fd ps [])
    (I : Inv X pins σ H s) (r : Vals vs us) (h : sp vs H Q fun _ _ _ => False) : wpAny (model X.prog X.w) X.A.in1 (call (.ref f) us) (EP X pins σ Q) X.xe s := by
  have hl : (us ++ []).length = ps.length := by rw [List.append_nil, ← r.length]; exact G.len _ _ _ _ h
  have hb' := hb s us I.kIn hl
  rw [List.append_nil] at hb'
  refine wpAny_call (codeAny_mono (G.run X.A.in1 X.stack s H ⟨us, []⟩ us vs Q _ hr.in1 hgd I.env0.in1 hb' r h) fun r s' hq => ?_)
  cases r with
  | error e =>
    obtain ⟨_, _, _, _, _, _, _, _, _, _, _, _, z⟩ := hq
    exact z.elim
  | ok fl =>
    cases fl with
    | ret u => exact I.after hq
    | next => exact False.elim hq
    | brk => exact False.elim hq
    | cont => exact False.elim hq
/-- o, an instance of the class at C; sp its method's promise -/
def rOwn1 (C : Addr) (sp : Sp) (z : V → Prop) : List V → Hp → VK → Prop := fun xs H Q => ∃ a dx fs, xs = [.ref a] ∧ H a = some (.ins C dx fs) ∧ sp [.ref a] H (fun v H' => z v ∧ Q v H') fun _ _ _ => False
theorem call_lenO (hm : Meth X.K C "__len__" f) (G : FnG X.prog X.w X.K X.mg X.base k f fd ps sp) (hr : Room (k + 1) X.A) (hgd : X.A.guards = some []) (hb : Binds X.K fd ps []) :
    CallR X (.builtin "len") (rOwn1 C sp fun v => ∃ n : Int, v = .int n ∧ 0 ≤ n ∧ n < 2 ^ 63) := by
  intro pins s σ H xs us Q I r h
  obtain ⟨a, dx, fs, rfl, ea, h⟩ := h
  obtain ⟨u, rfl, ru⟩ := vals1 r
  obtain rfl : u = Value.ref a := ru
  obtain ⟨mA, O, _⟩ := ins_get I.hok ea
  obtain ⟨od, J, _⟩ := O.look
  obtain ⟨m, F⟩ := I.fr
  refine PySem.W.len_K F I.mod.kin J hm.at_ hm.fn (wpAny_mono (run1 (vs := [.ref a]) (us := [.ref a]) G hr hgd hb I (.cons rfl .nil) h) (fun v s' ⟨x, H', I', rx, ⟨n, en, n1, n2⟩, q⟩ => ?_) fun _ _ y => y)
  subst en
  obtain ⟨t, rfl⟩ := rx
  exact ⟨⟨n1, n2⟩, .int n, H', I'.tok _, ⟨_, rfl⟩, q⟩
theorem call_reprO (hm : Meth X.K C "__repr__" f) (G : FnG X.prog X.w X.K X.mg X.base k f fd ps sp) (hr : Room (k + 1) X.A) (hgd : X.A.guards = some []) (hb : Binds X.K fd ps []) :
    CallR X (.builtin "repr") (rOwn1 C sp fun v => ∃ n : Str, v = .str n) := by
  intro pins s σ H xs us Q I r h
  obtain ⟨a, dx, fs, rfl, ea, h⟩ := h
  obtain ⟨u, rfl, ru⟩ := vals1 r
  obtain rfl : u = Value.ref a := ru
  obtain ⟨mA, O, _⟩ := ins_get I.hok ea
  obtain ⟨od, J, _⟩ := O.look
  obtain ⟨m, F⟩ := I.fr
  refine PySem.W.repr_K hr.in1.units0 F I.mod.kin J hm.at_ hm.fn (wpAny_mono (run1 (vs := [.ref a]) (us := [.ref a]) G hr hgd hb I (.cons rfl .nil) h) (fun v s' ⟨x, H', I', rx, ⟨n, en⟩, q⟩ => ?_) fun _ _ y => y)
  subst en
  obtain ⟨t, rfl⟩ := rx
  exact ⟨.str n, H', I', ⟨_, rfl⟩, q⟩
end
/-- a builtin of one own object, by its method F -/
def eOwn1 (c0 : Str) (z : PV → Bool) (F : Fn) (a : EF PV) : EF PV := fun e st => (a e st).bind fun p st => if isIns c0 st p = true then ((F [p] st).noE).bind fun r st => if z r = true then .ok r st else .stuck else .stuck
def zLen : PV → Bool
  | .int n => decide (0 ≤ n ∧ n ≤ 9999999)
  | _ => false
def zStr : PV → Bool
  | .str _ => true
  | _ => false
section
variable {X : Cx} {W : WX} {e : Expr} {fe : EF PV} {c0 : Str} {pos p : Pos} {k : Nat} {f : Addr} {ps : List Str} {F : Fn} {z : PV → Bool} {zV : V → Prop}
theorem own1_ref {t : TE} (hz : ∀ N ρ H q v, RV X.K N ρ H q v → z q = true → zV v)
    (q : RefG X.K W t fe (RV X.K)) (hl : ps.length = 1) :
    RefG X.K W (fun σ H Q => t σ H fun x H1 => rOwn1 (He.ga X.K c0) (spF X.K ps.length F) zV [x] H1 Q) (eOwn1 c0 z F fe) (RV X.K) := by
  intro B ρ env st σ H Q R h
  refine q B ρ env st σ H _ R (ROk.mono (ROk.bind h) fun pv ρ1 st1 H1 E1 h1 u ru => ?_)
  by_cases hi : isIns c0 st1 pv = true
  · rw [if_pos hi] at h1
    obtain ⟨ns, vs, ei⟩ := isIns_some hi
    obtain ⟨a, dx, ws, rfl, h2, h3, h4⟩ := ins_at E1.rep ru ei
    refine ⟨a, dx, _, rfl, h2, spF_of (W := WF) E1.rep (.cons ru .nil) hl.symm ?_⟩
    cases hF : F [pv] st1 with
    | stuck => rw [hF] at h1; exact h1.elim
    | exc _ _ => rw [hF] at h1; exact h1.elim
    | ok r st2 =>
      rw [hF] at h1
      have h1 : ROk X.K W B ρ1 env σ H1 (if z r = true then .ok r st2 else .stuck) (fun p ρ' st' H' => ∀ u, RV X.K (Excl B ρ' env σ) ρ' H' p u → Q u H') := h1
      by_cases hr : z r = true
      · rw [if_pos hr] at h1
        exact fun ρ' H' E u ru => ⟨hz _ _ _ _ _ ru hr, h1 ρ' H' E u ru⟩
      · rw [if_neg hr] at h1
        exact h1.elim
  · rw [if_neg hi] at h1
    exact h1.elim
theorem m_lenO (h : ME X W e fe) (hm : Meth X.K (He.ga X.K c0) "__len__" f) (G : CalA X.prog X.w X.K X.mg X.base k f ps F) (hl : ps.length = 1) (hr : Room (k + 1) X.A) (hgd : X.A.guards = some []) (hmg : X.mg "len" = none) (hg : Gl X "len" := by rfl)
    (he : starEach [e] X.env = (false, eval e X.env) :: starEach [] X.env := by rfl) (hpl : (backTo pos (starEach [] X.env)).any (·.1) = false := by rfl) : ME X W (.Call (.Name "len" p) [e] [] pos) (eOwn1 c0 zLen F fe) := by
  obtain ⟨t, pt, q⟩ := h
  obtain ⟨fd, G, bd⟩ := G
  refine ⟨_, ?_, own1_ref (zV := fun v => ∃ n : Int, v = .int n ∧ 0 ≤ n ∧ n < 2 ^ 63) (fun N ρ H q v r hz => ?_) q hl⟩
  · exact pe_callB (call_lenO hm G hr hgd bd) hg hmg (by decide +kernel) (pa_cons pt pa_nil he) (by decide) (by decide) he hpl
  · cases q with
    | int n =>
      have := rv_int r
      subst this
      have hz := of_decide_eq_true hz
      exact ⟨n, rfl, hz.1, Int.lt_of_le_of_lt hz.2 (by decide)⟩
    | _ => cases hz
theorem m_reprO (h : ME X W e fe) (hm : Meth X.K (He.ga X.K c0) "__repr__" f) (G : CalA X.prog X.w X.K X.mg X.base k f ps F) (hl : ps.length = 1) (hr : Room (k + 1) X.A) (hgd : X.A.guards = some []) (hmg : X.mg "repr" = none) (hg : Gl X "repr" := by rfl)
    (he : starEach [e] X.env = (false, eval e X.env) :: starEach [] X.env := by rfl) (hpl : (backTo pos (starEach [] X.env)).any (·.1) = false := by rfl) : ME X W (.Call (.Name "repr" p) [e] [] pos) (eOwn1 c0 zStr F fe) := by
  obtain ⟨t, pt, q⟩ := h
  obtain ⟨fd, G, bd⟩ := G
  refine ⟨_, ?_, own1_ref (zV := fun v => ∃ n : Str, v = .str n) (fun N ρ H q v r hz => ?_) q hl⟩
  · exact pe_callB (call_reprO hm G hr hgd bd) hg hmg (by decide +kernel) (pa_cons pt pa_nil he) (by decide) (by decide) he hpl
  · cases q with
    | str n =>
      have := rv_str r
      subst this
      exact ⟨n, rfl⟩
    | _ => cases hz
end
/-! ### a class's constants -/
/-- o.f, a constant of the class, the value v -/
def eCon (c0 f : Str) (v : PV) (a : EF PV) : EF PV := fun e st => (a e st).bind fun p st => if isInsNo c0 f st p = true then .ok v st else .stuck
/-- a plain constant as a value -/
def litV : PV → Option V
  | .non => some .non
  | .bl b => some (.bl b)
  | .int i => some (.int i)
  | .str x => some (.str x)
  | _ => none
theorem lit_rv {K : PySem.W.Frag} {N : Addr → Prop} {ρ : List Addr} {H : Hp} {p : PV} {v u : V} (h : litV p = some v) (r : u = v) : RV K N ρ H p u := by
  subst r
  cases p <;> cases h <;> unfold RV <;> rfl
theorem lit_rv' {K : PySem.W.Frag} {N : Addr → Prop} {ρ : List Addr} {H : Hp} {p : PV} {v : V} (h : litV p = some v) : RV K N ρ H p v := lit_rv h rfl
section
variable {X : Cx} {W : WX} {e : Expr} {fe : EF PV} {c0 f : Str} {pos p : Pos} {pv : PV} {v : V}
theorem m_con (h : ME X W e fe) (c : Cls X.K (He.ga X.K c0)) (hc : ∃ u, Con X.K (He.ga X.K c0) f v u) (hv : litV pv = some v) (hb : attributeBase e f X.env (eval e X.env) = eval e X.env := by rfl) : ME X W (.Attribute e f pos) (eCon c0 f pv fe) := by
  obtain ⟨t, p, q⟩ := h
  obtain ⟨u, hc⟩ := hc
  refine ⟨_, pe_con p hb, fun B ρ env st σ H Q R h => ?_⟩
  refine q B ρ env st σ H _ R (ROk.mono (ROk.bind h) fun q ρ1 st1 H1 E1 h1 x rx => ?_)
  by_cases hi : isInsNo c0 f st1 q = true
  · rw [if_pos hi] at h1
    obtain ⟨ns, vs, ei, en⟩ := isInsNo_some hi
    obtain ⟨a, dx, ws, rfl, h2, h3, h4⟩ := ins_at E1.rep rx ei
    exact ⟨a, _, dx, _, v, u, rfl, h2, c, hc, zip_no en, h1 ρ1 H1 (.refl E1.rep) _ (lit_rv' hv)⟩
  · rw [if_neg hi] at h1
    exact h1.elim
/-- C.f -/
theorem m_conC {mc : Value} (hg : Gl X c0) (hm : X.mg c0 = some (.ref (He.ga X.K c0))) (r : ClX.CRead X.K (He.ga X.K c0) mc) (hc : ∃ u, ClX.CVal X.K (He.ga X.K c0) mc f v u) (hv : litV pv = some v) (hd : (c0 == ("__debug__" : Str)) = false := by decide)
    (hb : attributeBase (.Name c0 p) f X.env (eval (.Name c0 p) X.env) = eval (.Name c0 p) X.env := by rfl) : ME X W (.Attribute (.Name c0 p) f pos) (eC pv) := by
  obtain ⟨u, hc⟩ := hc
  refine ⟨_, ClX.pe_cval (pe_glob (v := .ref (He.ga X.K c0)) hg hm rfl hd) hb, fun B ρ env st σ H Q R h => ?_⟩
  exact ⟨_, mc, v, u, rfl, r, hc, h ρ H (.refl R) _ (lit_rv' hv)⟩
end
/-! ### isinstance against an own class -/
/-- what isinstance asks of instances of the class -/
structure InsTy (K : PySem.W.Frag) (C : Addr) : Prop where
  cl : Cls K C
  ha : PySem.W.findIn K (.ref C) "__class__" = some (some (.builtin "object.__class__"))
  hn : PySem.W.specialIn K (.builtin "object.__class__") "__get__" = some (some (.builtin "getset_descriptor.__get__"))
  htk : PySem.W.takesIn K (.builtin "object.__class__") = some true
  hm : PySem.W.mroIn K C (.type "object") = some true
theorem ty_ins {K : PySem.W.Frag} {H : Hp} {a C dx : Addr} {fs : List (Str × V)} (e : H a = some (.ins C dx fs)) (t : InsTy K C) : TyX K H (.ref a) (.ref C) := .base (.ins e t.cl t.ha t.hn t.htk t.hm)
/-- C0 as isinstance's second: no built-in is of it; the own classes cs that are, or are not -/
structure InsOf (K : PySem.W.Frag) (c0 : Str) (cs : List (Str × Bool)) : Prop where
  bt : ∀ T ∈ ["NoneType", "bool", "int", "str", "tuple", "list"], PySem.W.kitOne K (.type T) (.ref (He.ga K c0)) = some false
  ow : ∀ q ∈ cs, InsTy K (He.ga K q.1) ∧ PySem.W.kitOne K (.ref (He.ga K q.1)) (.ref (He.ga K c0)) = some q.2
def isOwn (cs : List (Str × Bool)) (st : Sto) (p : PV) : Option Bool := match insF st p with
  | some (c, _, _) => cs.lookup c
  | none => match p with
    | .gl _ => none
    | .ins _ _ _ => none
    | .scr _ => none
    | _ => some false
def eIsO (cs : List (Str × Bool)) (a : EF PV) : EF PV := fun e st => (a e st).bind fun p st => .of ((isOwn cs st p).map .bl) st
theorem lookup_mem' {α β : Type} [BEq α] [LawfulBEq α] {a : α} {b : β} : ∀ {l : List (α × β)}, l.lookup a = some b → (a, b) ∈ l
  | [], h => by cases h
  | (x, y) :: r, h => by
    rw [List.lookup_cons] at h
    split at h
    · rename_i e
      cases h
      rw [beq_iff_eq.mp e]
      exact List.mem_cons_self
    · exact List.mem_cons_of_mem _ (lookup_mem' h)
section
variable {X : Cx} {W : WX} {a : Expr} {fa : EF PV} {c0 : Str} {cs : List (Str × Bool)} {p p2 pos : Pos}
theorem m_isO (ha : ME X W a fa) (hC : InsOf X.K c0 cs) (hm : X.mg "isinstance" = none) (hm2 : X.mg c0 = some (.ref (He.ga X.K c0))) (hg : Gl X "isinstance" := by rfl) (hg2 : Gl X c0 := by rfl) (hd : (c0 == ("__debug__" : Str)) = false := by decide)
    (h1 : starEach [a, .Name c0 p2] X.env = (false, eval a X.env) :: starEach [.Name c0 p2] X.env := by rfl) (h2 : starEach [.Name c0 p2] X.env = (false, eval (.Name c0 p2) X.env) :: starEach [] X.env := by rfl)
    (hpl : (backTo pos (starEach [.Name c0 p2] X.env)).any (·.1) = false := by rfl) : ME X W (.Call (.Name "isinstance" p) [a, .Name c0 p2] [] pos) (eIsO cs fa) := by
  obtain ⟨ta, pa, qa⟩ := ha
  refine ⟨_, pe_callB call_isi hg hm (by decide +kernel) (pa_cons pa (pa_cons (pe_glob (v := .ref (He.ga X.K c0)) hg2 hm2 rfl hd) pa_nil h2) h1) (by decide) (by decide) h1 hpl, fun B ρ env st σ H Q R h => ?_⟩
  refine qa B ρ env st σ H _ R (ROk.mono (ROk.bind h) fun q ρ1 st1 H1 E1 h1 x rx => ?_)
  obtain ⟨z, ez, hz⟩ := ROk.of E1.rep h1
  cases eb : isOwn cs st1 q with
  | none => rw [eb] at ez; cases ez
  | some b =>
    rw [eb] at ez
    cases ez
    have fin : ∀ t, TyX X.K H1 x t → PySem.W.kitOne X.K t (.ref (He.ga X.K c0)) = some b → rIsi X.K [x, .ref (He.ga X.K c0)] H1 Q := fun t ty e => ⟨x, .ref (He.ga X.K c0), t, .ref (He.ga X.K c0), b, rfl, .own _, ty, e, hz H1 Ext.refl _ mk_bl⟩
    unfold isOwn at eb
    cases ei : insF st1 q with
    | some r =>
      obtain ⟨c, ns, vs⟩ := r
      rw [ei] at eb
      obtain ⟨ad, dx, ws, rfl, e2, _, _⟩ := ins_at E1.rep rx ei
      obtain ⟨k1, k2⟩ := hC.ow _ (lookup_mem' (show cs.lookup c = some b from eb))
      exact fin _ (ty_ins e2 k1) k2
    | none =>
      rw [ei] at eb
      have go : b = false → (∀ l, q ≠ .scr l) → (∀ n, q ≠ .gl n) → (∀ c ns l, q ≠ .ins c ns l) → tyN q ∈ ["NoneType", "bool", "int", "str", "tuple", "list"] → rIsi X.K [x, .ref (He.ga X.K c0)] H1 Q := fun e n1 n2 n3 ht => by
        subst e
        exact fin _ (ty_of rx.b n1 n2 n3) (hC.bt _ ht)
      cases q with
      | gl _ => cases eb
      | ins _ _ _ => cases eb
      | scr _ => cases eb
      | non => exact go (Option.some.inj eb).symm (fun _ z => by cases z) (fun _ z => by cases z) (fun _ _ _ z => by cases z) (by simp [tyN])
      | bl _ => exact go (Option.some.inj eb).symm (fun _ z => by cases z) (fun _ z => by cases z) (fun _ _ _ z => by cases z) (by simp [tyN])
      | int _ => exact go (Option.some.inj eb).symm (fun _ z => by cases z) (fun _ z => by cases z) (fun _ _ _ z => by cases z) (by simp [tyN])
      | str _ => exact go (Option.some.inj eb).symm (fun _ z => by cases z) (fun _ z => by cases z) (fun _ _ _ z => by cases z) (by simp [tyN])
      | tup _ => exact go (Option.some.inj eb).symm (fun _ z => by cases z) (fun _ z => by cases z) (fun _ _ _ z => by cases z) (by simp [tyN])
      | lst _ => exact go (Option.some.inj eb).symm (fun _ z => by cases z) (fun _ z => by cases z) (fun _ _ _ z => by cases z) (by simp [tyN])
end
/-! ### texts -/
def strOfN : PV → Option Str
  | .str y => if y.length ≤ LINE then some y else none
  | .int i => if i.natAbs.log2 < 1920 then some (toString i) else none
  | _ => none
/-- str(a) of an int or a text -/
def strF : List PV → Option PV
  | [.int i] => if i.natAbs.log2 < 1920 then some (.str (toString i)) else none
  | [.str y] => some (.str y)
  | _ => none
def strsOf : List PV → Option (List Str)
  | [] => some []
  | .str y :: r => (strsOf r).map (y :: ·)
  | _ => none
def joinF (a : Str) : PV → Option PV
  | .lst l => match strsOf l with
    | some ys => if (ys.map (·.length)).sum + ys.length * a.length ≤ 16777216 then some (.str (PySem.Txt.join a ys)) else none
    | none => none
  | .tup l => match strsOf l with
    | some ys => if (ys.map (·.length)).sum + ys.length * a.length ≤ 16777216 then some (.str (PySem.Txt.join a ys)) else none
    | none => none
  | _ => none
/-- a text's method, one argument -/
def eTx (op : Str → PV → Option PV) (a b : EF PV) : EF PV := fun e st => (a e st).bind fun p st => match p with
  | .str x => (b e st).bind fun q st => .of (op x q) st
  | _ => .stuck
def eFmt (a : EF PV) : EF PV := fun e st => (a e st).bind fun p st => .of ((strOfN p).map .str) st
def jNil : Str → EF Str := fun acc _ st => .ok acc st
def jCons (a : EF PV) (r : Str → EF Str) : Str → EF Str := fun acc e st => (a e st).bind fun p st => match p with
  | .str y => if (acc ++ y).length ≤ LINE then r (acc ++ y) e st else .stuck
  | _ => .stuck
def eJStr (g : Str → EF Str) : EF PV := fun e st => (g Str.empty e st).bind fun y st => .ok (.str y) st
def MJ (X : Cx) (W : WX) (es : List Expr) (g : Str → EF Str) : Prop := ∃ ts, PJ X es ts ∧ ∀ acc B ρ env st σ H Q, Rep X.K B ρ env st σ H →
  ROk X.K W B ρ env σ H (g acc env st) (fun y ρ' st' H' => Q y H') → tJs ts acc σ H Q
theorem strs_rv {K : PySem.W.Frag} {N : Addr → Prop} {ρ : List Addr} {H : Hp} : ∀ {l : List PV} {ys : List Str} {xs : List V}, strsOf l = some ys → RVs K N ρ H l xs → xs = ys.map V.str
  | [], ys, xs, h, r => by cases h; exact r.unnil
  | p :: l, ys, xs, h, r => by
    obtain ⟨v, vs, rfl, r1, r2⟩ := r.uncons
    cases p with
    | str y =>
      have h : (strsOf l).map (y :: ·) = some ys := h
      cases e : strsOf l with
      | none => rw [e] at h; cases h
      | some zs =>
        rw [e] at h
        cases h
        rw [rv_str r1, strs_rv e r2]
        rfl
    | _ => cases h
section
variable {X : Cx} {W : WX} {e o v1 v2 : Expr} {es : List Expr} {fe fo : EF PV} {g : Str → EF Str} {gl : EF (List PV)} {pos p apos : Pos}
theorem m_fmt (h : ME X W e fe) : ME X W (.FormattedValue e (-1) none pos) (eFmt fe) := by
  obtain ⟨t, p, q⟩ := h
  refine ⟨_, pe_fmt p, fun B ρ env st σ H Q R h => ?_⟩
  refine q B ρ env st σ H _ R (ROk.mono (ROk.bind h) fun pv ρ1 st1 H1 E1 h1 x rx => ?_)
  obtain ⟨z, ez, hz⟩ := ROk.of E1.rep h1
  unfold strOfN at ez
  split at ez
  · split at ez
    · rename_i hl
      cases ez
      exact .inl ⟨_, rv_str rx, by rw [← LINE_eq]; exact hl, hz H1 Ext.refl _ mk_str⟩
    · cases ez
  · split at ez
    · rename_i hl
      cases ez
      exact .inr ⟨_, rv_int rx, hl, hz H1 Ext.refl _ mk_str⟩
    · cases ez
  · cases ez
theorem mj_nil : MJ X W [] jNil := ⟨[], .nil, fun acc B ρ env st σ H Q R h => h ρ H (.refl R)⟩
theorem mj_cons (h : ME X W e fe) (hr : MJ X W es g) : MJ X W (e :: es) (jCons fe g) := by
  obtain ⟨t, p, q⟩ := h
  obtain ⟨ts, pr, qr⟩ := hr
  refine ⟨t :: ts, .cons p pr, fun acc B ρ env st σ H Q R h => ?_⟩
  refine q B ρ env st σ H _ R (ROk.mono (ROk.bind h) fun pv ρ1 st1 H1 E1 h1 x rx => ?_)
  cases pv with
  | str y =>
    dsimp only at h1
    split at h1
    · rename_i hl
      exact ⟨y, rv_str rx, by rw [← LINE_eq]; exact hl, qr _ B ρ1 env st1 σ H1 Q E1.rep h1⟩
    · exact h1.elim
  | _ => exact h1.elim
theorem m_jstr (h : MJ X W (v1 :: v2 :: es) g) : ME X W (.JoinedStr (v1 :: v2 :: es) pos) (eJStr g) := by
  obtain ⟨ts, p, q⟩ := h
  refine ⟨_, pe_joined p, fun B ρ env st σ H Q R h => ?_⟩
  exact q _ B ρ env st σ H _ R (ROk.mono (ROk.bind h) fun y ρ1 st1 H1 E1 h1 => h1 ρ1 H1 (.refl E1.rep) _ mk_str)
theorem c_str : CallP X (.type "str") strF := by
  refine ⟨fun xs H Q => (∃ i : Int, xs = [.int i] ∧ i.natAbs.log2 < 1920 ∧ Q (.str (toString i)) H) ∨ ∃ a : Str, xs = [.str a] ∧ Q (.str a) H, fun pins s σ H xs us Q I r h => ?_, fun N ρ H xs ps z Q hN hx ho hQ => ?_⟩
  · rcases h with h | h
    · exact call_str_int pins s σ H xs us Q I r h
    · exact SkE.call_str_str pins s σ H xs us Q I r h
  · unfold strF at ho
    split at ho
    · split at ho
      · rename_i hl
        cases ho
        obtain ⟨v, rfl, r, _⟩ := hx.one
        exact .inl ⟨_, by rw [rvb_int r], hl, hQ H _ Ext.refl mk_str⟩
      · cases ho
    · cases ho
      obtain ⟨v, rfl, r, _⟩ := hx.one
      exact .inr ⟨_, by rw [rvb_str r], hQ H _ Ext.refl mk_str⟩
    · cases ho
theorem g_str (hm : X.mg "str" = none) (ha : MAb X W (e :: es) gl) (hg : Gl X "str" := by rfl) (he : starEach (e :: es) X.env = (false, eval e X.env) :: starEach es X.env := by rfl) (hpl : (backTo pos (starEach es X.env)).any (·.1) = false := by rfl) : ME X W (.Call (.Name "str" p) (e :: es) [] pos) (eB strF gl) := m_callTy c_str hg hm (by decide +kernel) ha (by decide) (by decide) he hpl
theorem m_join (ho : ME X W o fo) (he : MB X W e fe) (hs : starEach [e] X.env = [(false, eval e X.env)] := by rfl) (hbase : attributeBase o "join" X.env (eval o X.env) = eval o X.env := by rfl) (hline : (apos.endLine == pos.line) = true := by rfl) :
    ME X W (.Call (.Attribute o "join" apos) [e] [] pos) (eTx joinF fo fe) := by
  obtain ⟨to, po, qo⟩ := ho
  obtain ⟨te, pe, qe⟩ := he
  refine ⟨_, pe_join po pe hs hbase hline, fun B ρ env st σ H Q R h => ?_⟩
  refine qo B ρ env st σ H _ R (ROk.mono (ROk.bind h) fun pv ρ1 st1 H1 E1 h1 x rx => ?_)
  cases pv with
  | str a0 =>
    refine ⟨⟨a0, rv_str rx⟩, qe B ρ1 env st1 σ H1 _ E1.rep (ROk.mono (ROk.bind h1) fun qv ρ2 st2 H2 E2 h2 y ry => ?_)⟩
    obtain ⟨z, ez, hz⟩ := ROk.of E2.rep h2
    unfold joinF at ez
    split at ez
    · split at ez
      · rename_i l ys e
        split at ez
        · rename_i hl
          cases ez
          obtain ⟨b, xs, rfl, e1, e2, e3⟩ := rvb_lst ry.1
          have := strs_rv e e3
          subst this
          exact ⟨_, b, ys, rv_str rx, rfl, .inl (SqL.of e1), hl, hz H2 Ext.refl _ mk_str⟩
        · cases ez
      · cases ez
    · split at ez
      · rename_i l ys e
        split at ez
        · rename_i hl
          cases ez
          obtain ⟨b, xs, rfl, e1, e2, e3⟩ := rvb_tup ry.1
          have := strs_rv e e3
          subst this
          exact ⟨_, b, ys, rv_str rx, rfl, .inr e1.sq, hl, hz H2 Ext.refl _ mk_str⟩
        · cases ez
      · cases ez
    · cases ez
  | _ => exact h1.elim
end
end PL
/-! PLx: lists in the store: made, measured, popped, appended to; in and not in of nested data. -/
namespace PL
open PySem PySem.Spec L2
section
variable {K : PySem.W.Frag} {B : Addr → Prop} {ρ : List Addr} {env : Env} {st : Sto} {σ : L2.St} {H : Hp}
/-- a new list, a thing of the store from now on -/
theorem EPost.newG (R : Rep K B ρ env st σ H) {p : Addr} {l : List PV} {xs : List V} (np : H p = none) (hl : xs.length ≤ LINE) (r : RVs K (Excl B ρ env σ) ρ H l xs) :
    EPost K B ρ env σ H (ρ ++ [p]) (st ++ [.lst l]) (upd H p (.lst xs)) := by
  have E : Ext H (upd H p (.lst xs)) := Ext.new np
  have tr : ∀ a, H a ≠ none → (upd H p (.lst xs)) a ≠ none := fun a h z => by
    cases e : H a with
    | none => exact h e
    | some o => rw [E a o e] at z; cases z
  have pr : p ∉ ρ := fun z => R.rT p z np
  have less : ∀ a o, H a = some o → Excl B (ρ ++ [p]) env σ a → Excl B ρ env σ a := fun a o e n => by
    rcases n with n | n | n
    · exact .inl n
    · rcases List.mem_append.mp n with n | n
      · exact .inr (.inl n)
      · rw [List.mem_singleton.mp n, np] at e
        cases e
    · exact .inr (.inr n)
  refine ⟨⟨R.lenE, by simp [R.lenC], List.nodup_append.mpr ⟨R.nd, by simp, fun a ha c hc z => pr (by rw [← List.mem_singleton.mp hc, ← z]; exact ha)⟩, fun n c a h1 h2 => ?_, fun a h => ?_, fun a h => ?_, fun a h => tr a (R.bT a h), fun i e h => ?_, fun a h => ?_, R.sep⟩, List.prefix_append _ _, fun a o e _ => E a o e, tr, fun a h n => ?_⟩
  · by_cases hn : n < st.length
    · rw [List.getElem?_append_left hn] at h1
      rw [List.getElem?_append_left (by rw [R.lenC]; exact hn)] at h2
      exact (R.cell n c a h1 h2).carry less (fun a o e _ => E a o e) (List.prefix_append ρ [p]) fun o q => E a o q
    · rw [List.getElem?_append_right (by omega)] at h1
      rw [List.getElem?_append_right (by rw [R.lenC]; omega), R.lenC] at h2
      have e0 : n - st.length = 0 := by
        by_cases h0 : n - st.length = 0
        · exact h0
        · rw [List.getElem?_eq_none (by simp; omega)] at h1
          cases h1
      rw [e0] at h1 h2
      cases h1
      cases h2
      exact ⟨xs, upd_same, hl, RVs.carry less (fun a o e _ => E a o e) (List.prefix_append ρ [p]) _ _ r⟩
  · rcases List.mem_append.mp h with h | h
    · exact tr a (R.rT a h)
    · rw [List.mem_singleton.mp h, upd_same]
      exact fun z => by cases z
  · rcases List.mem_append.mp h with h | h
    · exact R.rB a h
    · rw [List.mem_singleton.mp h]
      exact fun z => R.bT p z np
  · have q := R.slot i e h
    cases e with
    | non => trivial
    | val v =>
      obtain ⟨u, q1, q2⟩ := q
      exact ⟨u, q1, RV.carry less (fun a o e _ => E a o e) (List.prefix_append ρ [p]) _ _ q2⟩
    | own m =>
      obtain ⟨b, ys, q0, q1, q2, q3⟩ := q
      exact ⟨b, ys, q0, E b _ q1, q2, RVs.carry less (fun a o e _ => E a o e) (List.prefix_append ρ [p]) _ _ q3⟩
  · refine ⟨fun z => ?_, (R.oR a h).2⟩
    rcases List.mem_append.mp z with z | z
    · exact (R.oR a h).1 z
    · obtain ⟨ys, q⟩ := R.oT h
      rw [List.mem_singleton.mp z, np] at q
      cases q
  · rcases List.mem_append.mp h with h | h
    · exact absurd h n
    · rw [List.mem_singleton.mp h]
      exact np
end
def eNewG (l : EF (List PV)) : EF PV := fun e st => (l e st).bind fun l st => .ok (.gl st.length) (st ++ [.lst l])
def lstAt (st : Sto) : PV → Option (Nat × List PV)
  | .gl n => match st[n]? with
    | some (.lst l) => some (n, l)
    | _ => none
  | _ => none
def eLenG (a : EF PV) : EF PV := fun e st => (a e st).bind fun p st => match lstAt st p with
  | some (_, l) => .ok (.int l.length) st
  | none => .stuck
def ePopG (a k : EF PV) : EF PV := fun e st => (a e st).bind fun p st => match lstAt st p with
  | some _ => (k e st).bind fun q st => match lstAt st p, q with
    | some (n, l), .int i => match popAt l i with
      | some (y, m) => .ok y (st.set n (.lst m))
      | none => .stuck
    | _, _ => .stuck
  | none => .stuck
def eAppG (a v : EF PV) : EF PV := fun e st => (a e st).bind fun p st => match lstAt st p with
  | some _ => (v e st).bind fun q st => match lstAt st p with
    | some (n, l) => if l.length < LINE then .ok .non (st.set n (.lst (l ++ [q]))) else .stuck
    | none => .stuck
  | none => .stuck
theorem Rep.lst {K : PySem.W.Frag} {B : Addr → Prop} {ρ : List Addr} {env : Env} {st : Sto} {σ : L2.St} {H : Hp} (R : Rep K B ρ env st σ H) {p : PV} {u : V} {n : Nat} {l : List PV} (r : RV K (Excl B ρ env σ) ρ H p u) (h : lstAt st p = some (n, l)) :
    p = .gl n ∧ st[n]? = some (.lst l) ∧ ∃ a xs, u = .ref a ∧ ρ[n]? = some a ∧ H a = some (.lst xs) ∧ xs.length ≤ LINE ∧ RVs K (Excl B ρ env σ) ρ H l xs := by
  cases p with
  | gl m =>
    have h2 : (match st[m]? with
      | some (.lst l) => some (m, l)
      | _ => none) = some (n, l) := h
    cases e : st[m]? with
    | none => rw [e] at h2; cases h2
    | some c =>
      rw [e] at h2
      cases c with
      | lst l' =>
        cases h2
        obtain ⟨a, rfl, hn⟩ := rv_gl r
        obtain ⟨xs, q1, q2, q3⟩ := R.cell _ _ a e hn
        exact ⟨rfl, e, a, xs, rfl, hn, q1, q2, q3⟩
      | dead => cases h2
      | ins _ _ _ => cases h2
  | _ => cases h
theorem Post.toE {K : PySem.W.Frag} {B : Addr → Prop} {ρ ρ' : List Addr} {env : Env} {st' : Sto} {σ : L2.St} {H H' : Hp} (P : Post K B ρ env σ H ρ' env st' σ H') (h : ∀ a, Owned env σ a → ∀ o, H a = some o → H' a = some o) : EPost K B ρ env σ H ρ' st' H' :=
  ⟨P.rep, P.pre, fun a o e n => by
    by_cases ho : Owned env σ a
    · exact h a ho o e
    · exact P.kp a o e n ho, P.tr, P.fr⟩
theorem EPost.cellW {K : PySem.W.Frag} {B : Addr → Prop} {ρ : List Addr} {env : Env} {st : Sto} {σ : L2.St} {H : Hp} (R : Rep K B ρ env st σ H) {n : Nat} {l m : List PV} {a : Addr} {ys : List V} (e : st[n]? = some (.lst l)) (ea : ρ[n]? = some a) (hl : ys.length ≤ LINE) (r : RVs K (Excl B ρ env σ) ρ H m ys) :
    EPost K B ρ env σ H ρ (st.set n (.lst m)) (upd H a (.lst ys)) :=
  (R.cellWrite e ea hl r).toE fun b ho o eo => by
    rw [upd_ne (fun z => (R.oR b ho).1 (by rw [z]; exact List.mem_of_getElem? ea))]
    exact eo
section
variable {X : Cx} {W : WX} {e o k : Expr} {fe fo fk : EF PV} {fl : EF (List PV)} {pos apos p : Pos}
theorem m_newG (h : ML X W e fl) : ME X W e (eNewG fl) := by
  obtain ⟨t, p, q⟩ := h
  refine ⟨t, p, fun B ρ env st σ H Q R h => ?_⟩
  refine q B ρ env st σ H Q R (ROk.mono (ROk.bind h) fun l ρ1 st1 H1 E1 h1 p xs H2 np e2 hl rxs => ?_)
  subst e2
  refine h1 _ _ (.newG E1.rep np hl rxs) (.ref p) ?_
  unfold RV
  refine ⟨p, rfl, ?_⟩
  rw [List.getElem?_append_right (by rw [E1.rep.lenC]; exact Nat.le_refl _), E1.rep.lenC, Nat.sub_self]
  rfl
theorem m_lenG (h : ME X W e fe) (hmg : X.mg "len" = none) (hg : Gl X "len" := by rfl) (he : starEach [e] X.env = (false, eval e X.env) :: starEach [] X.env := by rfl) (hpl : (backTo pos (starEach [] X.env)).any (·.1) = false := by rfl) : ME X W (.Call (.Name "len" p) [e] [] pos) (eLenG fe) := by
  obtain ⟨t, pt, q⟩ := h
  refine ⟨_, pe_callB call_len hg hmg (by decide +kernel) (pa_cons pt pa_nil he) (by decide) (by decide) he hpl, fun B ρ env st σ H Q R h => ?_⟩
  refine q B ρ env st σ H _ R (ROk.mono (ROk.bind h) fun pv ρ1 st1 H1 E1 h1 x rx => ?_)
  cases el : lstAt st1 pv with
  | none => rw [el] at h1; exact h1.elim
  | some r =>
    obtain ⟨n, l⟩ := r
    rw [el] at h1
    obtain ⟨rfl, es, a, xs, rfl, hn, q1, q2, q3⟩ := E1.rep.lst rx el
    refine ⟨_, xs.length, rfl, .inl ⟨xs, SqL.of q1, rfl⟩, ?_⟩
    rw [q3.len]
    exact h1 ρ1 H1 (.refl E1.rep) _ mk_int
theorem m_popG (ho : ME X W o fo) (hk : ME X W k fk)
    (hbase : attributeBase o "pop" X.env (eval o X.env) = eval o X.env := by rfl)
    (hfew : ((backTo pos (starEach [k] X.env)).all (fun x => !x.1) && (backToKw pos (keywordEach [] X.env)).all (fun x => x.1.isSome) && decide ([k].length + ([] : List Keyword).length + (if ([] : List Keyword).isEmpty then 0 else 1) < 30)) = true := by rfl)
    (hline : (apos.endLine == pos.line) = true := by rfl) (hs : starEach [k] X.env = (false, eval k X.env) :: starEach [] X.env := by rfl) (hplain : (backTo pos (starEach [] X.env)).any (·.1) = false := by rfl) :
    ME X W (.Call (.Attribute o "pop" apos) [k] [] pos) (ePopG fo fk) := by
  obtain ⟨t1, p1, q1⟩ := ho
  obtain ⟨t2, p2, q2⟩ := hk
  refine ⟨_, pe_bm PySem.F.plainAttrs_list PySem.F.slot_list_pop PySem.F.type_list_pop mt_popAt p1 (pa_cons p2 pa_nil hs) hbase hfew hline hs hplain, fun B ρ env st σ H Q R h => ?_⟩
  refine q1 B ρ env st σ H _ R (ROk.mono (ROk.bind h) fun pv ρ1 st1 H1 E1 h1 x rx => ?_)
  cases el : lstAt st1 pv with
  | none => rw [el] at h1; exact h1.elim
  | some r =>
    obtain ⟨n, l⟩ := r
    rw [el] at h1
    obtain ⟨rfl, es, a, xs, rfl, hn, c1, c2, c3⟩ := E1.rep.lst rx el
    refine ⟨.inl ⟨rfl, xs, SqL.of c1⟩, q2 B ρ1 env st1 σ H1 _ E1.rep (ROk.mono (ROk.bind h1) fun qv ρ2 st2 H2 E2 h2 y ry => ?_)⟩
    cases el2 : lstAt st2 (.gl n) with
    | none => rw [el2] at h2; exact h2.elim
    | some r2 =>
      obtain ⟨n2, l2⟩ := r2
      rw [el2] at h2
      obtain ⟨en, es2, a2, ys, ea, hn2, d1, d2, d3⟩ := E2.rep.lst (E2.post.rv rx) el2
      cases en
      cases ea
      cases qv with
      | int i =>
        dsimp only at h2
        cases ep : popAt l2 i with
        | none => rw [ep] at h2; exact h2.elim
        | some r3 =>
          obtain ⟨py, m⟩ := r3
          rw [ep] at h2
          unfold popAt at ep
          cases ei : ixN l2.length i with
          | none => rw [ei] at ep; cases ep
          | some jj =>
            rw [ei] at ep
            dsimp only at ep
            cases eg : l2[jj]? with
            | none => rw [eg] at ep; cases ep
            | some y0 =>
              rw [eg] at ep
              cases ep
              obtain ⟨yv, b1, b2⟩ := d3.get eg
              have lw := d3.len
              obtain ⟨g1, g2, g3, g4⟩ := ixN_seq ei
              have eu := rv_int ry
              subst eu
              have hL : LINE = 16777216 := rfl
              have EW := EPost.cellW (m := l2.eraseIdx jj) (ys := ys.eraseIdx jj) E2.rep es2 hn2 (Nat.le_trans (List.length_eraseIdx_le _ _) d2) (d3.eraseIdx jj)
              exact ⟨a, ys, i, jj, yv, rfl, rfl, d1, by omega, by omega, by rw [lw]; exact g1, b1, h2 ρ2 _ EW _ (EW.post.rv b2)⟩
      | _ => exact h2.elim
theorem m_appG (ho : ME X W o fo) (hk : ME X W k fk)
    (hbase : attributeBase o "append" X.env (eval o X.env) = eval o X.env := by rfl)
    (hfew : ((backTo pos (starEach [k] X.env)).all (fun x => !x.1) && (backToKw pos (keywordEach [] X.env)).all (fun x => x.1.isSome) && decide ([k].length + ([] : List Keyword).length + (if ([] : List Keyword).isEmpty then 0 else 1) < 30)) = true := by rfl)
    (hline : (apos.endLine == pos.line) = true := by rfl) (hs : starEach [k] X.env = (false, eval k X.env) :: starEach [] X.env := by rfl) (hplain : (backTo pos (starEach [] X.env)).any (·.1) = false := by rfl) :
    ME X W (.Call (.Attribute o "append" apos) [k] [] pos) (eAppG fo fk) := by
  obtain ⟨t1, p1, q1⟩ := ho
  obtain ⟨t2, p2, q2⟩ := hk
  refine ⟨_, pe_bm PySem.F.plainAttrs_list PySem.F.slot_list_append PySem.F.type_list_append mt_append p1 (pa_cons p2 pa_nil hs) hbase hfew hline hs hplain, fun B ρ env st σ H Q R h => ?_⟩
  refine q1 B ρ env st σ H _ R (ROk.mono (ROk.bind h) fun pv ρ1 st1 H1 E1 h1 x rx => ?_)
  cases el : lstAt st1 pv with
  | none => rw [el] at h1; exact h1.elim
  | some r =>
    obtain ⟨n, l⟩ := r
    rw [el] at h1
    obtain ⟨rfl, es, a, xs, rfl, hn, c1, c2, c3⟩ := E1.rep.lst rx el
    refine ⟨.inl ⟨rfl, xs, SqL.of c1⟩, q2 B ρ1 env st1 σ H1 _ E1.rep (ROk.mono (ROk.bind h1) fun qv ρ2 st2 H2 E2 h2 y ry => ?_)⟩
    cases el2 : lstAt st2 (.gl n) with
    | none => rw [el2] at h2; exact h2.elim
    | some r2 =>
      obtain ⟨n2, l2⟩ := r2
      rw [el2] at h2
      obtain ⟨en, es2, a2, ys, ea, hn2, d1, d2, d3⟩ := E2.rep.lst (E2.post.rv rx) el2
      cases en
      cases ea
      dsimp only at h2
      by_cases hl : l2.length < LINE
      · rw [if_pos hl] at h2
        have lw := d3.len
        have hl2 : (ys ++ [y]).length ≤ LINE := by rw [List.length_append, lw, List.length_singleton]; omega
        exact ⟨a, ys, y, rfl, rfl, d1, by rw [← LINE_eq, lw]; exact hl, h2 ρ2 _ (EPost.cellW E2.rep es2 hn2 hl2 (d3.append (.cons ry .nil))) _ mk_non⟩
      · rw [if_neg hl] at h2
        exact h2.elim
end
/-! ### in, not in, of nested data -/
def inD (f : Bool → Bool) (p q : PV) : Option PV := match q with
  | .lst l => match toD p, toDs l with
    | some d, some ds => if SeqAt.shaped d = true ∧ SeqAt.shaped (.list ds) = true then some (.bl (f (ds.any fun z => PyData.eqv z d))) else none
    | _, _ => none
  | _ => none
theorem p_inD {X : Cx} (hu : X.A.units + 65 < cLine) : OpP X (compareOp .In) (inD fun b => b) := by
  refine ⟨_, op_inD hu, fun N ρ H x y p q z Q hN hx hy ho hQ => ?_⟩
  unfold inD at ho
  split at ho
  · rename_i l
    split at ho
    · rename_i d ds e1 e2
      split at ho
      · rename_i hs
        cases ho
        exact ⟨d, ds, hx.dp e1, hy.dp (d := .list ds) (by unfold toD; rw [e2]; rfl), hs.1, hs.2, hQ H _ Ext.refl mk_bl⟩
      · cases ho
    · cases ho
  · cases ho
theorem p_notInD {X : Cx} (hu : X.A.units + 65 < cLine) : OpP X (compareOp .NotIn) (inD fun b => !b) := by
  refine ⟨_, op_notInD hu, fun N ρ H x y p q z Q hN hx hy ho hQ => ?_⟩
  unfold inD at ho
  split at ho
  · rename_i l
    split at ho
    · rename_i d ds e1 e2
      split at ho
      · rename_i hs
        cases ho
        exact ⟨d, ds, hx.dp e1, hy.dp (d := .list ds) (by unfold toD; rw [e2]; rfl), hs.1, hs.2, hQ H _ Ext.refl mk_bl⟩
      · cases ho
    · cases ho
  · cases ho
/-! ### short forms -/
section
variable {X : Cx} {W : WX}
theorem o_inD {k : Nat} (r : Room k X.A) : OpP X (compareOp .In) (inD fun b => b) := p_inD (by have := r.un; omega)
theorem o_notInD {k : Nat} (r : Room k X.A) : OpP X (compareOp .NotIn) (inD fun b => !b) := p_notInD (by have := r.un; omega)
end
end PL
/-! PLy: what the head tells of classes; short forms of the rules for them. -/
namespace PL
open PySem PySem.Spec L2
/-! ### the hook: any checks, defs at any address -/
abbrev Chk := PySem.W.Frag → Bool
def obsP (fs : List Chk) (fn : List He5.DefA) (K : PySem.W.Frag) : He.AlD := (fs.all (fun f => f K) && fn.all fun d => d.ok K, fn.map fun d => He5.fnA K (d.at_ K))
def valP (fn : List He5.DefA) : He.AlD := (true, fn.map He5.DefA.val)
def SaysP (fs : List Chk) (fn : List He5.DefA) (K : PySem.W.Frag) : Prop := obsP fs fn K = valP fn
def obsPG (n : Nat) (fs : List Chk) (fn : List He5.DefA) (g : Addr → Option Obj) : He.AlD := obsP fs fn (He.frG g (He5.asA g n))
def hookP (n : Nat) (fs : List Chk) (fn : List He5.DefA) : PySem.W.Hook where
  α := He.AlD
  obs := fun s => obsPG n fs fn s.heap.get?
  val := fun _ => valP fn
  says := fun _ h => ∃ K : PySem.W.Frag, K.In h ∧ SaysP fs fn K
  of := fun _ _ e => ⟨_, He.frG_in, e⟩
  keeps := fun _ _ _ ⟨K, hK, c⟩ k => ⟨K, PySem.W.Frag.In.keeps hK k, c⟩
theorem obsPG_eq {n : Nat} {fs : List Chk} {fn : List He5.DefA} {g : Addr → Option Obj} {s : Shared} (h : ∀ a, g a = s.heap.get? a) : obsPG n fs fn g = (hookP n fs fn).obs s := by
  have e : g = s.heap.get? := funext h
  rw [e] <;> rfl
theorem and_true2 {a b : Bool} (h : (a && b) = true) : a = true ∧ b = true := Bool.and_eq_true_iff.mp h
section
variable {fs : List Chk} {fn : List He5.DefA} {K : PySem.W.Frag}
theorem SaysP.fact (c : SaysP fs fn K) (i : Nat) {f : Chk} (h : fs[i]? = some f := by rfl) : f K = true :=
  List.all_eq_true.mp (and_true2 (congrArg Prod.fst c)).1 f (List.mem_of_getElem? h)
theorem SaysP.def_ (c : SaysP fs fn K) (i : Nat) {d : He5.DefA} (h : fn[i]? = some d := by rfl) : ∃ fd, FunD K d.name d.qual d.params d.body d.scope (d.dvs K) (d.kws K) (d.at_ K) fd := by
  have c2 := (and_true2 (congrArg Prod.fst c)).2
  have e2 : (fn.map fun d => He5.fnA K (d.at_ K))[i]? = (fn.map He5.DefA.val)[i]? := congrArg (fun z : He.AlD => z.2[i]?) c
  rw [List.getElem?_map, List.getElem?_map, h] at e2
  exact He5.DefA.funD (Option.some.inj e2) (List.all_eq_true.mp c2 d (List.mem_of_getElem? h))
end
/-! ### addresses -/
/-- a class's own entry that is an object: a property, a classmethod -/
def entA (K : PySem.W.Frag) (c f : Str) : Addr := He.ma K (He.ga K c) f
/-! ### checks -/
def chkProp (c f : Str) : Chk := fun K => decide (PySem.W.findIn K (.ref (He.ga K c)) f = some (some (.ref (entA K c f)))) &&
  (decide (PySem.W.specialIn K (.ref (entA K c f)) "__get__" = some (some (.builtin "property.__get__"))) && (decide (PySem.W.takesIn K (.ref (entA K c f)) = some true) &&
  (match PySem.W.recIn K (entA K c f) "property" with
    | some (.ref g :: _) => true
    | _ => false)))
def prA (K : PySem.W.Frag) (c f : Str) : Addr := match PySem.W.recIn K (entA K c f) "property" with
  | some (.ref g :: _) => g
  | _ => 0
theorem chkProp_ok {K : PySem.W.Frag} {c f : Str} (h : chkProp c f K = true) : PropOf K (He.ga K c) f (entA K c f) (prA K c f) := by
  obtain ⟨h1, h2⟩ := and_true2 h
  obtain ⟨h2, h3⟩ := and_true2 h2
  obtain ⟨h3, h4⟩ := and_true2 h3
  refine ⟨of_decide_eq_true h1, of_decide_eq_true h2, of_decide_eq_true h3, ?_⟩
  unfold prA
  cases e : PySem.W.recIn K (entA K c f) "property" with
  | none => rw [e] at h4; cases h4
  | some l =>
    rw [e] at h4
    cases l with
    | nil => cases h4
    | cons v r =>
      cases v with
      | ref g => exact ⟨r, rfl⟩
      | _ => cases h4
def chkIns (c : Str) : Chk := fun K => (He.Fa.cls c).ok K && (decide (PySem.W.findIn K (.ref (He.ga K c)) "__class__" = some (some (.builtin "object.__class__"))) &&
  (decide (PySem.W.specialIn K (.builtin "object.__class__") "__get__" = some (some (.builtin "getset_descriptor.__get__"))) && (decide (PySem.W.takesIn K (.builtin "object.__class__") = some true) &&
  decide (PySem.W.mroIn K (He.ga K c) (.type "object") = some true))))
theorem chkIns_ok {K : PySem.W.Frag} {c : Str} (h : chkIns c K = true) : InsTy K (He.ga K c) := by
  obtain ⟨h1, h2⟩ := and_true2 h
  obtain ⟨h2, h3⟩ := and_true2 h2
  obtain ⟨h3, h4⟩ := and_true2 h3
  obtain ⟨h4, h5⟩ := and_true2 h4
  exact ⟨He.cls_ok h1, of_decide_eq_true h2, of_decide_eq_true h3, of_decide_eq_true h4, of_decide_eq_true h5⟩
def chkIsO (c0 : Str) (cs : List (Str × Bool)) : Chk := fun K => (["NoneType", "bool", "int", "str", "tuple", "list"].all fun T => decide (PySem.W.kitOne K (.type T) (.ref (He.ga K c0)) = some false)) &&
  cs.all fun q => chkIns q.1 K && decide (PySem.W.kitOne K (.ref (He.ga K q.1)) (.ref (He.ga K c0)) = some q.2)
theorem chkIsO_ok {K : PySem.W.Frag} {c0 : Str} {cs : List (Str × Bool)} (h : chkIsO c0 cs K = true) : InsOf K c0 cs := by
  obtain ⟨h1, h2⟩ := and_true2 h
  refine ⟨fun T hT => of_decide_eq_true (List.all_eq_true.mp h1 T hT), fun q hq => ?_⟩
  obtain ⟨k1, k2⟩ := and_true2 (List.all_eq_true.mp h2 q hq)
  exact ⟨chkIns_ok k1, of_decide_eq_true k2⟩
def relL (p : PV) (u : Value) : Bool := match litV p with
  | some v => He.relB v u
  | none => false
/-- o.f, C.f: a constant -/
def chkCon (c f : Str) (p : PV) : Chk := fun K => !PySem.W.copiedNames.contains f && (match PySem.W.findIn K (.ref (He.ga K c)) f with
  | some (some u) => relL p u && decide (PySem.W.specialIn K u "__get__" = some none)
  | _ => false)
theorem relL_ok {p : PV} {u : Value} (h : relL p u = true) : ∃ v, litV p = some v ∧ RelV v u := by
  unfold relL at h
  cases e : litV p with
  | none => rw [e] at h; cases h
  | some v => rw [e] at h; exact ⟨v, rfl, He.relB_ok h⟩
theorem chkCon_ok {K : PySem.W.Frag} {c f : Str} {p : PV} (h : chkCon c f p K = true) : ∃ v, litV p = some v ∧ ∃ u, Con K (He.ga K c) f v u := by
  obtain ⟨h1, h2⟩ := and_true2 h
  cases e : PySem.W.findIn K (.ref (He.ga K c)) f with
  | none => rw [e] at h2; cases h2
  | some o =>
    rw [e] at h2
    cases o with
    | none => cases h2
    | some u =>
      obtain ⟨h3, h4⟩ := and_true2 h2
      obtain ⟨v, e1, r⟩ := relL_ok h3
      refine ⟨v, e1, u, e, r, of_decide_eq_true h4, ?_⟩
      cases q : PySem.W.copiedNames.contains f with
      | false => rfl
      | true => rw [q] at h1; cases h1
def chkCRd (c : Str) : Chk := fun K => PySem.W.readsIn K (He.ga K c) (.type "type") && decide (PySem.W.specialIn K (.ref (He.ga K c)) "__getattribute__" = some (some (.builtin "type.__getattribute__")))
theorem chkCRd_ok {K : PySem.W.Frag} {c : Str} (h : chkCRd c K = true) : ClX.CRead K (He.ga K c) (.type "type") := by
  obtain ⟨h1, h2⟩ := and_true2 h
  exact ⟨h1, of_decide_eq_true h2⟩
def chkCVal (c f : Str) (p : PV) : Chk := fun K => match PySem.W.findCls K (.ref (He.ga K c)) (.type "type") f with
  | some (.val u) => relL p u
  | _ => false
theorem chkCVal_ok {K : PySem.W.Frag} {c f : Str} {p : PV} (h : chkCVal c f p K = true) : ∃ v, litV p = some v ∧ ∃ u, ClX.CVal K (He.ga K c) (.type "type") f v u := by
  unfold chkCVal at h
  cases e : PySem.W.findCls K (.ref (He.ga K c)) (.type "type") f with
  | none => rw [e] at h; cases h
  | some o =>
    rw [e] at h
    cases o with
    | val u =>
      obtain ⟨v, e1, r⟩ := relL_ok h
      exact ⟨v, e1, u, e, r⟩
    | _ => cases h
/-- an empty tuple of the text's own -/
def chkTup0 (a : PySem.W.Frag → Addr) : Chk := fun K => match K.lookup (a K) with
  | some ⟨.type c, _, .seq its _, _⟩ => decide (c = "tuple") && its.isEmpty
  | _ => false
theorem chkTup0_ok {K : PySem.W.Frag} {a : PySem.W.Frag → Addr} (h : chkTup0 a K = true) (N : Addr → Prop) (ρ : List Addr) (H : Hp) : RV K N ρ H (.tup []) (.ref (a K)) := by
  unfold chkTup0 at h
  cases q : K.lookup (a K) with
  | none => rw [q] at h; cases h
  | some o =>
    obtain ⟨oc, od, dt, osl⟩ := o
    rw [q] at h
    cases oc with
    | type c =>
      cases dt with
      | seq its n =>
        obtain ⟨h1, h2⟩ := and_true2 h
        have e1 := of_decide_eq_true h1
        have e2 := Array.isEmpty_iff.mp h2
        subst e1 e2
        exact mk_tupK (.inr ⟨_, #[], n, q, rfl, rfl, Nat.zero_le _, .nil⟩) (Nat.zero_le _) .nil
      | _ => cases h
    | _ => cases h
/-! ### short forms -/
section
variable {X : Cx} {W : WX} {o e tg iter : Expr} {es : List Expr} {fo fe : EF PV} {g gk : EF (List PV)} {c0 m f : Str} {pos apos p p2 : Pos} {k j : Nat} {a pr : Addr} {ps : List Str} {F : Fn}
theorem g_fld (c0 : Str) (h : ME X W e fe) (c : Cls X.K (He.ga X.K c0)) (n : NoAttr X.K (He.ga X.K c0) f) (hb : attributeBase e f X.env (eval e X.env) = eval e X.env := by rfl) : ME X W (.Attribute e f pos) (eFld c0 f fe) := m_fld h c n hb
theorem g_prop (h : ME X W e fe) (c : Cls X.K (He.ga X.K c0)) (hp : PropOf X.K (He.ga X.K c0) f pr a) (G : CalA X.prog X.w X.K X.mg X.base k a ps F) (hr : Room j X.A) (hgd : X.A.guards = some []) (hk : k + 1 ≤ j := by decide) (hl : ps.length = 1 := by rfl) (hb : attributeBase e f X.env (eval e X.env) = eval e X.env := by rfl) : ME X W (.Attribute e f pos) (eProp c0 F fe) :=
  m_prop h c hp G hl (hr.mono hk) hgd hb
theorem g_con (c0 : Str) (pv : PV) (h : ME X W e fe) (c : Cls X.K (He.ga X.K c0)) (hc : ∃ v, litV pv = some v ∧ ∃ u, Con X.K (He.ga X.K c0) f v u) (hb : attributeBase e f X.env (eval e X.env) = eval e X.env := by rfl) : ME X W (.Attribute e f pos) (eCon c0 f pv fe) := by
  obtain ⟨v, e1, u, q⟩ := hc
  exact m_con h c ⟨u, q⟩ e1 hb
theorem g_conC (pv : PV) (hm : X.mg c0 = some (.ref (He.ga X.K c0))) (r : ClX.CRead X.K (He.ga X.K c0) (.type "type")) (hc : ∃ v, litV pv = some v ∧ ∃ u, ClX.CVal X.K (He.ga X.K c0) (.type "type") f v u) (hg : Gl X c0 := by rfl) (hd : (c0 == ("__debug__" : Str)) = false := by decide)
    (hb : attributeBase (.Name c0 p) f X.env (eval (.Name c0 p) X.env) = eval (.Name c0 p) X.env := by rfl) : ME X W (.Attribute (.Name c0 p) f pos) (eC pv) := by
  obtain ⟨v, e1, q⟩ := hc
  exact m_conC hg hm r q e1 hd hb
theorem g_meth {pl : Sem Bool} (h : ME X W o fo) (c : Cls X.K (He.ga X.K c0)) (hm : Meth X.K (He.ga X.K c0) m a) (G : CalA X.prog X.w X.K X.mg X.base k a ps F) (hr : Room j X.A) (hgd : X.A.guards = some []) (tk : Takes X W) (ha : MA X W (e :: es) g) (hlen : ALen g (e :: es).length) (hk : k ≤ j := by decide) (hn : (e :: es).length + 1 = ps.length := by rfl)
    (hst : starEach (e :: es) X.env = (false, eval e X.env) :: starEach es X.env := by rfl) (hpl : (backTo pos (starEach es X.env)).any (·.1) = false := by rfl)
    (ht : eval (.Call (.Attribute o m apos) (e :: es) [] pos) X.env = (do
      let ov ← eval o X.env
      standAt apos.atName
      let (f, first) ← holding [ov] (getMethod ov m pl)
      callWith pos f first (backTo pos (starEach (e :: es) X.env)) (backToKw pos (keywordEach [] X.env))) := by rfl) :
    ME X W (.Call (.Attribute o m apos) (e :: es) [] pos) (eMeth c0 m F fo g) := m_meth h c hm G (hr.mono hk) hgd tk ha hn hlen hst hpl ht
theorem g_meth0 {pl : Sem Bool} (h : ME X W o fo) (c : Cls X.K (He.ga X.K c0)) (hm : Meth X.K (He.ga X.K c0) m a) (G : CalA X.prog X.w X.K X.mg X.base k a ps F) (hr : Room j X.A) (hgd : X.A.guards = some []) (tk : Takes X W) (hk : k ≤ j := by decide) (hn : ps.length = 1 := by rfl)
    (ht : eval (.Call (.Attribute o m apos) [] [] pos) X.env = (do
      let ov ← eval o X.env
      standAt apos.atName
      let (f, first) ← holding [ov] (getMethod ov m pl)
      callWith pos f first (backTo pos (starEach [] X.env)) (backToKw pos (keywordEach [] X.env))) := by rfl) :
    ME X W (.Call (.Attribute o m apos) [] [] pos) (eMeth c0 m F fo aNil) := m_meth0 h c hm G (hr.mono hk) hgd tk hn ht
theorem g_lenO (h : ME X W e fe) (hm : Meth X.K (He.ga X.K c0) "__len__" a) (G : CalA X.prog X.w X.K X.mg X.base k a ps F) (hr : Room j X.A) (hgd : X.A.guards = some []) (hmg : X.mg "len" = none) (hk : k + 1 ≤ j := by decide) (hl : ps.length = 1 := by rfl) (hg : Gl X "len" := by rfl)
    (he : starEach [e] X.env = (false, eval e X.env) :: starEach [] X.env := by rfl) (hpl : (backTo pos (starEach [] X.env)).any (·.1) = false := by rfl) : ME X W (.Call (.Name "len" p) [e] [] pos) (eOwn1 c0 zLen F fe) := m_lenO h hm G hl (hr.mono hk) hgd hmg hg he hpl
theorem g_reprO (h : ME X W e fe) (hm : Meth X.K (He.ga X.K c0) "__repr__" a) (G : CalA X.prog X.w X.K X.mg X.base k a ps F) (hr : Room j X.A) (hgd : X.A.guards = some []) (hmg : X.mg "repr" = none) (hk : k + 1 ≤ j := by decide) (hl : ps.length = 1 := by rfl) (hg : Gl X "repr" := by rfl)
    (he : starEach [e] X.env = (false, eval e X.env) :: starEach [] X.env := by rfl) (hpl : (backTo pos (starEach [] X.env)).any (·.1) = false := by rfl) : ME X W (.Call (.Name "repr" p) [e] [] pos) (eOwn1 c0 zStr F fe) := m_reprO h hm G hl (hr.mono hk) hgd hmg hg he hpl
theorem g_make {dps : List PV} {sh : List (Nat × List Str × List Src)} {ks : List Str} {kws : List Keyword} (n : Nat) (l : List Src) (c : Maker X.prog X.w X.K X.mg X.base k c0 ps dps F sh) (hq : (n, ks, l) ∈ sh) (hr : Room j X.A) (hgd : X.A.guards = some []) (tk : Takes X W)
    (ha : MA X W (e :: es) g) (hkw : MK X W kws gk) (hk : k + 1 ≤ j := by decide) (hl : l.all (fun s => match s with | .pos 0 => false | _ => true) = true := by rfl) (hg : Gl X c0 := by rfl) (hall : (backToKw pos (keywordEach kws X.env)).all (·.1.isSome) = true := by rfl) (hks : (backToKw pos (keywordEach kws X.env)).filterMap (·.1) = ks := by rfl)
    (hdb : (c0 == ("__debug__" : Str)) = false := by decide) (he : starEach (e :: es) X.env = (false, eval e X.env) :: starEach es X.env := by rfl)
    (hpl : ((backTo pos (starEach (e :: es) X.env)).any (·.1) || (backToKw pos (keywordEach kws X.env)).any (·.1.isNone)) = false := by rfl) :
    ME X W (.Call (.Name c0 p) (e :: es) kws pos) (eMake c0 F n ks.length ps.length dps l g gk) := m_make c hq hl (hr.mono hk) hgd tk hg ha hkw hall hks hdb he hpl
theorem g_makeK {dps : List PV} {sh : List (Nat × List Str × List Src)} {ks : List Str} {kws : List Keyword} (l : List Src) (c : Maker X.prog X.w X.K X.mg X.base k c0 ps dps F sh) (hq : (0, ks, l) ∈ sh) (hr : Room j X.A) (hgd : X.A.guards = some []) (tk : Takes X W)
    (hkw : MK X W kws gk) (hk : k + 1 ≤ j := by decide) (hl : l.all (fun s => match s with | .pos 0 => false | _ => true) = true := by rfl) (hg : Gl X c0 := by rfl) (hall : (backToKw pos (keywordEach kws X.env)).all (·.1.isSome) = true := by rfl) (hks : (backToKw pos (keywordEach kws X.env)).filterMap (·.1) = ks := by rfl)
    (hdb : (c0 == ("__debug__" : Str)) = false := by decide)
    (hpl : ((backTo pos (starEach [] X.env)).any (·.1) || (backToKw pos (keywordEach kws X.env)).any (·.1.isNone)) = false := by rfl) :
    ME X W (.Call (.Name c0 p) [] kws pos) (eMake c0 F 0 ks.length ps.length dps l aNil gk) := m_makeK c hq hl (hr.mono hk) hgd tk hg hkw hall hks hdb hpl
theorem g_isO {cs : List (Str × Bool)} (ha : ME X W e fe) (hC : InsOf X.K c0 cs) (hm : X.mg "isinstance" = none) (hm2 : X.mg c0 = some (.ref (He.ga X.K c0))) (hg : Gl X "isinstance" := by rfl) (hg2 : Gl X c0 := by rfl) (hd : (c0 == ("__debug__" : Str)) = false := by decide)
    (h1 : starEach [e, .Name c0 p2] X.env = (false, eval e X.env) :: starEach [.Name c0 p2] X.env := by rfl) (h2 : starEach [.Name c0 p2] X.env = (false, eval (.Name c0 p2) X.env) :: starEach [] X.env := by rfl)
    (hpl : (backTo pos (starEach [.Name c0 p2] X.env)).any (·.1) = false := by rfl) : ME X W (.Call (.Name "isinstance" p) [e, .Name c0 p2] [] pos) (eIsO cs fe) := m_isO ha hC hm hm2 hg hg2 hd h1 h2 hpl
theorem g_mxn (i : Nat) {x : Str} (hN : X.N.Nodup) (hi : X.N[i]? = some x := by rfl) (hx : Loc X.env.scope x := by first | exact .inl rfl | exact .inr rfl) (hf : X.fn x = true ∨ X.env.scope.names.lookup x = some .local := by first | exact .inr rfl | exact .inl rfl) : MX X W (.Name x pos) (gxName i) := mx_name hN hi hx hf
end
/-- the bindings of one shape of a call -/
theorem FunD.shape {K : PySem.W.Frag} {x qual : Str} {params : Arguments} {body : List Stmt} {scope : Scope} {dvs : List V} {kws : List (Str × V)} {f : Addr} {fd : FuncData} {ps : List Str} (F : FunD K x qual params body scope dvs kws f fd) (n : Nat) (ks : List Str) (l : List Src) (hd : dvs ≠ [])
    (h : ∀ (T : Addr) (kV doc pm : Value) (an : Option Addr) (cdv ct : Value) (us its ws : List Value), us.length = n + 1 → its.length = dvs.length → ws.length = ks.length →
      ∃ k, bindArgs (PySem.W.fnOf x qual params body scope (.ref T) kV doc pm an cdv ct) ⟨us, ks.zip ws⟩ = seqItems? (.ref T) >>= k ∧ k (some its.toArray) = pure (ps.zip (plan (.pos 0 :: l) us its ws))) :
    ∃ its : List Value, KBn K fd ps (n + 1) ks (fun us ws => plan (.pos 0 :: l) us its ws) (fun vs zs => plan (.pos 0 :: l) vs dvs zs) :=
  F.kbindsD (n + 1) ks (fun us ds ws => plan (.pos 0 :: l) us ds ws) hd (fun r1 r2 r3 => plan_vals r1 r2 r3) h
end PL
/-! RcS: how the later functions are reckoned out. -/
namespace PL
open PySem PySem.Spec L2
section
variable {e : Env} {st : Sto}
@[simp] theorem eFld_e (c0 f : Str) (a : EF PV) : eFld c0 f a e st = (a e st).bind fun p st => .of (fldF c0 f st p) st := rfl
@[simp] theorem eProp_e (c0 : Str) (F : Fn) (a : EF PV) : eProp c0 F a e st = (a e st).bind fun p st => if isIns c0 st p = true then (F [p] st).noE else .stuck := rfl
@[simp] theorem eMeth_e (c0 m : Str) (F : Fn) (o : EF PV) (a : EF (List PV)) : eMeth c0 m F o a e st = (o e st).bind fun p st => if isInsNo c0 m st p = true then (a e st).bind fun xs st => F (p :: xs) st else .stuck := rfl
@[simp] theorem eOwn1_e (c0 : Str) (z : PV → Bool) (F : Fn) (a : EF PV) : eOwn1 c0 z F a e st = (a e st).bind fun p st => if isIns c0 st p = true then ((F [p] st).noE).bind fun r st => if z r = true then .ok r st else .stuck else .stuck := rfl
@[simp] theorem eCon_e (c0 f : Str) (v : PV) (a : EF PV) : eCon c0 f v a e st = (a e st).bind fun p st => if isInsNo c0 f st p = true then .ok v st else .stuck := rfl
@[simp] theorem eIsO_e (cs : List (Str × Bool)) (a : EF PV) : eIsO cs a e st = (a e st).bind fun p st => .of ((isOwn cs st p).map .bl) st := rfl
@[simp] theorem eMake_e (c0 : Str) (F : Fn) (n m len : Nat) (dps : List PV) (l : List Src) (a gk : EF (List PV)) : eMake c0 F n m len dps l a gk e st = (a e st).bind fun xs st => (gk e st).bind fun zs st =>
  if (xs.length = n ∧ zs.length = m) ∧ (plan l (.non :: xs) dps zs).length + 1 = len then makF c0 F (plan l (.non :: xs) dps zs) st else .stuck := rfl
@[simp] theorem eTx_e (op : Str → PV → Option PV) (a b : EF PV) : eTx op a b e st = (a e st).bind fun p st => match p with
  | .str x => (b e st).bind fun q st => .of (op x q) st
  | _ => .stuck := rfl
@[simp] theorem eFmt_e (a : EF PV) : eFmt a e st = (a e st).bind fun p st => .of ((strOfN p).map .str) st := rfl
@[simp] theorem jNil_e (acc : Str) : jNil acc e st = .ok acc st := rfl
@[simp] theorem jCons_e (a : EF PV) (r : Str → EF Str) (acc : Str) : jCons a r acc e st = (a e st).bind fun p st => match p with
  | .str y => if (acc ++ y).length ≤ LINE then r (acc ++ y) e st else .stuck
  | _ => .stuck := rfl
@[simp] theorem eJStr_e (g : Str → EF Str) : eJStr g e st = (g Str.empty e st).bind fun y st => .ok (.str y) st := rfl
@[simp] theorem sAsgX_e (g : GF) (a : EF PV) : sAsgX g a e st = (a e st).toS e fun v st => g v e st := rfl
@[simp] theorem gxTup_e (gs : List GF) (l : List PV) : gxTup gs (.tup l) e st = if l.length = gs.length then gxSeq gs l e st else .stuck := rfl
@[simp] theorem gxSeq_nil : gxSeq [] [] e st = .nx e st := rfl
@[simp] theorem gxSeq_cons (g : GF) (gs : List GF) (p : PV) (ps : List PV) : gxSeq (g :: gs) (p :: ps) e st = (g p e st).thn fun e st => gxSeq gs ps e st := rfl
@[simp] theorem gxFld_e (c0 f : Str) (o : EF PV) (p : PV) : gxFld c0 f o p e st = (o e st).toS e fun ov st => match fldSet c0 f st ov p with
  | some st' => .nx e st'
  | none => .stuck := rfl
@[simp] theorem gxName_e (i : Nat) (p : PV) : gxName i p e st = (match bName i p e with
  | some e1 => .nx e1 st
  | none => .stuck) := rfl
@[simp] theorem eNewG_e (l : EF (List PV)) : eNewG l e st = (l e st).bind fun l st => .ok (.gl st.length) (st ++ [.lst l]) := rfl
@[simp] theorem eLenG_e (a : EF PV) : eLenG a e st = (a e st).bind fun p st => match lstAt st p with
  | some (_, l) => .ok (.int l.length) st
  | none => .stuck := rfl
@[simp] theorem ePopG_e (a k : EF PV) : ePopG a k e st = (a e st).bind fun p st => match lstAt st p with
  | some _ => (k e st).bind fun q st => match lstAt st p, q with
    | some (n, l), .int i => match popAt l i with
      | some (y, m) => .ok y (st.set n (.lst m))
      | none => .stuck
    | _, _ => .stuck
  | none => .stuck := rfl
@[simp] theorem eAppG_e (a v : EF PV) : eAppG a v e st = (a e st).bind fun p st => match lstAt st p with
  | some _ => (v e st).bind fun q st => match lstAt st p with
    | some (n, l) => if l.length < LINE then .ok .non (st.set n (.lst (l ++ [q]))) else .stuck
    | none => .stuck
  | none => .stuck := rfl
theorem lstAt_gl {n : Nat} {l : List PV} (h : st[n]? = some (.lst l)) : lstAt st (.gl n) = some (n, l) := by
  unfold lstAt
  dsimp only
  rw [h]
@[simp] theorem iRng2_e (g : EF (List PV)) : iRng2 g e st = (g e st).bind fun vs st => match int2 vs with
  | some (i, j) => if -LINE ≤ i ∧ i ≤ LINE ∧ -LINE ≤ j ∧ j ≤ LINE ∧ j - i ≤ LINE then .ok (rangeF i (j - i).toNat) st else .stuck
  | none => .stuck := rfl
end
end PL
/-! Rc: receipts as plain data: what is right, texts, values. -/
namespace Rc
open PySem PySem.Spec L2 PL
/-! ### texts -/
theorem strOk_append {a b : Str} (h1 : PyData.strOk a = true) (h2 : PyData.strOk b = true) : PyData.strOk (a ++ b) = true := by
  unfold PyData.strOk at h1 h2 ⊢
  rw [Str.cps_append, Array.all_append, h1, h2]
  rfl
theorem strOk_ofString (s : String) : PyData.strOk (Str.ofString s) = true := by
  unfold PyData.strOk
  rw [Str.ofString_eq_toList, List.all_toArray, List.all_map, List.all_eq_true]
  intro c _
  refine decide_eq_true ?_
  have h := c.valid
  have : c.toNat < 0x110000 := by
    rcases h with h | h
    · show c.val.toNat < _
      omega
    · show c.val.toNat < _
      omega
  exact this
theorem strOk_empty : PyData.strOk Str.empty = true := by simp [PyData.strOk, Str.empty]
theorem strOk_join {a : Str} (ha : PyData.strOk a = true) : ∀ {ys : List Str}, (∀ y ∈ ys, PyData.strOk y = true) → PyData.strOk (Str.join a ys) = true
  | [], _ => strOk_empty
  | [y], h => h y (List.mem_singleton.mpr rfl)
  | y :: z :: r, h => by
    show PyData.strOk (y ++ a ++ Str.join a (z :: r)) = true
    exact strOk_append (strOk_append (h y List.mem_cons_self) ha) (strOk_join ha fun w hw => h w (List.mem_cons_of_mem _ hw))
theorem len_join {a : Str} {B : Nat} : ∀ {ys : List Str}, (∀ y ∈ ys, y.length ≤ B) → (Str.join a ys).length ≤ ys.length * (B + a.length)
  | [], _ => Nat.zero_le _
  | [y], h => by
    have := h y (List.mem_singleton.mpr rfl)
    show y.length ≤ 1 * _
    omega
  | y :: z :: r, h => by
    have h1 := h y List.mem_cons_self
    have h2 := len_join (a := a) (ys := z :: r) fun w hw => h w (List.mem_cons_of_mem _ hw)
    show (y ++ a ++ Str.join a (z :: r)).length ≤ (y :: z :: r).length * (B + a.length)
    rw [Str.length_append, Str.length_append, List.length_cons, Nat.add_mul, Nat.one_mul]
    omega
theorem sum_len {B : Nat} : ∀ {ys : List Str}, (∀ y ∈ ys, y.length ≤ B) → (ys.map (·.length)).sum ≤ ys.length * B
  | [], _ => Nat.zero_le _
  | y :: r, h => by
    have h1 := h y List.mem_cons_self
    have h2 := sum_len (ys := r) fun w hw => h w (List.mem_cons_of_mem _ hw)
    rw [List.map_cons, List.sum_cons, List.length_cons, Nat.add_mul, Nat.one_mul]
    omega
theorem strsOf_map : ∀ ys : List Str, strsOf (ys.map PV.str) = some ys
  | [] => rfl
  | y :: r => by
    show (strsOf (r.map PV.str)).map _ = _
    rw [strsOf_map r]
    rfl
/-- joined: its text -/
theorem joinF_ok {a : Str} {ys : List Str} {B n : Nat} (h1 : ∀ y ∈ ys, y.length ≤ B) (h2 : ys.length ≤ n) (h3 : n * (B + a.length) ≤ 16777216) : joinF a (.lst (ys.map PV.str)) = some (.str (Str.join a ys)) := by
  unfold joinF
  dsimp only
  rw [strsOf_map]
  have e1 := sum_len h1
  have e2 : ys.length * B + ys.length * a.length ≤ n * (B + a.length) := by
    rw [← Nat.mul_add]
    exact Nat.mul_le_mul_right _ h2
  dsimp only
  rw [if_pos (by omega), TL.join_eq]
theorem len_join_le {a : Str} {ys : List Str} {B n : Nat} (h1 : ∀ y ∈ ys, y.length ≤ B) (h2 : ys.length ≤ n) : (Str.join a ys).length ≤ n * (B + a.length) :=
  Nat.le_trans (len_join h1) (Nat.mul_le_mul_right _ h2)
/-- a text that may stand in a told value -/
def TxOk (B : Nat) (y : Str) : Prop := PyData.strOk y = true ∧ y.length ≤ B
theorem TxOk.append {A B : Nat} {x y : Str} (h1 : TxOk A x) (h2 : TxOk B y) : TxOk (A + B) (x ++ y) := ⟨strOk_append h1.1 h2.1, by rw [Str.length_append]; exact Nat.add_le_add h1.2 h2.2⟩
theorem TxOk.mono {A B : Nat} {x : Str} (h : TxOk A x) (k : A ≤ B) : TxOk B x := ⟨h.1, Nat.le_trans h.2 k⟩
theorem TxOk.join {A B n : Nat} {a : Str} {ys : List Str} (ha : TxOk A a) (h1 : ∀ y ∈ ys, TxOk B y) (h2 : ys.length ≤ n) : TxOk (n * (B + A)) (Str.join a ys) :=
  ⟨strOk_join ha.1 fun y hy => (h1 y hy).1, Nat.le_trans (len_join_le (fun y hy => (h1 y hy).2) h2) (Nat.mul_le_mul_left _ (Nat.add_le_add_left ha.2 _))⟩
/-- a number's text -/
def numT (i : Int) : Str := Str.ofString (toString i)
theorem num_ok {i : Int} (h1 : -999999999999 ≤ i) (h2 : i ≤ 999999999999) : TxOk 13 (numT i) := ⟨strOk_ofString _, PyData.shown_int_le2 h1 h2⟩
theorem strF_num {i : Int} (h1 : -999999999999 ≤ i) (h2 : i ≤ 999999999999) : strF [.int i] = some (.str (numT i)) := by
  unfold strF
  dsimp only
  rw [if_pos]
  · rfl
  · by_cases h0 : i = 0
    · subst h0
      decide
    · have := log_le ⟨h1, h2⟩ h0
      omega
theorem strOfN_num {i : Int} (h1 : -999999999999 ≤ i) (h2 : i ≤ 999999999999) : strOfN (.int i) = some (numT i) := by
  unfold strOfN
  dsimp only
  rw [if_pos]
  · rfl
  · by_cases h0 : i = 0
    · subst h0
      decide
    · have := log_le ⟨h1, h2⟩ h0
      omega
theorem addF_str {x y : Str} (h : x.length + y.length ≤ 16777216) : addF (.str x) (.str y) = some (.str (x ++ y)) := by
  unfold addF
  dsimp only
  rw [if_pos (show x.length + y.length ≤ LINE from h)]
theorem addF_tx {A B : Nat} {x y : Str} (h1 : TxOk A x) (h2 : TxOk B y) (h : A + B ≤ 16777216) : addF (.str x) (.str y) = some (.str (x ++ y)) := addF_str (Nat.le_trans (Nat.add_le_add h1.2 h2.2) h)
/-! ### receipts -/
abbrev Deal := List (Int × Int)
abbrev Grp := Int × List Int
def numsT (l : List Int) : Str := Str.join " " (l.map numT)
def offT (p : Int × Int) : Str := ((" " : Str) ++ numT p.1) ++ (":" : Str) ++ numT p.2
def dealT (d : Deal) : Str := ("deal" : Str) ++ Str.join "" (d.map offT)
def grpT (g : Grp) : Str := (("group " : Str) ++ numT g.1) ++ (" of " : Str) ++ numsT g.2
def linesT (c : List Int) (ds : List Deal) (gs : List Grp) : List Str := (("prices " : Str) ++ numsT c) :: (ds.map dealT ++ gs.map grpT)
def textT (c : List Int) (ds : List Deal) (gs : List Grp) : Str := Str.join "\n" (linesT c ds gs) ++ ("\n" : Str)
theorem join_nl (s : Str) : ∀ {l : List Str}, l ≠ [] → Str.join s l ++ s = Str.join "" (l.map (· ++ s))
  | [], h => absurd rfl h
  | [x], _ => rfl
  | x :: y :: r, _ => by
    have ih := join_nl s (l := y :: r) (by simp)
    have e0 : ("" : Str) = Str.empty := by decide
    show (x ++ s ++ Str.join s (y :: r)) ++ s = (x ++ s) ++ ("" : Str) ++ Str.join "" ((y :: r).map (· ++ s))
    rw [Str.append_assoc (x ++ s), ih, e0, Str.append_empty]
/-- prices -/
def CostsOk (c : List Int) : Prop := 1 ≤ c.length ∧ c.length ≤ 5 ∧ ∀ x ∈ c, 1 ≤ x ∧ x ≤ 9999
def Rises (l : List Int) : Prop := l.Pairwise (· < ·)
def DealOk (c : List Int) (d : Deal) : Prop := (∀ p ∈ d, 0 ≤ p.1 ∧ p.1 < c.length ∧ 1 ≤ p.2 ∧ ∃ x, c[p.1.toNat]? = some x ∧ p.2 ≤ x) ∧ Rises (d.map (·.1))
def DealsOk (c : List Int) (ds : List Deal) : Prop := ds.length ≤ 5 ∧ ∀ d ∈ ds, DealOk c d
def GrpOk (m : Nat) (g : Grp) : Prop := 0 ≤ g.1 ∧ g.1 ≤ 5 ∧ g.2 ≠ [] ∧ Rises g.2 ∧ ∀ x ∈ g.2, 0 ≤ x ∧ x < m
def Meet (a b : List Int) : Prop := a ≠ b ∧ ((∀ x ∈ a, x ∉ b) ∨ (∀ x ∈ a, x ∈ b) ∨ (∀ x ∈ b, x ∈ a))
def GrpsOk (m : Nat) (gs : List Grp) : Prop := gs.length ≤ 5 ∧ (∀ g ∈ gs, GrpOk m g) ∧ gs.Pairwise fun a b => Meet a.2 b.2
structure RcOk (c : List Int) (ds : List Deal) (gs : List Grp) : Prop where
  cok : CostsOk c
  dok : DealsOk c ds
  gok : GrpsOk ds.length gs
abbrev pairV (p : Int × Int) : PV := .tup [.int p.1, .int p.2]
abbrev intsV (l : List Int) : PV := .tup (l.map PV.int)
abbrev dealV (d : Deal) : PV := .tup (d.map pairV)
abbrev dealsV (ds : List Deal) : PV := .tup (ds.map dealV)
abbrev grpV (g : Grp) : PV := .tup [.int g.1, intsV g.2]
abbrev grpsV (gs : List Grp) : PV := .tup (gs.map grpV)
abbrev rcV (c : List Int) (ds : List Deal) (gs : List Grp) : PV := .ins "Receipt" ["costs", "offers", "bounds"] [intsV c, dealsV ds, grpsV gs]
/-- rising numbers below m: at most m -/
theorem rises_le : ∀ {l : List Int} {lo m : Int}, Rises l → (∀ x ∈ l, lo ≤ x ∧ x < m) → (l.length : Int) ≤ max 0 (m - lo)
  | [], _, _, _, _ => by simp; omega
  | x :: r, lo, m, h, hb => by
    have hx := hb x List.mem_cons_self
    have h2 := List.pairwise_cons.mp h
    have ih := rises_le (l := r) (lo := x + 1) (m := m) h2.2 fun y hy => ⟨by have := h2.1 y hy; omega, (hb y (List.mem_cons_of_mem _ hy)).2⟩
    rw [List.length_cons]
    omega
theorem DealOk.len {c : List Int} {d : Deal} (hc : CostsOk c) (h : DealOk c d) : d.length ≤ 5 := by
  have := rises_le (l := d.map (·.1)) (lo := 0) (m := 5) h.2 fun x hx => by
    obtain ⟨p, hp, rfl⟩ := List.mem_map.mp hx
    have := h.1 p hp
    have := hc.2.1
    omega
  rw [List.length_map] at this
  omega
theorem GrpOk.len {m : Nat} {g : Grp} (hm : m ≤ 5) (h : GrpOk m g) : g.2.length ≤ 5 := by
  have := rises_le (l := g.2) (lo := 0) (m := 5) h.2.2.2.1 fun x hx => by
    have := h.2.2.2.2 x hx
    omega
  omega
theorem DealOk.price {c : List Int} {d : Deal} (hc : CostsOk c) (h : DealOk c d) {p : Int × Int} (hp : p ∈ d) : 0 ≤ p.1 ∧ p.1 ≤ 4 ∧ 1 ≤ p.2 ∧ p.2 ≤ 9999 := by
  obtain ⟨h1, h2, h3, x, h4, h5⟩ := h.1 p hp
  have := hc.2.1
  have := (hc.2.2 x (List.mem_of_getElem? h4)).2
  omega
theorem numsT_ok {l : List Int} (hl : l.length ≤ 5) (h : ∀ x ∈ l, 0 ≤ x ∧ x ≤ 9999) : TxOk 70 (numsT l) :=
  TxOk.join (A := 1) (B := 13) (n := 5) ⟨strOk_ofString _, by decide⟩ (fun y hy => by
    obtain ⟨x, hx, rfl⟩ := List.mem_map.mp hy
    have := h x hx
    exact num_ok (by omega) (by omega)) (by rw [List.length_map]; exact hl)
theorem offT_ok {p : Int × Int} (h : 0 ≤ p.1 ∧ p.1 ≤ 4 ∧ 1 ≤ p.2 ∧ p.2 ≤ 9999) : TxOk 28 (offT p) :=
  (((TxOk.append (A := 1) ⟨strOk_ofString _, by decide⟩ (num_ok (i := p.1) (by omega) (by omega))).append (B := 1) ⟨strOk_ofString _, by decide⟩).append (num_ok (i := p.2) (by omega) (by omega)))
theorem dealT_ok {c : List Int} {d : Deal} (hc : CostsOk c) (h : DealOk c d) : TxOk 144 (dealT d) :=
  TxOk.append (A := 4) ⟨strOk_ofString _, by decide⟩ (TxOk.join (A := 0) (B := 28) (n := 5) ⟨strOk_ofString _, by decide⟩ (fun y hy => by
    obtain ⟨p, hp, rfl⟩ := List.mem_map.mp hy
    exact offT_ok (h.price hc hp)) (by rw [List.length_map]; exact h.len hc))
theorem grpT_ok {m : Nat} {g : Grp} (hm : m ≤ 5) (h : GrpOk m g) : TxOk 93 (grpT g) :=
  (((TxOk.append (A := 6) ⟨strOk_ofString _, by decide⟩ (num_ok (i := g.1) (by have := h.1; omega) (by have := h.2.1; omega))).append (B := 4) ⟨strOk_ofString _, by decide⟩).append (numsT_ok (h.len hm) fun x hx => by have := h.2.2.2.2 x hx; omega))
theorem lines_ok {c : List Int} {ds : List Deal} {gs : List Grp} (h : RcOk c ds gs) : (∀ y ∈ linesT c ds gs, TxOk 144 y) ∧ (linesT c ds gs).length ≤ 11 := by
  refine ⟨fun y hy => ?_, ?_⟩
  · rcases List.mem_cons.mp hy with rfl | hy
    · exact (TxOk.append (A := 7) ⟨strOk_ofString _, by decide⟩ (numsT_ok h.cok.2.1 fun x hx => by have := h.cok.2.2 x hx; omega)).mono (by decide)
    · rcases List.mem_append.mp hy with hy | hy
      · obtain ⟨d, hd, rfl⟩ := List.mem_map.mp hy
        exact dealT_ok h.cok (h.dok.2 d hd)
      · obtain ⟨g, hg, rfl⟩ := List.mem_map.mp hy
        exact (grpT_ok h.dok.1 (h.gok.2.1 g hg)).mono (by decide)
  · have h1 := h.dok.1
    have h2 := h.gok.1
    unfold linesT
    rw [List.length_cons, List.length_append, List.length_map, List.length_map]
    omega
theorem text_ok {c : List Int} {ds : List Deal} {gs : List Grp} (h : RcOk c ds gs) : TxOk 1596 (textT c ds gs) :=
  (TxOk.append (TxOk.join (A := 1) (B := 144) (n := 11) ⟨strOk_ofString _, by decide⟩ (lines_ok h).1 (lines_ok h).2) (B := 1) ⟨strOk_ofString _, by decide⟩).mono (by decide)
/-! ### values -/
theorem blsOf_bl : ∀ l : List Bool, blsOf (l.map PV.bl) = some l
  | [] => rfl
  | b :: l => by
    show (blsOf (l.map PV.bl)).map _ = _
    rw [blsOf_bl l]
    rfl
theorem allF_map {α : Type} (f : α → Bool) (l : List α) : allF [.lst (l.map fun x => PV.bl (f x))] = some (.bl (l.all f)) := by
  have e : (l.map fun x => PV.bl (f x)) = (l.map f).map PV.bl := by rw [List.map_map]; rfl
  show (blsOf (l.map fun x => PV.bl (f x))).map _ = _
  rw [e, blsOf_bl]
  simp [List.all_map]
theorem anyF_map {α : Type} (f : α → Bool) (l : List α) : anyF [.lst (l.map fun x => PV.bl (f x))] = some (.bl (l.any f)) := by
  have e : (l.map fun x => PV.bl (f x)) = (l.map f).map PV.bl := by rw [List.map_map]; rfl
  show (blsOf (l.map fun x => PV.bl (f x))).map _ = _
  rw [e, blsOf_bl]
  simp [List.any_map]
theorem allF_true {α : Type} (l : List α) : allF [.lst (l.map fun _ => PV.bl true)] = some (.bl true) := by
  rw [allF_map (fun _ => true) l]
  simp
theorem neF_int (i j : Int) : neF (.int i) (.int j) = some (.bl (!decide (i = j))) := by
  show (if SeqAt.shaped (.int i) = true ∧ SeqAt.shaped (.int j) = true then some (PV.bl (!PyData.eqv (.int i) (.int j))) else none) = _
  rw [if_pos ⟨rfl, rfl⟩, eqv_int]
theorem sumF_ints (l : List Int) : sumF [.lst (l.map PV.int)] = some (.int l.sum) := by
  show (intsOf (l.map PV.int)).map _ = _
  have : ∀ l : List Int, intsOf (l.map PV.int) = some l := fun l => by
    induction l with
    | nil => rfl
    | cons i l ih =>
      show (intsOf (l.map PV.int)).map _ = _
      rw [ih]
      rfl
  rw [this]
  rfl
theorem toDs_ints : ∀ l : List Int, toDs (l.map PV.int) = some (l.map PyData.int)
  | [] => by unfold List.map toDs; rfl
  | i :: l => by
    rw [List.map_cons]
    unfold toDs
    rw [toDs_ints l]
    rfl
theorem toD_intsV (l : List Int) : toD (intsV l) = some (.tuple (l.map PyData.int)) := by
  unfold toD
  rw [toDs_ints]
  rfl
theorem eqvAll_ints : ∀ a b : List Int, PyData.eqvAll (a.map PyData.int) (b.map PyData.int) = decide (a = b)
  | [], [] => rfl
  | [], _ :: _ => by simp [PyData.eqvAll]
  | _ :: _, [] => by simp [PyData.eqvAll]
  | x :: a, y :: b => by
    show (PyData.eqv (.int x) (.int y) && PyData.eqvAll (a.map PyData.int) (b.map PyData.int)) = _
    rw [eqvAll_ints a b, eqv_int]
    simp [Bool.and_eq_true, List.cons.injEq]
theorem canLay_ints : ∀ l : List Int, PyData.canLayAll0 (l.map PyData.int) = true
  | [] => rfl
  | x :: l => by
    show (PyData.canLay0 (.int x) && PyData.canLayAll0 (l.map PyData.int)) = true
    rw [canLay_ints l]
    rfl
theorem depth_ints : ∀ l : List Int, PyData.depthAll (l.map PyData.int) = 0
  | [] => rfl
  | x :: l => by
    show max 0 (PyData.depthAll (l.map PyData.int)) = 0
    rw [depth_ints l]
    rfl
theorem shaped_ints (l : List Int) : SeqAt.shaped (.tuple (l.map PyData.int)) = true := by
  unfold SeqAt.shaped
  simp only [Bool.and_eq_true, decide_eq_true_eq]
  refine ⟨canLay_ints l, ?_⟩
  show PyData.depthAll (l.map PyData.int) + 1 ≤ 64
  rw [depth_ints]
  decide
theorem eqF_ints (a b : List Int) : eqF (intsV a) (intsV b) = some (.bl (decide (a = b))) := by
  show eqG (intsV a) (intsV b) = _
  unfold eqG
  rw [toD_intsV, toD_intsV]
  dsimp only
  rw [if_pos ⟨shaped_ints a, shaped_ints b⟩]
  show some (PV.bl (PyData.eqvAll _ _)) = _
  rw [eqvAll_ints]
theorem neF_ints (a b : List Int) : neF (intsV a) (intsV b) = some (.bl (!decide (a = b))) := by
  show neG (intsV a) (intsV b) = _
  unfold neG
  rw [toD_intsV, toD_intsV]
  dsimp only
  rw [if_pos ⟨shaped_ints a, shaped_ints b⟩]
  show some (PV.bl (!PyData.eqvAll _ _)) = _
  rw [eqvAll_ints]
/-- nested data is what it is: told the same -/
theorem same_of {p q : PV} (e : p = q) (h1 : smB p = true) (h2 : dpN p ≤ 30) (h3 : wtN p ≤ 1048576) : ∃ x, reprF [p] = some (.str x) ∧ reprF [q] = some (.str x) := by
  subst e
  obtain ⟨x, h⟩ := repr_sm h1 h2 h3
  exact ⟨x, h, h⟩
theorem sm_list {α : Type} {f : α → PV} : ∀ {l : List α}, (∀ x ∈ l, smB (f x) = true) → smBs (l.map f) = true
  | [], _ => by unfold List.map smBs; rfl
  | x :: l, h => by
    rw [List.map_cons]
    unfold smBs
    rw [h x List.mem_cons_self, sm_list fun y hy => h y (List.mem_cons_of_mem _ hy)]
    rfl
theorem dp_list {α : Type} {f : α → PV} {n : Nat} : ∀ {l : List α}, (∀ x ∈ l, dpN (f x) ≤ n) → dpNs (l.map f) ≤ n
  | [], _ => by unfold List.map dpNs; exact Nat.zero_le _
  | x :: l, h => by
    rw [List.map_cons]
    unfold dpNs
    have h1 := h x List.mem_cons_self
    have h2 := dp_list (f := f) (n := n) (l := l) fun y hy => h y (List.mem_cons_of_mem _ hy)
    omega
theorem wt_list {α : Type} {f : α → PV} {n : Nat} : ∀ {l : List α}, (∀ x ∈ l, wtN (f x) ≤ n) → wtNs (l.map f) ≤ l.length * (n + 1)
  | [], _ => by unfold List.map wtNs; exact Nat.zero_le _
  | x :: l, h => by
    rw [List.map_cons]
    unfold wtNs
    have h1 := h x List.mem_cons_self
    have h2 := wt_list (f := f) (n := n) (l := l) fun y hy => h y (List.mem_cons_of_mem _ hy)
    rw [List.length_cons, Nat.add_mul, Nat.one_mul]
    omega
/-- small, not deep, not heavy -/
def Sm (d w : Nat) (p : PV) : Prop := smB p = true ∧ dpN p ≤ d ∧ wtN p ≤ w
theorem Sm.mono {d w d' w' : Nat} {p : PV} (h : Sm d w p) (h1 : d ≤ d') (h2 : w ≤ w') : Sm d' w' p := ⟨h.1, Nat.le_trans h.2.1 h1, Nat.le_trans h.2.2 h2⟩
theorem sm_int {i : Int} (h1 : -999999999999 ≤ i) (h2 : i ≤ 999999999999) : Sm 0 40 (.int i) := ⟨by unfold smB; exact decide_eq_true ⟨h1, h2⟩, by unfold dpN; exact Nat.le_refl _, by unfold wtN; exact Nat.le_refl _⟩
theorem sm_str {B : Nat} {y : Str} (h : TxOk B y) : Sm 0 B (.str y) := ⟨by unfold smB; exact h.1, by unfold dpN; exact Nat.le_refl _, by unfold wtN; exact h.2⟩
theorem sm_tup {α : Type} {f : α → PV} {l : List α} {d w n : Nat} (hl : l.length ≤ n) (h : ∀ x ∈ l, Sm d w (f x)) : Sm (d + 1) (n * (w + 1)) (.tup (l.map f)) :=
  ⟨by unfold smB; exact sm_list fun x hx => (h x hx).1, by unfold dpN; exact Nat.succ_le_succ (dp_list fun x hx => (h x hx).2.1), by unfold wtN; exact Nat.le_trans (wt_list fun x hx => (h x hx).2.2) (Nat.mul_le_mul_right _ hl)⟩
theorem sm_lst {α : Type} {f : α → PV} {l : List α} {d w n : Nat} (hl : l.length ≤ n) (h : ∀ x ∈ l, Sm d w (f x)) : Sm (d + 1) (n * (w + 1)) (.lst (l.map f)) :=
  ⟨by unfold smB; exact sm_list fun x hx => (h x hx).1, by unfold dpN; exact Nat.succ_le_succ (dp_list fun x hx => (h x hx).2.1), by unfold wtN; exact Nat.le_trans (wt_list fun x hx => (h x hx).2.2) (Nat.mul_le_mul_right _ hl)⟩
theorem sm_tupI {l : List PV} {d w n : Nat} (hl : l.length ≤ n) (h : ∀ x ∈ l, Sm d w x) : Sm (d + 1) (n * (w + 1)) (.tup l) := by
  have := sm_tup (f := fun p : PV => p) hl h
  rwa [List.map_id'] at this
theorem sm_lstI {l : List PV} {d w n : Nat} (hl : l.length ≤ n) (h : ∀ x ∈ l, Sm d w x) : Sm (d + 1) (n * (w + 1)) (.lst l) := by
  have := sm_lst (f := fun p : PV => p) hl h
  rwa [List.map_id'] at this
theorem Sm.same {d w : Nat} {p : PV} (h : Sm d w p) (h1 : d ≤ 30) (h2 : w ≤ 1048576) : ∃ x, reprF [p] = some (.str x) := repr_sm h.1 (Nat.le_trans h.2.1 h1) (Nat.le_trans h.2.2 h2)
theorem sm_intsV {l : List Int} (hl : l.length ≤ 5) (h : ∀ x ∈ l, 0 ≤ x ∧ x ≤ 9999) : Sm 1 205 (intsV l) := sm_tup hl fun x hx => sm_int (by have := h x hx; omega) (by have := h x hx; omega)
theorem sm_deal {c : List Int} {d : Deal} (hc : CostsOk c) (h : DealOk c d) : Sm 2 415 (dealV d) := sm_tup (w := 82) (h.len hc) fun p hp => by
  have := h.price hc hp
  exact sm_tupI (d := 0) (w := 40) (n := 2) (Nat.le_refl _) fun x hx => by
    rcases List.mem_cons.mp hx with rfl | hx
    · exact sm_int (by omega) (by omega)
    · rw [List.mem_singleton.mp hx]
      exact sm_int (by omega) (by omega)
theorem sm_deals {c : List Int} {ds : List Deal} (hc : CostsOk c) (h : DealsOk c ds) : Sm 3 2080 (dealsV ds) := sm_tup h.1 fun d hd => sm_deal hc (h.2 d hd)
theorem sm_grp {m : Nat} {g : Grp} (hm : m ≤ 5) (h : GrpOk m g) : Sm 2 412 (grpV g) := sm_tupI (d := 1) (w := 205) (n := 2) (Nat.le_refl _) fun x hx => by
  rcases List.mem_cons.mp hx with rfl | hx
  · exact (sm_int (by have := h.1; omega) (by have := h.2.1; omega)).mono (by decide) (by decide)
  · rw [List.mem_singleton.mp hx]
    exact sm_intsV (h.len hm) fun x hx => by have := h.2.2.2.2 x hx; omega
theorem sm_grps {m : Nat} {gs : List Grp} (hm : m ≤ 5) (h : GrpsOk m gs) : Sm 3 2065 (grpsV gs) := sm_tup h.1 fun g hg => sm_grp hm (h.2.1 g hg)
/-! ### loops, comprehensions -/
theorem lc_yes {b : BF} {t : EF PV} {e : PL.Env} {st : Sto} {α : Type} (v : α → PV) (g : α → PV) (l : List α) (h : ∀ x ∈ l, ∃ e1, b (v x) e = some e1 ∧ t e1 st = .ok (g x) st) : lcLoop b tYesF t e (l.map v) st = .ok (l.map g) st := by
  have := lc_map (b := b) (c := tYesF) (t := t) (e := e) (st := st) v (fun _ => true) g l fun x hx => by
    obtain ⟨e1, h1, h2⟩ := h x hx
    exact ⟨e1, h1, rfl, fun _ => h2⟩
  rw [List.filter_eq_self.mpr (fun _ _ => rfl)] at this
  exact this
theorem zipF_map {α : Type} (v : α → PV) : ∀ (l m : List α), zipF (l.map v) (m.map v) = (l.zip m).map fun q => .tup [v q.1, v q.2]
  | [], _ => by cases ‹List α› <;> rfl
  | _ :: _, [] => rfl
  | x :: l, y :: m => by
    show _ :: zipF (l.map v) (m.map v) = _
    rw [zipF_map v l m]
    rfl
theorem rises_zip : ∀ (l : List Int), Rises l → (l.zip l.tail).all (fun q => decide (q.1 < q.2)) = true
  | [], _ => rfl
  | [_], _ => rfl
  | x :: y :: r, h => by
    have h1 := List.pairwise_cons.mp h
    have ih := rises_zip (y :: r) h1.2
    show (decide (x < y) && ((y :: r).zip r).all _) = true
    rw [decide_eq_true (h1.1 y List.mem_cons_self)]
    exact ih
theorem cut1 {l : List PV} : cutF l (some 1) none = l.tail := by
  unfold cutF
  cases l with
  | nil => rfl
  | cons x r =>
    have e1 : HT.sIx (x :: r).length 0 (some 1) = 1 := by
      unfold HT.sIx
      simp
    have e2 : HT.sIx (x :: r).length (x :: r).length none = (x :: r).length := rfl
    rw [e1, e2]
    simp
theorem enum_map {α : Type} (v : α → PV) (l : List α) : enumF 0 (l.map v) = (l.zipIdx).map fun q => .tup [.int (q.2 : Int), v q.1] := by
  have : ∀ (l : List α) (i : Nat), enumF i (l.map v) = (l.zipIdx i).map fun q => PV.tup [.int (q.2 : Int), v q.1] := fun l => by
    induction l with
    | nil => intro i; rfl
    | cons x l ih =>
      intro i
      show _ :: enumF (i + 1) (l.map v) = _
      have := ih (i + 1)
      rw [List.zipIdx_cons, List.map_cons, ← this]
  exact this l 0
end Rc
/-! Q01F: what the defs compute. -/
namespace Q01
open PySem PySem.Spec L2 PL
def f__law_cell_at : SF := (sSeq (sIf (tV (eOp ltF (eVar 1) (eB lenF (aCons (eVar 0) aNil)))) (sSeq (sRet (eIx (eVar 0) (eVar 1))) sNil) sNil) (sSeq (sRet (eC (.int 0))) sNil))
def F__law_cell_at : Fn := mkFn 2 f__law_cell_at
def f__law_pen : SF := (sSeq (sRetG (lDisp (aCons (eB maxF (aCons (eC (.int 0)) (aCons (eOp subF (eVar 0) (eOp powF (eC (.int 10)) (eC (.int 18)))) aNil))) (aCons (eOp modF (eVar 0) (eC (.int 1000000007))) (aCons (eC (.int 0)) aNil))))) sNil)
def F__law_pen : Fn := mkFn 1 f__law_pen
def f__law_draw : SF := (sSeq (sIf (tV (eOp gtF (eIx (eVar 0) (eC (.int 0))) (eC (.int 0)))) (sSeq (sAsg (bName 2) (eOp modF (eIx (eVar 0) (eC (.int 0))) (eVar 1))) (sSeq (sSetG (eVar 0) (eC (.int 0)) (eOp divF (eIx (eVar 0) (eC (.int 0))) (eVar 1))) (sSeq (sRet (eVar 2)) sNil))) sNil) (sSeq (sSetG (eVar 0) (eC (.int 2)) (eOp addF (eIx (eVar 0) (eC (.int 2))) (eC (.int 1)))) (sSeq (sAsg (bName 3) (eOp modF (eOp mulF (eOp addF (eIx (eVar 0) (eC (.int 1))) (eOp mulF (eC (.int 17)) (eIx (eVar 0) (eC (.int 2))))) (eOp addF (eC (.int 69621)) (eOp mulF (eC (.int 2)) (eIx (eVar 0) (eC (.int 2)))))) (eC (.int 2147483647)))) (sSeq (sAsg (bName 3) (eOp modF (eOp addF (eOp addF (eOp mulF (eVar 3) (eVar 3)) (eOp mulF (eC (.int 40503)) (eIx (eVar 0) (eC (.int 2))))) (eC (.int 5))) (eC (.int 2147483629)))) (sSeq (sRet (eOp modF (eOp divF (eOp modF (eOp mulF (eVar 3) (eC (.int 48271))) (eC (.int 2147483647))) (eC (.int 32))) (eVar 1))) sNil)))))
def F__law_draw : Fn := mkFn 4 f__law_draw
def f__law_pick : SF := (sSeq (sRet (eIx (eVar 1) (eCall F__law_draw (aCons (eVar 0) (aCons (eB lenF (aCons (eVar 1) aNil)) aNil))))) sNil)
def F__law_pick : Fn := mkFn 2 f__law_pick
def t__law_deal_0 : SF := (sSeq (sIf (tV (eOp gtF (eCall F__law_draw (aCons (eVar 0) (aCons (eC (.int 3)) aNil))) (eC (.int 0)))) (sSeq (sApp 3 (eTup (aCons (eVar 4) (aCons (eOp addF (eC (.int 1)) (eCall F__law_draw (aCons (eVar 0) (aCons (eB minF (aCons (eVar 5) (aCons (eVar 2) aNil))) aNil)))) aNil)))) sNil) sNil) sNil)
def w__law_deal_0 : SF := (sFor (iEnum1 (aCons (eVar 1) aNil)) (bTup ((bName 4) :: ((bName 5) :: []))) t__law_deal_0)
def f__law_deal : SF := (sSeq (sAsgO 3 (lDisp aNil)) (sSeq w__law_deal_0 (sSeq (sRet (eB tupF (aCons (eOwn 3) aNil))) sNil)))
def F__law_deal : Fn := mkFn 6 f__law_deal
def t__law_mixed_0 : SF := (sSeq (sAppPop 3 2 (eCall F__law_draw (aCons (eVar 0) (aCons (eB lenF (aCons (eOwn 2) aNil)) aNil)))) sNil)
def w__law_mixed_0 : SF := (sFor (iRng1 (aCons (eB lenF (aCons (eVar 1) aNil)) aNil)) (bName 4) t__law_mixed_0)
def f__law_mixed : SF := (sSeq (sPar [2, 3] (nCons (eNew (lB listF (aCons (eVar 1) aNil))) (nCons (eNew (lDisp aNil)) nNil))) (sSeq w__law_mixed_0 (sSeq (sRetO 3) sNil)))
def F__law_mixed : Fn := mkFn 5 f__law_mixed
def l__law_groups_0 : EF (List PV) := (lLc (iRng1 (aCons (eVar 1) aNil)) (bName 9) [9] tYesF (eTup (aCons (eVar 9) aNil)))
def l__law_groups_1 : EF (List PV) := (lLc (iRng1 (aCons (eVar 5) aNil)) (bName 10) [10] tYesF (ePopG (eVar 2) (eCall F__law_draw (aCons (eVar 0) (aCons (eLenG (eVar 2)) aNil)))))
def t__law_groups_0 : SF := (sSeq (sAsg (bName 7) (eOp addF (eVar 7) (eVar 8))) sNil)
def w__law_groups_0 : SF := (sFor (iSeq (eVar 6)) (bName 8) t__law_groups_0)
def l__law_groups_2 : EF (List PV) := (lLc (iSeq (eOwn 3)) (bName 11) [11] tYesF (eIx (eVar 11) (eC (.int 1))))
def t__law_groups_1 : SF := (sSeq (sAsg (bName 5) (eB minF (aCons (eLenG (eVar 2)) (aCons (eOp addF (eC (.int 1)) (eCall F__law_draw (aCons (eVar 0) (aCons (eC (.int 3)) aNil)))) aNil)))) (sSeq (sIf (tV (eOp gtF (eVar 5) (eC (.int 0)))) (sSeq (sAsg (bName 6) (eLst l__law_groups_1)) (sSeq (sAsg (bName 7) (eTup aNil)) (sSeq w__law_groups_0 (sSeq (sAsg (bName 7) (eB tupF (aCons (eLst (lB sortedF (aCons (eVar 7) aNil))) aNil))) (sSeq (sDrop (eAppG (eVar 2) (eVar 7))) (sSeq (sIf (tV (eOp (inD fun b => !b) (eVar 7) (eLst l__law_groups_2))) (sSeq (sApp 3 (eTup (aCons (eCall F__law_draw (aCons (eVar 0) (aCons (eOp addF (eB lenF (aCons (eVar 7) aNil)) (eC (.int 1))) aNil))) (aCons (eVar 7) aNil)))) sNil) sNil) sNil)))))) sNil) sNil))
def w__law_groups_1 : SF := (sFor (iRng1 (aCons (eCall F__law_draw (aCons (eVar 0) (aCons (eC (.int 5)) aNil))) aNil)) (bName 4) t__law_groups_1)
def f__law_groups : SF := (sSeq (sPar [2, 3] (nCons (eVal (eNewG l__law_groups_0)) (nCons (eNew (lDisp aNil)) nNil))) (sSeq w__law_groups_1 (sSeq (sFrz 3) (sSeq (sRet (eB tupF (aCons (eCall F__law_mixed (aCons (eVar 0) (aCons (eVar 3) aNil))) aNil))) sNil))))
def F__law_groups : Fn := mkFn 12 f__law_groups
def t__law_receipt_0 : SF := (sSeq (sAsg (bName 4) (eOp addF (eVar 4) (eTup (aCons (eOp addF (eC (.int 1)) (eCall F__law_draw (aCons (eVar 0) (aCons (eCall F__law_pick (aCons (eVar 0) (aCons (eLst (lDisp (aCons (eC (.int 20)) (aCons (eC (.int 90)) (aCons (eC (.int 9999)) aNil))))) aNil))) aNil)))) aNil)))) sNil)
def w__law_receipt_0 : SF := (sFor (iRng1 (aCons (eOp addF (eC (.int 1)) (eCall F__law_draw (aCons (eVar 0) (aCons (eVar 1) aNil)))) aNil)) (bName 5) t__law_receipt_0)
def l__law_receipt_0 : EF (List PV) := (lLc (iRng1 (aCons (eCall F__law_draw (aCons (eVar 0) (aCons (eOp addF (eVar 2) (eC (.int 1))) aNil))) aNil)) (bName 7) [7] tYesF (eCall F__law_deal (aCons (eVar 0) (aCons (eVar 4) (aCons (eVar 3) aNil)))))
def f__law_receipt : SF := (sSeq (sAsg (bName 3) (eCall F__law_pick (aCons (eVar 0) (aCons (eLst (lDisp (aCons (eC (.int 3)) (aCons (eC (.int 9)) (aCons (eC (.int 9)) (aCons (eC (.int 60)) (aCons (eC (.int 9999)) aNil))))))) aNil)))) (sSeq (sAsg (bName 4) (eTup aNil)) (sSeq w__law_receipt_0 (sSeq (sAsg (bName 6) (eB tupF (aCons (eLst l__law_receipt_0) aNil))) (sSeq (sRet (eTup (aCons (eVar 4) (aCons (eVar 6) (aCons (eCall F__law_groups (aCons (eVar 0) (aCons (eB lenF (aCons (eVar 6) aNil)) aNil))) aNil))))) sNil)))))
def F__law_receipt : Fn := mkFn 8 f__law_receipt
def l__law_text_0 : EF (List PV) := (lLc (iSeq (eVar 0)) (bName 7) [7] tYesF (eB strF (aCons (eVar 7) aNil)))
def l__law_text_1 : EF (List PV) := (lLc (iSeq (eVar 4)) (bTup ((bName 8) :: ((bName 9) :: []))) [8, 9] tYesF (eOp addF (eOp addF (eOp addF (eC (.str " ")) (eB strF (aCons (eVar 8) aNil))) (eC (.str ":"))) (eB strF (aCons (eVar 9) aNil))))
def t__law_text_0 : SF := (sSeq (sApp 3 (eOp addF (eC (.str "deal")) (eTx joinF (eC (.str "")) (eLst l__law_text_1)))) sNil)
def w__law_text_0 : SF := (sFor (iSeq (eVar 1)) (bName 4) t__law_text_0)
def l__law_text_2 : EF (List PV) := (lLc (iSeq (eVar 6)) (bName 10) [10] tYesF (eB strF (aCons (eVar 10) aNil)))
def t__law_text_1 : SF := (sSeq (sApp 3 (eOp addF (eOp addF (eOp addF (eC (.str "group ")) (eB strF (aCons (eVar 5) aNil))) (eC (.str " of "))) (eTx joinF (eC (.str " ")) (eLst l__law_text_2)))) sNil)
def w__law_text_1 : SF := (sFor (iSeq (eVar 2)) (bTup ((bName 5) :: ((bName 6) :: []))) t__law_text_1)
def f__law_text : SF := (sSeq (sAsgO 3 (lDisp (aCons (eOp addF (eC (.str "prices ")) (eTx joinF (eC (.str " ")) (eLst l__law_text_0))) aNil))) (sSeq w__law_text_0 (sSeq w__law_text_1 (sSeq (sRet (eOp addF (eTx joinF (eC (.str "\n")) (eOwn 3)) (eC (.str "\n")))) sNil))))
def F__law_text : Fn := mkFn 11 f__law_text
def f__law_due : SF := (sSeq (sAsg (bName 3) (eLst (lDisp (aCons (eOp addF (eB strF (aCons (eB lenF (aCons (eVar 0) aNil)) aNil)) (eC (.str " lines"))) (aCons (eOp addF (eB strF (aCons (eB lenF (aCons (eVar 1) aNil)) aNil)) (eC (.str " deals"))) (aCons (eOp addF (eB strF (aCons (eB lenF (aCons (eVar 2) aNil)) aNil)) (eC (.str " groups"))) aNil)))))) (sSeq (sAsg (bName 4) (eOp addF (eOp addF (eC (.str "Receipt(")) (eTx joinF (eC (.str ", ")) (eVar 3))) (eC (.str ")")))) (sSeq (sRet (eTup (aCons (eVar 0) (aCons (eVar 1) (aCons (eVar 2) (aCons (eB sumF (aCons (eLst (lB listF (aCons (eVar 0) aNil))) aNil)) (aCons (eB lenF (aCons (eVar 1) aNil)) (aCons (eVar 4) (aCons (eCall F__law_text (aCons (eVar 0) (aCons (eVar 1) (aCons (eVar 2) aNil)))) aNil))))))))) sNil)))
def F__law_due : Fn := mkFn 5 f__law_due
def f_is_integer : SF := (sSeq (sRet (eAnd (eUn (isiF .int) (eVar 0)) (eNot (eUn (isiF .bool) (eVar 0))))) sNil)
def F_is_integer : Fn := mkFn 1 f_is_integer
def f_is_between : SF := (sSeq (sRet (eAnd (eCall F_is_integer (aCons (eVar 0) aNil)) (eChain leF leF (eVar 1) (eVar 0) (eVar 2)))) sNil)
def F_is_between : Fn := mkFn 3 f_is_between
def l_are_prices_0 : EF (List PV) := (lLc (iSeq (eVar 0)) (bName 1) [1] tYesF (eCall F_is_between (aCons (eVar 1) (aCons (eC (.int 1)) (aCons (eC (.int 9999)) aNil)))))
def f_are_prices : SF := (sSeq (sIf (tOrF (tNotF (tV (eUn (isiF .tuple) (eVar 0)))) (tNotF (tV (eChain leF leF (eC (.int 1)) (eB lenF (aCons (eVar 0) aNil)) (eC (.int 5)))))) (sSeq (sRet (eC (.bl false))) sNil) sNil) (sSeq (sRet (eB allF (aCons (eLst l_are_prices_0) aNil))) sNil))
def F_are_prices : Fn := mkFn 2 f_are_prices
def l_is_pair_0 : EF (List PV) := (lLc (iSeq (eVar 0)) (bName 1) [1] tYesF (eCall F_is_integer (aCons (eVar 1) aNil)))
def f_is_pair : SF := (sSeq (sRet (eAnd (eUn (isiF .tuple) (eVar 0)) (eAnd (eOp eqF (eB lenF (aCons (eVar 0) aNil)) (eC (.int 2))) (eB allF (aCons (eLst l_is_pair_0) aNil))))) sNil)
def F_is_pair : Fn := mkFn 2 f_is_pair
def f_is_offer : SF := (sSeq (sRet (eAnd (eCall F_is_pair (aCons (eVar 1) aNil)) (eAnd (eChain leF ltF (eC (.int 0)) (eIx (eVar 1) (eC (.int 0))) (eB lenF (aCons (eVar 0) aNil))) (eChain leF leF (eC (.int 1)) (eIx (eVar 1) (eC (.int 1))) (eIx (eVar 0) (eIx (eVar 1) (eC (.int 0)))))))) sNil)
def F_is_offer : Fn := mkFn 2 f_is_offer
def l_rises_0 : EF (List PV) := (lLc (iZip2 (aCons (eVar 0) (aCons (eSl (eVar 0) (oSome (eC (.int 1))) oNone) aNil))) (bTup ((bName 1) :: ((bName 2) :: []))) [1, 2] tYesF (eOp ltF (eVar 1) (eVar 2)))
def f_rises : SF := (sSeq (sRet (eB allF (aCons (eLst l_rises_0) aNil))) sNil)
def F_rises : Fn := mkFn 3 f_rises
def l_is_deal_0 : EF (List PV) := (lLc (iSeq (eVar 1)) (bName 2) [2] tYesF (eCall F_is_offer (aCons (eVar 0) (aCons (eVar 2) aNil))))
def l_is_deal_1 : EF (List PV) := (lLc (iSeq (eVar 1)) (bName 2) [2] tYesF (eIx (eVar 2) (eC (.int 0))))
def f_is_deal : SF := (sSeq (sIf (tOrF (tNotF (tV (eUn (isiF .tuple) (eVar 1)))) (tNotF (tV (eB allF (aCons (eLst l_is_deal_0) aNil))))) (sSeq (sRet (eC (.bl false))) sNil) sNil) (sSeq (sRet (eCall F_rises (aCons (eLst l_is_deal_1) aNil))) sNil))
def F_is_deal : Fn := mkFn 3 f_is_deal
def l_are_deals_0 : EF (List PV) := (lLc (iSeq (eVar 1)) (bName 2) [2] tYesF (eCall F_is_deal (aCons (eVar 0) (aCons (eVar 2) aNil))))
def f_are_deals : SF := (sSeq (sRet (eAnd (eUn (isiF .tuple) (eVar 1)) (eAnd (eOp leF (eB lenF (aCons (eVar 1) aNil)) (eC (.int 5))) (eB allF (aCons (eLst l_are_deals_0) aNil))))) sNil)
def F_are_deals : Fn := mkFn 3 f_are_deals
def l_is_set_0 : EF (List PV) := (lLc (iSeq (eVar 0)) (bName 2) [2] tYesF (eCall F_is_between (aCons (eVar 2) (aCons (eC (.int 0)) (aCons (eOp subF (eVar 1) (eC (.int 1))) aNil)))))
def f_is_set : SF := (sSeq (sRet (eAnd (eUn (isiF .tuple) (eVar 0)) (eAnd (eB allF (aCons (eLst l_is_set_0) aNil)) (eCall F_rises (aCons (eVar 0) aNil))))) sNil)
def F_is_set : Fn := mkFn 3 f_is_set
def f_is_group : SF := (sSeq (sIf (tOrF (tNotF (tV (eUn (isiF .tuple) (eVar 1)))) (tOrF (tV (eOp neF (eB lenF (aCons (eVar 1) aNil)) (eC (.int 2)))) (tNotF (tV (eCall F_is_between (aCons (eIx (eVar 1) (eC (.int 0))) (aCons (eC (.int 0)) (aCons (eC (.int 5)) aNil)))))))) (sSeq (sRet (eC (.bl false))) sNil) sNil) (sSeq (sRet (eAnd (eCall F_is_set (aCons (eIx (eVar 1) (eC (.int 1))) (aCons (eVar 0) aNil))) (eOp neF (eIx (eVar 1) (eC (.int 1))) (eTup aNil)))) sNil))
def F_is_group : Fn := mkFn 2 f_is_group
def l_are_groups_0 : EF (List PV) := (lLc (iSeq (eVar 1)) (bName 2) [2] tYesF (eCall F_is_group (aCons (eVar 0) (aCons (eVar 2) aNil))))
def f_are_groups : SF := (sSeq (sRet (eAnd (eUn (isiF .tuple) (eVar 1)) (eAnd (eOp leF (eB lenF (aCons (eVar 1) aNil)) (eC (.int 5))) (eB allF (aCons (eLst l_are_groups_0) aNil))))) sNil)
def F_are_groups : Fn := mkFn 3 f_are_groups
def l_are_apart_0 : EF (List PV) := (lLc (iSeq (eVar 0)) (bName 2) [2] tYesF (eOp inF (eVar 2) (eVar 1)))
def f_are_apart : SF := (sSeq (sRet (eNot (eB anyF (aCons (eLst l_are_apart_0) aNil)))) sNil)
def F_are_apart : Fn := mkFn 3 f_are_apart
def l_is_inside_0 : EF (List PV) := (lLc (iSeq (eVar 0)) (bName 2) [2] tYesF (eOp inF (eVar 2) (eVar 1)))
def f_is_inside : SF := (sSeq (sRet (eB allF (aCons (eLst l_is_inside_0) aNil))) sNil)
def F_is_inside : Fn := mkFn 3 f_is_inside
def f_do_cross : SF := (sSeq (sRet (eOr (eOp eqF (eVar 0) (eVar 1)) (eNot (eOr (eCall F_are_apart (aCons (eVar 0) (aCons (eVar 1) aNil))) (eOr (eCall F_is_inside (aCons (eVar 0) (aCons (eVar 1) aNil))) (eCall F_is_inside (aCons (eVar 1) (aCons (eVar 0) aNil)))))))) sNil)
def F_do_cross : Fn := mkFn 2 f_do_cross
def t_first_crossed_0 : SF := (sSeq (sIf (tV (eCall F_do_cross (aCons (eIx (eVar 4) (eC (.int 1))) (aCons (eIx (eVar 2) (eC (.int 1))) aNil)))) (sSeq (sRet (eTup (aCons (eVar 3) (aCons (eVar 1) aNil)))) sNil) sNil) sNil)
def w_first_crossed_0 : SF := (sFor (iEnum1 (aCons (eSl (eVar 0) oNone (oSome (eVar 1))) aNil)) (bTup ((bName 3) :: ((bName 4) :: []))) t_first_crossed_0)
def t_first_crossed_1 : SF := (sSeq w_first_crossed_0 sNil)
def w_first_crossed_1 : SF := (sFor (iEnum1 (aCons (eVar 0) aNil)) (bTup ((bName 1) :: ((bName 2) :: []))) t_first_crossed_1)
def f_first_crossed : SF := (sSeq w_first_crossed_1 (sSeq (sRet (eC .non)) sNil))
def F_first_crossed : Fn := mkFn 5 f_first_crossed
def f_Receipt___init__ : SF := (sSeq (sIf (tNotF (tV (eCall F_are_prices (aCons (eVar 1) aNil)))) (sSeq sNever sNil) sNil) (sSeq (sIf (tNotF (tV (eCall F_are_deals (aCons (eVar 1) (aCons (eVar 2) aNil))))) (sSeq sNever sNil) sNil) (sSeq (sIf (tNotF (tV (eCall F_are_groups (aCons (eB lenF (aCons (eVar 2) aNil)) (aCons (eVar 3) aNil))))) (sSeq sNever sNil) sNil) (sSeq (sAsg (bName 4) (eCall F_first_crossed (aCons (eVar 3) aNil))) (sSeq (sIf (tV (eOp isntF (eVar 4) (eC .non))) (sSeq sNever sNil) sNil) (sSeq (sAsgX (gxTup ((gxFld "Receipt" "costs" (eVar 0)) :: ((gxFld "Receipt" "offers" (eVar 0)) :: ((gxFld "Receipt" "bounds" (eVar 0)) :: [])))) (eTup (aCons (eVar 1) (aCons (eVar 2) (aCons (eVar 3) aNil))))) sNil))))))
def F_Receipt___init__ : Fn := mkFn 5 f_Receipt___init__
def l_Receipt_total_0 : EF (List PV) := (lLc (iSeq (eFld "Receipt" "costs" (eVar 0))) (bName 1) [1] tYesF (eVar 1))
def f_Receipt_total : SF := (sSeq (sRet (eB sumF (aCons (eLst l_Receipt_total_0) aNil))) sNil)
def F_Receipt_total : Fn := mkFn 2 f_Receipt_total
def f_Receipt_groups : SF := (sSeq (sRet (eFld "Receipt" "bounds" (eVar 0))) sNil)
def F_Receipt_groups : Fn := mkFn 1 f_Receipt_groups
def f_Receipt_deals : SF := (sSeq (sRet (eFld "Receipt" "offers" (eVar 0))) sNil)
def F_Receipt_deals : Fn := mkFn 1 f_Receipt_deals
def f_Receipt_prices : SF := (sSeq (sRet (eFld "Receipt" "costs" (eVar 0))) sNil)
def F_Receipt_prices : Fn := mkFn 1 f_Receipt_prices
def l_numbers_text_0 : EF (List PV) := (lLc (iSeq (eVar 0)) (bName 1) [1] tYesF (eB strF (aCons (eVar 1) aNil)))
def f_numbers_text : SF := (sSeq (sRet (eTx joinF (eC (.str " ")) (eLst l_numbers_text_0))) sNil)
def F_numbers_text : Fn := mkFn 2 f_numbers_text
def l_receipt_lines_0 : EF (List PV) := (lLc (iSeq (eVar 4)) (bTup ((bName 5) :: ((bName 6) :: []))) [5, 6] tYesF (eJStr (jCons (eC (.str " ")) (jCons (eFmt (eVar 5)) (jCons (eC (.str ":")) (jCons (eFmt (eVar 6)) jNil))))))
def t_receipt_lines_0 : SF := (sSeq (sApp 3 (eOp addF (eC (.str "deal")) (eTx joinF (eC (.str "")) (eLst l_receipt_lines_0)))) sNil)
def w_receipt_lines_0 : SF := (sFor (iSeq (eVar 1)) (bName 4) t_receipt_lines_0)
def l_receipt_lines_1 : EF (List PV) := (lLc (iSeq (eVar 2)) (bTup ((bName 7) :: ((bName 8) :: []))) [7, 8] tYesF (eOp addF (eOp addF (eOp addF (eC (.str "group ")) (eB strF (aCons (eVar 7) aNil))) (eC (.str " of "))) (eCall F_numbers_text (aCons (eVar 8) aNil))))
def f_receipt_lines : SF := (sSeq (sAsgO 3 (lDisp (aCons (eOp addF (eC (.str "prices ")) (eCall F_numbers_text (aCons (eVar 0) aNil))) aNil))) (sSeq w_receipt_lines_0 (sSeq (sRet (eOp addF (eOwn 3) (eLst l_receipt_lines_1))) sNil)))
def F_receipt_lines : Fn := mkFn 9 f_receipt_lines
def l_Receipt_text_0 : EF (List PV) := (lLc (iSeq (eCall F_receipt_lines (aCons (eFld "Receipt" "costs" (eVar 0)) (aCons (eFld "Receipt" "offers" (eVar 0)) (aCons (eFld "Receipt" "bounds" (eVar 0)) aNil))))) (bName 1) [1] tYesF (eOp addF (eVar 1) (eC (.str "\n"))))
def f_Receipt_text : SF := (sSeq (sRet (eTx joinF (eC (.str "")) (eLst l_Receipt_text_0))) sNil)
def F_Receipt_text : Fn := mkFn 2 f_Receipt_text
def f_Receipt___repr__ : SF := (sSeq (sRet (eJStr (jCons (eC (.str "Receipt(")) (jCons (eFmt (eB lenF (aCons (eFld "Receipt" "costs" (eVar 0)) aNil))) (jCons (eC (.str " lines, ")) (jCons (eFmt (eB lenF (aCons (eFld "Receipt" "offers" (eVar 0)) aNil))) (jCons (eC (.str " deals, ")) (jCons (eFmt (eB lenF (aCons (eFld "Receipt" "bounds" (eVar 0)) aNil))) (jCons (eC (.str " groups)")) jNil))))))))) sNil)
def F_Receipt___repr__ : Fn := mkFn 1 f_Receipt___repr__
def f_Receipt___len__ : SF := (sSeq (sRet (eB lenF (aCons (eFld "Receipt" "offers" (eVar 0)) aNil))) sNil)
def F_Receipt___len__ : Fn := mkFn 1 f_Receipt___len__
def f__law_seen : SF := (sSeq (sAsg (bName 1) (eTup (aCons (eProp "Receipt" F_Receipt_prices (eVar 0)) (aCons (eProp "Receipt" F_Receipt_deals (eVar 0)) (aCons (eProp "Receipt" F_Receipt_groups (eVar 0)) (aCons (eProp "Receipt" F_Receipt_total (eVar 0)) aNil)))))) (sSeq (sRet (eOp addF (eVar 1) (eTup (aCons (eOwn1 "Receipt" zLen F_Receipt___len__ (eVar 0)) (aCons (eOwn1 "Receipt" zStr F_Receipt___repr__ (eVar 0)) (aCons (eMeth "Receipt" "text" F_Receipt_text (eVar 0) aNil) aNil)))))) sNil))
def F__law_seen : Fn := mkFn 2 f__law_seen
def f__law_same : SF := (sSeq (sRet (eOp eqF (eB reprF (aCons (eVar 0) aNil)) (eB reprF (aCons (eVar 1) aNil)))) sNil)
def F__law_same : Fn := mkFn 2 f__law_same
def l__law_is_right_0 : EF (List PV) := (lLc (iSeq (eVar 6)) (bName 8) [8] (tOrF (tNotF (tV (eIsO [("Receipt", true)] (eVar 8)))) (tV (eOp neF (eCon "Receipt" "LIMIT" (.int 5) (eVar 8)) (eC (.int 5))))) (eC (.int 1)))
def l__law_is_right_1 : EF (List PV) := (lLc (iSeq (eVar 6)) (bName 8) [8] tYesF (eCall F__law_seen (aCons (eVar 8) aNil)))
def l__law_is_right_2 : EF (List PV) := (lLc (iSeq (eVar 6)) (bName 8) [8] tYesF (eCall F__law_seen (aCons (eVar 8) aNil)))
def t__law_is_right_0 : SF := (sSeq (sAsgO 6 (lDisp (aCons (eMake "Receipt" F_Receipt___init__ 3 0 4 [.tup [], .tup []] [.pos 1, .pos 2, .pos 3] (aCons (eVar 0) (aCons (eVar 1) (aCons (eVar 2) aNil))) aNil) (aCons (eMake "Receipt" F_Receipt___init__ 2 0 4 [.tup [], .tup []] [.pos 1, .pos 2, .dfl 1] (aCons (eVar 0) (aCons (eVar 1) aNil)) aNil) (aCons (eMake "Receipt" F_Receipt___init__ 1 0 4 [.tup [], .tup []] [.pos 1, .dfl 0, .dfl 1] (aCons (eVar 0) aNil) aNil) aNil))))) (sSeq (sApp 6 (eMake "Receipt" F_Receipt___init__ 0 3 4 [.tup [], .tup []] [.kw 1, .kw 2, .kw 0] aNil (aCons (eVar 2) (aCons (eVar 0) (aCons (eVar 1) aNil))))) (sSeq (sAsg (bName 6) (eOp addF (eOwn 6) (eLst (lDisp (aCons (eMake "Receipt" F_Receipt___init__ 1 2 4 [.tup [], .tup []] [.pos 1, .kw 1, .kw 0] (aCons (eVar 0) aNil) (aCons (eVar 2) (aCons (eVar 1) aNil))) (aCons (eMake "Receipt" F_Receipt___init__ 1 1 4 [.tup [], .tup []] [.pos 1, .kw 0, .dfl 1] (aCons (eVar 0) aNil) (aCons (eVar 1) aNil)) aNil)))))) (sSeq (sAsg (bName 6) (eOp addF (eVar 6) (eLst (lDisp (aCons (eMake "Receipt" F_Receipt___init__ 1 1 4 [.tup [], .tup []] [.pos 1, .dfl 0, .kw 0] (aCons (eVar 0) aNil) (aCons (eTup aNil) aNil)) (aCons (eMake "Receipt" F_Receipt___init__ 0 1 4 [.tup [], .tup []] [.kw 0, .dfl 0, .dfl 1] aNil (aCons (eVar 0) aNil)) aNil)))))) (sSeq (sIf (tV (eOp neF (eLst l__law_is_right_0) (eLst (lDisp aNil)))) (sSeq (sRet (eC (.bl false))) sNil) sNil) (sSeq (sAsg (bName 7) (eLst l__law_is_right_1)) (sSeq (sIf (tNotF (tV (eCall F__law_same (aCons (eLst (lDisp (aCons (eVar 7) (aCons (eLst l__law_is_right_2) aNil)))) (aCons (eLst (lDisp (aCons (eVar 4) (aCons (eVar 4) aNil)))) aNil))))) (sSeq (sRet (eC (.bl false))) sNil) sNil) sNil)))))))
def w__law_is_right_0 : SF := (sFor (iRng1 (aCons (eC (.int 2)) aNil)) (bName 5) t__law_is_right_0)
def f__law_is_right : SF := (sSeq (sAsg (bName 3) (eB reprF (aCons (eTup (aCons (eVar 0) (aCons (eVar 1) (aCons (eVar 2) aNil)))) aNil))) (sSeq (sAsg (bName 4) (eLst (lDisp (aCons (eCall F__law_due (aCons (eVar 0) (aCons (eVar 1) (aCons (eVar 2) aNil)))) (aCons (eCall F__law_due (aCons (eVar 0) (aCons (eVar 1) (aCons (eTup aNil) aNil)))) (aCons (eCall F__law_due (aCons (eVar 0) (aCons (eTup aNil) (aCons (eTup aNil) aNil)))) aNil)))))) (sSeq (sAsg (bName 4) (eOp addF (eVar 4) (eLst (lDisp (aCons (eIx (eVar 4) (eC (.int 0))) (aCons (eIx (eVar 4) (eC (.int 0))) (aCons (eIx (eVar 4) (eC (.int 1))) (aCons (eIx (eVar 4) (eC (.int 2))) (aCons (eIx (eVar 4) (eC (.int 2))) aNil))))))))) (sSeq w__law_is_right_0 (sSeq (sRet (eOp eqF (eB reprF (aCons (eTup (aCons (eVar 0) (aCons (eVar 1) (aCons (eVar 2) aNil)))) aNil)) (eVar 3))) sNil)))))
def F__law_is_right : Fn := mkFn 9 f__law_is_right
def t_law_0 : SF := (sSeq (sAsg (bTup ((bName 4) :: ((bName 5) :: ((bName 6) :: [])))) (eCall F__law_receipt (aCons (eVar 2) (aCons (eC (.int 5)) (aCons (eC (.int 5)) aNil))))) (sSeq (sIf (tNotF (tV (eCall F__law_is_right (aCons (eVar 4) (aCons (eVar 5) (aCons (eVar 6) aNil)))))) (sSeq (sRet (eC (.bl false))) sNil) sNil) sNil))
def w_law_0 : SF := (sFor (iRng1 (aCons (eC (.int 12)) aNil)) (bName 3) t_law_0)
def t_law_1 : SF := (sSeq (sAsg (bName 2) (eCall F__law_pen (aCons (eVar 1) aNil))) (sSeq w_law_0 sNil))
def w_law_1 : SF := (sFor (iSeq (eOp addF (eLst (lDisp (aCons (eCall F__law_cell_at (aCons (eVar 0) (aCons (eC (.int 0)) aNil))) aNil))) (eSl (eVar 0) (oSome (eC (.int 1))) (oSome (eC (.int 3)))))) (bName 1) t_law_1)
def l_law_0 : EF (List PV) := (lLc (iRng1 (aCons (eVar 7) aNil)) (bName 10) [10] tYesF (eOp subF (eC (.int 9999)) (eVar 10)))
def l_law_1 : EF (List PV) := (lLc (iEnum1 (aCons (eVar 4) aNil)) (bTup ((bName 10) :: ((bName 11) :: []))) [10, 11] tYesF (eTup (aCons (eVar 10) (aCons (eVar 11) aNil))))
def t_law_2 : SF := (sSeq (sAsg (bName 4) (eB tupF (aCons (eLst l_law_0) aNil))) (sSeq (sAsg (bName 8) (eB tupF (aCons (eLst l_law_1) aNil))) (sSeq (sAsg (bName 9) (eTup (aCons (eTup (aCons (eC (.int 5)) (aCons (eTup (aCons (eC (.int 0)) (aCons (eC (.int 1)) (aCons (eC (.int 2)) (aCons (eC (.int 3)) (aCons (eC (.int 4)) aNil)))))) aNil))) (aCons (eTup (aCons (eC (.int 0)) (aCons (eTup (aCons (eC (.int 0)) (aCons (eC (.int 1)) (aCons (eC (.int 2)) (aCons (eC (.int 3)) aNil))))) aNil))) (aCons (eTup (aCons (eC (.int 3)) (aCons (eTup (aCons (eC (.int 0)) (aCons (eC (.int 1)) (aCons (eC (.int 2)) aNil)))) aNil))) (aCons (eTup (aCons (eC (.int 5)) (aCons (eTup (aCons (eC (.int 1)) (aCons (eC (.int 2)) aNil))) aNil))) (aCons (eTup (aCons (eC (.int 1)) (aCons (eTup (aCons (eC (.int 4)) aNil)) aNil))) aNil))))))) (sSeq (sIf (tNotF (tV (eCall F__law_is_right (aCons (eVar 4) (aCons (eTup (aCons (eVar 8) (aCons (eTup aNil) (aCons (eVar 8) (aCons (eVar 8) (aCons (eSl (eVar 8) oNone (oSome (eC (.int 1)))) aNil)))))) (aCons (eVar 9) aNil)))))) (sSeq (sRet (eC (.bl false))) sNil) sNil) sNil))))
def w_law_2 : SF := (sFor (iRng2 (aCons (eC (.int 1)) (aCons (eC (.int 6)) aNil))) (bName 7) t_law_2)
def f_law : SF := (sSeq w_law_1 (sSeq w_law_2 (sSeq (sRet (eOp eqF (eC (.int 5)) (eC (.int 5)))) sNil)))
def F_law : Fn := mkFn 12 f_law
end Q01
namespace Q01
open PySem PySem.Spec PyProof.Rows L2 PL
def top (i : Nat) : Stmt := PySem.Challenge.pw_joineddeals_k01_receipts_made.main.body.getD i (.Pass ⟨0, 0, 0, 0⟩)
def bodyC : Stmt → List Stmt
  | .ClassDef _ _ _ b .. => b
  | _ => []
def meth (i j : Nat) : Stmt := (bodyC (top i)).getD j (.Pass ⟨0, 0, 0, 0⟩)
abbrev FnQ (K : PySem.W.Frag) (x q : Str) (st : Stmt) (dvs : List V) (f : Addr) (fd : FuncData) : Prop := FunD K x q (defArgs st) (defBody st) (defScope st) dvs [] f fd
def sh_Receipt : List (Nat × List Str × List Src) := [(1, [], [.pos 1, .dfl 0, .dfl 1]), (2, [], [.pos 1, .pos 2, .dfl 1]), (3, [], [.pos 1, .pos 2, .pos 3]), (0, ["groups", "prices", "deals"], [.kw 1, .kw 2, .kw 0]), (1, ["deals"], [.pos 1, .kw 0, .dfl 1]), (1, ["groups", "deals"], [.pos 1, .kw 1, .kw 0]), (0, ["prices"], [.kw 0, .dfl 0, .dfl 1]), (1, ["groups"], [.pos 1, .dfl 0, .kw 0])]
structure Fc (K : PySem.W.Frag) (mg : Str → Option Value) : Prop where
  len : mg "len" = none
  max : mg "max" = none
  range : mg "range" = none
  tuple : mg "tuple" = none
  enumerate : mg "enumerate" = none
  min : mg "min" = none
  sorted : mg "sorted" = none
  list : mg "list" = none
  repr : mg "repr" = none
  str : mg "str" = none
  sum : mg "sum" = none
  isinstance : mg "isinstance" = none
  MOST_LINES : ∃ t, mg "MOST_LINES" = some (.int 5 t)
  all : mg "all" = none
  MOST_PRICE : ∃ t, mg "MOST_PRICE" = some (.int 9999 t)
  int : mg "int" = none
  bool : mg "bool" = none
  MOST_DEALS : ∃ t, mg "MOST_DEALS" = some (.int 5 t)
  zip : mg "zip" = none
  MOST_GROUPS : ∃ t, mg "MOST_GROUPS" = some (.int 5 t)
  MOST_LIMIT : ∃ t, mg "MOST_LIMIT" = some (.int 5 t)
  any : mg "any" = none
  cls_Receipt : Cls K (He.ga K "Receipt")
  na_Receipt_bounds : NoAttr K (He.ga K "Receipt") "bounds"
  na_Receipt_offers : NoAttr K (He.ga K "Receipt") "offers"
  na_Receipt_costs : NoAttr K (He.ga K "Receipt") "costs"
  glo_Receipt : mg "Receipt" = some (.ref (He.ga K "Receipt"))
  mk_Receipt : Mk K (He.ga K "Receipt") (He.ma K (He.ga K "Receipt") "__init__")
  iso_Receipt : InsOf K "Receipt" [("Receipt", true)]
  con_Receipt_LIMIT : ∃ v, litV (.int 5) = some v ∧ ∃ u, Con K (He.ga K "Receipt") "LIMIT" v u
  pr_Receipt_total : PropOf K (He.ga K "Receipt") "total" (entA K "Receipt" "total") (prA K "Receipt" "total")
  pr_Receipt_groups : PropOf K (He.ga K "Receipt") "groups" (entA K "Receipt" "groups") (prA K "Receipt" "groups")
  pr_Receipt_deals : PropOf K (He.ga K "Receipt") "deals" (entA K "Receipt" "deals") (prA K "Receipt" "deals")
  pr_Receipt_prices : PropOf K (He.ga K "Receipt") "prices" (entA K "Receipt" "prices") (prA K "Receipt" "prices")
  PRICES : ∃ t, mg "PRICES" = some (.str "prices " t)
  DEAL : ∃ t, mg "DEAL" = some (.str "deal" t)
  GROUP : ∃ t, mg "GROUP" = some (.str "group " t)
  OF : ∃ t, mg "OF" = some (.str " of " t)
  me_Receipt_text : Meth K (He.ga K "Receipt") "text" (He.ma K (He.ga K "Receipt") "text")
  me_Receipt___repr__ : Meth K (He.ga K "Receipt") "__repr__" (He.ma K (He.ga K "Receipt") "__repr__")
  me_Receipt___len__ : Meth K (He.ga K "Receipt") "__len__" (He.ma K (He.ga K "Receipt") "__len__")
  crd_Receipt : ClX.CRead K (He.ga K "Receipt") (.type "type")
  cval_Receipt_LIMIT : ∃ v, litV (.int 5) = some v ∧ ∃ u, ClX.CVal K (He.ga K "Receipt") (.type "type") "LIMIT" v u
section
variable {P : Program} {w : World} {K : PySem.W.Frag} {mg : Str → Option Value} {base : Heap} {a : Addr} {fd : FuncData} {dvs : List V}
theorem sc__law_cell_at : FnScope ["_law_script", "_law_k"] ["_law_script", "_law_k"] (defScope (top 58)) := ⟨rfl, rfl, rfl, by decide +kernel, rfl, by decide +kernel, by decide +kernel⟩
theorem ok__law_cell_at (A : Fc K mg) (F : FnQ K "_law_cell_at" "_law_cell_at" (top 58) [] a fd)  : FnG P w K mg base 1 a fd ["_law_script", "_law_k"] (spF K 2 F__law_cell_at) :=
  have S := sc__law_cell_at
  fnG_of F S (by decide) fun cdv A' outer s H E hr hgd =>
    have tk : Takes (cxOf (L2.CX P w) P w K mg base ["_law_script", "_law_k"] "_law_cell_at" (defScope (top 58)) a cdv A' outer s H E) (WE E) := takes_of rfl rfl rfl rfl
    have ps : PassesOwn (model P w) (cxOf (L2.CX P w) P w K mg base ["_law_script", "_law_k"] "_law_cell_at" (defScope (top 58)) a cdv A' outer s H E).A (cxOf (L2.CX P w) P w K mg base ["_law_script", "_law_k"] "_law_cell_at" (defScope (top 58)) a cdv A' outer s H E).env (cxOf (L2.CX P w) P w K mg base ["_law_script", "_law_k"] "_law_cell_at" (defScope (top 58)) a cdv A' outer s H E).xe := passes_of rfl
    (mss_cons (ms_if (gt_cmp (o_lt hr) (ME.mb (gv 1)) (ME.mb (g_len A.len (mab_cons (ME.mb (gv 0)) mab_nil)))) (mss_cons (ms_ret (g_ix (ME.mb (gv 0)) (gv 1))) mss_nil) mss_nil) (mss_cons (ms_ret m_int) mss_nil))
theorem sc__law_pen : FnScope ["_law_cell"] ["_law_cell"] (defScope (top 59)) := ⟨rfl, rfl, rfl, by decide +kernel, rfl, by decide +kernel, by decide +kernel⟩
theorem ok__law_pen (A : Fc K mg) (F : FnQ K "_law_pen" "_law_pen" (top 59) [] a fd)  : FnG P w K mg base 1 a fd ["_law_cell"] (spF K 1 F__law_pen) :=
  have S := sc__law_pen
  fnG_of F S (by decide) fun cdv A' outer s H E hr hgd =>
    have tk : Takes (cxOf (L2.CX P w) P w K mg base ["_law_cell"] "_law_pen" (defScope (top 59)) a cdv A' outer s H E) (WE E) := takes_of rfl rfl rfl rfl
    have ps : PassesOwn (model P w) (cxOf (L2.CX P w) P w K mg base ["_law_cell"] "_law_pen" (defScope (top 59)) a cdv A' outer s H E).A (cxOf (L2.CX P w) P w K mg base ["_law_cell"] "_law_pen" (defScope (top 59)) a cdv A' outer s H E).env (cxOf (L2.CX P w) P w K mg base ["_law_cell"] "_law_pen" (defScope (top 59)) a cdv A' outer s H E).xe := passes_of rfl
    (mss_cons (ms_retG (ml_lst (ma_cons (g_max A.max (mab_cons (ME.mb m_int) (mab_cons (ME.mb (m_op p_sub (ME.mb (gv 0)) (ME.mb (m_op p_pow (ME.mb m_int) (ME.mb m_int))))) mab_nil))) (ma_cons (m_op p_mod (ME.mb (gv 0)) (ME.mb m_int)) (ma_cons m_int ma_nil))))) mss_nil)
theorem sc__law_draw : FnScope ["_law_pen_here", "_law_count", "_law_digit", "_law_stir"] ["_law_pen_here", "_law_count"] (defScope (top 60)) := ⟨rfl, rfl, rfl, by decide +kernel, rfl, by decide +kernel, by decide +kernel⟩
theorem ok__law_draw (A : Fc K mg) (F : FnQ K "_law_draw" "_law_draw" (top 60) [] a fd)  : FnG P w K mg base 1 a fd ["_law_pen_here", "_law_count"] (spF K 2 F__law_draw) :=
  have S := sc__law_draw
  fnG_of F S (by decide) fun cdv A' outer s H E hr hgd =>
    have tk : Takes (cxOf (L2.CX P w) P w K mg base ["_law_pen_here", "_law_count", "_law_digit", "_law_stir"] "_law_draw" (defScope (top 60)) a cdv A' outer s H E) (WE E) := takes_of rfl rfl rfl rfl
    have ps : PassesOwn (model P w) (cxOf (L2.CX P w) P w K mg base ["_law_pen_here", "_law_count", "_law_digit", "_law_stir"] "_law_draw" (defScope (top 60)) a cdv A' outer s H E).A (cxOf (L2.CX P w) P w K mg base ["_law_pen_here", "_law_count", "_law_digit", "_law_stir"] "_law_draw" (defScope (top 60)) a cdv A' outer s H E).env (cxOf (L2.CX P w) P w K mg base ["_law_pen_here", "_law_count", "_law_digit", "_law_stir"] "_law_draw" (defScope (top 60)) a cdv A' outer s H E).xe := passes_of rfl
    (mss_cons (ms_if (gt_cmp o_gt (ME.mb (g_ix (ME.mb (gv 0)) m_int)) (ME.mb m_int)) (mss_cons (g_set 2 S.nd (m_op p_mod (ME.mb (g_ix (ME.mb (gv 0)) m_int)) (ME.mb (gv 1)))) (mss_cons (ms_setG (m_op p_div (ME.mb (g_ix (ME.mb (gv 0)) m_int)) (ME.mb (gv 1))) (gv 0) m_int) (mss_cons (ms_ret (gv 2)) mss_nil))) mss_nil) (mss_cons (ms_setG (m_op p_add (ME.mb (g_ix (ME.mb (gv 0)) m_int)) (ME.mb m_int)) (gv 0) m_int) (mss_cons (g_set 3 S.nd (m_op p_mod (ME.mb (m_op p_mul (ME.mb (m_op p_add (ME.mb (g_ix (ME.mb (gv 0)) m_int)) (ME.mb (m_op p_mul (ME.mb m_int) (ME.mb (g_ix (ME.mb (gv 0)) m_int)))))) (ME.mb (m_op p_add (ME.mb m_int) (ME.mb (m_op p_mul (ME.mb m_int) (ME.mb (g_ix (ME.mb (gv 0)) m_int)))))))) (ME.mb m_int))) (mss_cons (g_set 3 S.nd (m_op p_mod (ME.mb (m_op p_add (ME.mb (m_op p_add (ME.mb (m_op p_mul (ME.mb (gv 3)) (ME.mb (gv 3)))) (ME.mb (m_op p_mul (ME.mb m_int) (ME.mb (g_ix (ME.mb (gv 0)) m_int)))))) (ME.mb m_int))) (ME.mb m_int))) (mss_cons (ms_ret (m_op p_mod (ME.mb (m_op p_div (ME.mb (m_op p_mod (ME.mb (m_op p_mul (ME.mb (gv 3)) (ME.mb m_int))) (ME.mb m_int))) (ME.mb m_int))) (ME.mb (gv 1)))) mss_nil)))))
theorem sc__law_pick : FnScope ["_law_pen_here", "_law_some"] ["_law_pen_here", "_law_some"] (defScope (top 61)) := ⟨rfl, rfl, rfl, by decide +kernel, rfl, by decide +kernel, by decide +kernel⟩
theorem ok__law_pick (A : Fc K mg) (F : FnQ K "_law_pick" "_law_pick" (top 61) [] a fd) (c__law_draw : Cal P w K mg base 1 "_law_draw" ["_law_pen_here", "_law_count"] F__law_draw) : FnG P w K mg base 2 a fd ["_law_pen_here", "_law_some"] (spF K 2 F__law_pick) :=
  have S := sc__law_pick
  fnG_of F S (by decide) fun cdv A' outer s H E hr hgd =>
    have tk : Takes (cxOf (L2.CX P w) P w K mg base ["_law_pen_here", "_law_some"] "_law_pick" (defScope (top 61)) a cdv A' outer s H E) (WE E) := takes_of rfl rfl rfl rfl
    have ps : PassesOwn (model P w) (cxOf (L2.CX P w) P w K mg base ["_law_pen_here", "_law_some"] "_law_pick" (defScope (top 61)) a cdv A' outer s H E).A (cxOf (L2.CX P w) P w K mg base ["_law_pen_here", "_law_some"] "_law_pick" (defScope (top 61)) a cdv A' outer s H E).env (cxOf (L2.CX P w) P w K mg base ["_law_pen_here", "_law_some"] "_law_pick" (defScope (top 61)) a cdv A' outer s H E).xe := passes_of rfl
    (mss_cons (ms_ret (g_ix (ME.mb (gv 1)) (g_call c__law_draw hr hgd tk (ma_cons (gv 0) (ma_cons (g_len A.len (mab_cons (ME.mb (gv 1)) mab_nil)) ma_nil)) (alen_cons (alen_cons alen_nil))))) mss_nil)
theorem sc__law_deal : FnScope ["_law_pen_here", "_law_costs", "_law_most", "_law_found", "_law_line", "_law_price"] ["_law_pen_here", "_law_costs", "_law_most"] (defScope (top 62)) := ⟨rfl, rfl, rfl, by decide +kernel, rfl, by decide +kernel, by decide +kernel⟩
theorem ok__law_deal (A : Fc K mg) (F : FnQ K "_law_deal" "_law_deal" (top 62) [] a fd) (c__law_draw : Cal P w K mg base 1 "_law_draw" ["_law_pen_here", "_law_count"] F__law_draw) : FnG P w K mg base 2 a fd ["_law_pen_here", "_law_costs", "_law_most"] (spF K 3 F__law_deal) :=
  have S := sc__law_deal
  fnG_of F S (by decide) fun cdv A' outer s H E hr hgd =>
    have tk : Takes (cxOf (L2.CX P w) P w K mg base ["_law_pen_here", "_law_costs", "_law_most", "_law_found", "_law_line", "_law_price"] "_law_deal" (defScope (top 62)) a cdv A' outer s H E) (WE E) := takes_of rfl rfl rfl rfl
    have ps : PassesOwn (model P w) (cxOf (L2.CX P w) P w K mg base ["_law_pen_here", "_law_costs", "_law_most", "_law_found", "_law_line", "_law_price"] "_law_deal" (defScope (top 62)) a cdv A' outer s H E).A (cxOf (L2.CX P w) P w K mg base ["_law_pen_here", "_law_costs", "_law_most", "_law_found", "_law_line", "_law_price"] "_law_deal" (defScope (top 62)) a cdv A' outer s H E).env (cxOf (L2.CX P w) P w K mg base ["_law_pen_here", "_law_costs", "_law_most", "_law_found", "_law_line", "_law_price"] "_law_deal" (defScope (top 62)) a cdv A' outer s H E).xe := passes_of rfl
    (mss_cons (g_setO 3 S.nd (ml_lst ma_nil)) (mss_cons (ms_for ps rfl (mi_enum rfl A.enumerate (ma_cons (gv 1) ma_nil)) (mg_tup rfl (mgs_cons (g_nm 4 S.nd) (mgs_cons (g_nm 5 S.nd) mgs_nil))) (mss_cons (ms_if (gt_cmp o_gt (ME.mb (g_call c__law_draw hr hgd tk (ma_cons (gv 0) (ma_cons m_int ma_nil)) (alen_cons (alen_cons alen_nil)))) (ME.mb m_int)) (mss_cons (g_app 3 (m_tup (ma_cons (gv 4) (ma_cons (m_op p_add (ME.mb m_int) (ME.mb (g_call c__law_draw hr hgd tk (ma_cons (gv 0) (ma_cons (g_min A.min (mab_cons (ME.mb (gv 5)) (mab_cons (ME.mb (gv 2)) mab_nil))) ma_nil)) (alen_cons (alen_cons alen_nil))))) ma_nil)))) mss_nil) mss_nil) mss_nil)) (mss_cons (ms_ret (g_tuple A.tuple (mab_cons (go 3) mab_nil))) mss_nil)))
theorem sc__law_mixed : FnScope ["_law_pen_here", "_law_things", "_law_rest", "_law_found", "_law_turn"] ["_law_pen_here", "_law_things"] (defScope (top 63)) := ⟨rfl, rfl, rfl, by decide +kernel, rfl, by decide +kernel, by decide +kernel⟩
theorem ok__law_mixed (A : Fc K mg) (F : FnQ K "_law_mixed" "_law_mixed" (top 63) [] a fd) (c__law_draw : Cal P w K mg base 1 "_law_draw" ["_law_pen_here", "_law_count"] F__law_draw) : FnG P w K mg base 2 a fd ["_law_pen_here", "_law_things"] (spF K 2 F__law_mixed) :=
  have S := sc__law_mixed
  fnG_of F S (by decide) fun cdv A' outer s H E hr hgd =>
    have tk : Takes (cxOf (L2.CX P w) P w K mg base ["_law_pen_here", "_law_things", "_law_rest", "_law_found", "_law_turn"] "_law_mixed" (defScope (top 63)) a cdv A' outer s H E) (WE E) := takes_of rfl rfl rfl rfl
    have ps : PassesOwn (model P w) (cxOf (L2.CX P w) P w K mg base ["_law_pen_here", "_law_things", "_law_rest", "_law_found", "_law_turn"] "_law_mixed" (defScope (top 63)) a cdv A' outer s H E).A (cxOf (L2.CX P w) P w K mg base ["_law_pen_here", "_law_things", "_law_rest", "_law_found", "_law_turn"] "_law_mixed" (defScope (top 63)) a cdv A' outer s H E).env (cxOf (L2.CX P w) P w K mg base ["_law_pen_here", "_law_things", "_law_rest", "_law_found", "_law_turn"] "_law_mixed" (defScope (top 63)) a cdv A' outer s H E).xe := passes_of rfl
    (mss_cons (ms_par (mns_cons (ML.mn (g_list A.list (mab_cons (ME.mb (gv 1)) mab_nil))) (mns_cons (ML.mn (ml_lst ma_nil)) mns_nil)) rfl S.nd (i := 2) (j := 3) rfl rfl (by decide) rfl rfl (by rfl)) (mss_cons (ms_for ps rfl (mi_range1 rfl A.range (ma_cons (g_len A.len (mab_cons (ME.mb (gv 1)) mab_nil)) ma_nil)) (g_nm 4 S.nd) (mss_cons (g_appPop 3 2 (g_call c__law_draw hr hgd tk (ma_cons (gv 0) (ma_cons (g_len A.len (mab_cons (go 2) mab_nil)) ma_nil)) (alen_cons (alen_cons alen_nil)))) mss_nil)) (mss_cons (ms_retO (i := 3) rfl (by first | exact .inl rfl | exact .inr (.inl rfl))) mss_nil)))
theorem sc__law_groups : FnScope ["_law_pen_here", "_law_many", "_law_blocks", "_law_found", "_law_turn", "_law_size", "_law_some", "_law_wide", "_law_block", "_law_deal_here", "_law_part", "_law_group"] ["_law_pen_here", "_law_many"] (defScope (top 64)) := ⟨rfl, rfl, rfl, by decide +kernel, rfl, by decide +kernel, by decide +kernel⟩
theorem ok__law_groups (A : Fc K mg) (F : FnQ K "_law_groups" "_law_groups" (top 64) [] a fd) (c__law_draw : Cal P w K mg base 1 "_law_draw" ["_law_pen_here", "_law_count"] F__law_draw) (c__law_mixed : Cal P w K mg base 2 "_law_mixed" ["_law_pen_here", "_law_things"] F__law_mixed) : FnG P w K mg base 3 a fd ["_law_pen_here", "_law_many"] (spF K 2 F__law_groups) :=
  have S := sc__law_groups
  fnG_of F S (by decide) fun cdv A' outer s H E hr hgd =>
    have tk : Takes (cxOf (L2.CX P w) P w K mg base ["_law_pen_here", "_law_many", "_law_blocks", "_law_found", "_law_turn", "_law_size", "_law_some", "_law_wide", "_law_block", "_law_deal_here", "_law_part", "_law_group"] "_law_groups" (defScope (top 64)) a cdv A' outer s H E) (WE E) := takes_of rfl rfl rfl rfl
    have ps : PassesOwn (model P w) (cxOf (L2.CX P w) P w K mg base ["_law_pen_here", "_law_many", "_law_blocks", "_law_found", "_law_turn", "_law_size", "_law_some", "_law_wide", "_law_block", "_law_deal_here", "_law_part", "_law_group"] "_law_groups" (defScope (top 64)) a cdv A' outer s H E).A (cxOf (L2.CX P w) P w K mg base ["_law_pen_here", "_law_many", "_law_blocks", "_law_found", "_law_turn", "_law_size", "_law_some", "_law_wide", "_law_block", "_law_deal_here", "_law_part", "_law_group"] "_law_groups" (defScope (top 64)) a cdv A' outer s H E).env (cxOf (L2.CX P w) P w K mg base ["_law_pen_here", "_law_many", "_law_blocks", "_law_found", "_law_turn", "_law_size", "_law_some", "_law_wide", "_law_block", "_law_deal_here", "_law_part", "_law_group"] "_law_groups" (defScope (top 64)) a cdv A' outer s H E).xe := passes_of rfl
    (mss_cons (ms_parU (mns_cons (ME.mn (m_newG (ml_lc (own := [("_law_deal_here", 9)]) bok_name rfl S.nd (MI.toC (mi_range1 rfl A.range (ma_cons (gv 1) ma_nil))) (blkOk_by (by rfl)) (fun _ _ _ _ _ => (g_nm 9 S.nd)) (fun _ _ _ _ _ => mts_nil) (fun _ _ _ _ _ => (m_tup (ma_cons (gv 9) ma_nil)))))) (mns_cons (ML.mn (ml_lst ma_nil)) mns_nil)) rfl S.nd (i := 2) (j := 3) rfl rfl (by first | exact .inl rfl | exact .inr rfl) (by first | exact .inl rfl | exact .inr rfl) (by first | exact .inr rfl | exact .inl rfl) (by first | exact .inr rfl | exact .inl rfl) (by rfl)) (mss_cons (ms_for ps rfl (mi_range1 rfl A.range (ma_cons (g_call c__law_draw hr hgd tk (ma_cons (gv 0) (ma_cons m_int ma_nil)) (alen_cons (alen_cons alen_nil))) ma_nil)) (g_nm 4 S.nd) (mss_cons (g_set 5 S.nd (g_min A.min (mab_cons (ME.mb (m_lenG (gv 2) A.len)) (mab_cons (ME.mb (m_op p_add (ME.mb m_int) (ME.mb (g_call c__law_draw hr hgd tk (ma_cons (gv 0) (ma_cons m_int ma_nil)) (alen_cons (alen_cons alen_nil)))))) mab_nil)))) (mss_cons (ms_if (gt_cmp o_gt (ME.mb (gv 5)) (ME.mb m_int)) (mss_cons (ms_setLc (own := [("_law_part", 10)]) bok_name rfl S.nd (i := 6) rfl rfl (by rfl) (MI.toC (mi_range1 rfl A.range (ma_cons (gv 5) ma_nil))) (blkOk_by (by rfl)) (fun _ _ _ _ _ => (g_nm 10 S.nd)) (fun _ _ _ _ _ => mts_nil) (fun _ _ _ _ _ => (m_popG (gv 2) (g_call c__law_draw hr hgd takes_F (ma_cons (gv 0) (ma_cons (m_lenG (gv 2) A.len) ma_nil)) (alen_cons (alen_cons alen_nil)))))) (mss_cons (g_set 7 S.nd (m_tup ma_nil)) (mss_cons (ms_for ps rfl (mi_seq (gv 6)) (g_nm 8 S.nd) (mss_cons (g_set 7 S.nd (m_op p_add (ME.mb (gv 7)) (ME.mb (gv 8)))) mss_nil)) (mss_cons (g_set 7 S.nd (g_tuple A.tuple (mab_cons (ME.mb (ML.me (g_sorted A.sorted (mab_cons (ME.mb (gv 7)) mab_nil)))) mab_nil))) (mss_cons (ms_expr (m_appG (gv 2) (gv 7))) (mss_cons (ms_if (gt_in (o_notInD hr) (ME.mb (gv 7)) (ME.mb (ML.me (ml_lc (own := [("_law_group", 11)]) bok_name rfl S.nd (mic_seq (go 3)) (blkOk_by (by rfl)) (fun _ _ _ _ _ => (g_nm 11 S.nd)) (fun _ _ _ _ _ => mts_nil) (fun _ _ _ _ _ => (g_ix (ME.mb (gv 11)) m_int)))))) (mss_cons (g_app 3 (m_tup (ma_cons (g_call c__law_draw hr hgd tk (ma_cons (gv 0) (ma_cons (m_op p_add (ME.mb (g_len A.len (mab_cons (ME.mb (gv 7)) mab_nil))) (ME.mb m_int)) ma_nil)) (alen_cons (alen_cons alen_nil))) (ma_cons (gv 7) ma_nil)))) mss_nil) mss_nil) mss_nil)))))) mss_nil) mss_nil))) (mss_frz (i := 3) (mss_cons (ms_ret (g_tuple A.tuple (mab_cons (ME.mb (g_call c__law_mixed hr hgd tk (ma_cons (gv 0) (ma_cons (gv 3) ma_nil)) (alen_cons (alen_cons alen_nil)))) mab_nil))) mss_nil))))
theorem sc__law_receipt : FnScope ["_law_pen_here", "_law_lines", "_law_offered", "_law_most", "_law_costs", "_law_line", "_law_some", "_law_deal_here"] ["_law_pen_here", "_law_lines", "_law_offered"] (defScope (top 65)) := ⟨rfl, rfl, rfl, by decide +kernel, rfl, by decide +kernel, by decide +kernel⟩
theorem ok__law_receipt (A : Fc K mg) (F : FnQ K "_law_receipt" "_law_receipt" (top 65) [] a fd) (c__law_deal : Cal P w K mg base 2 "_law_deal" ["_law_pen_here", "_law_costs", "_law_most"] F__law_deal) (c__law_draw : Cal P w K mg base 1 "_law_draw" ["_law_pen_here", "_law_count"] F__law_draw) (c__law_groups : Cal P w K mg base 3 "_law_groups" ["_law_pen_here", "_law_many"] F__law_groups) (c__law_pick : Cal P w K mg base 2 "_law_pick" ["_law_pen_here", "_law_some"] F__law_pick) : FnG P w K mg base 4 a fd ["_law_pen_here", "_law_lines", "_law_offered"] (spF K 3 F__law_receipt) :=
  have S := sc__law_receipt
  fnG_of F S (by decide) fun cdv A' outer s H E hr hgd =>
    have tk : Takes (cxOf (L2.CX P w) P w K mg base ["_law_pen_here", "_law_lines", "_law_offered", "_law_most", "_law_costs", "_law_line", "_law_some", "_law_deal_here"] "_law_receipt" (defScope (top 65)) a cdv A' outer s H E) (WE E) := takes_of rfl rfl rfl rfl
    have ps : PassesOwn (model P w) (cxOf (L2.CX P w) P w K mg base ["_law_pen_here", "_law_lines", "_law_offered", "_law_most", "_law_costs", "_law_line", "_law_some", "_law_deal_here"] "_law_receipt" (defScope (top 65)) a cdv A' outer s H E).A (cxOf (L2.CX P w) P w K mg base ["_law_pen_here", "_law_lines", "_law_offered", "_law_most", "_law_costs", "_law_line", "_law_some", "_law_deal_here"] "_law_receipt" (defScope (top 65)) a cdv A' outer s H E).env (cxOf (L2.CX P w) P w K mg base ["_law_pen_here", "_law_lines", "_law_offered", "_law_most", "_law_costs", "_law_line", "_law_some", "_law_deal_here"] "_law_receipt" (defScope (top 65)) a cdv A' outer s H E).xe := passes_of rfl
    (mss_cons (g_set 3 S.nd (g_call c__law_pick hr hgd tk (ma_cons (gv 0) (ma_cons (ML.me (ml_lst (ma_cons m_int (ma_cons m_int (ma_cons m_int (ma_cons m_int (ma_cons m_int ma_nil))))))) ma_nil)) (alen_cons (alen_cons alen_nil)))) (mss_cons (g_set 4 S.nd (m_tup ma_nil)) (mss_cons (ms_for ps rfl (mi_range1 rfl A.range (ma_cons (m_op p_add (ME.mb m_int) (ME.mb (g_call c__law_draw hr hgd tk (ma_cons (gv 0) (ma_cons (gv 1) ma_nil)) (alen_cons (alen_cons alen_nil))))) ma_nil)) (g_nm 5 S.nd) (mss_cons (g_set 4 S.nd (m_op p_add (ME.mb (gv 4)) (ME.mb (m_tup (ma_cons (m_op p_add (ME.mb m_int) (ME.mb (g_call c__law_draw hr hgd tk (ma_cons (gv 0) (ma_cons (g_call c__law_pick hr hgd tk (ma_cons (gv 0) (ma_cons (ML.me (ml_lst (ma_cons m_int (ma_cons m_int (ma_cons m_int ma_nil))))) ma_nil)) (alen_cons (alen_cons alen_nil))) ma_nil)) (alen_cons (alen_cons alen_nil))))) ma_nil))))) mss_nil)) (mss_cons (g_set 6 S.nd (g_tuple A.tuple (mab_cons (ME.mb (ML.me (ml_lc (own := [("_law_deal_here", 7)]) bok_name rfl S.nd (MI.toC (mi_range1 rfl A.range (ma_cons (g_call c__law_draw hr hgd tk (ma_cons (gv 0) (ma_cons (m_op p_add (ME.mb (gv 2)) (ME.mb m_int)) ma_nil)) (alen_cons (alen_cons alen_nil))) ma_nil))) (blkOk_by (by rfl)) (fun _ _ _ _ _ => (g_nm 7 S.nd)) (fun _ _ _ _ _ => mts_nil) (fun _ _ _ _ _ => (g_call c__law_deal hr hgd takes_F (ma_cons (gv 0) (ma_cons (gv 4) (ma_cons (gv 3) ma_nil))) (alen_cons (alen_cons (alen_cons alen_nil)))))))) mab_nil))) (mss_cons (ms_ret (m_tup (ma_cons (gv 4) (ma_cons (gv 6) (ma_cons (g_call c__law_groups hr hgd tk (ma_cons (gv 0) (ma_cons (g_len A.len (mab_cons (ME.mb (gv 6)) mab_nil)) ma_nil)) (alen_cons (alen_cons alen_nil))) ma_nil))))) mss_nil)))))
theorem sc__law_text : FnScope ["_law_costs", "_law_offered", "_law_bounds", "_law_lines", "_law_deal_here", "_law_limit", "_law_some", "_law_price", "_law_line", "_law_saving", "_law_number"] ["_law_costs", "_law_offered", "_law_bounds"] (defScope (top 54)) := ⟨rfl, rfl, rfl, by decide +kernel, rfl, by decide +kernel, by decide +kernel⟩
theorem ok__law_text (A : Fc K mg) (F : FnQ K "_law_text" "_law_text" (top 54) [] a fd)  : FnG P w K mg base 1 a fd ["_law_costs", "_law_offered", "_law_bounds"] (spF K 3 F__law_text) :=
  have S := sc__law_text
  fnG_of F S (by decide) fun cdv A' outer s H E hr hgd =>
    have tk : Takes (cxOf (L2.CX P w) P w K mg base ["_law_costs", "_law_offered", "_law_bounds", "_law_lines", "_law_deal_here", "_law_limit", "_law_some", "_law_price", "_law_line", "_law_saving", "_law_number"] "_law_text" (defScope (top 54)) a cdv A' outer s H E) (WE E) := takes_of rfl rfl rfl rfl
    have ps : PassesOwn (model P w) (cxOf (L2.CX P w) P w K mg base ["_law_costs", "_law_offered", "_law_bounds", "_law_lines", "_law_deal_here", "_law_limit", "_law_some", "_law_price", "_law_line", "_law_saving", "_law_number"] "_law_text" (defScope (top 54)) a cdv A' outer s H E).A (cxOf (L2.CX P w) P w K mg base ["_law_costs", "_law_offered", "_law_bounds", "_law_lines", "_law_deal_here", "_law_limit", "_law_some", "_law_price", "_law_line", "_law_saving", "_law_number"] "_law_text" (defScope (top 54)) a cdv A' outer s H E).env (cxOf (L2.CX P w) P w K mg base ["_law_costs", "_law_offered", "_law_bounds", "_law_lines", "_law_deal_here", "_law_limit", "_law_some", "_law_price", "_law_line", "_law_saving", "_law_number"] "_law_text" (defScope (top 54)) a cdv A' outer s H E).xe := passes_of rfl
    (mss_cons (g_setO 3 S.nd (ml_lst (ma_cons (m_op p_add (ME.mb m_str) (ME.mb (m_join m_str (ME.mb (ML.me (ml_lc (own := [("_law_price", 7)]) bok_name rfl S.nd (mic_seq (ME.mb (gv 0))) (blkOk_by (by rfl)) (fun _ _ _ _ _ => (g_nm 7 S.nd)) (fun _ _ _ _ _ => mts_nil) (fun _ _ _ _ _ => (g_str A.str (mab_cons (ME.mb (gv 7)) mab_nil))))))))) ma_nil))) (mss_cons (ms_for ps rfl (mi_seq (gv 1)) (g_nm 4 S.nd) (mss_cons (g_app 3 (m_op p_add (ME.mb m_str) (ME.mb (m_join m_str (ME.mb (ML.me (ml_lc (own := [("_law_line", 8), ("_law_saving", 9)]) (bok_tup (bsok_cons bok_name (bsok_cons bok_name bsok_nil))) rfl S.nd (mic_seq (ME.mb (gv 4))) (blkOk_by (by rfl)) (fun _ _ _ _ _ => (mg_tup rfl (mgs_cons (g_nm 8 S.nd) (mgs_cons (g_nm 9 S.nd) mgs_nil)))) (fun _ _ _ _ _ => mts_nil) (fun _ _ _ _ _ => (m_op p_add (ME.mb (m_op p_add (ME.mb (m_op p_add (ME.mb m_str) (ME.mb (g_str A.str (mab_cons (ME.mb (gv 8)) mab_nil))))) (ME.mb m_str))) (ME.mb (g_str A.str (mab_cons (ME.mb (gv 9)) mab_nil)))))))))))) mss_nil)) (mss_cons (ms_for ps rfl (mi_seq (gv 2)) (mg_tup rfl (mgs_cons (g_nm 5 S.nd) (mgs_cons (g_nm 6 S.nd) mgs_nil))) (mss_cons (g_app 3 (m_op p_add (ME.mb (m_op p_add (ME.mb (m_op p_add (ME.mb m_str) (ME.mb (g_str A.str (mab_cons (ME.mb (gv 5)) mab_nil))))) (ME.mb m_str))) (ME.mb (m_join m_str (ME.mb (ML.me (ml_lc (own := [("_law_number", 10)]) bok_name rfl S.nd (mic_seq (ME.mb (gv 6))) (blkOk_by (by rfl)) (fun _ _ _ _ _ => (g_nm 10 S.nd)) (fun _ _ _ _ _ => mts_nil) (fun _ _ _ _ _ => (g_str A.str (mab_cons (ME.mb (gv 10)) mab_nil)))))))))) mss_nil)) (mss_cons (ms_ret (m_op p_add (ME.mb (m_join m_str (go 3))) (ME.mb m_str))) mss_nil))))
theorem sc__law_due : FnScope ["_law_costs", "_law_offered", "_law_bounds", "_law_sizes", "_law_name"] ["_law_costs", "_law_offered", "_law_bounds"] (defScope (top 55)) := ⟨rfl, rfl, rfl, by decide +kernel, rfl, by decide +kernel, by decide +kernel⟩
theorem ok__law_due (A : Fc K mg) (F : FnQ K "_law_due" "_law_due" (top 55) [] a fd) (c__law_text : Cal P w K mg base 1 "_law_text" ["_law_costs", "_law_offered", "_law_bounds"] F__law_text) : FnG P w K mg base 2 a fd ["_law_costs", "_law_offered", "_law_bounds"] (spF K 3 F__law_due) :=
  have S := sc__law_due
  fnG_of F S (by decide) fun cdv A' outer s H E hr hgd =>
    have tk : Takes (cxOf (L2.CX P w) P w K mg base ["_law_costs", "_law_offered", "_law_bounds", "_law_sizes", "_law_name"] "_law_due" (defScope (top 55)) a cdv A' outer s H E) (WE E) := takes_of rfl rfl rfl rfl
    have ps : PassesOwn (model P w) (cxOf (L2.CX P w) P w K mg base ["_law_costs", "_law_offered", "_law_bounds", "_law_sizes", "_law_name"] "_law_due" (defScope (top 55)) a cdv A' outer s H E).A (cxOf (L2.CX P w) P w K mg base ["_law_costs", "_law_offered", "_law_bounds", "_law_sizes", "_law_name"] "_law_due" (defScope (top 55)) a cdv A' outer s H E).env (cxOf (L2.CX P w) P w K mg base ["_law_costs", "_law_offered", "_law_bounds", "_law_sizes", "_law_name"] "_law_due" (defScope (top 55)) a cdv A' outer s H E).xe := passes_of rfl
    (mss_cons (g_set 3 S.nd (ML.me (ml_lst (ma_cons (m_op p_add (ME.mb (g_str A.str (mab_cons (ME.mb (g_len A.len (mab_cons (ME.mb (gv 0)) mab_nil))) mab_nil))) (ME.mb m_str)) (ma_cons (m_op p_add (ME.mb (g_str A.str (mab_cons (ME.mb (g_len A.len (mab_cons (ME.mb (gv 1)) mab_nil))) mab_nil))) (ME.mb m_str)) (ma_cons (m_op p_add (ME.mb (g_str A.str (mab_cons (ME.mb (g_len A.len (mab_cons (ME.mb (gv 2)) mab_nil))) mab_nil))) (ME.mb m_str)) ma_nil)))))) (mss_cons (g_set 4 S.nd (m_op p_add (ME.mb (m_op p_add (ME.mb m_str) (ME.mb (m_join m_str (ME.mb (gv 3)))))) (ME.mb m_str))) (mss_cons (ms_ret (m_tup (ma_cons (gv 0) (ma_cons (gv 1) (ma_cons (gv 2) (ma_cons (g_sum A.sum (mab_cons (ME.mb (ML.me (g_list A.list (mab_cons (ME.mb (gv 0)) mab_nil)))) mab_nil)) (ma_cons (g_len A.len (mab_cons (ME.mb (gv 1)) mab_nil)) (ma_cons (gv 4) (ma_cons (g_call c__law_text hr hgd tk (ma_cons (gv 0) (ma_cons (gv 1) (ma_cons (gv 2) ma_nil))) (alen_cons (alen_cons (alen_cons alen_nil)))) ma_nil))))))))) mss_nil)))
theorem sc_is_integer : FnScope ["thing"] ["thing"] (defScope (top 18)) := ⟨rfl, rfl, rfl, by decide +kernel, rfl, by decide +kernel, by decide +kernel⟩
theorem ok_is_integer (A : Fc K mg) (F : FnQ K "is_integer" "is_integer" (top 18) [] a fd)  : FnG P w K mg base 1 a fd ["thing"] (spF K 1 F_is_integer) :=
  have S := sc_is_integer
  fnG_of F S (by decide) fun cdv A' outer s H E hr hgd =>
    have tk : Takes (cxOf (L2.CX P w) P w K mg base ["thing"] "is_integer" (defScope (top 18)) a cdv A' outer s H E) (WE E) := takes_of rfl rfl rfl rfl
    have ps : PassesOwn (model P w) (cxOf (L2.CX P w) P w K mg base ["thing"] "is_integer" (defScope (top 18)) a cdv A' outer s H E).A (cxOf (L2.CX P w) P w K mg base ["thing"] "is_integer" (defScope (top 18)) a cdv A' outer s H E).env (cxOf (L2.CX P w) P w K mg base ["thing"] "is_integer" (defScope (top 18)) a cdv A' outer s H E).xe := passes_of rfl
    (mss_cons (ms_ret (m_and (g_isi .int A.isinstance A.int (ME.mb (gv 0))) (m_one (m_not (g_isi .bool A.isinstance A.bool (ME.mb (gv 0))))))) mss_nil)
theorem sc_is_between : FnScope ["thing", "low", "high"] ["thing", "low", "high"] (defScope (top 19)) := ⟨rfl, rfl, rfl, by decide +kernel, rfl, by decide +kernel, by decide +kernel⟩
theorem ok_is_between (A : Fc K mg) (F : FnQ K "is_between" "is_between" (top 19) [] a fd) (c_is_integer : Cal P w K mg base 1 "is_integer" ["thing"] F_is_integer) : FnG P w K mg base 2 a fd ["thing", "low", "high"] (spF K 3 F_is_between) :=
  have S := sc_is_between
  fnG_of F S (by decide) fun cdv A' outer s H E hr hgd =>
    have tk : Takes (cxOf (L2.CX P w) P w K mg base ["thing", "low", "high"] "is_between" (defScope (top 19)) a cdv A' outer s H E) (WE E) := takes_of rfl rfl rfl rfl
    have ps : PassesOwn (model P w) (cxOf (L2.CX P w) P w K mg base ["thing", "low", "high"] "is_between" (defScope (top 19)) a cdv A' outer s H E).A (cxOf (L2.CX P w) P w K mg base ["thing", "low", "high"] "is_between" (defScope (top 19)) a cdv A' outer s H E).env (cxOf (L2.CX P w) P w K mg base ["thing", "low", "high"] "is_between" (defScope (top 19)) a cdv A' outer s H E).xe := passes_of rfl
    (mss_cons (ms_ret (m_and (g_call c_is_integer hr hgd tk (ma_cons (gv 0) ma_nil) (alen_cons alen_nil)) (m_one (m_chain o_le o_le (ME.mb (gv 1)) (ME.mb (gv 0)) (ME.mb (gv 2)))))) mss_nil)
theorem sc_are_prices : FnScope ["thing", "price"] ["thing"] (defScope (top 40)) := ⟨rfl, rfl, rfl, by decide +kernel, rfl, by decide +kernel, by decide +kernel⟩
theorem ok_are_prices (A : Fc K mg) (F : FnQ K "are_prices" "are_prices" (top 40) [] a fd) (c_is_between : Cal P w K mg base 2 "is_between" ["thing", "low", "high"] F_is_between) : FnG P w K mg base 3 a fd ["thing"] (spF K 1 F_are_prices) :=
  have S := sc_are_prices
  fnG_of F S (by decide) fun cdv A' outer s H E hr hgd =>
    have tk : Takes (cxOf (L2.CX P w) P w K mg base ["thing", "price"] "are_prices" (defScope (top 40)) a cdv A' outer s H E) (WE E) := takes_of rfl rfl rfl rfl
    have ps : PassesOwn (model P w) (cxOf (L2.CX P w) P w K mg base ["thing", "price"] "are_prices" (defScope (top 40)) a cdv A' outer s H E).A (cxOf (L2.CX P w) P w K mg base ["thing", "price"] "are_prices" (defScope (top 40)) a cdv A' outer s H E).env (cxOf (L2.CX P w) P w K mg base ["thing", "price"] "are_prices" (defScope (top 40)) a cdv A' outer s H E).xe := passes_of rfl
    (mss_cons (ms_if (MW.mt (mw_or (mt_not (mt_val (g_isi .tuple A.isinstance A.tuple (ME.mb (gv 0))))) (mw_or1 (mt_not (mt_chain o_le o_le (ME.mb m_int) (ME.mb (g_len A.len (mab_cons (ME.mb (gv 0)) mab_nil))) (ME.mb (gI A.MOST_LINES))))))) (mss_cons (ms_ret m_bl) mss_nil) mss_nil) (mss_cons (ms_ret (g_all A.all (mab_cons (ME.mb (ML.me (ml_lc (own := [("price", 1)]) bok_name rfl S.nd (mic_seq (ME.mb (gv 0))) (blkOk_by (by rfl)) (fun _ _ _ _ _ => (g_nm 1 S.nd)) (fun _ _ _ _ _ => mts_nil) (fun _ _ _ _ _ => (g_call c_is_between hr hgd takes_F (ma_cons (gv 1) (ma_cons m_int (ma_cons (gI A.MOST_PRICE) ma_nil))) (alen_cons (alen_cons (alen_cons alen_nil)))))))) mab_nil))) mss_nil))
theorem sc_is_pair : FnScope ["thing", "one"] ["thing"] (defScope (top 22)) := ⟨rfl, rfl, rfl, by decide +kernel, rfl, by decide +kernel, by decide +kernel⟩
theorem ok_is_pair (A : Fc K mg) (F : FnQ K "is_pair" "is_pair" (top 22) [] a fd) (c_is_integer : Cal P w K mg base 1 "is_integer" ["thing"] F_is_integer) : FnG P w K mg base 2 a fd ["thing"] (spF K 1 F_is_pair) :=
  have S := sc_is_pair
  fnG_of F S (by decide) fun cdv A' outer s H E hr hgd =>
    have tk : Takes (cxOf (L2.CX P w) P w K mg base ["thing", "one"] "is_pair" (defScope (top 22)) a cdv A' outer s H E) (WE E) := takes_of rfl rfl rfl rfl
    have ps : PassesOwn (model P w) (cxOf (L2.CX P w) P w K mg base ["thing", "one"] "is_pair" (defScope (top 22)) a cdv A' outer s H E).A (cxOf (L2.CX P w) P w K mg base ["thing", "one"] "is_pair" (defScope (top 22)) a cdv A' outer s H E).env (cxOf (L2.CX P w) P w K mg base ["thing", "one"] "is_pair" (defScope (top 22)) a cdv A' outer s H E).xe := passes_of rfl
    (mss_cons (ms_ret (m_and (g_isi .tuple A.isinstance A.tuple (ME.mb (gv 0))) (m_and (g_cmp (o_eq hr) (ME.mb (g_len A.len (mab_cons (ME.mb (gv 0)) mab_nil))) (ME.mb m_int)) (m_one (g_all A.all (mab_cons (ME.mb (ML.me (ml_lc (own := [("one", 1)]) bok_name rfl S.nd (mic_seq (ME.mb (gv 0))) (blkOk_by (by rfl)) (fun _ _ _ _ _ => (g_nm 1 S.nd)) (fun _ _ _ _ _ => mts_nil) (fun _ _ _ _ _ => (g_call c_is_integer hr hgd takes_F (ma_cons (gv 1) ma_nil) (alen_cons alen_nil)))))) mab_nil)))))) mss_nil)
theorem sc_is_offer : FnScope ["prices", "thing"] ["prices", "thing"] (defScope (top 41)) := ⟨rfl, rfl, rfl, by decide +kernel, rfl, by decide +kernel, by decide +kernel⟩
theorem ok_is_offer (A : Fc K mg) (F : FnQ K "is_offer" "is_offer" (top 41) [] a fd) (c_is_pair : Cal P w K mg base 2 "is_pair" ["thing"] F_is_pair) : FnG P w K mg base 3 a fd ["prices", "thing"] (spF K 2 F_is_offer) :=
  have S := sc_is_offer
  fnG_of F S (by decide) fun cdv A' outer s H E hr hgd =>
    have tk : Takes (cxOf (L2.CX P w) P w K mg base ["prices", "thing"] "is_offer" (defScope (top 41)) a cdv A' outer s H E) (WE E) := takes_of rfl rfl rfl rfl
    have ps : PassesOwn (model P w) (cxOf (L2.CX P w) P w K mg base ["prices", "thing"] "is_offer" (defScope (top 41)) a cdv A' outer s H E).A (cxOf (L2.CX P w) P w K mg base ["prices", "thing"] "is_offer" (defScope (top 41)) a cdv A' outer s H E).env (cxOf (L2.CX P w) P w K mg base ["prices", "thing"] "is_offer" (defScope (top 41)) a cdv A' outer s H E).xe := passes_of rfl
    (mss_cons (ms_ret (m_and (g_call c_is_pair hr hgd tk (ma_cons (gv 1) ma_nil) (alen_cons alen_nil)) (m_and (m_chain o_le (o_lt hr) (ME.mb m_int) (ME.mb (g_ix (ME.mb (gv 1)) m_int)) (ME.mb (g_len A.len (mab_cons (ME.mb (gv 0)) mab_nil)))) (m_one (m_chain o_le o_le (ME.mb m_int) (ME.mb (g_ix (ME.mb (gv 1)) m_int)) (ME.mb (g_ix (ME.mb (gv 0)) (g_ix (ME.mb (gv 1)) m_int)))))))) mss_nil)
theorem sc_rises : FnScope ["row", "one", "other"] ["row"] (defScope (top 20)) := ⟨rfl, rfl, rfl, by decide +kernel, rfl, by decide +kernel, by decide +kernel⟩
theorem ok_rises (A : Fc K mg) (F : FnQ K "rises" "rises" (top 20) [] a fd)  : FnG P w K mg base 1 a fd ["row"] (spF K 1 F_rises) :=
  have S := sc_rises
  fnG_of F S (by decide) fun cdv A' outer s H E hr hgd =>
    have tk : Takes (cxOf (L2.CX P w) P w K mg base ["row", "one", "other"] "rises" (defScope (top 20)) a cdv A' outer s H E) (WE E) := takes_of rfl rfl rfl rfl
    have ps : PassesOwn (model P w) (cxOf (L2.CX P w) P w K mg base ["row", "one", "other"] "rises" (defScope (top 20)) a cdv A' outer s H E).A (cxOf (L2.CX P w) P w K mg base ["row", "one", "other"] "rises" (defScope (top 20)) a cdv A' outer s H E).env (cxOf (L2.CX P w) P w K mg base ["row", "one", "other"] "rises" (defScope (top 20)) a cdv A' outer s H E).xe := passes_of rfl
    (mss_cons (ms_ret (g_all A.all (mab_cons (ME.mb (ML.me (ml_lc (own := [("one", 1), ("other", 2)]) (bok_tup (bsok_cons bok_name (bsok_cons bok_name bsok_nil))) rfl S.nd (MI.toC (mi_zip rfl A.zip (ma_cons (gv 0) (ma_cons (m_slice (ME.mb (gv 0)) (mo_some m_int) mo_none) ma_nil)))) (blkOk_by (by rfl)) (fun _ _ _ _ _ => (mg_tup rfl (mgs_cons (g_nm 1 S.nd) (mgs_cons (g_nm 2 S.nd) mgs_nil)))) (fun _ _ _ _ _ => mts_nil) (fun _ _ _ _ _ => (g_cmp (o_lt hr) (ME.mb (gv 1)) (ME.mb (gv 2))))))) mab_nil))) mss_nil)
theorem sc_is_deal : FnScope ["prices", "thing", "offer"] ["prices", "thing"] (defScope (top 42)) := ⟨rfl, rfl, rfl, by decide +kernel, rfl, by decide +kernel, by decide +kernel⟩
theorem ok_is_deal (A : Fc K mg) (F : FnQ K "is_deal" "is_deal" (top 42) [] a fd) (c_is_offer : Cal P w K mg base 3 "is_offer" ["prices", "thing"] F_is_offer) (c_rises : Cal P w K mg base 1 "rises" ["row"] F_rises) : FnG P w K mg base 4 a fd ["prices", "thing"] (spF K 2 F_is_deal) :=
  have S := sc_is_deal
  fnG_of F S (by decide) fun cdv A' outer s H E hr hgd =>
    have tk : Takes (cxOf (L2.CX P w) P w K mg base ["prices", "thing", "offer"] "is_deal" (defScope (top 42)) a cdv A' outer s H E) (WE E) := takes_of rfl rfl rfl rfl
    have ps : PassesOwn (model P w) (cxOf (L2.CX P w) P w K mg base ["prices", "thing", "offer"] "is_deal" (defScope (top 42)) a cdv A' outer s H E).A (cxOf (L2.CX P w) P w K mg base ["prices", "thing", "offer"] "is_deal" (defScope (top 42)) a cdv A' outer s H E).env (cxOf (L2.CX P w) P w K mg base ["prices", "thing", "offer"] "is_deal" (defScope (top 42)) a cdv A' outer s H E).xe := passes_of rfl
    (mss_cons (ms_if (MW.mt (mw_or (mt_not (mt_val (g_isi .tuple A.isinstance A.tuple (ME.mb (gv 1))))) (mw_or1 (mt_not (mt_val (g_all A.all (mab_cons (ME.mb (ML.me (ml_lc (own := [("offer", 2)]) bok_name rfl S.nd (mic_seq (ME.mb (gv 1))) (blkOk_by (by rfl)) (fun _ _ _ _ _ => (g_nm 2 S.nd)) (fun _ _ _ _ _ => mts_nil) (fun _ _ _ _ _ => (g_call c_is_offer hr hgd takes_F (ma_cons (gv 0) (ma_cons (gv 2) ma_nil)) (alen_cons (alen_cons alen_nil))))))) mab_nil))))))) (mss_cons (ms_ret m_bl) mss_nil) mss_nil) (mss_cons (ms_ret (g_call c_rises hr hgd tk (ma_cons (ML.me (ml_lc (own := [("offer", 2)]) bok_name rfl S.nd (mic_seq (ME.mb (gv 1))) (blkOk_by (by rfl)) (fun _ _ _ _ _ => (g_nm 2 S.nd)) (fun _ _ _ _ _ => mts_nil) (fun _ _ _ _ _ => (g_ix (ME.mb (gv 2)) m_int)))) ma_nil) (alen_cons alen_nil))) mss_nil))
theorem sc_are_deals : FnScope ["prices", "thing", "deal"] ["prices", "thing"] (defScope (top 43)) := ⟨rfl, rfl, rfl, by decide +kernel, rfl, by decide +kernel, by decide +kernel⟩
theorem ok_are_deals (A : Fc K mg) (F : FnQ K "are_deals" "are_deals" (top 43) [] a fd) (c_is_deal : Cal P w K mg base 4 "is_deal" ["prices", "thing"] F_is_deal) : FnG P w K mg base 5 a fd ["prices", "thing"] (spF K 2 F_are_deals) :=
  have S := sc_are_deals
  fnG_of F S (by decide) fun cdv A' outer s H E hr hgd =>
    have tk : Takes (cxOf (L2.CX P w) P w K mg base ["prices", "thing", "deal"] "are_deals" (defScope (top 43)) a cdv A' outer s H E) (WE E) := takes_of rfl rfl rfl rfl
    have ps : PassesOwn (model P w) (cxOf (L2.CX P w) P w K mg base ["prices", "thing", "deal"] "are_deals" (defScope (top 43)) a cdv A' outer s H E).A (cxOf (L2.CX P w) P w K mg base ["prices", "thing", "deal"] "are_deals" (defScope (top 43)) a cdv A' outer s H E).env (cxOf (L2.CX P w) P w K mg base ["prices", "thing", "deal"] "are_deals" (defScope (top 43)) a cdv A' outer s H E).xe := passes_of rfl
    (mss_cons (ms_ret (m_and (g_isi .tuple A.isinstance A.tuple (ME.mb (gv 1))) (m_and (g_cmp o_le (ME.mb (g_len A.len (mab_cons (ME.mb (gv 1)) mab_nil))) (ME.mb (gI A.MOST_DEALS))) (m_one (g_all A.all (mab_cons (ME.mb (ML.me (ml_lc (own := [("deal", 2)]) bok_name rfl S.nd (mic_seq (ME.mb (gv 1))) (blkOk_by (by rfl)) (fun _ _ _ _ _ => (g_nm 2 S.nd)) (fun _ _ _ _ _ => mts_nil) (fun _ _ _ _ _ => (g_call c_is_deal hr hgd takes_F (ma_cons (gv 0) (ma_cons (gv 2) ma_nil)) (alen_cons (alen_cons alen_nil))))))) mab_nil)))))) mss_nil)
theorem sc_is_set : FnScope ["thing", "many", "one"] ["thing", "many"] (defScope (top 21)) := ⟨rfl, rfl, rfl, by decide +kernel, rfl, by decide +kernel, by decide +kernel⟩
theorem ok_is_set (A : Fc K mg) (F : FnQ K "is_set" "is_set" (top 21) [] a fd) (c_is_between : Cal P w K mg base 2 "is_between" ["thing", "low", "high"] F_is_between) (c_rises : Cal P w K mg base 1 "rises" ["row"] F_rises) : FnG P w K mg base 3 a fd ["thing", "many"] (spF K 2 F_is_set) :=
  have S := sc_is_set
  fnG_of F S (by decide) fun cdv A' outer s H E hr hgd =>
    have tk : Takes (cxOf (L2.CX P w) P w K mg base ["thing", "many", "one"] "is_set" (defScope (top 21)) a cdv A' outer s H E) (WE E) := takes_of rfl rfl rfl rfl
    have ps : PassesOwn (model P w) (cxOf (L2.CX P w) P w K mg base ["thing", "many", "one"] "is_set" (defScope (top 21)) a cdv A' outer s H E).A (cxOf (L2.CX P w) P w K mg base ["thing", "many", "one"] "is_set" (defScope (top 21)) a cdv A' outer s H E).env (cxOf (L2.CX P w) P w K mg base ["thing", "many", "one"] "is_set" (defScope (top 21)) a cdv A' outer s H E).xe := passes_of rfl
    (mss_cons (ms_ret (m_and (g_isi .tuple A.isinstance A.tuple (ME.mb (gv 0))) (m_and (g_all A.all (mab_cons (ME.mb (ML.me (ml_lc (own := [("one", 2)]) bok_name rfl S.nd (mic_seq (ME.mb (gv 0))) (blkOk_by (by rfl)) (fun _ _ _ _ _ => (g_nm 2 S.nd)) (fun _ _ _ _ _ => mts_nil) (fun _ _ _ _ _ => (g_call c_is_between hr hgd takes_F (ma_cons (gv 2) (ma_cons m_int (ma_cons (m_op p_sub (ME.mb (gv 1)) (ME.mb m_int)) ma_nil))) (alen_cons (alen_cons (alen_cons alen_nil)))))))) mab_nil)) (m_one (g_call c_rises hr hgd tk (ma_cons (gv 0) ma_nil) (alen_cons alen_nil)))))) mss_nil)
theorem sc_is_group : FnScope ["many", "thing"] ["many", "thing"] (defScope (top 44)) := ⟨rfl, rfl, rfl, by decide +kernel, rfl, by decide +kernel, by decide +kernel⟩
theorem ok_is_group (A : Fc K mg) (F : FnQ K "is_group" "is_group" (top 44) [] a fd) (c_is_between : Cal P w K mg base 2 "is_between" ["thing", "low", "high"] F_is_between) (c_is_set : Cal P w K mg base 3 "is_set" ["thing", "many"] F_is_set) : FnG P w K mg base 4 a fd ["many", "thing"] (spF K 2 F_is_group) :=
  have S := sc_is_group
  fnG_of F S (by decide) fun cdv A' outer s H E hr hgd =>
    have tk : Takes (cxOf (L2.CX P w) P w K mg base ["many", "thing"] "is_group" (defScope (top 44)) a cdv A' outer s H E) (WE E) := takes_of rfl rfl rfl rfl
    have ps : PassesOwn (model P w) (cxOf (L2.CX P w) P w K mg base ["many", "thing"] "is_group" (defScope (top 44)) a cdv A' outer s H E).A (cxOf (L2.CX P w) P w K mg base ["many", "thing"] "is_group" (defScope (top 44)) a cdv A' outer s H E).env (cxOf (L2.CX P w) P w K mg base ["many", "thing"] "is_group" (defScope (top 44)) a cdv A' outer s H E).xe := passes_of rfl
    (mss_cons (ms_if (MW.mt (mw_or (mt_not (mt_val (g_isi .tuple A.isinstance A.tuple (ME.mb (gv 1))))) (mw_or (gt_cmp (o_ne hr) (ME.mb (g_len A.len (mab_cons (ME.mb (gv 1)) mab_nil))) (ME.mb m_int)) (mw_or1 (mt_not (mt_val (g_call c_is_between hr hgd tk (ma_cons (g_ix (ME.mb (gv 1)) m_int) (ma_cons m_int (ma_cons (gI A.MOST_LIMIT) ma_nil))) (alen_cons (alen_cons (alen_cons alen_nil)))))))))) (mss_cons (ms_ret m_bl) mss_nil) mss_nil) (mss_cons (ms_ret (m_and (g_call c_is_set hr hgd tk (ma_cons (g_ix (ME.mb (gv 1)) m_int) (ma_cons (gv 0) ma_nil)) (alen_cons (alen_cons alen_nil))) (m_one (g_cmp (o_ne hr) (ME.mb (g_ix (ME.mb (gv 1)) m_int)) (ME.mb (m_tup ma_nil)))))) mss_nil))
theorem sc_are_groups : FnScope ["many", "thing", "group"] ["many", "thing"] (defScope (top 45)) := ⟨rfl, rfl, rfl, by decide +kernel, rfl, by decide +kernel, by decide +kernel⟩
theorem ok_are_groups (A : Fc K mg) (F : FnQ K "are_groups" "are_groups" (top 45) [] a fd) (c_is_group : Cal P w K mg base 4 "is_group" ["many", "thing"] F_is_group) : FnG P w K mg base 5 a fd ["many", "thing"] (spF K 2 F_are_groups) :=
  have S := sc_are_groups
  fnG_of F S (by decide) fun cdv A' outer s H E hr hgd =>
    have tk : Takes (cxOf (L2.CX P w) P w K mg base ["many", "thing", "group"] "are_groups" (defScope (top 45)) a cdv A' outer s H E) (WE E) := takes_of rfl rfl rfl rfl
    have ps : PassesOwn (model P w) (cxOf (L2.CX P w) P w K mg base ["many", "thing", "group"] "are_groups" (defScope (top 45)) a cdv A' outer s H E).A (cxOf (L2.CX P w) P w K mg base ["many", "thing", "group"] "are_groups" (defScope (top 45)) a cdv A' outer s H E).env (cxOf (L2.CX P w) P w K mg base ["many", "thing", "group"] "are_groups" (defScope (top 45)) a cdv A' outer s H E).xe := passes_of rfl
    (mss_cons (ms_ret (m_and (g_isi .tuple A.isinstance A.tuple (ME.mb (gv 1))) (m_and (g_cmp o_le (ME.mb (g_len A.len (mab_cons (ME.mb (gv 1)) mab_nil))) (ME.mb (gI A.MOST_GROUPS))) (m_one (g_all A.all (mab_cons (ME.mb (ML.me (ml_lc (own := [("group", 2)]) bok_name rfl S.nd (mic_seq (ME.mb (gv 1))) (blkOk_by (by rfl)) (fun _ _ _ _ _ => (g_nm 2 S.nd)) (fun _ _ _ _ _ => mts_nil) (fun _ _ _ _ _ => (g_call c_is_group hr hgd takes_F (ma_cons (gv 0) (ma_cons (gv 2) ma_nil)) (alen_cons (alen_cons alen_nil))))))) mab_nil)))))) mss_nil)
theorem sc_are_apart : FnScope ["one", "other", "thing"] ["one", "other"] (defScope (top 23)) := ⟨rfl, rfl, rfl, by decide +kernel, rfl, by decide +kernel, by decide +kernel⟩
theorem ok_are_apart (A : Fc K mg) (F : FnQ K "are_apart" "are_apart" (top 23) [] a fd)  : FnG P w K mg base 1 a fd ["one", "other"] (spF K 2 F_are_apart) :=
  have S := sc_are_apart
  fnG_of F S (by decide) fun cdv A' outer s H E hr hgd =>
    have tk : Takes (cxOf (L2.CX P w) P w K mg base ["one", "other", "thing"] "are_apart" (defScope (top 23)) a cdv A' outer s H E) (WE E) := takes_of rfl rfl rfl rfl
    have ps : PassesOwn (model P w) (cxOf (L2.CX P w) P w K mg base ["one", "other", "thing"] "are_apart" (defScope (top 23)) a cdv A' outer s H E).A (cxOf (L2.CX P w) P w K mg base ["one", "other", "thing"] "are_apart" (defScope (top 23)) a cdv A' outer s H E).env (cxOf (L2.CX P w) P w K mg base ["one", "other", "thing"] "are_apart" (defScope (top 23)) a cdv A' outer s H E).xe := passes_of rfl
    (mss_cons (ms_ret (m_not (g_any A.any (mab_cons (ME.mb (ML.me (ml_lc (own := [("thing", 2)]) bok_name rfl S.nd (mic_seq (ME.mb (gv 0))) (blkOk_by (by rfl)) (fun _ _ _ _ _ => (g_nm 2 S.nd)) (fun _ _ _ _ _ => mts_nil) (fun _ _ _ _ _ => (g_in p_in (ME.mb (gv 2)) (ME.mb (gv 1))))))) mab_nil)))) mss_nil)
theorem sc_is_inside : FnScope ["one", "other", "thing"] ["one", "other"] (defScope (top 24)) := ⟨rfl, rfl, rfl, by decide +kernel, rfl, by decide +kernel, by decide +kernel⟩
theorem ok_is_inside (A : Fc K mg) (F : FnQ K "is_inside" "is_inside" (top 24) [] a fd)  : FnG P w K mg base 1 a fd ["one", "other"] (spF K 2 F_is_inside) :=
  have S := sc_is_inside
  fnG_of F S (by decide) fun cdv A' outer s H E hr hgd =>
    have tk : Takes (cxOf (L2.CX P w) P w K mg base ["one", "other", "thing"] "is_inside" (defScope (top 24)) a cdv A' outer s H E) (WE E) := takes_of rfl rfl rfl rfl
    have ps : PassesOwn (model P w) (cxOf (L2.CX P w) P w K mg base ["one", "other", "thing"] "is_inside" (defScope (top 24)) a cdv A' outer s H E).A (cxOf (L2.CX P w) P w K mg base ["one", "other", "thing"] "is_inside" (defScope (top 24)) a cdv A' outer s H E).env (cxOf (L2.CX P w) P w K mg base ["one", "other", "thing"] "is_inside" (defScope (top 24)) a cdv A' outer s H E).xe := passes_of rfl
    (mss_cons (ms_ret (g_all A.all (mab_cons (ME.mb (ML.me (ml_lc (own := [("thing", 2)]) bok_name rfl S.nd (mic_seq (ME.mb (gv 0))) (blkOk_by (by rfl)) (fun _ _ _ _ _ => (g_nm 2 S.nd)) (fun _ _ _ _ _ => mts_nil) (fun _ _ _ _ _ => (g_in p_in (ME.mb (gv 2)) (ME.mb (gv 1))))))) mab_nil))) mss_nil)
theorem sc_do_cross : FnScope ["one", "other"] ["one", "other"] (defScope (top 46)) := ⟨rfl, rfl, rfl, by decide +kernel, rfl, by decide +kernel, by decide +kernel⟩
theorem ok_do_cross (A : Fc K mg) (F : FnQ K "do_cross" "do_cross" (top 46) [] a fd) (c_are_apart : Cal P w K mg base 1 "are_apart" ["one", "other"] F_are_apart) (c_is_inside : Cal P w K mg base 1 "is_inside" ["one", "other"] F_is_inside) : FnG P w K mg base 2 a fd ["one", "other"] (spF K 2 F_do_cross) :=
  have S := sc_do_cross
  fnG_of F S (by decide) fun cdv A' outer s H E hr hgd =>
    have tk : Takes (cxOf (L2.CX P w) P w K mg base ["one", "other"] "do_cross" (defScope (top 46)) a cdv A' outer s H E) (WE E) := takes_of rfl rfl rfl rfl
    have ps : PassesOwn (model P w) (cxOf (L2.CX P w) P w K mg base ["one", "other"] "do_cross" (defScope (top 46)) a cdv A' outer s H E).A (cxOf (L2.CX P w) P w K mg base ["one", "other"] "do_cross" (defScope (top 46)) a cdv A' outer s H E).env (cxOf (L2.CX P w) P w K mg base ["one", "other"] "do_cross" (defScope (top 46)) a cdv A' outer s H E).xe := passes_of rfl
    (mss_cons (ms_ret (m_or (g_cmp (o_eq hr) (ME.mb (gv 0)) (ME.mb (gv 1))) (m_one (m_not (m_or (g_call c_are_apart hr hgd tk (ma_cons (gv 0) (ma_cons (gv 1) ma_nil)) (alen_cons (alen_cons alen_nil))) (m_or (g_call c_is_inside hr hgd tk (ma_cons (gv 0) (ma_cons (gv 1) ma_nil)) (alen_cons (alen_cons alen_nil))) (m_one (g_call c_is_inside hr hgd tk (ma_cons (gv 1) (ma_cons (gv 0) ma_nil)) (alen_cons (alen_cons alen_nil)))))))))) mss_nil)
theorem sc_first_crossed : FnScope ["groups", "second", "other", "first", "one"] ["groups"] (defScope (top 47)) := ⟨rfl, rfl, rfl, by decide +kernel, rfl, by decide +kernel, by decide +kernel⟩
theorem ok_first_crossed (A : Fc K mg) (F : FnQ K "first_crossed" "first_crossed" (top 47) [] a fd) (c_do_cross : Cal P w K mg base 2 "do_cross" ["one", "other"] F_do_cross) : FnG P w K mg base 3 a fd ["groups"] (spF K 1 F_first_crossed) :=
  have S := sc_first_crossed
  fnG_of F S (by decide) fun cdv A' outer s H E hr hgd =>
    have tk : Takes (cxOf (L2.CX P w) P w K mg base ["groups", "second", "other", "first", "one"] "first_crossed" (defScope (top 47)) a cdv A' outer s H E) (WE E) := takes_of rfl rfl rfl rfl
    have ps : PassesOwn (model P w) (cxOf (L2.CX P w) P w K mg base ["groups", "second", "other", "first", "one"] "first_crossed" (defScope (top 47)) a cdv A' outer s H E).A (cxOf (L2.CX P w) P w K mg base ["groups", "second", "other", "first", "one"] "first_crossed" (defScope (top 47)) a cdv A' outer s H E).env (cxOf (L2.CX P w) P w K mg base ["groups", "second", "other", "first", "one"] "first_crossed" (defScope (top 47)) a cdv A' outer s H E).xe := passes_of rfl
    (mss_cons (ms_for ps rfl (mi_enum rfl A.enumerate (ma_cons (gv 0) ma_nil)) (mg_tup rfl (mgs_cons (g_nm 1 S.nd) (mgs_cons (g_nm 2 S.nd) mgs_nil))) (mss_cons (ms_for ps rfl (mi_enum rfl A.enumerate (ma_cons (m_slice (ME.mb (gv 0)) mo_none (mo_some (gv 1))) ma_nil)) (mg_tup rfl (mgs_cons (g_nm 3 S.nd) (mgs_cons (g_nm 4 S.nd) mgs_nil))) (mss_cons (ms_if (mt_val (g_call c_do_cross hr hgd tk (ma_cons (g_ix (ME.mb (gv 4)) m_int) (ma_cons (g_ix (ME.mb (gv 2)) m_int) ma_nil)) (alen_cons (alen_cons alen_nil)))) (mss_cons (ms_ret (m_tup (ma_cons (gv 3) (ma_cons (gv 1) ma_nil)))) mss_nil) mss_nil) mss_nil)) mss_nil)) (mss_cons (ms_ret m_non) mss_nil))
theorem sc_Receipt___init__ : FnScope ["self", "prices", "deals", "groups", "found"] ["self", "prices", "deals", "groups"] (defScope (meth 48 1)) := ⟨rfl, rfl, rfl, by decide +kernel, rfl, by decide +kernel, by decide +kernel⟩
theorem ok_Receipt___init__ (A : Fc K mg) (F : FnQ K "__init__" "Receipt.__init__" (meth 48 1) dvs a fd) (c_are_deals : Cal P w K mg base 5 "are_deals" ["prices", "thing"] F_are_deals) (c_are_groups : Cal P w K mg base 5 "are_groups" ["many", "thing"] F_are_groups) (c_are_prices : Cal P w K mg base 3 "are_prices" ["thing"] F_are_prices) (c_first_crossed : Cal P w K mg base 3 "first_crossed" ["groups"] F_first_crossed) : FnG P w K mg base 6 a fd ["self", "prices", "deals", "groups"] (spF K 4 F_Receipt___init__) :=
  have S := sc_Receipt___init__
  fnG_of F S (by decide) fun cdv A' outer s H E hr hgd =>
    have tk : Takes (cxOf (L2.CX P w) P w K mg base ["self", "prices", "deals", "groups", "found"] "Receipt.__init__" (defScope (meth 48 1)) a cdv A' outer s H E) (WE E) := takes_of rfl rfl rfl rfl
    have ps : PassesOwn (model P w) (cxOf (L2.CX P w) P w K mg base ["self", "prices", "deals", "groups", "found"] "Receipt.__init__" (defScope (meth 48 1)) a cdv A' outer s H E).A (cxOf (L2.CX P w) P w K mg base ["self", "prices", "deals", "groups", "found"] "Receipt.__init__" (defScope (meth 48 1)) a cdv A' outer s H E).env (cxOf (L2.CX P w) P w K mg base ["self", "prices", "deals", "groups", "found"] "Receipt.__init__" (defScope (meth 48 1)) a cdv A' outer s H E).xe := passes_of rfl
    (mss_cons (ms_if (mt_not (mt_val (g_call c_are_prices hr hgd tk (ma_cons (gv 1) ma_nil) (alen_cons alen_nil)))) (mss_cons ms_never mss_nil) mss_nil) (mss_cons (ms_if (mt_not (mt_val (g_call c_are_deals hr hgd tk (ma_cons (gv 1) (ma_cons (gv 2) ma_nil)) (alen_cons (alen_cons alen_nil))))) (mss_cons ms_never mss_nil) mss_nil) (mss_cons (ms_if (mt_not (mt_val (g_call c_are_groups hr hgd tk (ma_cons (g_len A.len (mab_cons (ME.mb (gv 2)) mab_nil)) (ma_cons (gv 3) ma_nil)) (alen_cons (alen_cons alen_nil))))) (mss_cons ms_never mss_nil) mss_nil) (mss_cons (g_set 4 S.nd (g_call c_first_crossed hr hgd tk (ma_cons (gv 3) ma_nil) (alen_cons alen_nil))) (mss_cons (ms_if (gt_cmp p_isnt (ME.mb (gv 4)) (ME.mb m_non)) (mss_cons ms_never mss_nil) mss_nil) (mss_cons (ms_asgX (m_tup (ma_cons (gv 1) (ma_cons (gv 2) (ma_cons (gv 3) ma_nil)))) (mx_tup rfl (mxs_cons (mx_fld (gv 0) A.cls_Receipt A.na_Receipt_costs) (mxs_cons (mx_fld (gv 0) A.cls_Receipt A.na_Receipt_offers) (mxs_cons (mx_fld (gv 0) A.cls_Receipt A.na_Receipt_bounds) mxs_nil)))) (hx := (gxok_tup (gxoks_cons gxok_fld (gxoks_cons gxok_fld (gxoks_cons gxok_fld gxoks_nil)))))) mss_nil))))))
theorem sc_Receipt_total : FnScope ["self", "price"] ["self"] (defScope (meth 48 7)) := ⟨rfl, rfl, rfl, by decide +kernel, rfl, by decide +kernel, by decide +kernel⟩
theorem ok_Receipt_total (A : Fc K mg) (F : FnQ K "total" "Receipt.total" (meth 48 7) [] a fd)  : FnG P w K mg base 1 a fd ["self"] (spF K 1 F_Receipt_total) :=
  have S := sc_Receipt_total
  fnG_of F S (by decide) fun cdv A' outer s H E hr hgd =>
    have tk : Takes (cxOf (L2.CX P w) P w K mg base ["self", "price"] "Receipt.total" (defScope (meth 48 7)) a cdv A' outer s H E) (WE E) := takes_of rfl rfl rfl rfl
    have ps : PassesOwn (model P w) (cxOf (L2.CX P w) P w K mg base ["self", "price"] "Receipt.total" (defScope (meth 48 7)) a cdv A' outer s H E).A (cxOf (L2.CX P w) P w K mg base ["self", "price"] "Receipt.total" (defScope (meth 48 7)) a cdv A' outer s H E).env (cxOf (L2.CX P w) P w K mg base ["self", "price"] "Receipt.total" (defScope (meth 48 7)) a cdv A' outer s H E).xe := passes_of rfl
    (mss_cons (ms_ret (g_sum A.sum (mab_cons (ME.mb (ML.me (ml_lc (own := [("price", 1)]) bok_name rfl S.nd (mic_seq (ME.mb (g_fld "Receipt" (gv 0) A.cls_Receipt A.na_Receipt_costs))) (blkOk_by (by rfl)) (fun _ _ _ _ _ => (g_nm 1 S.nd)) (fun _ _ _ _ _ => mts_nil) (fun _ _ _ _ _ => (gv 1))))) mab_nil))) mss_nil)
theorem sc_Receipt_groups : FnScope ["self"] ["self"] (defScope (meth 48 6)) := ⟨rfl, rfl, rfl, by decide +kernel, rfl, by decide +kernel, by decide +kernel⟩
theorem ok_Receipt_groups (A : Fc K mg) (F : FnQ K "groups" "Receipt.groups" (meth 48 6) [] a fd)  : FnG P w K mg base 1 a fd ["self"] (spF K 1 F_Receipt_groups) :=
  have S := sc_Receipt_groups
  fnG_of F S (by decide) fun cdv A' outer s H E hr hgd =>
    have tk : Takes (cxOf (L2.CX P w) P w K mg base ["self"] "Receipt.groups" (defScope (meth 48 6)) a cdv A' outer s H E) (WE E) := takes_of rfl rfl rfl rfl
    have ps : PassesOwn (model P w) (cxOf (L2.CX P w) P w K mg base ["self"] "Receipt.groups" (defScope (meth 48 6)) a cdv A' outer s H E).A (cxOf (L2.CX P w) P w K mg base ["self"] "Receipt.groups" (defScope (meth 48 6)) a cdv A' outer s H E).env (cxOf (L2.CX P w) P w K mg base ["self"] "Receipt.groups" (defScope (meth 48 6)) a cdv A' outer s H E).xe := passes_of rfl
    (mss_cons (ms_ret (g_fld "Receipt" (gv 0) A.cls_Receipt A.na_Receipt_bounds)) mss_nil)
theorem sc_Receipt_deals : FnScope ["self"] ["self"] (defScope (meth 48 5)) := ⟨rfl, rfl, rfl, by decide +kernel, rfl, by decide +kernel, by decide +kernel⟩
theorem ok_Receipt_deals (A : Fc K mg) (F : FnQ K "deals" "Receipt.deals" (meth 48 5) [] a fd)  : FnG P w K mg base 1 a fd ["self"] (spF K 1 F_Receipt_deals) :=
  have S := sc_Receipt_deals
  fnG_of F S (by decide) fun cdv A' outer s H E hr hgd =>
    have tk : Takes (cxOf (L2.CX P w) P w K mg base ["self"] "Receipt.deals" (defScope (meth 48 5)) a cdv A' outer s H E) (WE E) := takes_of rfl rfl rfl rfl
    have ps : PassesOwn (model P w) (cxOf (L2.CX P w) P w K mg base ["self"] "Receipt.deals" (defScope (meth 48 5)) a cdv A' outer s H E).A (cxOf (L2.CX P w) P w K mg base ["self"] "Receipt.deals" (defScope (meth 48 5)) a cdv A' outer s H E).env (cxOf (L2.CX P w) P w K mg base ["self"] "Receipt.deals" (defScope (meth 48 5)) a cdv A' outer s H E).xe := passes_of rfl
    (mss_cons (ms_ret (g_fld "Receipt" (gv 0) A.cls_Receipt A.na_Receipt_offers)) mss_nil)
theorem sc_Receipt_prices : FnScope ["self"] ["self"] (defScope (meth 48 4)) := ⟨rfl, rfl, rfl, by decide +kernel, rfl, by decide +kernel, by decide +kernel⟩
theorem ok_Receipt_prices (A : Fc K mg) (F : FnQ K "prices" "Receipt.prices" (meth 48 4) [] a fd)  : FnG P w K mg base 1 a fd ["self"] (spF K 1 F_Receipt_prices) :=
  have S := sc_Receipt_prices
  fnG_of F S (by decide) fun cdv A' outer s H E hr hgd =>
    have tk : Takes (cxOf (L2.CX P w) P w K mg base ["self"] "Receipt.prices" (defScope (meth 48 4)) a cdv A' outer s H E) (WE E) := takes_of rfl rfl rfl rfl
    have ps : PassesOwn (model P w) (cxOf (L2.CX P w) P w K mg base ["self"] "Receipt.prices" (defScope (meth 48 4)) a cdv A' outer s H E).A (cxOf (L2.CX P w) P w K mg base ["self"] "Receipt.prices" (defScope (meth 48 4)) a cdv A' outer s H E).env (cxOf (L2.CX P w) P w K mg base ["self"] "Receipt.prices" (defScope (meth 48 4)) a cdv A' outer s H E).xe := passes_of rfl
    (mss_cons (ms_ret (g_fld "Receipt" (gv 0) A.cls_Receipt A.na_Receipt_costs)) mss_nil)
theorem sc_numbers_text : FnScope ["numbers", "one"] ["numbers"] (defScope (top 32)) := ⟨rfl, rfl, rfl, by decide +kernel, rfl, by decide +kernel, by decide +kernel⟩
theorem ok_numbers_text (A : Fc K mg) (F : FnQ K "numbers_text" "numbers_text" (top 32) [] a fd)  : FnG P w K mg base 1 a fd ["numbers"] (spF K 1 F_numbers_text) :=
  have S := sc_numbers_text
  fnG_of F S (by decide) fun cdv A' outer s H E hr hgd =>
    have tk : Takes (cxOf (L2.CX P w) P w K mg base ["numbers", "one"] "numbers_text" (defScope (top 32)) a cdv A' outer s H E) (WE E) := takes_of rfl rfl rfl rfl
    have ps : PassesOwn (model P w) (cxOf (L2.CX P w) P w K mg base ["numbers", "one"] "numbers_text" (defScope (top 32)) a cdv A' outer s H E).A (cxOf (L2.CX P w) P w K mg base ["numbers", "one"] "numbers_text" (defScope (top 32)) a cdv A' outer s H E).env (cxOf (L2.CX P w) P w K mg base ["numbers", "one"] "numbers_text" (defScope (top 32)) a cdv A' outer s H E).xe := passes_of rfl
    (mss_cons (ms_ret (m_join m_str (ME.mb (ML.me (ml_lc (own := [("one", 1)]) bok_name rfl S.nd (mic_seq (ME.mb (gv 0))) (blkOk_by (by rfl)) (fun _ _ _ _ _ => (g_nm 1 S.nd)) (fun _ _ _ _ _ => mts_nil) (fun _ _ _ _ _ => (g_str A.str (mab_cons (ME.mb (gv 1)) mab_nil)))))))) mss_nil)
theorem sc_receipt_lines : FnScope ["prices", "deals", "groups", "found", "deal", "line", "saving", "limit", "some"] ["prices", "deals", "groups"] (defScope (top 33)) := ⟨rfl, rfl, rfl, by decide +kernel, rfl, by decide +kernel, by decide +kernel⟩
theorem ok_receipt_lines (A : Fc K mg) (F : FnQ K "receipt_lines" "receipt_lines" (top 33) [] a fd) (c_numbers_text : Cal P w K mg base 1 "numbers_text" ["numbers"] F_numbers_text) : FnG P w K mg base 2 a fd ["prices", "deals", "groups"] (spF K 3 F_receipt_lines) :=
  have S := sc_receipt_lines
  fnG_of F S (by decide) fun cdv A' outer s H E hr hgd =>
    have tk : Takes (cxOf (L2.CX P w) P w K mg base ["prices", "deals", "groups", "found", "deal", "line", "saving", "limit", "some"] "receipt_lines" (defScope (top 33)) a cdv A' outer s H E) (WE E) := takes_of rfl rfl rfl rfl
    have ps : PassesOwn (model P w) (cxOf (L2.CX P w) P w K mg base ["prices", "deals", "groups", "found", "deal", "line", "saving", "limit", "some"] "receipt_lines" (defScope (top 33)) a cdv A' outer s H E).A (cxOf (L2.CX P w) P w K mg base ["prices", "deals", "groups", "found", "deal", "line", "saving", "limit", "some"] "receipt_lines" (defScope (top 33)) a cdv A' outer s H E).env (cxOf (L2.CX P w) P w K mg base ["prices", "deals", "groups", "found", "deal", "line", "saving", "limit", "some"] "receipt_lines" (defScope (top 33)) a cdv A' outer s H E).xe := passes_of rfl
    (mss_cons (g_setO 3 S.nd (ml_lst (ma_cons (m_op p_add (ME.mb (gS A.PRICES)) (ME.mb (g_call c_numbers_text hr hgd tk (ma_cons (gv 0) ma_nil) (alen_cons alen_nil)))) ma_nil))) (mss_cons (ms_for ps rfl (mi_seq (gv 1)) (g_nm 4 S.nd) (mss_cons (g_app 3 (m_op p_add (ME.mb (gS A.DEAL)) (ME.mb (m_join m_str (ME.mb (ML.me (ml_lc (own := [("line", 5), ("saving", 6)]) (bok_tup (bsok_cons bok_name (bsok_cons bok_name bsok_nil))) rfl S.nd (mic_seq (ME.mb (gv 4))) (blkOk_by (by rfl)) (fun _ _ _ _ _ => (mg_tup rfl (mgs_cons (g_nm 5 S.nd) (mgs_cons (g_nm 6 S.nd) mgs_nil)))) (fun _ _ _ _ _ => mts_nil) (fun _ _ _ _ _ => (m_jstr (mj_cons m_str (mj_cons (m_fmt (gv 5)) (mj_cons m_str (mj_cons (m_fmt (gv 6)) mj_nil))))))))))))) mss_nil)) (mss_cons (ms_ret (m_op p_add (go 3) (ME.mb (ML.me (ml_lc (own := [("limit", 7), ("some", 8)]) (bok_tup (bsok_cons bok_name (bsok_cons bok_name bsok_nil))) rfl S.nd (mic_seq (ME.mb (gv 2))) (blkOk_by (by rfl)) (fun _ _ _ _ _ => (mg_tup rfl (mgs_cons (g_nm 7 S.nd) (mgs_cons (g_nm 8 S.nd) mgs_nil)))) (fun _ _ _ _ _ => mts_nil) (fun _ _ _ _ _ => (m_op p_add (ME.mb (m_op p_add (ME.mb (m_op p_add (ME.mb (gS A.GROUP)) (ME.mb (g_str A.str (mab_cons (ME.mb (gv 7)) mab_nil))))) (ME.mb (gS A.OF)))) (ME.mb (g_call c_numbers_text hr hgd takes_F (ma_cons (gv 8) ma_nil) (alen_cons alen_nil)))))))))) mss_nil)))
theorem sc_Receipt_text : FnScope ["self", "line"] ["self"] (defScope (meth 48 3)) := ⟨rfl, rfl, rfl, by decide +kernel, rfl, by decide +kernel, by decide +kernel⟩
theorem ok_Receipt_text (A : Fc K mg) (F : FnQ K "text" "Receipt.text" (meth 48 3) [] a fd) (c_receipt_lines : Cal P w K mg base 2 "receipt_lines" ["prices", "deals", "groups"] F_receipt_lines) : FnG P w K mg base 3 a fd ["self"] (spF K 1 F_Receipt_text) :=
  have S := sc_Receipt_text
  fnG_of F S (by decide) fun cdv A' outer s H E hr hgd =>
    have tk : Takes (cxOf (L2.CX P w) P w K mg base ["self", "line"] "Receipt.text" (defScope (meth 48 3)) a cdv A' outer s H E) (WE E) := takes_of rfl rfl rfl rfl
    have ps : PassesOwn (model P w) (cxOf (L2.CX P w) P w K mg base ["self", "line"] "Receipt.text" (defScope (meth 48 3)) a cdv A' outer s H E).A (cxOf (L2.CX P w) P w K mg base ["self", "line"] "Receipt.text" (defScope (meth 48 3)) a cdv A' outer s H E).env (cxOf (L2.CX P w) P w K mg base ["self", "line"] "Receipt.text" (defScope (meth 48 3)) a cdv A' outer s H E).xe := passes_of rfl
    (mss_cons (ms_ret (m_join m_str (ME.mb (ML.me (ml_lc (own := [("line", 1)]) bok_name rfl S.nd (mic_seq (ME.mb (g_call c_receipt_lines hr hgd tk (ma_cons (g_fld "Receipt" (gv 0) A.cls_Receipt A.na_Receipt_costs) (ma_cons (g_fld "Receipt" (gv 0) A.cls_Receipt A.na_Receipt_offers) (ma_cons (g_fld "Receipt" (gv 0) A.cls_Receipt A.na_Receipt_bounds) ma_nil))) (alen_cons (alen_cons (alen_cons alen_nil)))))) (blkOk_by (by rfl)) (fun _ _ _ _ _ => (g_nm 1 S.nd)) (fun _ _ _ _ _ => mts_nil) (fun _ _ _ _ _ => (m_op p_add (ME.mb (gv 1)) (ME.mb m_str)))))))) mss_nil)
theorem sc_Receipt___repr__ : FnScope ["self"] ["self"] (defScope (meth 48 18)) := ⟨rfl, rfl, rfl, by decide +kernel, rfl, by decide +kernel, by decide +kernel⟩
theorem ok_Receipt___repr__ (A : Fc K mg) (F : FnQ K "__repr__" "Receipt.__repr__" (meth 48 18) [] a fd)  : FnG P w K mg base 1 a fd ["self"] (spF K 1 F_Receipt___repr__) :=
  have S := sc_Receipt___repr__
  fnG_of F S (by decide) fun cdv A' outer s H E hr hgd =>
    have tk : Takes (cxOf (L2.CX P w) P w K mg base ["self"] "Receipt.__repr__" (defScope (meth 48 18)) a cdv A' outer s H E) (WE E) := takes_of rfl rfl rfl rfl
    have ps : PassesOwn (model P w) (cxOf (L2.CX P w) P w K mg base ["self"] "Receipt.__repr__" (defScope (meth 48 18)) a cdv A' outer s H E).A (cxOf (L2.CX P w) P w K mg base ["self"] "Receipt.__repr__" (defScope (meth 48 18)) a cdv A' outer s H E).env (cxOf (L2.CX P w) P w K mg base ["self"] "Receipt.__repr__" (defScope (meth 48 18)) a cdv A' outer s H E).xe := passes_of rfl
    (mss_cons (ms_ret (m_jstr (mj_cons m_str (mj_cons (m_fmt (g_len A.len (mab_cons (ME.mb (g_fld "Receipt" (gv 0) A.cls_Receipt A.na_Receipt_costs)) mab_nil))) (mj_cons m_str (mj_cons (m_fmt (g_len A.len (mab_cons (ME.mb (g_fld "Receipt" (gv 0) A.cls_Receipt A.na_Receipt_offers)) mab_nil))) (mj_cons m_str (mj_cons (m_fmt (g_len A.len (mab_cons (ME.mb (g_fld "Receipt" (gv 0) A.cls_Receipt A.na_Receipt_bounds)) mab_nil))) (mj_cons m_str mj_nil))))))))) mss_nil)
theorem sc_Receipt___len__ : FnScope ["self"] ["self"] (defScope (meth 48 10)) := ⟨rfl, rfl, rfl, by decide +kernel, rfl, by decide +kernel, by decide +kernel⟩
theorem ok_Receipt___len__ (A : Fc K mg) (F : FnQ K "__len__" "Receipt.__len__" (meth 48 10) [] a fd)  : FnG P w K mg base 1 a fd ["self"] (spF K 1 F_Receipt___len__) :=
  have S := sc_Receipt___len__
  fnG_of F S (by decide) fun cdv A' outer s H E hr hgd =>
    have tk : Takes (cxOf (L2.CX P w) P w K mg base ["self"] "Receipt.__len__" (defScope (meth 48 10)) a cdv A' outer s H E) (WE E) := takes_of rfl rfl rfl rfl
    have ps : PassesOwn (model P w) (cxOf (L2.CX P w) P w K mg base ["self"] "Receipt.__len__" (defScope (meth 48 10)) a cdv A' outer s H E).A (cxOf (L2.CX P w) P w K mg base ["self"] "Receipt.__len__" (defScope (meth 48 10)) a cdv A' outer s H E).env (cxOf (L2.CX P w) P w K mg base ["self"] "Receipt.__len__" (defScope (meth 48 10)) a cdv A' outer s H E).xe := passes_of rfl
    (mss_cons (ms_ret (g_len A.len (mab_cons (ME.mb (g_fld "Receipt" (gv 0) A.cls_Receipt A.na_Receipt_offers)) mab_nil))) mss_nil)
theorem sc__law_seen : FnScope ["_law_receipt_here", "_law_row"] ["_law_receipt_here"] (defScope (top 56)) := ⟨rfl, rfl, rfl, by decide +kernel, rfl, by decide +kernel, by decide +kernel⟩
theorem ok__law_seen (A : Fc K mg) (F : FnQ K "_law_seen" "_law_seen" (top 56) [] a fd) (c_Receipt___len__ : CalA P w K mg base 1 (He.ma K (He.ga K "Receipt") "__len__") ["self"] F_Receipt___len__) (c_Receipt___repr__ : CalA P w K mg base 1 (He.ma K (He.ga K "Receipt") "__repr__") ["self"] F_Receipt___repr__) (c_Receipt_deals : CalA P w K mg base 1 (prA K "Receipt" "deals") ["self"] F_Receipt_deals) (c_Receipt_groups : CalA P w K mg base 1 (prA K "Receipt" "groups") ["self"] F_Receipt_groups) (c_Receipt_prices : CalA P w K mg base 1 (prA K "Receipt" "prices") ["self"] F_Receipt_prices) (c_Receipt_text : CalA P w K mg base 3 (He.ma K (He.ga K "Receipt") "text") ["self"] F_Receipt_text) (c_Receipt_total : CalA P w K mg base 1 (prA K "Receipt" "total") ["self"] F_Receipt_total) : FnG P w K mg base 4 a fd ["_law_receipt_here"] (spF K 1 F__law_seen) :=
  have S := sc__law_seen
  fnG_of F S (by decide) fun cdv A' outer s H E hr hgd =>
    have tk : Takes (cxOf (L2.CX P w) P w K mg base ["_law_receipt_here", "_law_row"] "_law_seen" (defScope (top 56)) a cdv A' outer s H E) (WE E) := takes_of rfl rfl rfl rfl
    have ps : PassesOwn (model P w) (cxOf (L2.CX P w) P w K mg base ["_law_receipt_here", "_law_row"] "_law_seen" (defScope (top 56)) a cdv A' outer s H E).A (cxOf (L2.CX P w) P w K mg base ["_law_receipt_here", "_law_row"] "_law_seen" (defScope (top 56)) a cdv A' outer s H E).env (cxOf (L2.CX P w) P w K mg base ["_law_receipt_here", "_law_row"] "_law_seen" (defScope (top 56)) a cdv A' outer s H E).xe := passes_of rfl
    (mss_cons (g_set 1 S.nd (m_tup (ma_cons (g_prop (gv 0) A.cls_Receipt A.pr_Receipt_prices c_Receipt_prices hr hgd) (ma_cons (g_prop (gv 0) A.cls_Receipt A.pr_Receipt_deals c_Receipt_deals hr hgd) (ma_cons (g_prop (gv 0) A.cls_Receipt A.pr_Receipt_groups c_Receipt_groups hr hgd) (ma_cons (g_prop (gv 0) A.cls_Receipt A.pr_Receipt_total c_Receipt_total hr hgd) ma_nil)))))) (mss_cons (ms_ret (m_op p_add (ME.mb (gv 1)) (ME.mb (m_tup (ma_cons (g_lenO (gv 0) A.me_Receipt___len__ c_Receipt___len__ hr hgd A.len) (ma_cons (g_reprO (gv 0) A.me_Receipt___repr__ c_Receipt___repr__ hr hgd A.repr) (ma_cons (g_meth0 (gv 0) A.cls_Receipt A.me_Receipt_text c_Receipt_text hr hgd tk) ma_nil))))))) mss_nil))
theorem sc__law_same : FnScope ["_law_found", "_law_due_here"] ["_law_found", "_law_due_here"] (defScope (top 57)) := ⟨rfl, rfl, rfl, by decide +kernel, rfl, by decide +kernel, by decide +kernel⟩
theorem ok__law_same (A : Fc K mg) (F : FnQ K "_law_same" "_law_same" (top 57) [] a fd)  : FnG P w K mg base 1 a fd ["_law_found", "_law_due_here"] (spF K 2 F__law_same) :=
  have S := sc__law_same
  fnG_of F S (by decide) fun cdv A' outer s H E hr hgd =>
    have tk : Takes (cxOf (L2.CX P w) P w K mg base ["_law_found", "_law_due_here"] "_law_same" (defScope (top 57)) a cdv A' outer s H E) (WE E) := takes_of rfl rfl rfl rfl
    have ps : PassesOwn (model P w) (cxOf (L2.CX P w) P w K mg base ["_law_found", "_law_due_here"] "_law_same" (defScope (top 57)) a cdv A' outer s H E).A (cxOf (L2.CX P w) P w K mg base ["_law_found", "_law_due_here"] "_law_same" (defScope (top 57)) a cdv A' outer s H E).env (cxOf (L2.CX P w) P w K mg base ["_law_found", "_law_due_here"] "_law_same" (defScope (top 57)) a cdv A' outer s H E).xe := passes_of rfl
    (mss_cons (ms_ret (g_cmp (o_eq hr) (ME.mb (g_repr hr hgd A.repr (mab_cons (ME.mb (gv 0)) mab_nil))) (ME.mb (g_repr hr hgd A.repr (mab_cons (ME.mb (gv 1)) mab_nil))))) mss_nil)
theorem sc__law_is_right : FnScope ["_law_costs", "_law_offered", "_law_bounds", "_law_kept", "_law_due_here", "_law_turn", "_law_made", "_law_told", "_law_one"] ["_law_costs", "_law_offered", "_law_bounds"] (defScope (top 66)) := ⟨rfl, rfl, rfl, by decide +kernel, rfl, by decide +kernel, by decide +kernel⟩
theorem ok__law_is_right (A : Fc K mg) (F : FnQ K "_law_is_right" "_law_is_right" (top 66) [] a fd) (m_Receipt : Maker P w K mg base 6 "Receipt" ["self", "prices", "deals", "groups"] [.tup [], .tup []] F_Receipt___init__ sh_Receipt) (c__law_due : Cal P w K mg base 2 "_law_due" ["_law_costs", "_law_offered", "_law_bounds"] F__law_due) (c__law_same : Cal P w K mg base 1 "_law_same" ["_law_found", "_law_due_here"] F__law_same) (c__law_seen : Cal P w K mg base 4 "_law_seen" ["_law_receipt_here"] F__law_seen) : FnG P w K mg base 8 a fd ["_law_costs", "_law_offered", "_law_bounds"] (spF K 3 F__law_is_right) :=
  have S := sc__law_is_right
  fnG_of F S (by decide) fun cdv A' outer s H E hr hgd =>
    have tk : Takes (cxOf (L2.CX P w) P w K mg base ["_law_costs", "_law_offered", "_law_bounds", "_law_kept", "_law_due_here", "_law_turn", "_law_made", "_law_told", "_law_one"] "_law_is_right" (defScope (top 66)) a cdv A' outer s H E) (WE E) := takes_of rfl rfl rfl rfl
    have ps : PassesOwn (model P w) (cxOf (L2.CX P w) P w K mg base ["_law_costs", "_law_offered", "_law_bounds", "_law_kept", "_law_due_here", "_law_turn", "_law_made", "_law_told", "_law_one"] "_law_is_right" (defScope (top 66)) a cdv A' outer s H E).A (cxOf (L2.CX P w) P w K mg base ["_law_costs", "_law_offered", "_law_bounds", "_law_kept", "_law_due_here", "_law_turn", "_law_made", "_law_told", "_law_one"] "_law_is_right" (defScope (top 66)) a cdv A' outer s H E).env (cxOf (L2.CX P w) P w K mg base ["_law_costs", "_law_offered", "_law_bounds", "_law_kept", "_law_due_here", "_law_turn", "_law_made", "_law_told", "_law_one"] "_law_is_right" (defScope (top 66)) a cdv A' outer s H E).xe := passes_of rfl
    (mss_cons (g_set 3 S.nd (g_repr hr hgd A.repr (mab_cons (ME.mb (m_tup (ma_cons (gv 0) (ma_cons (gv 1) (ma_cons (gv 2) ma_nil))))) mab_nil))) (mss_cons (g_set 4 S.nd (ML.me (ml_lst (ma_cons (g_call c__law_due hr hgd tk (ma_cons (gv 0) (ma_cons (gv 1) (ma_cons (gv 2) ma_nil))) (alen_cons (alen_cons (alen_cons alen_nil)))) (ma_cons (g_call c__law_due hr hgd tk (ma_cons (gv 0) (ma_cons (gv 1) (ma_cons (m_tup ma_nil) ma_nil))) (alen_cons (alen_cons (alen_cons alen_nil)))) (ma_cons (g_call c__law_due hr hgd tk (ma_cons (gv 0) (ma_cons (m_tup ma_nil) (ma_cons (m_tup ma_nil) ma_nil))) (alen_cons (alen_cons (alen_cons alen_nil)))) ma_nil)))))) (mss_cons (g_set 4 S.nd (m_op p_add (ME.mb (gv 4)) (ME.mb (ML.me (ml_lst (ma_cons (g_ix (ME.mb (gv 4)) m_int) (ma_cons (g_ix (ME.mb (gv 4)) m_int) (ma_cons (g_ix (ME.mb (gv 4)) m_int) (ma_cons (g_ix (ME.mb (gv 4)) m_int) (ma_cons (g_ix (ME.mb (gv 4)) m_int) ma_nil)))))))))) (mss_cons (ms_for ps rfl (mi_range1 rfl A.range (ma_cons m_int ma_nil)) (g_nm 5 S.nd) (mss_cons (g_setO 6 S.nd (ml_lst (ma_cons (g_make 3 [.pos 1, .pos 2, .pos 3] m_Receipt (List.mem_of_getElem? (i := 2) rfl) hr hgd tk (ma_cons (gv 0) (ma_cons (gv 1) (ma_cons (gv 2) ma_nil))) mk_nil) (ma_cons (g_make 2 [.pos 1, .pos 2, .dfl 1] m_Receipt (List.mem_of_getElem? (i := 1) rfl) hr hgd tk (ma_cons (gv 0) (ma_cons (gv 1) ma_nil)) mk_nil) (ma_cons (g_make 1 [.pos 1, .dfl 0, .dfl 1] m_Receipt (List.mem_of_getElem? (i := 0) rfl) hr hgd tk (ma_cons (gv 0) ma_nil) mk_nil) ma_nil))))) (mss_cons (g_app 6 (g_makeK [.kw 1, .kw 2, .kw 0] m_Receipt (List.mem_of_getElem? (i := 3) rfl) hr hgd tk (mk_cons (gv 2) (mk_cons (gv 0) (mk_cons (gv 1) mk_nil))))) (mss_cons (g_set 6 S.nd (m_op p_add (go 6) (ME.mb (ML.me (ml_lst (ma_cons (g_make 1 [.pos 1, .kw 1, .kw 0] m_Receipt (List.mem_of_getElem? (i := 5) rfl) hr hgd tk (ma_cons (gv 0) ma_nil) (mk_cons (gv 2) (mk_cons (gv 1) mk_nil))) (ma_cons (g_make 1 [.pos 1, .kw 0, .dfl 1] m_Receipt (List.mem_of_getElem? (i := 4) rfl) hr hgd tk (ma_cons (gv 0) ma_nil) (mk_cons (gv 1) mk_nil)) ma_nil))))))) (mss_cons (g_set 6 S.nd (m_op p_add (ME.mb (gv 6)) (ME.mb (ML.me (ml_lst (ma_cons (g_make 1 [.pos 1, .dfl 0, .kw 0] m_Receipt (List.mem_of_getElem? (i := 7) rfl) hr hgd tk (ma_cons (gv 0) ma_nil) (mk_cons (m_tup ma_nil) mk_nil)) (ma_cons (g_makeK [.kw 0, .dfl 0, .dfl 1] m_Receipt (List.mem_of_getElem? (i := 6) rfl) hr hgd tk (mk_cons (gv 0) mk_nil)) ma_nil))))))) (mss_cons (ms_if (gt_cmp (o_ne hr) (ME.mb (ML.me (ml_lc (own := [("_law_one", 8)]) bok_name rfl S.nd (mic_seq (ME.mb (gv 6))) (blkOk_by (by rfl)) (fun _ _ _ _ _ => (g_nm 8 S.nd)) (fun _ _ _ _ _ => (mts_one (MW.mt (mw_or (mt_not (mt_val (g_isO (gv 8) A.iso_Receipt A.isinstance A.glo_Receipt))) (mw_or1 (gt_cmp (o_ne hr) (ME.mb (g_con "Receipt" (.int 5) (gv 8) A.cls_Receipt A.con_Receipt_LIMIT)) (ME.mb m_int))))))) (fun _ _ _ _ _ => m_int)))) (ME.mb (ML.me (ml_lst ma_nil)))) (mss_cons (ms_ret m_bl) mss_nil) mss_nil) (mss_cons (ms_setLc (own := [("_law_one", 8)]) bok_name rfl S.nd (i := 7) rfl rfl (by rfl) (mic_seq (ME.mb (gv 6))) (blkOk_by (by rfl)) (fun _ _ _ _ _ => (g_nm 8 S.nd)) (fun _ _ _ _ _ => mts_nil) (fun _ _ _ _ _ => (g_call c__law_seen hr hgd takes_F (ma_cons (gv 8) ma_nil) (alen_cons alen_nil)))) (mss_cons (ms_if (mt_not (mt_val (g_call c__law_same hr hgd tk (ma_cons (ML.me (ml_lst (ma_cons (gv 7) (ma_cons (ML.me (ml_lc (own := [("_law_one", 8)]) bok_name rfl S.nd (mic_seq (ME.mb (gv 6))) (blkOk_by (by rfl)) (fun _ _ _ _ _ => (g_nm 8 S.nd)) (fun _ _ _ _ _ => mts_nil) (fun _ _ _ _ _ => (g_call c__law_seen hr hgd takes_F (ma_cons (gv 8) ma_nil) (alen_cons alen_nil))))) ma_nil)))) (ma_cons (ML.me (ml_lst (ma_cons (gv 4) (ma_cons (gv 4) ma_nil)))) ma_nil)) (alen_cons (alen_cons alen_nil))))) (mss_cons (ms_ret m_bl) mss_nil) mss_nil) mss_nil)))))))) (mss_cons (ms_ret (g_cmp (o_eq hr) (ME.mb (g_repr hr hgd A.repr (mab_cons (ME.mb (m_tup (ma_cons (gv 0) (ma_cons (gv 1) (ma_cons (gv 2) ma_nil))))) mab_nil))) (ME.mb (gv 3)))) mss_nil)))))
theorem sc_law : FnScope ["_law_script", "_law_cell", "_law_pen_here", "_law_lap", "_law_costs", "_law_offered", "_law_bounds", "_law_many", "_law_whole", "_law_wide", "_law_line", "_law_price"] ["_law_script"] (defScope (top 67)) := ⟨rfl, rfl, rfl, by decide +kernel, rfl, by decide +kernel, by decide +kernel⟩
theorem ok_law (A : Fc K mg) (F : FnQ K "law" "law" (top 67) [] a fd) (c__law_cell_at : Cal P w K mg base 1 "_law_cell_at" ["_law_script", "_law_k"] F__law_cell_at) (c__law_is_right : Cal P w K mg base 8 "_law_is_right" ["_law_costs", "_law_offered", "_law_bounds"] F__law_is_right) (c__law_pen : Cal P w K mg base 1 "_law_pen" ["_law_cell"] F__law_pen) (c__law_receipt : Cal P w K mg base 4 "_law_receipt" ["_law_pen_here", "_law_lines", "_law_offered"] F__law_receipt) : FnG P w K mg base 9 a fd ["_law_script"] (spF K 1 F_law) :=
  have S := sc_law
  fnG_of F S (by decide) fun cdv A' outer s H E hr hgd =>
    have tk : Takes (cxOf (L2.CX P w) P w K mg base ["_law_script", "_law_cell", "_law_pen_here", "_law_lap", "_law_costs", "_law_offered", "_law_bounds", "_law_many", "_law_whole", "_law_wide", "_law_line", "_law_price"] "law" (defScope (top 67)) a cdv A' outer s H E) (WE E) := takes_of rfl rfl rfl rfl
    have ps : PassesOwn (model P w) (cxOf (L2.CX P w) P w K mg base ["_law_script", "_law_cell", "_law_pen_here", "_law_lap", "_law_costs", "_law_offered", "_law_bounds", "_law_many", "_law_whole", "_law_wide", "_law_line", "_law_price"] "law" (defScope (top 67)) a cdv A' outer s H E).A (cxOf (L2.CX P w) P w K mg base ["_law_script", "_law_cell", "_law_pen_here", "_law_lap", "_law_costs", "_law_offered", "_law_bounds", "_law_many", "_law_whole", "_law_wide", "_law_line", "_law_price"] "law" (defScope (top 67)) a cdv A' outer s H E).env (cxOf (L2.CX P w) P w K mg base ["_law_script", "_law_cell", "_law_pen_here", "_law_lap", "_law_costs", "_law_offered", "_law_bounds", "_law_many", "_law_whole", "_law_wide", "_law_line", "_law_price"] "law" (defScope (top 67)) a cdv A' outer s H E).xe := passes_of rfl
    (mss_cons (ms_for ps rfl (mi_seq (m_op p_add (ME.mb (ML.me (ml_lst (ma_cons (g_call c__law_cell_at hr hgd tk (ma_cons (gv 0) (ma_cons m_int ma_nil)) (alen_cons (alen_cons alen_nil))) ma_nil)))) (ME.mb (m_slice (ME.mb (gv 0)) (mo_some m_int) (mo_some m_int))))) (g_nm 1 S.nd) (mss_cons (g_set 2 S.nd (g_call c__law_pen hr hgd tk (ma_cons (gv 1) ma_nil) (alen_cons alen_nil))) (mss_cons (ms_for ps rfl (mi_range1 rfl A.range (ma_cons m_int ma_nil)) (g_nm 3 S.nd) (mss_cons (g_asg (g_call c__law_receipt hr hgd tk (ma_cons (gv 2) (ma_cons m_int (ma_cons m_int ma_nil))) (alen_cons (alen_cons (alen_cons alen_nil)))) (mg_tup rfl (mgs_cons (g_nm 4 S.nd) (mgs_cons (g_nm 5 S.nd) (mgs_cons (g_nm 6 S.nd) mgs_nil))))) (mss_cons (ms_if (mt_not (mt_val (g_call c__law_is_right hr hgd tk (ma_cons (gv 4) (ma_cons (gv 5) (ma_cons (gv 6) ma_nil))) (alen_cons (alen_cons (alen_cons alen_nil)))))) (mss_cons (ms_ret m_bl) mss_nil) mss_nil) mss_nil))) mss_nil))) (mss_cons (ms_for ps rfl (mi_range2 rfl A.range (ma_cons m_int (ma_cons m_int ma_nil))) (g_nm 7 S.nd) (mss_cons (g_set 4 S.nd (g_tuple A.tuple (mab_cons (ME.mb (ML.me (ml_lc (own := [("_law_line", 10)]) bok_name rfl S.nd (MI.toC (mi_range1 rfl A.range (ma_cons (gv 7) ma_nil))) (blkOk_by (by rfl)) (fun _ _ _ _ _ => (g_nm 10 S.nd)) (fun _ _ _ _ _ => mts_nil) (fun _ _ _ _ _ => (m_op p_sub (ME.mb m_int) (ME.mb (gv 10))))))) mab_nil))) (mss_cons (g_set 8 S.nd (g_tuple A.tuple (mab_cons (ME.mb (ML.me (ml_lc (own := [("_law_line", 10), ("_law_price", 11)]) (bok_tup (bsok_cons bok_name (bsok_cons bok_name bsok_nil))) rfl S.nd (MI.toC (mi_enum rfl A.enumerate (ma_cons (gv 4) ma_nil))) (blkOk_by (by rfl)) (fun _ _ _ _ _ => (mg_tup rfl (mgs_cons (g_nm 10 S.nd) (mgs_cons (g_nm 11 S.nd) mgs_nil)))) (fun _ _ _ _ _ => mts_nil) (fun _ _ _ _ _ => (m_tup (ma_cons (gv 10) (ma_cons (gv 11) ma_nil))))))) mab_nil))) (mss_cons (g_set 9 S.nd (m_tup (ma_cons (m_tup (ma_cons m_int (ma_cons (m_tup (ma_cons m_int (ma_cons m_int (ma_cons m_int (ma_cons m_int (ma_cons m_int ma_nil)))))) ma_nil))) (ma_cons (m_tup (ma_cons m_int (ma_cons (m_tup (ma_cons m_int (ma_cons m_int (ma_cons m_int (ma_cons m_int ma_nil))))) ma_nil))) (ma_cons (m_tup (ma_cons m_int (ma_cons (m_tup (ma_cons m_int (ma_cons m_int (ma_cons m_int ma_nil)))) ma_nil))) (ma_cons (m_tup (ma_cons m_int (ma_cons (m_tup (ma_cons m_int (ma_cons m_int ma_nil))) ma_nil))) (ma_cons (m_tup (ma_cons m_int (ma_cons (m_tup (ma_cons m_int ma_nil)) ma_nil))) ma_nil))))))) (mss_cons (ms_if (mt_not (mt_val (g_call c__law_is_right hr hgd tk (ma_cons (gv 4) (ma_cons (m_tup (ma_cons (gv 8) (ma_cons (m_tup ma_nil) (ma_cons (gv 8) (ma_cons (gv 8) (ma_cons (m_slice (ME.mb (gv 8)) mo_none (mo_some m_int)) ma_nil)))))) (ma_cons (gv 9) ma_nil))) (alen_cons (alen_cons (alen_cons alen_nil)))))) (mss_cons (ms_ret m_bl) mss_nil) mss_nil) mss_nil))))) (mss_cons (ms_ret (g_cmp (o_eq hr) (ME.mb (g_conC (.int 5) A.glo_Receipt A.crd_Receipt A.cval_Receipt_LIMIT)) (ME.mb m_int))) mss_nil)))
end
end Q01
namespace Q01
open PySem PySem.Spec PyProof.Rows L2 PL
def mkA (a : PySem.W.Frag → Addr) (n q : Str) (st : Stmt) (d : List He.Dv) : He5.DefA := ⟨a, n, q, defArgs st, defBody st, defScope st, d, []⟩
def d__law_cell_at : He5.DefA := mkA (fun K => He.ga K "_law_cell_at") "_law_cell_at" "_law_cell_at" (top 58) []
def d__law_pen : He5.DefA := mkA (fun K => He.ga K "_law_pen") "_law_pen" "_law_pen" (top 59) []
def d__law_draw : He5.DefA := mkA (fun K => He.ga K "_law_draw") "_law_draw" "_law_draw" (top 60) []
def d__law_pick : He5.DefA := mkA (fun K => He.ga K "_law_pick") "_law_pick" "_law_pick" (top 61) []
def d__law_deal : He5.DefA := mkA (fun K => He.ga K "_law_deal") "_law_deal" "_law_deal" (top 62) []
def d__law_mixed : He5.DefA := mkA (fun K => He.ga K "_law_mixed") "_law_mixed" "_law_mixed" (top 63) []
def d__law_groups : He5.DefA := mkA (fun K => He.ga K "_law_groups") "_law_groups" "_law_groups" (top 64) []
def d__law_receipt : He5.DefA := mkA (fun K => He.ga K "_law_receipt") "_law_receipt" "_law_receipt" (top 65) []
def d__law_text : He5.DefA := mkA (fun K => He.ga K "_law_text") "_law_text" "_law_text" (top 54) []
def d__law_due : He5.DefA := mkA (fun K => He.ga K "_law_due") "_law_due" "_law_due" (top 55) []
def d_is_integer : He5.DefA := mkA (fun K => He.ga K "is_integer") "is_integer" "is_integer" (top 18) []
def d_is_between : He5.DefA := mkA (fun K => He.ga K "is_between") "is_between" "is_between" (top 19) []
def d_are_prices : He5.DefA := mkA (fun K => He.ga K "are_prices") "are_prices" "are_prices" (top 40) []
def d_is_pair : He5.DefA := mkA (fun K => He.ga K "is_pair") "is_pair" "is_pair" (top 22) []
def d_is_offer : He5.DefA := mkA (fun K => He.ga K "is_offer") "is_offer" "is_offer" (top 41) []
def d_rises : He5.DefA := mkA (fun K => He.ga K "rises") "rises" "rises" (top 20) []
def d_is_deal : He5.DefA := mkA (fun K => He.ga K "is_deal") "is_deal" "is_deal" (top 42) []
def d_are_deals : He5.DefA := mkA (fun K => He.ga K "are_deals") "are_deals" "are_deals" (top 43) []
def d_is_set : He5.DefA := mkA (fun K => He.ga K "is_set") "is_set" "is_set" (top 21) []
def d_is_group : He5.DefA := mkA (fun K => He.ga K "is_group") "is_group" "is_group" (top 44) []
def d_are_groups : He5.DefA := mkA (fun K => He.ga K "are_groups") "are_groups" "are_groups" (top 45) []
def d_are_apart : He5.DefA := mkA (fun K => He.ga K "are_apart") "are_apart" "are_apart" (top 23) []
def d_is_inside : He5.DefA := mkA (fun K => He.ga K "is_inside") "is_inside" "is_inside" (top 24) []
def d_do_cross : He5.DefA := mkA (fun K => He.ga K "do_cross") "do_cross" "do_cross" (top 46) []
def d_first_crossed : He5.DefA := mkA (fun K => He.ga K "first_crossed") "first_crossed" "first_crossed" (top 47) []
def d_Receipt___init__ : He5.DefA := mkA (fun K => (He.ma K (He.ga K "Receipt") "__init__")) "__init__" "Receipt.__init__" (meth 48 1) [.adr (He.dflAt ("Receipt", some "__init__") 0), .adr (He.dflAt ("Receipt", some "__init__") 1)]
def d_Receipt_total : He5.DefA := mkA (fun K => (prA K "Receipt" "total")) "total" "Receipt.total" (meth 48 7) []
def d_Receipt_groups : He5.DefA := mkA (fun K => (prA K "Receipt" "groups")) "groups" "Receipt.groups" (meth 48 6) []
def d_Receipt_deals : He5.DefA := mkA (fun K => (prA K "Receipt" "deals")) "deals" "Receipt.deals" (meth 48 5) []
def d_Receipt_prices : He5.DefA := mkA (fun K => (prA K "Receipt" "prices")) "prices" "Receipt.prices" (meth 48 4) []
def d_numbers_text : He5.DefA := mkA (fun K => He.ga K "numbers_text") "numbers_text" "numbers_text" (top 32) []
def d_receipt_lines : He5.DefA := mkA (fun K => He.ga K "receipt_lines") "receipt_lines" "receipt_lines" (top 33) []
def d_Receipt_text : He5.DefA := mkA (fun K => (He.ma K (He.ga K "Receipt") "text")) "text" "Receipt.text" (meth 48 3) []
def d_Receipt___repr__ : He5.DefA := mkA (fun K => (He.ma K (He.ga K "Receipt") "__repr__")) "__repr__" "Receipt.__repr__" (meth 48 18) []
def d_Receipt___len__ : He5.DefA := mkA (fun K => (He.ma K (He.ga K "Receipt") "__len__")) "__len__" "Receipt.__len__" (meth 48 10) []
def d__law_seen : He5.DefA := mkA (fun K => He.ga K "_law_seen") "_law_seen" "_law_seen" (top 56) []
def d__law_same : He5.DefA := mkA (fun K => He.ga K "_law_same") "_law_same" "_law_same" (top 57) []
def d__law_is_right : He5.DefA := mkA (fun K => He.ga K "_law_is_right") "_law_is_right" "_law_is_right" (top 66) []
def d_law : He5.DefA := mkA (fun K => He.ga K "law") "law" "law" (top 67) []
def fn : List He5.DefA := [d__law_cell_at, d__law_pen, d__law_draw, d__law_pick, d__law_deal, d__law_mixed, d__law_groups, d__law_receipt, d__law_text, d__law_due, d_is_integer, d_is_between, d_are_prices, d_is_pair, d_is_offer, d_rises, d_is_deal, d_are_deals, d_is_set, d_is_group, d_are_groups, d_are_apart, d_is_inside, d_do_cross, d_first_crossed, d_Receipt___init__, d_Receipt_total, d_Receipt_groups, d_Receipt_deals, d_Receipt_prices, d_numbers_text, d_receipt_lines, d_Receipt_text, d_Receipt___repr__, d_Receipt___len__, d__law_seen, d__law_same, d__law_is_right, d_law]
def k_0 : Chk := fun K => (He.Fa.free "len").ok K
def k_1 : Chk := fun K => (He.Fa.free "max").ok K
def k_2 : Chk := fun K => (He.Fa.free "range").ok K
def k_3 : Chk := fun K => (He.Fa.free "tuple").ok K
def k_4 : Chk := fun K => (He.Fa.free "enumerate").ok K
def k_5 : Chk := fun K => (He.Fa.free "min").ok K
def k_6 : Chk := fun K => (He.Fa.free "sorted").ok K
def k_7 : Chk := fun K => (He.Fa.free "list").ok K
def k_8 : Chk := fun K => (He.Fa.free "repr").ok K
def k_9 : Chk := fun K => (He.Fa.free "str").ok K
def k_10 : Chk := fun K => (He.Fa.free "sum").ok K
def k_11 : Chk := fun K => (He.Fa.free "isinstance").ok K
def k_12 : Chk := fun K => (He.Fa.int "MOST_LINES" 5).ok K
def k_13 : Chk := fun K => (He.Fa.free "all").ok K
def k_14 : Chk := fun K => (He.Fa.int "MOST_PRICE" 9999).ok K
def k_15 : Chk := fun K => (He.Fa.free "int").ok K
def k_16 : Chk := fun K => (He.Fa.free "bool").ok K
def k_17 : Chk := fun K => (He.Fa.int "MOST_DEALS" 5).ok K
def k_18 : Chk := fun K => (He.Fa.free "zip").ok K
def k_19 : Chk := fun K => (He.Fa.int "MOST_GROUPS" 5).ok K
def k_20 : Chk := fun K => (He.Fa.int "MOST_LIMIT" 5).ok K
def k_21 : Chk := fun K => (He.Fa.free "any").ok K
def k_22 : Chk := fun K => (He.Fa.cls "Receipt").ok K
def k_23 : Chk := fun K => (He.Fa.noat "Receipt" "bounds").ok K
def k_24 : Chk := fun K => (He.Fa.noat "Receipt" "offers").ok K
def k_25 : Chk := fun K => (He.Fa.noat "Receipt" "costs").ok K
def k_26 : Chk := fun K => (He.Fa.glo "Receipt").ok K
def k_27 : Chk := fun K => (He.Fa.mkr "Receipt").ok K
def k_28 : Chk := chkIsO "Receipt" [("Receipt", true)]
def k_29 : Chk := chkCon "Receipt" "LIMIT" (.int 5)
def k_30 : Chk := chkProp "Receipt" "total"
def k_31 : Chk := chkProp "Receipt" "groups"
def k_32 : Chk := chkProp "Receipt" "deals"
def k_33 : Chk := chkProp "Receipt" "prices"
def k_34 : Chk := fun K => (He.Fa.str "PRICES" "prices ").ok K
def k_35 : Chk := fun K => (He.Fa.str "DEAL" "deal").ok K
def k_36 : Chk := fun K => (He.Fa.str "GROUP" "group ").ok K
def k_37 : Chk := fun K => (He.Fa.str "OF" " of ").ok K
def k_38 : Chk := fun K => (He.Fa.meth "Receipt" "text").ok K
def k_39 : Chk := fun K => (He.Fa.meth "Receipt" "__repr__").ok K
def k_40 : Chk := fun K => (He.Fa.meth "Receipt" "__len__").ok K
def k_41 : Chk := chkCRd "Receipt"
def k_42 : Chk := chkCVal "Receipt" "LIMIT" (.int 5)
def k_43 : Chk := fun K => (He.Fa.glo "_law_cell_at").ok K
def k_44 : Chk := fun K => (He.Fa.glo "_law_pen").ok K
def k_45 : Chk := fun K => (He.Fa.glo "_law_draw").ok K
def k_46 : Chk := fun K => (He.Fa.glo "_law_pick").ok K
def k_47 : Chk := fun K => (He.Fa.glo "_law_deal").ok K
def k_48 : Chk := fun K => (He.Fa.glo "_law_mixed").ok K
def k_49 : Chk := fun K => (He.Fa.glo "_law_groups").ok K
def k_50 : Chk := fun K => (He.Fa.glo "_law_receipt").ok K
def k_51 : Chk := fun K => (He.Fa.glo "_law_text").ok K
def k_52 : Chk := fun K => (He.Fa.glo "_law_due").ok K
def k_53 : Chk := fun K => (He.Fa.glo "is_integer").ok K
def k_54 : Chk := fun K => (He.Fa.glo "is_between").ok K
def k_55 : Chk := fun K => (He.Fa.glo "are_prices").ok K
def k_56 : Chk := fun K => (He.Fa.glo "is_pair").ok K
def k_57 : Chk := fun K => (He.Fa.glo "is_offer").ok K
def k_58 : Chk := fun K => (He.Fa.glo "rises").ok K
def k_59 : Chk := fun K => (He.Fa.glo "is_deal").ok K
def k_60 : Chk := fun K => (He.Fa.glo "are_deals").ok K
def k_61 : Chk := fun K => (He.Fa.glo "is_set").ok K
def k_62 : Chk := fun K => (He.Fa.glo "is_group").ok K
def k_63 : Chk := fun K => (He.Fa.glo "are_groups").ok K
def k_64 : Chk := fun K => (He.Fa.glo "are_apart").ok K
def k_65 : Chk := fun K => (He.Fa.glo "is_inside").ok K
def k_66 : Chk := fun K => (He.Fa.glo "do_cross").ok K
def k_67 : Chk := fun K => (He.Fa.glo "first_crossed").ok K
def k_68 : Chk := chkTup0 (He.dflAt ("Receipt", some "__init__") 0)
def k_69 : Chk := chkTup0 (He.dflAt ("Receipt", some "__init__") 1)
def k_70 : Chk := fun K => (He.Fa.glo "numbers_text").ok K
def k_71 : Chk := fun K => (He.Fa.glo "receipt_lines").ok K
def k_72 : Chk := fun K => (He.Fa.glo "_law_seen").ok K
def k_73 : Chk := fun K => (He.Fa.glo "_law_same").ok K
def k_74 : Chk := fun K => (He.Fa.glo "_law_is_right").ok K
def k_75 : Chk := fun K => (He.Fa.glo "law").ok K
def fa : List Chk := [k_0, k_1, k_2, k_3, k_4, k_5, k_6, k_7, k_8, k_9, k_10, k_11, k_12, k_13, k_14, k_15, k_16, k_17, k_18, k_19, k_20, k_21, k_22, k_23, k_24, k_25, k_26, k_27, k_28, k_29, k_30, k_31, k_32, k_33, k_34, k_35, k_36, k_37, k_38, k_39, k_40, k_41, k_42, k_43, k_44, k_45, k_46, k_47, k_48, k_49, k_50, k_51, k_52, k_53, k_54, k_55, k_56, k_57, k_58, k_59, k_60, k_61, k_62, k_63, k_64, k_65, k_66, k_67, k_68, k_69, k_70, k_71, k_72, k_73, k_74, k_75]
abbrev R : PySem.W.OpenRow := PySem.W.OpenLaw.row PySem.Challenge.rw_joineddeals_k01_receipts_made
abbrev hk : PySem.W.Hook := hookP 6 fa fn
def ob (s : PySem.W.SharedT) : He.AlD := obsPG 6 fa fn (HandSHeadRun.getT s)
theorem ob_eq (s : PySem.W.SharedT) : ob s = hk.obs s.abs := obsPG_eq (HandSHeadRun.getT_eq s)
def loose0 : List Str := ["__name__", "_wall", "DealError", "NoPrices", "NoDeals", "NoGroups", "NoReceipt", "NoDeal", "NoLine", "NoText", "Crossed", "TooMany", "MOST_LINES", "MOST_DEALS", "MOST_GROUPS", "MOST_PRICE", "MOST_LIMIT", "is_integer", "is_between", "rises", "is_set", "is_pair", "are_apart", "is_inside", "PRICES", "DEAL", "GROUP", "OF", "COLON", "FIGURES"]
def loose1 : List Str := ["numbers_text", "receipt_lines", "number_in", "numbers_in", "deal_in", "group_in", "parts_in", "are_prices", "is_offer", "is_deal", "are_deals", "is_group", "are_groups", "do_cross", "first_crossed", "Receipt", "groups_without", "saving_of", "is_offered", "need_receipt", "_law_text", "_law_due", "_law_seen", "_law_same", "_law_cell_at", "_law_pen", "_law_draw", "_law_pick", "_law_deal", "_law_mixed"]
def loose2 : List Str := ["_law_groups", "_law_receipt", "_law_is_right"]
def loose : List Str := loose0 ++ loose1 ++ loose2
theorem run (w : World) : HandSHeadRun.RunEq R (PySem.W.view R.prog [67]) hk ob 40000 loose w := by
  intro os
  kernel_rfl
theorem facts {P : Program} {w : World} {K : PySem.W.Frag} {h : Heap} {mg : Str → Option Value} {f : Addr} (X : K.In h) (G : h.Ns mainGlobals mg) (hfa : mg ("law" : Str) = some (.ref f)) (c : SaysP fa fn K) :
    ∃ fd : FuncData, (∀ (s : Shared) (v : Value), BindsTo s fd ⟨[v], []⟩ [("_law_script", v)]) ∧ ∀ base : Heap, K.In base → base.Ns mainGlobals mg → FnG P w K mg base 9 f fd ["_law_script"] (spF K 1 F_law) := by
  obtain ⟨d0, D0⟩ := c.def_ 0 (d := d__law_cell_at) rfl
  have g0 := He.glo_ok X G (c.fact 43 (f := k_43) rfl)
  obtain ⟨d1, D1⟩ := c.def_ 1 (d := d__law_pen) rfl
  have g1 := He.glo_ok X G (c.fact 44 (f := k_44) rfl)
  obtain ⟨d2, D2⟩ := c.def_ 2 (d := d__law_draw) rfl
  have g2 := He.glo_ok X G (c.fact 45 (f := k_45) rfl)
  obtain ⟨d3, D3⟩ := c.def_ 3 (d := d__law_pick) rfl
  have g3 := He.glo_ok X G (c.fact 46 (f := k_46) rfl)
  obtain ⟨d4, D4⟩ := c.def_ 4 (d := d__law_deal) rfl
  have g4 := He.glo_ok X G (c.fact 47 (f := k_47) rfl)
  obtain ⟨d5, D5⟩ := c.def_ 5 (d := d__law_mixed) rfl
  have g5 := He.glo_ok X G (c.fact 48 (f := k_48) rfl)
  obtain ⟨d6, D6⟩ := c.def_ 6 (d := d__law_groups) rfl
  have g6 := He.glo_ok X G (c.fact 49 (f := k_49) rfl)
  obtain ⟨d7, D7⟩ := c.def_ 7 (d := d__law_receipt) rfl
  have g7 := He.glo_ok X G (c.fact 50 (f := k_50) rfl)
  obtain ⟨d8, D8⟩ := c.def_ 8 (d := d__law_text) rfl
  have g8 := He.glo_ok X G (c.fact 51 (f := k_51) rfl)
  obtain ⟨d9, D9⟩ := c.def_ 9 (d := d__law_due) rfl
  have g9 := He.glo_ok X G (c.fact 52 (f := k_52) rfl)
  obtain ⟨d10, D10⟩ := c.def_ 10 (d := d_is_integer) rfl
  have g10 := He.glo_ok X G (c.fact 53 (f := k_53) rfl)
  obtain ⟨d11, D11⟩ := c.def_ 11 (d := d_is_between) rfl
  have g11 := He.glo_ok X G (c.fact 54 (f := k_54) rfl)
  obtain ⟨d12, D12⟩ := c.def_ 12 (d := d_are_prices) rfl
  have g12 := He.glo_ok X G (c.fact 55 (f := k_55) rfl)
  obtain ⟨d13, D13⟩ := c.def_ 13 (d := d_is_pair) rfl
  have g13 := He.glo_ok X G (c.fact 56 (f := k_56) rfl)
  obtain ⟨d14, D14⟩ := c.def_ 14 (d := d_is_offer) rfl
  have g14 := He.glo_ok X G (c.fact 57 (f := k_57) rfl)
  obtain ⟨d15, D15⟩ := c.def_ 15 (d := d_rises) rfl
  have g15 := He.glo_ok X G (c.fact 58 (f := k_58) rfl)
  obtain ⟨d16, D16⟩ := c.def_ 16 (d := d_is_deal) rfl
  have g16 := He.glo_ok X G (c.fact 59 (f := k_59) rfl)
  obtain ⟨d17, D17⟩ := c.def_ 17 (d := d_are_deals) rfl
  have g17 := He.glo_ok X G (c.fact 60 (f := k_60) rfl)
  obtain ⟨d18, D18⟩ := c.def_ 18 (d := d_is_set) rfl
  have g18 := He.glo_ok X G (c.fact 61 (f := k_61) rfl)
  obtain ⟨d19, D19⟩ := c.def_ 19 (d := d_is_group) rfl
  have g19 := He.glo_ok X G (c.fact 62 (f := k_62) rfl)
  obtain ⟨d20, D20⟩ := c.def_ 20 (d := d_are_groups) rfl
  have g20 := He.glo_ok X G (c.fact 63 (f := k_63) rfl)
  obtain ⟨d21, D21⟩ := c.def_ 21 (d := d_are_apart) rfl
  have g21 := He.glo_ok X G (c.fact 64 (f := k_64) rfl)
  obtain ⟨d22, D22⟩ := c.def_ 22 (d := d_is_inside) rfl
  have g22 := He.glo_ok X G (c.fact 65 (f := k_65) rfl)
  obtain ⟨d23, D23⟩ := c.def_ 23 (d := d_do_cross) rfl
  have g23 := He.glo_ok X G (c.fact 66 (f := k_66) rfl)
  obtain ⟨d24, D24⟩ := c.def_ 24 (d := d_first_crossed) rfl
  have g24 := He.glo_ok X G (c.fact 67 (f := k_67) rfl)
  obtain ⟨d25, D25⟩ := c.def_ 25 (d := d_Receipt___init__) rfl
  obtain ⟨d26, D26⟩ := c.def_ 26 (d := d_Receipt_total) rfl
  obtain ⟨d27, D27⟩ := c.def_ 27 (d := d_Receipt_groups) rfl
  obtain ⟨d28, D28⟩ := c.def_ 28 (d := d_Receipt_deals) rfl
  obtain ⟨d29, D29⟩ := c.def_ 29 (d := d_Receipt_prices) rfl
  obtain ⟨d30, D30⟩ := c.def_ 30 (d := d_numbers_text) rfl
  have g30 := He.glo_ok X G (c.fact 70 (f := k_70) rfl)
  obtain ⟨d31, D31⟩ := c.def_ 31 (d := d_receipt_lines) rfl
  have g31 := He.glo_ok X G (c.fact 71 (f := k_71) rfl)
  obtain ⟨d32, D32⟩ := c.def_ 32 (d := d_Receipt_text) rfl
  obtain ⟨d33, D33⟩ := c.def_ 33 (d := d_Receipt___repr__) rfl
  obtain ⟨d34, D34⟩ := c.def_ 34 (d := d_Receipt___len__) rfl
  obtain ⟨d35, D35⟩ := c.def_ 35 (d := d__law_seen) rfl
  have g35 := He.glo_ok X G (c.fact 72 (f := k_72) rfl)
  obtain ⟨d36, D36⟩ := c.def_ 36 (d := d__law_same) rfl
  have g36 := He.glo_ok X G (c.fact 73 (f := k_73) rfl)
  obtain ⟨d37, D37⟩ := c.def_ 37 (d := d__law_is_right) rfl
  have g37 := He.glo_ok X G (c.fact 74 (f := k_74) rfl)
  obtain ⟨d38, D38⟩ := c.def_ 38 (d := d_law) rfl
  have g38 := He.glo_ok X G (c.fact 75 (f := k_75) rfl)
  have A : Fc K mg := ⟨He.free_ok X G (c.fact 0 (f := k_0) rfl), He.free_ok X G (c.fact 1 (f := k_1) rfl), He.free_ok X G (c.fact 2 (f := k_2) rfl), He.free_ok X G (c.fact 3 (f := k_3) rfl), He.free_ok X G (c.fact 4 (f := k_4) rfl), He.free_ok X G (c.fact 5 (f := k_5) rfl), He.free_ok X G (c.fact 6 (f := k_6) rfl), He.free_ok X G (c.fact 7 (f := k_7) rfl), He.free_ok X G (c.fact 8 (f := k_8) rfl), He.free_ok X G (c.fact 9 (f := k_9) rfl), He.free_ok X G (c.fact 10 (f := k_10) rfl), He.free_ok X G (c.fact 11 (f := k_11) rfl), He.int_ok X G (c.fact 12 (f := k_12) rfl), He.free_ok X G (c.fact 13 (f := k_13) rfl), He.int_ok X G (c.fact 14 (f := k_14) rfl), He.free_ok X G (c.fact 15 (f := k_15) rfl), He.free_ok X G (c.fact 16 (f := k_16) rfl), He.int_ok X G (c.fact 17 (f := k_17) rfl), He.free_ok X G (c.fact 18 (f := k_18) rfl), He.int_ok X G (c.fact 19 (f := k_19) rfl), He.int_ok X G (c.fact 20 (f := k_20) rfl), He.free_ok X G (c.fact 21 (f := k_21) rfl), He.cls_ok (c.fact 22 (f := k_22) rfl), He.noat_ok (c.fact 23 (f := k_23) rfl), He.noat_ok (c.fact 24 (f := k_24) rfl), He.noat_ok (c.fact 25 (f := k_25) rfl), He.glo_ok X G (c.fact 26 (f := k_26) rfl), He.mkr_ok (c.fact 27 (f := k_27) rfl), chkIsO_ok (c.fact 28 (f := k_28) rfl), chkCon_ok (c.fact 29 (f := k_29) rfl), chkProp_ok (c.fact 30 (f := k_30) rfl), chkProp_ok (c.fact 31 (f := k_31) rfl), chkProp_ok (c.fact 32 (f := k_32) rfl), chkProp_ok (c.fact 33 (f := k_33) rfl), He.str_ok X G (c.fact 34 (f := k_34) rfl), He.str_ok X G (c.fact 35 (f := k_35) rfl), He.str_ok X G (c.fact 36 (f := k_36) rfl), He.str_ok X G (c.fact 37 (f := k_37) rfl), He.meth_ok (c.fact 38 (f := k_38) rfl), He.meth_ok (c.fact 39 (f := k_39) rfl), He.meth_ok (c.fact 40 (f := k_40) rfl), chkCRd_ok (c.fact 41 (f := k_41) rfl), chkCVal_ok (c.fact 42 (f := k_42) rfl)⟩
  have e := hfa.symm.trans g38
  cases e
  have b := FunD.bindsA (ps := ["_law_script"]) D38 (fun _ _ _ _ _ _ us hl => match us, hl with | [_], _ => rfl)
  refine ⟨d38, fun s v => b s [v] rfl, fun base _ _ => ?_⟩
  have c__law_cell_at : Cal P w K mg base 1 "_law_cell_at" ["_law_script", "_law_k"] F__law_cell_at := ⟨_, _, ok__law_cell_at A D0 , g0, D0.kp, D0.bindsN (fun _ _ _ _ _ _ us hl => match us, hl with | [_, _], _ => rfl)⟩
  have c__law_pen : Cal P w K mg base 1 "_law_pen" ["_law_cell"] F__law_pen := ⟨_, _, ok__law_pen A D1 , g1, D1.kp, D1.bindsN (fun _ _ _ _ _ _ us hl => match us, hl with | [_], _ => rfl)⟩
  have c__law_draw : Cal P w K mg base 1 "_law_draw" ["_law_pen_here", "_law_count"] F__law_draw := ⟨_, _, ok__law_draw A D2 , g2, D2.kp, D2.bindsN (fun _ _ _ _ _ _ us hl => match us, hl with | [_, _], _ => rfl)⟩
  have c__law_pick : Cal P w K mg base 2 "_law_pick" ["_law_pen_here", "_law_some"] F__law_pick := ⟨_, _, ok__law_pick A D3 c__law_draw, g3, D3.kp, D3.bindsN (fun _ _ _ _ _ _ us hl => match us, hl with | [_, _], _ => rfl)⟩
  have c__law_deal : Cal P w K mg base 2 "_law_deal" ["_law_pen_here", "_law_costs", "_law_most"] F__law_deal := ⟨_, _, ok__law_deal A D4 c__law_draw, g4, D4.kp, D4.bindsN (fun _ _ _ _ _ _ us hl => match us, hl with | [_, _, _], _ => rfl)⟩
  have c__law_mixed : Cal P w K mg base 2 "_law_mixed" ["_law_pen_here", "_law_things"] F__law_mixed := ⟨_, _, ok__law_mixed A D5 c__law_draw, g5, D5.kp, D5.bindsN (fun _ _ _ _ _ _ us hl => match us, hl with | [_, _], _ => rfl)⟩
  have c__law_groups : Cal P w K mg base 3 "_law_groups" ["_law_pen_here", "_law_many"] F__law_groups := ⟨_, _, ok__law_groups A D6 c__law_draw c__law_mixed, g6, D6.kp, D6.bindsN (fun _ _ _ _ _ _ us hl => match us, hl with | [_, _], _ => rfl)⟩
  have c__law_receipt : Cal P w K mg base 4 "_law_receipt" ["_law_pen_here", "_law_lines", "_law_offered"] F__law_receipt := ⟨_, _, ok__law_receipt A D7 c__law_deal c__law_draw c__law_groups c__law_pick, g7, D7.kp, D7.bindsN (fun _ _ _ _ _ _ us hl => match us, hl with | [_, _, _], _ => rfl)⟩
  have c__law_text : Cal P w K mg base 1 "_law_text" ["_law_costs", "_law_offered", "_law_bounds"] F__law_text := ⟨_, _, ok__law_text A D8 , g8, D8.kp, D8.bindsN (fun _ _ _ _ _ _ us hl => match us, hl with | [_, _, _], _ => rfl)⟩
  have c__law_due : Cal P w K mg base 2 "_law_due" ["_law_costs", "_law_offered", "_law_bounds"] F__law_due := ⟨_, _, ok__law_due A D9 c__law_text, g9, D9.kp, D9.bindsN (fun _ _ _ _ _ _ us hl => match us, hl with | [_, _, _], _ => rfl)⟩
  have c_is_integer : Cal P w K mg base 1 "is_integer" ["thing"] F_is_integer := ⟨_, _, ok_is_integer A D10 , g10, D10.kp, D10.bindsN (fun _ _ _ _ _ _ us hl => match us, hl with | [_], _ => rfl)⟩
  have c_is_between : Cal P w K mg base 2 "is_between" ["thing", "low", "high"] F_is_between := ⟨_, _, ok_is_between A D11 c_is_integer, g11, D11.kp, D11.bindsN (fun _ _ _ _ _ _ us hl => match us, hl with | [_, _, _], _ => rfl)⟩
  have c_are_prices : Cal P w K mg base 3 "are_prices" ["thing"] F_are_prices := ⟨_, _, ok_are_prices A D12 c_is_between, g12, D12.kp, D12.bindsN (fun _ _ _ _ _ _ us hl => match us, hl with | [_], _ => rfl)⟩
  have c_is_pair : Cal P w K mg base 2 "is_pair" ["thing"] F_is_pair := ⟨_, _, ok_is_pair A D13 c_is_integer, g13, D13.kp, D13.bindsN (fun _ _ _ _ _ _ us hl => match us, hl with | [_], _ => rfl)⟩
  have c_is_offer : Cal P w K mg base 3 "is_offer" ["prices", "thing"] F_is_offer := ⟨_, _, ok_is_offer A D14 c_is_pair, g14, D14.kp, D14.bindsN (fun _ _ _ _ _ _ us hl => match us, hl with | [_, _], _ => rfl)⟩
  have c_rises : Cal P w K mg base 1 "rises" ["row"] F_rises := ⟨_, _, ok_rises A D15 , g15, D15.kp, D15.bindsN (fun _ _ _ _ _ _ us hl => match us, hl with | [_], _ => rfl)⟩
  have c_is_deal : Cal P w K mg base 4 "is_deal" ["prices", "thing"] F_is_deal := ⟨_, _, ok_is_deal A D16 c_is_offer c_rises, g16, D16.kp, D16.bindsN (fun _ _ _ _ _ _ us hl => match us, hl with | [_, _], _ => rfl)⟩
  have c_are_deals : Cal P w K mg base 5 "are_deals" ["prices", "thing"] F_are_deals := ⟨_, _, ok_are_deals A D17 c_is_deal, g17, D17.kp, D17.bindsN (fun _ _ _ _ _ _ us hl => match us, hl with | [_, _], _ => rfl)⟩
  have c_is_set : Cal P w K mg base 3 "is_set" ["thing", "many"] F_is_set := ⟨_, _, ok_is_set A D18 c_is_between c_rises, g18, D18.kp, D18.bindsN (fun _ _ _ _ _ _ us hl => match us, hl with | [_, _], _ => rfl)⟩
  have c_is_group : Cal P w K mg base 4 "is_group" ["many", "thing"] F_is_group := ⟨_, _, ok_is_group A D19 c_is_between c_is_set, g19, D19.kp, D19.bindsN (fun _ _ _ _ _ _ us hl => match us, hl with | [_, _], _ => rfl)⟩
  have c_are_groups : Cal P w K mg base 5 "are_groups" ["many", "thing"] F_are_groups := ⟨_, _, ok_are_groups A D20 c_is_group, g20, D20.kp, D20.bindsN (fun _ _ _ _ _ _ us hl => match us, hl with | [_, _], _ => rfl)⟩
  have c_are_apart : Cal P w K mg base 1 "are_apart" ["one", "other"] F_are_apart := ⟨_, _, ok_are_apart A D21 , g21, D21.kp, D21.bindsN (fun _ _ _ _ _ _ us hl => match us, hl with | [_, _], _ => rfl)⟩
  have c_is_inside : Cal P w K mg base 1 "is_inside" ["one", "other"] F_is_inside := ⟨_, _, ok_is_inside A D22 , g22, D22.kp, D22.bindsN (fun _ _ _ _ _ _ us hl => match us, hl with | [_, _], _ => rfl)⟩
  have c_do_cross : Cal P w K mg base 2 "do_cross" ["one", "other"] F_do_cross := ⟨_, _, ok_do_cross A D23 c_are_apart c_is_inside, g23, D23.kp, D23.bindsN (fun _ _ _ _ _ _ us hl => match us, hl with | [_, _], _ => rfl)⟩
  have c_first_crossed : Cal P w K mg base 3 "first_crossed" ["groups"] F_first_crossed := ⟨_, _, ok_first_crossed A D24 c_do_cross, g24, D24.kp, D24.bindsN (fun _ _ _ _ _ _ us hl => match us, hl with | [_], _ => rfl)⟩
  have m_Receipt : Maker P w K mg base 6 "Receipt" ["self", "prices", "deals", "groups"] [.tup [], .tup []] F_Receipt___init__ sh_Receipt := by
    refine ⟨_, _, _, ok_Receipt___init__ A D25 c_are_deals c_are_groups c_are_prices c_first_crossed, A.glo_Receipt, A.mk_Receipt, fun N ρ H => (.cons (chkTup0_ok (c.fact 68 (f := k_68) rfl) N ρ H) (.cons (chkTup0_ok (c.fact 69 (f := k_69) rfl) N ρ H) .nil)), fun q hq => ?_⟩
    simp only [sh_Receipt, List.mem_cons, List.not_mem_nil, or_false] at hq
    rcases hq with rfl | rfl | rfl | rfl | rfl | rfl | rfl | rfl
    · exact PL.FunD.shape D25 1 [] [.pos 1, .dfl 0, .dfl 1] (List.cons_ne_nil _ _) (fun _ _ _ _ _ _ _ us its ws h1 h2 h3 => match us, its, ws, h1, h2, h3 with | [_, _], [_, _], [], _, _, _ => ⟨_, rfl, rfl⟩)
    · exact PL.FunD.shape D25 2 [] [.pos 1, .pos 2, .dfl 1] (List.cons_ne_nil _ _) (fun _ _ _ _ _ _ _ us its ws h1 h2 h3 => match us, its, ws, h1, h2, h3 with | [_, _, _], [_, _], [], _, _, _ => ⟨_, rfl, rfl⟩)
    · exact PL.FunD.shape D25 3 [] [.pos 1, .pos 2, .pos 3] (List.cons_ne_nil _ _) (fun _ _ _ _ _ _ _ us its ws h1 h2 h3 => match us, its, ws, h1, h2, h3 with | [_, _, _, _], [_, _], [], _, _, _ => ⟨_, rfl, rfl⟩)
    · exact PL.FunD.shape D25 0 ["groups", "prices", "deals"] [.kw 1, .kw 2, .kw 0] (List.cons_ne_nil _ _) (fun _ _ _ _ _ _ _ us its ws h1 h2 h3 => match us, its, ws, h1, h2, h3 with | [_], [_, _], [_, _, _], _, _, _ => ⟨_, rfl, rfl⟩)
    · exact PL.FunD.shape D25 1 ["deals"] [.pos 1, .kw 0, .dfl 1] (List.cons_ne_nil _ _) (fun _ _ _ _ _ _ _ us its ws h1 h2 h3 => match us, its, ws, h1, h2, h3 with | [_, _], [_, _], [_], _, _, _ => ⟨_, rfl, rfl⟩)
    · exact PL.FunD.shape D25 1 ["groups", "deals"] [.pos 1, .kw 1, .kw 0] (List.cons_ne_nil _ _) (fun _ _ _ _ _ _ _ us its ws h1 h2 h3 => match us, its, ws, h1, h2, h3 with | [_, _], [_, _], [_, _], _, _, _ => ⟨_, rfl, rfl⟩)
    · exact PL.FunD.shape D25 0 ["prices"] [.kw 0, .dfl 0, .dfl 1] (List.cons_ne_nil _ _) (fun _ _ _ _ _ _ _ us its ws h1 h2 h3 => match us, its, ws, h1, h2, h3 with | [_], [_, _], [_], _, _, _ => ⟨_, rfl, rfl⟩)
    · exact PL.FunD.shape D25 1 ["groups"] [.pos 1, .dfl 0, .kw 0] (List.cons_ne_nil _ _) (fun _ _ _ _ _ _ _ us its ws h1 h2 h3 => match us, its, ws, h1, h2, h3 with | [_, _], [_, _], [_], _, _, _ => ⟨_, rfl, rfl⟩)
  have c_Receipt_total : CalA P w K mg base 1 (prA K "Receipt" "total") ["self"] F_Receipt_total := ⟨_, ok_Receipt_total A D26 , D26.bindsN (fun _ _ _ _ _ _ us hl => match us, hl with | [_], _ => rfl)⟩
  have c_Receipt_groups : CalA P w K mg base 1 (prA K "Receipt" "groups") ["self"] F_Receipt_groups := ⟨_, ok_Receipt_groups A D27 , D27.bindsN (fun _ _ _ _ _ _ us hl => match us, hl with | [_], _ => rfl)⟩
  have c_Receipt_deals : CalA P w K mg base 1 (prA K "Receipt" "deals") ["self"] F_Receipt_deals := ⟨_, ok_Receipt_deals A D28 , D28.bindsN (fun _ _ _ _ _ _ us hl => match us, hl with | [_], _ => rfl)⟩
  have c_Receipt_prices : CalA P w K mg base 1 (prA K "Receipt" "prices") ["self"] F_Receipt_prices := ⟨_, ok_Receipt_prices A D29 , D29.bindsN (fun _ _ _ _ _ _ us hl => match us, hl with | [_], _ => rfl)⟩
  have c_numbers_text : Cal P w K mg base 1 "numbers_text" ["numbers"] F_numbers_text := ⟨_, _, ok_numbers_text A D30 , g30, D30.kp, D30.bindsN (fun _ _ _ _ _ _ us hl => match us, hl with | [_], _ => rfl)⟩
  have c_receipt_lines : Cal P w K mg base 2 "receipt_lines" ["prices", "deals", "groups"] F_receipt_lines := ⟨_, _, ok_receipt_lines A D31 c_numbers_text, g31, D31.kp, D31.bindsN (fun _ _ _ _ _ _ us hl => match us, hl with | [_, _, _], _ => rfl)⟩
  have c_Receipt_text : CalA P w K mg base 3 (He.ma K (He.ga K "Receipt") "text") ["self"] F_Receipt_text := ⟨_, ok_Receipt_text A D32 c_receipt_lines, D32.bindsN (fun _ _ _ _ _ _ us hl => match us, hl with | [_], _ => rfl)⟩
  have c_Receipt___repr__ : CalA P w K mg base 1 (He.ma K (He.ga K "Receipt") "__repr__") ["self"] F_Receipt___repr__ := ⟨_, ok_Receipt___repr__ A D33 , D33.bindsN (fun _ _ _ _ _ _ us hl => match us, hl with | [_], _ => rfl)⟩
  have c_Receipt___len__ : CalA P w K mg base 1 (He.ma K (He.ga K "Receipt") "__len__") ["self"] F_Receipt___len__ := ⟨_, ok_Receipt___len__ A D34 , D34.bindsN (fun _ _ _ _ _ _ us hl => match us, hl with | [_], _ => rfl)⟩
  have c__law_seen : Cal P w K mg base 4 "_law_seen" ["_law_receipt_here"] F__law_seen := ⟨_, _, ok__law_seen A D35 c_Receipt___len__ c_Receipt___repr__ c_Receipt_deals c_Receipt_groups c_Receipt_prices c_Receipt_text c_Receipt_total, g35, D35.kp, D35.bindsN (fun _ _ _ _ _ _ us hl => match us, hl with | [_], _ => rfl)⟩
  have c__law_same : Cal P w K mg base 1 "_law_same" ["_law_found", "_law_due_here"] F__law_same := ⟨_, _, ok__law_same A D36 , g36, D36.kp, D36.bindsN (fun _ _ _ _ _ _ us hl => match us, hl with | [_, _], _ => rfl)⟩
  have c__law_is_right : Cal P w K mg base 8 "_law_is_right" ["_law_costs", "_law_offered", "_law_bounds"] F__law_is_right := ⟨_, _, ok__law_is_right A D37 m_Receipt c__law_due c__law_same c__law_seen, g37, D37.kp, D37.bindsN (fun _ _ _ _ _ _ us hl => match us, hl with | [_, _, _], _ => rfl)⟩
  exact ok_law A D38 c__law_cell_at c__law_is_right c__law_pen c__law_receipt
end Q01
open PySem PySem.W PySem.Calls PyProof.Rows
theorem holds_of (law : ∀ ns : List Int, ns.length ≤ 63 → ∃ st, Q01.F_law [.scr ns] [] = .ok (.bl true) st) : PySem.Challenge.rw_joineddeals_k01_receipts_made.Holds := by
  w_on; o_law
  refine HandSHeadRun.head_any (r := OpenLaw.row PySem.Challenge.rw_joineddeals_k01_receipts_made) (q := view (OpenLaw.row PySem.Challenge.rw_joineddeals_k01_receipts_made).prog [67]) (H := Q01.hk) (ob := Q01.ob) (M := 40000) (loose := Q01.loose) (d := HandSHeadRun.topDef (OpenLaw.row PySem.Challenge.rw_joineddeals_k01_receipts_made).prog 67) (kwd := []) Q01.ob_eq
    (by kernel_rfl) (fun s => by kernel_rfl) Q01.run (by kernel_rfl) (by kernel_rfl) (by kernel_rfl) (by rfl) (by first | assumption | decide +kernel) (by decide +kernel) ⟨rfl, rfl, rfl, rfl, rfl, by decide +kernel⟩ ?hw ?hc
  case hw => w_witness2
  case hc =>
    refine PL.walk_G (l := PySem.Challenge.rw_joineddeals_k01_receipts_made) (n := 63) (k := 9) (x := "_law_script") (F := Q01.F_law) rfl (by decide) (by kernel_rfl) ⟨rfl, by decide, by decide⟩ ?G law
    intro w mg fa h Y G hmg0
    obtain ⟨K, KX, c⟩ := Y
    have hmg : mg ("law" : PySem.Str) = some (.ref fa) := by
      have e : (HandSHeadRun.topDef (OpenLaw.row PySem.Challenge.rw_joineddeals_k01_receipts_made).prog 67).name = ("law" : PySem.Str) := by kernel_rfl
      rw [← e]
      exact hmg0
    obtain ⟨fd, hb, hF⟩ := Q01.facts (P := (PySem.Challenge.rw_joineddeals_k01_receipts_made).prog) (w := w) KX G hmg c
    exact ⟨K, fd, KX, hb, hF⟩
namespace Q01
open PySem PySem.Spec L2 PL Rc
/-! ### the pen -/
/-- all things of the store are lists of plain values -/
def Cln (st : Sto) : Prop := ∀ c ∈ st, ∃ l, c = .lst l ∧ glBs 0 l = true
structure PenAt (st : Sto) (n m : Nat) : Prop where
  pen : ∃ a b c : Int, st[n]? = some (.lst [.int a, .int b, .int c]) ∧ 0 ≤ a ∧ 0 ≤ b ∧ b < 1000000007 ∧ 0 ≤ c ∧ c ≤ m
  cln : Cln st
/-- all but the pen is as it was -/
def Same (n : Nat) (st st' : Sto) : Prop := st'.length = st.length ∧ ∀ k, k ≠ n → st'[k]? = st[k]?
theorem Same.refl {n : Nat} {st : Sto} : Same n st st := ⟨rfl, fun _ _ => rfl⟩
theorem Same.trans {n : Nat} {a b c : Sto} (h : Same n a b) (k : Same n b c) : Same n a c := ⟨k.1.trans h.1, fun i hi => (k.2 i hi).trans (h.2 i hi)⟩
theorem PenAt.mono {st : Sto} {n m k : Nat} (h : PenAt st n m) (hk : m ≤ k) : PenAt st n k := by
  obtain ⟨⟨a, b, c, h1, h2, h3, h4, h5, h6⟩, hc⟩ := h
  exact ⟨⟨a, b, c, h1, h2, h3, h4, h5, by omega⟩, hc⟩
theorem Cln.set {st : Sto} {n : Nat} {l : List PV} (h : Cln st) (hl : glBs 0 l = true) : Cln (st.set n (.lst l)) := fun c hc => by
  rcases List.mem_or_eq_of_mem_set hc with h1 | h1
  · exact h c h1
  · exact ⟨l, h1, hl⟩
theorem Cln.push {st : Sto} {l : List PV} (h : Cln st) (hl : glBs 0 l = true) : Cln (st ++ [.lst l]) := fun c hc => by
  rcases List.mem_append.mp hc with h1 | h1
  · exact h c h1
  · exact ⟨l, List.mem_singleton.mp h1, hl⟩
theorem at0 {α : Type} (x y z : α) : atI [x, y, z] 0 = some x := rfl
theorem at1 {α : Type} (x y z : α) : atI [x, y, z] 1 = some y := rfl
theorem at2 {α : Type} (x y z : α) : atI [x, y, z] 2 = some z := rfl
theorem atp0 {α : Type} (x y : α) : atI [x, y] 0 = some x := rfl
theorem atp1 {α : Type} (x y : α) : atI [x, y] 1 = some y := rfl
theorem ix0 : ixN 3 0 = some 0 := rfl
theorem ix2 : ixN 3 2 = some 2 := rfl
theorem glBs_ints : ∀ (l : List Int) (k : Nat), glBs k (l.map PV.int) = true
  | [], _ => by unfold List.map glBs; rfl
  | x :: l, k => by
    rw [List.map_cons]
    unfold glBs glB
    rw [glBs_ints l k]
    rfl
theorem gl3 (a b c : Int) : glBs 0 [.int a, .int b, .int c] = true := glBs_ints [a, b, c] 0
theorem draw_spec {st : Sto} {n m : Nat} {k : Int} (h : PenAt st n m) (hm : m ≤ 1000000) (hk : 0 < k) (hk2 : k < 1073741824) : ∃ r st', F__law_draw [.gl n, .int k] st = .ok (.int r) st' ∧ 0 ≤ r ∧ r < k ∧ PenAt st' n (m + 1) ∧ Same n st st' := by
  obtain ⟨⟨a, b, c, h1, h2, h3, h4, h5, h6⟩, hc⟩ := h
  have hn : n < st.length := (List.getElem?_eq_some_iff.mp h1).1
  have sm : ∀ x, Same n st (st.set n x) := fun x => ⟨List.length_set, fun k hk => List.getElem?_set_ne (Ne.symm hk)⟩
  by_cases ha : 0 < a
  · refine ⟨a % k, st.set n (.lst [.int (a / k), .int b, .int c]), ?_, Int.emod_nonneg _ (by omega), Int.emod_lt_of_pos _ hk, ⟨⟨a / k, b, c, by rw [List.getElem?_set_self hn], Int.ediv_nonneg h2 (by omega), h3, h4, h5, by omega⟩, hc.set (gl3 _ _ _)⟩, sm _⟩
    unfold F__law_draw mkFn f__law_draw
    simp [h1, at0, ha, modF_ok hk, divF_ok hk hk2, ix0]
  · have e0 : a = 0 := by omega
    let s1 : Int := (b + 17 * (c + 1)) * (69621 + 2 * (c + 1)) % 2147483647
    have b1 : 0 ≤ s1 := Int.emod_nonneg _ (by decide)
    have b2 : s1 < 2147483647 := Int.emod_lt_of_pos _ (by decide)
    let s2 : Int := (s1 * s1 + 40503 * (c + 1) + 5) % 2147483629
    have b3 : 0 ≤ s2 := Int.emod_nonneg _ (by decide)
    have b4 : s2 < 2147483629 := Int.emod_lt_of_pos _ (by decide)
    refine ⟨s2 * 48271 % 2147483647 / 32 % k, st.set n (.lst [.int a, .int b, .int (c + 1)]), ?_, Int.emod_nonneg _ (by omega), Int.emod_lt_of_pos _ hk, ⟨⟨a, b, c + 1, by rw [List.getElem?_set_self hn], h2, h3, h4, by omega, by omega⟩, hc.set (gl3 _ _ _)⟩, sm _⟩
    unfold F__law_draw mkFn f__law_draw
    have m1 : mulF (.int 17) (.int (c + 1)) = some (.int (17 * (c + 1))) := mulF_l (by decide) (by decide)
    have m2 : mulF (.int 2) (.int (c + 1)) = some (.int (2 * (c + 1))) := mulF_l (by decide) (by decide)
    have m3 : mulF (.int (b + 17 * (c + 1))) (.int (69621 + 2 * (c + 1))) = some (.int ((b + 17 * (c + 1)) * (69621 + 2 * (c + 1)))) := mulF_r (by omega) (by omega)
    have m4 : mulF (.int s1) (.int s1) = some (.int (s1 * s1)) := mulF_r (by omega) (by omega)
    have m5 : mulF (.int 40503) (.int (c + 1)) = some (.int (40503 * (c + 1))) := mulF_l (by decide) (by decide)
    have m6 : mulF (.int s2) (.int 48271) = some (.int (s2 * 48271)) := mulF_r (by decide) (by decide)
    have e1 : modF (.int ((b + 17 * (c + 1)) * (69621 + 2 * (c + 1)))) (.int 2147483647) = some (.int s1) := modF_ok (by decide)
    have e2 : modF (.int (s1 * s1 + 40503 * (c + 1) + 5)) (.int 2147483629) = some (.int s2) := modF_ok (by decide)
    have e3 : modF (.int (s2 * 48271)) (.int 2147483647) = some (.int (s2 * 48271 % 2147483647)) := modF_ok (by decide)
    have e4 : divF (.int (s2 * 48271 % 2147483647)) (.int 32) = some (.int (s2 * 48271 % 2147483647 / 32)) := divF_ok (by decide) (by decide)
    have e5 : modF (.int (s2 * 48271 % 2147483647 / 32)) (.int k) = some (.int (s2 * 48271 % 2147483647 / 32 % k)) := modF_ok hk
    have g1 : (st.set n (.lst [.int a, .int b, .int (c + 1)]))[n]? = some (.lst [.int a, .int b, .int (c + 1)]) := by rw [List.getElem?_set_self hn]
    simp [h1, g1, at0, at1, at2, ha, ix2, m1, m2, m3, m4, m5, m6, e1, e2, e3, e4, e5]
/-- one of a list -/
theorem pick_spec {st : Sto} {n m : Nat} {l : List PV} (h : PenAt st n m) (hm : m ≤ 1000000) (hl : l ≠ []) (hl2 : l.length < 1000000) : ∃ v st', F__law_pick [.gl n, .lst l] st = .ok v st' ∧ v ∈ l ∧ PenAt st' n (m + 1) ∧ Same n st st' := by
  have hp := List.length_pos_iff.mpr hl
  obtain ⟨r, st', e, r0, r1, P, S⟩ := draw_spec (k := (l.length : Int)) h hm (by omega) (by omega)
  have hr : r.toNat < l.length := by omega
  have q := atI_nat hr
  rw [Int.toNat_of_nonneg r0] at q
  refine ⟨l[r.toNat], st', ?_, List.getElem_mem hr, P, S⟩
  unfold F__law_pick mkFn f__law_pick
  simp [e, q]

/-! ### what is checked -/
section
variable {st : Sto}
theorem isint_i (i : Int) : F_is_integer [.int i] st = .ok (.bl true) st := by
  unfold F_is_integer mkFn f_is_integer
  simp [isiF, isiB]
theorem between_i (x lo hi : Int) : F_is_between [.int x, .int lo, .int hi] st = .ok (.bl (decide (lo ≤ x ∧ x ≤ hi))) st := by
  unfold F_is_between mkFn f_is_between
  simp only [List.map_cons, List.map_nil, List.length_cons, List.length_nil, sSeq_e, sRet_e, eAnd_e, eCall_e, aCons_e, aNil_e, eVar_e, eChain_e]
  simp [isint_i]
  by_cases h : lo ≤ x <;> simp [h]
theorem prices_ok {c : List Int} (h : CostsOk c) : F_are_prices [intsV c] st = .ok (.bl true) st := by
  have e := lc_yes (b := bName 1) (t := eCall F_is_between (aCons (eVar 1) (aCons (eC (.int 1)) (aCons (eC (.int 9999)) aNil)))) (e := [.val (intsV c), .non]) (st := st) PV.int (fun x => .bl (decide (1 ≤ x ∧ x ≤ 9999))) c fun x hx => ⟨[.val (intsV c), .val (.int x)], by simp, by simp [between_i]⟩
  have a : (c.all fun x => decide (1 ≤ x ∧ x ≤ 9999)) = true := List.all_eq_true.mpr fun x hx => decide_eq_true (h.2.2 x hx)
  have k1 : (1 : Int) ≤ (c.length : Int) := by have := h.1; omega
  have k5 : (c.length : Int) ≤ 5 := by have := h.2.1; omega
  have af := allF_map (fun x : Int => decide (1 ≤ x ∧ x ≤ 9999)) c
  rw [a] at af
  unfold F_are_prices mkFn f_are_prices l_are_prices_0
  simp only [List.map_cons, List.map_nil, List.length_cons, List.length_nil]
  simp [isiF, isiB, k1, k5, e, af, -Bool.decide_and]
theorem pair_ok (a b : Int) : F_is_pair [.tup [.int a, .int b]] st = .ok (.bl true) st := by
  have e := lc_yes (b := bName 1) (t := eCall F_is_integer (aCons (eVar 1) aNil)) (e := [.val (.tup [.int a, .int b]), .non]) (st := st) PV.int (fun x => .bl true) [a, b] fun x hx => ⟨[.val (.tup [.int a, .int b]), .val (.int x)], by simp, by simp [isint_i]⟩
  have af : allF [.lst [.bl true, .bl true]] = some (.bl true) := rfl
  simp only [List.map_cons, List.map_nil] at e
  unfold F_is_pair mkFn f_is_pair l_is_pair_0
  simp [isiF, isiB, e, af]
theorem at_ints {c : List Int} {i : Int} {x : Int} (h0 : 0 ≤ i) (h : c[i.toNat]? = some x) : atI (c.map PV.int) i = some (.int x) := by
  obtain ⟨k, e⟩ := List.getElem?_eq_some_iff.mp h
  have q := atI_nat (l := c.map PV.int) (i := i.toNat) (by rw [List.length_map]; exact k)
  rw [Int.toNat_of_nonneg h0] at q
  rw [q, List.getElem_map, e]
theorem offer_ok {c : List Int} {p : Int × Int} (h : 0 ≤ p.1 ∧ p.1 < c.length ∧ 1 ≤ p.2 ∧ ∃ x, c[p.1.toNat]? = some x ∧ p.2 ≤ x) : F_is_offer [intsV c, pairV p] st = .ok (.bl true) st := by
  obtain ⟨h1, h2, h3, x, h4, h5⟩ := h
  have e := at_ints h1 h4
  unfold F_is_offer mkFn f_is_offer
  simp [pair_ok, atp0, atp1, h1, h2, h3, e, h5]
theorem rises_ok {l : List Int} (v : List PV → PV) (hv : v = PV.tup ∨ v = PV.lst) (h : Rises l) : F_rises [v (l.map PV.int)] st = .ok (.bl true) st := by
  have e := lc_yes (b := bTup ((bName 1) :: ((bName 2) :: []))) (t := eOp ltF (eVar 1) (eVar 2)) (e := [.val (v (l.map PV.int)), .non, .non]) (st := st) (fun q : Int × Int => PV.tup [.int q.1, .int q.2]) (fun q => .bl (decide (q.1 < q.2))) (l.zip l.tail) fun q hq => ⟨[.val (v (l.map PV.int)), .val (.int q.1), .val (.int q.2)], by simp, by simp⟩
  have af := allF_map (fun q : Int × Int => decide (q.1 < q.2)) (l.zip l.tail)
  rw [rises_zip l h] at af
  have z := zipF_map PV.int l l.tail
  unfold F_rises mkFn f_rises l_rises_0
  rcases hv with rfl | rfl
  · simp [slF, cut1, ← List.map_tail, z, e, af]
  · simp [slF, cut1, ← List.map_tail, z, e, af]
theorem deal_ok {c : List Int} {d : Deal} (h : DealOk c d) : F_is_deal [intsV c, dealV d] st = .ok (.bl true) st := by
  have e1 := lc_yes (b := bName 2) (t := eCall F_is_offer (aCons (eVar 0) (aCons (eVar 2) aNil))) (e := [.val (intsV c), .val (dealV d), .non]) (st := st) pairV (fun _ => .bl true) d fun p hp => ⟨[.val (intsV c), .val (dealV d), .val (pairV p)], by simp, by simp [offer_ok (h.1 p hp)]⟩
  have e2 := lc_yes (b := bName 2) (t := eIx (eVar 2) (eC (.int 0))) (e := [.val (intsV c), .val (dealV d), .non]) (st := st) pairV (fun p => .int p.1) d fun p hp => ⟨[.val (intsV c), .val (dealV d), .val (pairV p)], by simp, by simp [atp0]⟩
  have af := allF_true d
  have r : F_rises [PV.lst (d.map fun p => PV.int p.1)] st = .ok (.bl true) st := by
    have := rises_ok (st := st) PV.lst (.inr rfl) h.2
    rw [List.map_map] at this
    exact this
  unfold F_is_deal mkFn f_is_deal l_is_deal_0 l_is_deal_1
  simp [isiF, isiB, e1, e2, af, r]
theorem deals_ok {c : List Int} {ds : List Deal} (h : DealsOk c ds) : F_are_deals [intsV c, dealsV ds] st = .ok (.bl true) st := by
  have e1 := lc_yes (b := bName 2) (t := eCall F_is_deal (aCons (eVar 0) (aCons (eVar 2) aNil))) (e := [.val (intsV c), .val (dealsV ds), .non]) (st := st) dealV (fun _ => .bl true) ds fun d hd => ⟨[.val (intsV c), .val (dealsV ds), .val (dealV d)], by simp, by simp [deal_ok (h.2 d hd)]⟩
  have af := allF_true ds
  have k5 : (ds.length : Int) ≤ 5 := by have := h.1; omega
  unfold F_are_deals mkFn f_are_deals l_are_deals_0
  simp [isiF, isiB, e1, af, k5]
theorem set_ok {m : Nat} {l : List Int} (h1 : ∀ x ∈ l, 0 ≤ x ∧ x < m) (h2 : Rises l) : F_is_set [intsV l, .int (m : Int)] st = .ok (.bl true) st := by
  have e1 := lc_yes (b := bName 2) (t := eCall F_is_between (aCons (eVar 2) (aCons (eC (.int 0)) (aCons (eOp subF (eVar 1) (eC (.int 1))) aNil)))) (e := [.val (intsV l), .val (.int (m : Int)), .non]) (st := st) PV.int (fun x => .bl true) l fun x hx => ⟨[.val (intsV l), .val (.int (m : Int)), .val (.int x)], by simp, by
    have := h1 x hx
    have q : decide (0 ≤ x ∧ x ≤ (m : Int) - 1) = true := decide_eq_true (by omega)
    simp only [eCall_e, aCons_e, eVar_e, eC_e, eOp_e, aNil_e, bind_ok, List.getElem?_cons_succ, List.getElem?_cons_zero, subF_int, of_some]
    rw [between_i, q]⟩
  have af := allF_true l
  have r := rises_ok (st := st) PV.tup (.inl rfl) h2
  unfold F_is_set mkFn f_is_set l_is_set_0
  simp [isiF, isiB, e1, af, r]
theorem grp_ok {m : Nat} {g : Grp} (h : GrpOk m g) : F_is_group [.int (m : Int), grpV g] st = .ok (.bl true) st := by
  have q : decide ((0 : Int) ≤ g.1 ∧ g.1 ≤ 5) = true := decide_eq_true ⟨h.1, h.2.1⟩
  have ne := neF_ints g.2 []
  rw [decide_eq_false h.2.2.1] at ne
  have l0 : (0 : Nat) ≤ LINE := by decide
  have ne2 : neF (intsV g.2) (.tup []) = some (.bl true) := ne
  unfold F_is_group mkFn f_is_group
  simp [isiF, isiB, neF_int, atp0, atp1, between_i, q, set_ok h.2.2.2.2 h.2.2.2.1, ne2, l0, -Bool.decide_and]
theorem grps_ok {m : Nat} {gs : List Grp} (h : GrpsOk m gs) : F_are_groups [.int (m : Int), grpsV gs] st = .ok (.bl true) st := by
  have e1 := lc_yes (b := bName 2) (t := eCall F_is_group (aCons (eVar 0) (aCons (eVar 2) aNil))) (e := [.val (.int (m : Int)), .val (grpsV gs), .non]) (st := st) grpV (fun _ => .bl true) gs fun d hd => ⟨[.val (.int (m : Int)), .val (grpsV gs), .val (grpV d)], by simp, by simp [grp_ok (h.2.1 d hd)]⟩
  have af := allF_true gs
  have k5 : (gs.length : Int) ≤ 5 := by have := h.1; omega
  unfold F_are_groups mkFn f_are_groups l_are_groups_0
  simp [isiF, isiB, e1, af, k5]
/-- x in a tuple of numbers -/
theorem in_ints (x : Int) (l : List Int) : inF (.int x) (intsV l) = some (.bl (decide (x ∈ l))) := by
  unfold inF
  have hf : (l.map PV.int).all PL.flatB = true := by
    rw [List.all_map]
    exact List.all_eq_true.mpr fun y _ => rfl
  show (if PL.flatB (.int x) = true ∧ (l.map PV.int).all PL.flatB = true then some (PV.bl ((l.map PV.int).any fun y => eqFl y (.int x))) else none) = _
  rw [if_pos ⟨rfl, hf⟩, List.any_map]
  congr 2
  rw [Bool.eq_iff_iff]
  simp only [List.any_eq_true, decide_eq_true_eq]
  constructor
  · rintro ⟨y, hy, e⟩
    have e : (y == x) = true := e
    rw [← beq_iff_eq.mp e]
    exact hy
  · exact fun h => ⟨x, h, beq_iff_eq.mpr rfl⟩
theorem apart_e (a b : List Int) : F_are_apart [intsV a, intsV b] st = .ok (.bl (decide (∀ x ∈ a, x ∉ b))) st := by
  have e1 := lc_yes (b := bName 2) (t := eOp inF (eVar 2) (eVar 1)) (e := [.val (intsV a), .val (intsV b), .non]) (st := st) PV.int (fun x => .bl (decide (x ∈ b))) a fun x hx => ⟨[.val (intsV a), .val (intsV b), .val (.int x)], by simp, by simp [in_ints]⟩
  have af := anyF_map (fun x : Int => decide (x ∈ b)) a
  have q : (!a.any fun x => decide (x ∈ b)) = decide (∀ x ∈ a, x ∉ b) := by
    rw [Bool.eq_iff_iff]
    simp
  unfold F_are_apart mkFn f_are_apart l_are_apart_0
  simp only [List.map_cons, List.map_nil, List.length_cons, List.length_nil]
  simp [e1, af]
  rw [← q]
  simp
theorem inside_e (a b : List Int) : F_is_inside [intsV a, intsV b] st = .ok (.bl (decide (∀ x ∈ a, x ∈ b))) st := by
  have e1 := lc_yes (b := bName 2) (t := eOp inF (eVar 2) (eVar 1)) (e := [.val (intsV a), .val (intsV b), .non]) (st := st) PV.int (fun x => .bl (decide (x ∈ b))) a fun x hx => ⟨[.val (intsV a), .val (intsV b), .val (.int x)], by simp, by simp [in_ints]⟩
  have af := allF_map (fun x : Int => decide (x ∈ b)) a
  unfold F_is_inside mkFn f_is_inside l_is_inside_0
  simp [e1, af]
  rw [Bool.eq_iff_iff]
  simp
theorem cross_ok {a b : List Int} (h : Meet a b) : F_do_cross [intsV a, intsV b] st = .ok (.bl false) st := by
  unfold F_do_cross mkFn f_do_cross
  have e0 := eqF_ints a b
  rw [decide_eq_false h.1] at e0
  have a0 := apart_e (st := st) a b
  have i1 := inside_e (st := st) a b
  have i2 := inside_e (st := st) b a
  rcases h.2 with h2 | h2 | h2
  · rw [decide_eq_true h2] at a0
    simp [e0, a0]
  · rw [decide_eq_true h2] at i1
    by_cases q : ∀ x ∈ a, x ∉ b
    · rw [decide_eq_true q] at a0
      simp [e0, a0]
    · rw [decide_eq_false q] at a0
      simp [e0, a0, i1]
  · rw [decide_eq_true h2] at i2
    by_cases q : ∀ x ∈ a, x ∉ b
    · rw [decide_eq_true q] at a0
      simp [e0, a0]
    · rw [decide_eq_false q] at a0
      by_cases q2 : ∀ x ∈ a, x ∈ b
      · rw [decide_eq_true q2] at i1
        simp [e0, a0, i1]
      · rw [decide_eq_false q2] at i1
        simp [e0, a0, i1, i2]
end
end Q01
namespace Q01
open PySem PySem.Spec L2 PL Rc
/-! ### made -/
section
variable {st : Sto}
theorem inner_ok {g : Grp} {v0 v1 : EV} : ∀ (xs : List PV) (e : PL.Env) (st' : Sto), (st' = st ∧ (∃ y3 y4, e = [v0, v1, .val (grpV g), y3, y4]) ∧ ∀ y ∈ xs, ∃ (i : Int) (a : Grp), y = .tup [.int i, grpV a] ∧ Meet a.2 g.2) →
    ∃ e' st2, forLoop (bTup ((bName 3) :: ((bName 4) :: []))) t_first_crossed_0 xs e st' = .nx e' st2 ∧ st2 = st ∧ (∃ y3 y4, e' = [v0, v1, .val (grpV g), y3, y4]) := fun xs e st' h => by
  obtain ⟨e', st2, h1, h2, h3, _⟩ := for_inv (b := bTup ((bName 3) :: ((bName 4) :: []))) (t := t_first_crossed_0) (fun xs e st' => st' = st ∧ (∃ y3 y4, e = [v0, v1, .val (grpV g), y3, y4]) ∧ ∀ y ∈ xs, ∃ (i : Int) (a : Grp), y = .tup [.int i, grpV a] ∧ Meet a.2 g.2) (fun x xs e st' ⟨h1, ⟨y3, y4, h2⟩, h3⟩ => by
    subst h1 h2
    obtain ⟨i, a, rfl, m⟩ := h3 x List.mem_cons_self
    refine ⟨[v0, v1, .val (grpV g), .val (.int i), .val (grpV a)], [v0, v1, .val (grpV g), .val (.int i), .val (grpV a)], st', by simp, ?_, rfl, ⟨_, _, rfl⟩, fun y hy => h3 y (List.mem_cons_of_mem _ hy)⟩
    have c := cross_ok (st := st') m
    unfold t_first_crossed_0
    simp [atp1, c]) xs e st' h
  exact ⟨e', st2, h1, h2, h3⟩
theorem crossed_ok {gs : List Grp} (h : gs.Pairwise fun a b => Meet a.2 b.2) : F_first_crossed [grpsV gs] st = .ok .non st := by
  obtain ⟨e', st2, h1, h2, ⟨y1, y2, y3, y4, h3⟩, _⟩ := for_inv (b := bTup ((bName 1) :: ((bName 2) :: []))) (t := t_first_crossed_1) (fun xs e st' => st' = st ∧ (∃ y1 y2 y3 y4, e = [.val (grpsV gs), y1, y2, y3, y4]) ∧ ∀ y ∈ xs, ∃ (i : Nat) (hi : i < gs.length), y = .tup [.int (i : Int), grpV gs[i]]) (fun x xs e st' ⟨h1, ⟨y1, y2, y3, y4, h2⟩, h3⟩ => by
    subst h1 h2
    obtain ⟨i, hi, rfl⟩ := h3 x List.mem_cons_self
    have ct : cutF (gs.map grpV) none (some (i : Int)) = (gs.take i).map grpV := by
      unfold cutF
      rw [HT.sIx_nat, HT.sIx_none, List.length_map, List.map_take]
      simp [Nat.min_eq_left (Nat.le_of_lt hi)]
    obtain ⟨e2, st2, k1, k2, y3', y4', k3⟩ := inner_ok (st := st') (g := gs[i]) (v0 := .val (grpsV gs)) (v1 := .val (.int (i : Int))) (enumF 0 ((gs.take i).map grpV)) [.val (grpsV gs), .val (.int (i : Int)), .val (grpV gs[i]), y3, y4] st' ⟨rfl, ⟨_, _, rfl⟩, fun y hy => by
      rw [enum_map] at hy
      obtain ⟨⟨a, j⟩, hq, rfl⟩ := List.mem_map.mp hy
      have hq := List.mem_zipIdx' hq
      have hj := hq.1
      rw [List.length_take] at hj
      refine ⟨(j : Int), a, rfl, ?_⟩
      have e : a = gs[j] := by rw [hq.2, List.getElem_take]
      subst e
      exact List.pairwise_iff_getElem.mp h j i (by omega) hi (by omega)⟩
    subst k2 k3
    refine ⟨[.val (grpsV gs), .val (.int (i : Int)), .val (grpV gs[i]), y3, y4], [.val (grpsV gs), .val (.int (i : Int)), .val (grpV gs[i]), y3', y4'], st2, by simp, ?_, rfl, ⟨_, _, _, _, rfl⟩, fun y hy => h3 y (List.mem_cons_of_mem _ hy)⟩
    rw [List.map_take] at k1 ct
    unfold t_first_crossed_1 w_first_crossed_0
    simp [slF, ct, k1]) (enumF 0 (gs.map grpV)) [.val (grpsV gs), .non, .non, .non, .non] st ⟨rfl, ⟨_, _, _, _, rfl⟩, fun y hy => by
      rw [enum_map] at hy
      obtain ⟨⟨a, j⟩, hq, rfl⟩ := List.mem_map.mp hy
      obtain ⟨hj, ea⟩ := List.mem_zipIdx' hq
      exact ⟨j, hj, congrArg (fun a => PV.tup [.int (j : Int), grpV a]) ea⟩⟩
  subst h2 h3
  unfold F_first_crossed mkFn f_first_crossed w_first_crossed_1
  simp [h1]
theorem fld_push {c f : Str} {ns : List Str} {vs : List PV} {p : PV} (h : ns.length < 1000) : fldSet c f (st ++ [.ins c ns vs]) (.gl st.length) p = some (st ++ [.ins c (putNs f ns) (putVs f p ns vs)]) := by
  unfold fldSet
  dsimp only
  rw [List.getElem?_append_right (Nat.le_refl _), Nat.sub_self]
  dsimp only [List.getElem?_cons_zero]
  rw [if_pos ⟨rfl, h⟩, List.set_append_right _ _ (Nat.le_refl _), Nat.sub_self]
  rfl
theorem init_ok {c : List Int} {ds : List Deal} {gs : List Grp} (h : RcOk c ds gs) : F_Receipt___init__ [.gl st.length, intsV c, dealsV ds, grpsV gs] (st ++ [.ins "Receipt" [] []]) = .ok .non (st ++ [.ins "Receipt" ["costs", "offers", "bounds"] [intsV c, dealsV ds, grpsV gs]]) := by
  have l3 : (3 : Nat) ≤ LINE := by decide
  have f1 := fld_push (st := st) (c := "Receipt") (f := "costs") (ns := []) (vs := []) (p := intsV c) (by decide)
  have f2 := fld_push (st := st) (c := "Receipt") (f := "offers") (ns := ["costs"]) (vs := [intsV c]) (p := dealsV ds) (by decide)
  have f3 := fld_push (st := st) (c := "Receipt") (f := "bounds") (ns := ["costs", "offers"]) (vs := [intsV c, dealsV ds]) (p := grpsV gs) (by decide)
  have n1 : putNs "costs" [] = (["costs"] : List Str) := rfl
  have n2 : putNs "offers" ["costs"] = (["costs", "offers"] : List Str) := by decide
  have n3 : putNs "bounds" ["costs", "offers"] = (["costs", "offers", "bounds"] : List Str) := by decide
  have v1 : putVs "costs" (intsV c) [] [] = [intsV c] := rfl
  have v2 : putVs "offers" (dealsV ds) ["costs"] [intsV c] = [intsV c, dealsV ds] := by
    unfold putVs
    rw [if_neg (by decide)]
    rfl
  have v3 : putVs "bounds" (grpsV gs) ["costs", "offers"] [intsV c, dealsV ds] = [intsV c, dealsV ds, grpsV gs] := by
    unfold putVs
    rw [if_neg (by decide)]
    unfold putVs
    rw [if_neg (by decide)]
    rfl
  rw [n1, v1] at f1
  rw [n2, v2] at f2
  rw [n3, v3] at f3
  have gk := grps_ok (st := st ++ [.ins "Receipt" [] []]) h.gok
  unfold F_Receipt___init__ mkFn f_Receipt___init__
  simp [prices_ok h.cok, deals_ok h.dok, gk, crossed_ok h.gok.2.2, isntF, isNonB, l3, f1, f2, f3]
mutual
theorem gl_sm : ∀ (p : PV) (n : Nat), smB p = true → glB n p = true
  | .non, _, _ => by unfold glB; rfl
  | .bl _, _, _ => by unfold glB; rfl
  | .int _, _, _ => by unfold glB; rfl
  | .str _, _, _ => by unfold glB; rfl
  | .scr _, _, h => by unfold smB at h; cases h
  | .gl _, _, h => by unfold smB at h; cases h
  | .ins _ _ _, _, h => by unfold smB at h; cases h
  | .tup l, n, h => by unfold glB; exact gls_sm l n (by unfold smB at h; exact h)
  | .lst l, n, h => by unfold glB; exact gls_sm l n (by unfold smB at h; exact h)
theorem gls_sm : ∀ (l : List PV) (n : Nat), smBs l = true → glBs n l = true
  | [], _, _ => by unfold glBs; rfl
  | p :: ps, n, h => by
    have h : (smB p && smBs ps) = true := by unfold smBs at h; exact h
    rw [Bool.and_eq_true] at h
    unfold glBs
    rw [gl_sm p n h.1, gls_sm ps n h.2]
    rfl
end
mutual
theorem gl_mono : ∀ (p : PV) (n m : Nat), n ≤ m → glB n p = true → glB m p = true
  | .non, _, _, _, _ => by unfold glB; rfl
  | .bl _, _, _, _, _ => by unfold glB; rfl
  | .int _, _, _, _, _ => by unfold glB; rfl
  | .str _, _, _, _, _ => by unfold glB; rfl
  | .scr _, _, _, _, _ => by unfold glB; rfl
  | .gl k, n, m, hm, h => by
    have h : decide (k < n) = true := by unfold glB at h; exact h
    have := of_decide_eq_true h
    unfold glB
    exact decide_eq_true (by omega)
  | .ins _ _ l, n, m, hm, h => by unfold glB; exact gls_mono l n m hm (by unfold glB at h; exact h)
  | .tup l, n, m, hm, h => by unfold glB; exact gls_mono l n m hm (by unfold glB at h; exact h)
  | .lst l, n, m, hm, h => by unfold glB; exact gls_mono l n m hm (by unfold glB at h; exact h)
theorem gls_mono : ∀ (l : List PV) (n m : Nat), n ≤ m → glBs n l = true → glBs m l = true
  | [], _, _, _, _ => by unfold glBs; rfl
  | p :: ps, n, m, hm, h => by
    have h : (glB n p && glBs n ps) = true := by unfold glBs at h; exact h
    rw [Bool.and_eq_true] at h
    unfold glBs
    rw [gl_mono p n m hm h.1, gls_mono ps n m hm h.2]
    rfl
end
theorem Cln.all {st : Sto} (h : Cln st) (n : Nat) : st.all (glC n) = true := List.all_eq_true.mpr fun c hc => by
  obtain ⟨l, rfl, h2⟩ := h c hc
  exact gls_mono l 0 n (Nat.zero_le _) h2
theorem make_ok {c : List Int} {ds : List Deal} {gs : List Grp} (h : RcOk c ds gs) (hc : Cln st) : makF "Receipt" F_Receipt___init__ [intsV c, dealsV ds, grpsV gs] st = .ok (rcV c ds gs) st := by
  have e := init_ok (st := st) h
  have t : (st ++ [Cell.ins "Receipt" ["costs", "offers", "bounds"] [intsV c, dealsV ds, grpsV gs]]).take st.length = st := by simp
  have a1 := sm_intsV h.cok.2.1 fun x hx => by have := h.cok.2.2 x hx; omega
  have a2 := sm_deals h.cok h.dok
  have a3 := sm_grps h.dok.1 h.gok
  have g : glBs st.length [intsV c, dealsV ds, grpsV gs] = true := by
    unfold glBs
    rw [gl_sm _ _ a1.1]
    unfold glBs
    rw [gl_sm _ _ a2.1]
    unfold glBs
    rw [gl_sm _ _ a3.1]
    unfold glBs
    rfl
  unfold makF
  rw [e]
  dsimp only
  rw [t, if_pos ⟨by simp, hc.all _⟩, List.getElem?_append_right (Nat.le_refl _), Nat.sub_self]
  dsimp only [List.getElem?_cons_zero]
  rw [if_pos ⟨rfl, g⟩]
theorem rc_nil {c : List Int} {ds : List Deal} {gs : List Grp} (h : RcOk c ds gs) : RcOk c ds [] := ⟨h.cok, h.dok, by simp, by simp, .nil⟩
theorem rc_nil2 {c : List Int} {ds : List Deal} {gs : List Grp} (h : RcOk c ds gs) : RcOk c [] [] := ⟨h.cok, ⟨by simp, by simp⟩, by simp, by simp, .nil⟩
end
/-! ### what a receipt tells -/
section
variable {st : Sto} {c : List Int} {ds : List Deal} {gs : List Grp}
theorem isIns_rc : isIns "Receipt" st (rcV c ds gs) = true := by simp [isIns, insF]
theorem isInsNo_rc {m : Str} (h : (["costs", "offers", "bounds"] : List Str).contains m = false) : isInsNo "Receipt" m st (rcV c ds gs) = true := by
  unfold isInsNo insF
  dsimp only
  rw [h]
  simp
theorem fld_costs : fldF "Receipt" "costs" st (rcV c ds gs) = some (intsV c) := by
  unfold fldF insF
  dsimp only
  rw [if_pos rfl]
  rfl
theorem fld_offers : fldF "Receipt" "offers" st (rcV c ds gs) = some (dealsV ds) := by
  have e1 : (("offers" : Str) == ("costs" : Str)) = false := by decide
  unfold fldF insF
  dsimp only
  rw [if_pos rfl]
  simp [List.lookup, e1]
theorem fld_bounds : fldF "Receipt" "bounds" st (rcV c ds gs) = some (grpsV gs) := by
  have e1 : (("bounds" : Str) == ("costs" : Str)) = false := by decide
  have e2 : (("bounds" : Str) == ("offers" : Str)) = false := by decide
  unfold fldF insF
  dsimp only
  rw [if_pos rfl]
  simp [List.lookup, e1, e2]
end
end Q01
namespace Q01
open PySem PySem.Spec L2 PL Rc
/-! ### texts -/
section
variable {st : Sto} {c : List Int} {ds : List Deal} {gs : List Grp}
def nameT (a b g : Nat) : Str := (("Receipt(" : Str) ++ Str.join ", " [numT a ++ (" lines" : Str), numT b ++ (" deals" : Str), numT g ++ (" groups" : Str)]) ++ (")" : Str)
theorem joinF_map {α : Type} {f : α → Str} {a : Str} {l : List α} {A B n : Nat} (h1 : ∀ x ∈ l, TxOk B (f x)) (h2 : l.length ≤ n) (ha : a.length ≤ A) (h3 : n * (B + A) ≤ 16777216) : joinF a (.lst (l.map fun x => PV.str (f x))) = some (.str (Str.join a (l.map f))) := by
  have e : (l.map fun x => PV.str (f x)) = (l.map f).map PV.str := by rw [List.map_map]; rfl
  rw [e]
  refine joinF_ok (B := B) (n := n) (fun y hy => ?_) (by rw [List.length_map]; exact h2) (Nat.le_trans (Nat.mul_le_mul_left _ (Nat.add_le_add_left ha _)) h3)
  obtain ⟨x, hx, rfl⟩ := List.mem_map.mp hy
  exact (h1 x hx).2
theorem nums_e {l : List Int} (v : List PV → PV) (hv : v = PV.tup ∨ v = PV.lst) (hl : l.length ≤ 5) (h : ∀ x ∈ l, 0 ≤ x ∧ x ≤ 9999) : F_numbers_text [v (l.map PV.int)] st = .ok (.str (numsT l)) st := by
  have e := lc_yes (b := bName 1) (t := eB strF (aCons (eVar 1) aNil)) (e := [.val (v (l.map PV.int)), .non]) (st := st) PV.int (fun x => .str (numT x)) l fun x hx => ⟨[.val (v (l.map PV.int)), .val (.int x)], by simp, by
    have := h x hx
    simp [strF_num (i := x) (by omega) (by omega)]⟩
  have j := joinF_map (a := " ") (A := 1) (B := 13) (n := 5) (f := numT) (l := l) (fun x hx => by have := h x hx; exact num_ok (by omega) (by omega)) hl (by decide) (by decide)
  unfold F_numbers_text mkFn f_numbers_text l_numbers_text_0
  rcases hv with rfl | rfl
  · simp [e, j, numsT]
  · simp [e, j, numsT]
theorem offt_e {p : Int × Int} (h : 0 ≤ p.1 ∧ p.1 ≤ 4 ∧ 1 ≤ p.2 ∧ p.2 ≤ 9999) : (((Str.empty ++ (" " : Str)) ++ numT p.1) ++ (":" : Str)) ++ numT p.2 = offT p := by
  rw [Str.empty_append]
  rfl
theorem tx_lit (s : String) {n : Nat} (h : (Str.ofString s).length ≤ n) : TxOk n (Str.ofString s) := ⟨strOk_ofString s, h⟩
theorem jl {A B : Nat} {x y : Str} (h1 : TxOk A x) (h2 : TxOk B y) (h : A + B ≤ 16777216) : (x ++ y).length ≤ LINE := Nat.le_trans (h1.append h2).2 h
theorem row_e {d : Deal} (hc : CostsOk c) (h : DealOk c d) {e0 e1 e2 e3 e7 e8 : EV} : l_receipt_lines_0 [e0, e1, e2, e3, .val (dealV d), .non, .non, e7, e8] st = .ok (d.map fun p => PV.str (offT p)) st := by
  have e := lc_yes (b := bTup ((bName 5) :: ((bName 6) :: []))) (t := eJStr (jCons (eC (.str " ")) (jCons (eFmt (eVar 5)) (jCons (eC (.str ":")) (jCons (eFmt (eVar 6)) jNil))))) (e := [e0, e1, e2, e3, .val (dealV d), .non, .non, e7, e8]) (st := st) pairV (fun p => .str (offT p)) d fun p hp => ⟨[e0, e1, e2, e3, .val (dealV d), .val (.int p.1), .val (.int p.2), e7, e8], by simp, by
    have q := h.price hc hp
    have n1 := num_ok (i := p.1) (by omega) (by omega)
    have n2 := num_ok (i := p.2) (by omega) (by omega)
    have t1 : TxOk 1 (Str.empty ++ (" " : Str)) := ⟨strOk_append strOk_empty (strOk_ofString _), by decide⟩
    have t2 := t1.append n1
    have t3 := t2.append (tx_lit ":" (n := 1) (by decide))
    have l1 : (Str.empty ++ (" " : Str)).length ≤ LINE := by decide
    have l2 := jl t1 n1 (by decide)
    have l3 := jl t2 (tx_lit ":" (n := 1) (by decide)) (by decide)
    have l4 := jl t3 n2 (by decide)
    rw [offt_e q] at l4
    simp [strOfN_num (i := p.1) (by omega) (by omega), strOfN_num (i := p.2) (by omega) (by omega), l1, l2, l3, l4, offt_e q]⟩
  unfold l_receipt_lines_0
  simp [e]
theorem lines_e (h : RcOk c ds gs) : F_receipt_lines [intsV c, dealsV ds, grpsV gs] st = .ok (.lst ((linesT c ds gs).map PV.str)) st := by
  have p0 : ∀ x ∈ c, 0 ≤ x ∧ x ≤ 9999 := fun x hx => by have := h.cok.2.2 x hx; omega
  have np := nums_e (st := st) PV.tup (.inl rfl) h.cok.2.1 p0
  have t0 := tx_lit "prices " (n := 7) (by decide)
  have ap := addF_tx t0 (numsT_ok h.cok.2.1 p0) (by decide)
  have l1 : (1 : Nat) ≤ LINE := by decide
  obtain ⟨e', st2, f1, f2, x4, x5, x6, x7, x8, f3, f4⟩ := for_inv (b := bName 4) (t := t_receipt_lines_0) (fun xs e st' => st' = st ∧ ∃ x4 x5 x6 x7 x8, (∃ done rest, ds = done ++ rest ∧ xs = rest.map dealV ∧ e = [.val (intsV c), .val (dealsV ds), .val (grpsV gs), .own (((("prices " : Str) ++ numsT c) :: done.map dealT).map PV.str), x4, x5, x6, x7, x8]) ∧ True) (fun x xs e st' ⟨h1, x4, x5, x6, x7, x8, ⟨done, rest, k1, k2, k3⟩, _⟩ => by
    subst h1 k3
    cases rest with
    | nil => cases k2
    | cons d rest =>
      obtain ⟨rfl, rfl⟩ := List.cons.inj k2
      have hd := h.dok.2 d (by rw [k1]; simp)
      have q := row_e (st := st') (e0 := .val (intsV c)) (e1 := .val (dealsV ds)) (e2 := .val (grpsV gs)) (e3 := .own (((("prices " : Str) ++ numsT c) :: done.map dealT).map PV.str)) (e7 := x7) (e8 := x8) h.cok hd
      have w : l_receipt_lines_0 [.val (intsV c), .val (dealsV ds), .val (grpsV gs), .own (((("prices " : Str) ++ numsT c) :: done.map dealT).map PV.str), .val (dealV d), x5, x6, x7, x8] st' = .ok (d.map fun p => PV.str (offT p)) st' := by
        rw [← q]
        unfold l_receipt_lines_0
        simp
      have j := joinF_map (a := "") (A := 0) (B := 28) (n := 5) (f := offT) (l := d) (fun p hp => offT_ok (hd.price h.cok hp)) (hd.len h.cok) (by decide) (by decide)
      have td := dealT_ok h.cok hd
      have a1 : addF (.str "deal") (.str (Str.join "" (d.map offT))) = some (.str (dealT d)) := addF_str (by have := td.2; unfold dealT at this; rw [Str.length_append] at this; omega)
      have dl : done.length ≤ 5 := by have := h.dok.1; rw [k1, List.length_append] at this; omega
      have ll : (((("prices " : Str) ++ numsT c) :: done.map dealT).map PV.str).length < LINE := by
        rw [List.length_map, List.length_cons, List.length_map]
        show _ < 16777216
        omega
      refine ⟨[.val (intsV c), .val (dealsV ds), .val (grpsV gs), .own (((("prices " : Str) ++ numsT c) :: done.map dealT).map PV.str), .val (dealV d), x5, x6, x7, x8], [.val (intsV c), .val (dealsV ds), .val (grpsV gs), .own (((("prices " : Str) ++ numsT c) :: (done ++ [d]).map dealT).map PV.str), .val (dealV d), x5, x6, x7, x8], st', by simp, ?_, rfl, .val (dealV d), x5, x6, x7, x8, ⟨done ++ [d], rest, by rw [k1]; simp, rfl, rfl⟩, trivial⟩
      unfold t_receipt_lines_0
      simp only [sSeq_e, sApp_e, eOp_e, eTx_e, eC_e, eLst_e, bind_ok, List.getElem?_cons_succ, List.getElem?_cons_zero, w, j, of_some, a1, toS_ok, if_pos ll]
      simp) (ds.map dealV) [.val (intsV c), .val (dealsV ds), .val (grpsV gs), .own [.str (("prices " : Str) ++ numsT c)], .non, .non, .non, .non, .non] st ⟨rfl, .non, .non, .non, .non, .non, ⟨[], ds, rfl, rfl, rfl⟩, trivial⟩
  obtain ⟨⟨done, rest, k1, k2, k3⟩, _⟩ := And.intro f3 f4
  have hr : rest = [] := List.map_eq_nil_iff.mp k2.symm
  subst hr f2 k3
  rw [List.append_nil] at k1
  subst k1
  have g := lc_yes (b := bTup ((bName 7) :: ((bName 8) :: []))) (t := eOp addF (eOp addF (eOp addF (eC (.str "group ")) (eB strF (aCons (eVar 7) aNil))) (eC (.str " of "))) (eCall F_numbers_text (aCons (eVar 8) aNil))) (e := [.val (intsV c), .val (dealsV ds), .val (grpsV gs), .own (((("prices " : Str) ++ numsT c) :: ds.map dealT).map PV.str), x4, x5, x6, .non, .non]) (st := st2) grpV (fun g => .str (grpT g)) gs fun g hg => ⟨[.val (intsV c), .val (dealsV ds), .val (grpsV gs), .own (((("prices " : Str) ++ numsT c) :: ds.map dealT).map PV.str), x4, x5, x6, .val (.int g.1), .val (intsV g.2)], by simp, by
    have hg := h.gok.2.1 g hg
    have g1 := hg.1
    have g2 := hg.2.1
    have m5 := h.dok.1
    have ql := hg.len m5
    have qb : ∀ x ∈ g.2, 0 ≤ x ∧ x ≤ 9999 := fun x hx => by have := hg.2.2.2.2 x hx; omega
    have n := nums_e (st := st2) PV.tup (.inl rfl) ql qb
    have s := strF_num (i := g.1) (by omega) (by omega)
    have u1 := tx_lit "group " (n := 6) (by decide)
    have u2 := num_ok (i := g.1) (by omega) (by omega)
    have u3 := tx_lit " of " (n := 4) (by decide)
    have b1 := addF_tx u1 u2 (by decide)
    have b2 := addF_tx (u1.append u2) u3 (by decide)
    have b3 := addF_tx ((u1.append u2).append u3) (numsT_ok ql qb) (by decide)
    simp only [eOp_e, eC_e, eB_e, aCons_e, aNil_e, eVar_e, eCall_e, bind_ok, List.getElem?_cons_succ, List.getElem?_cons_zero, s, of_some, b1, b2, n, b3]
    rfl⟩
  have ll := (lines_ok h).2
  have la : (((("prices " : Str) ++ numsT c) :: ds.map dealT).map PV.str).length + (gs.map fun g => PV.str (grpT g)).length ≤ LINE := by
    unfold linesT at ll
    simp only [List.length_cons, List.length_append, List.length_map] at ll ⊢
    show _ ≤ 16777216
    omega
  have ad : addF (.lst (((("prices " : Str) ++ numsT c) :: ds.map dealT).map PV.str)) (.lst (gs.map fun g => PV.str (grpT g))) = some (.lst ((linesT c ds gs).map PV.str)) := by
    unfold addF
    dsimp only
    rw [if_pos la]
    unfold linesT
    simp [List.map_map]
  unfold F_receipt_lines mkFn f_receipt_lines w_receipt_lines_0 l_receipt_lines_1
  simp only [List.map_cons, List.map_nil, List.map_map] at f1 g ad
  simp [np, ap, l1, f1, g, ad]
theorem text_e (h : RcOk c ds gs) : F_Receipt_text [rcV c ds gs] st = .ok (.str (textT c ds gs)) st := by
  have e := lc_yes (b := bName 1) (t := eOp addF (eVar 1) (eC (.str "\n"))) (e := [.val (rcV c ds gs), .non]) (st := st) PV.str (fun y => .str (y ++ ("\n" : Str))) (linesT c ds gs) fun y hy => ⟨[.val (rcV c ds gs), .val (.str y)], by simp, by
    have a := addF_tx ((lines_ok h).1 y hy) (tx_lit "\n" (n := 1) (by decide)) (by decide)
    simp [a]⟩
  have j := joinF_map (a := "") (A := 0) (B := 145) (n := 11) (f := fun y : Str => y ++ ("\n" : Str)) (l := linesT c ds gs) (fun y hy => ((lines_ok h).1 y hy).append (tx_lit "\n" (n := 1) (by decide))) (lines_ok h).2 (by decide) (by decide)
  have t : Str.join "" ((linesT c ds gs).map fun y : Str => y ++ ("\n" : Str)) = textT c ds gs := (join_nl "\n" (l := linesT c ds gs) (by unfold linesT; simp)).symm
  rw [t] at j
  unfold F_Receipt_text mkFn f_Receipt_text l_Receipt_text_0
  simp [fld_costs, fld_offers, fld_bounds, lines_e h, e, j]
theorem name_eq (a b g : Nat) : ((((((Str.empty ++ ("Receipt(" : Str)) ++ numT a) ++ (" lines, " : Str)) ++ numT b) ++ (" deals, " : Str)) ++ numT g) ++ (" groups)" : Str) = nameT a b g := by
  have l1 : (" lines, " : Str) = (" lines" : Str) ++ (", " : Str) := by decide
  have l2 : (" deals, " : Str) = (" deals" : Str) ++ (", " : Str) := by decide
  have l3 : (" groups)" : Str) = (" groups" : Str) ++ (")" : Str) := by decide
  unfold nameT
  show _ = (("Receipt(" : Str) ++ ((numT a ++ (" lines" : Str)) ++ (", " : Str) ++ ((numT b ++ (" deals" : Str)) ++ (", " : Str) ++ (numT g ++ (" groups" : Str))))) ++ (")" : Str)
  rw [Str.empty_append, l1, l2, l3]
  simp only [Str.append_assoc]
theorem name_ok {a b g : Nat} (h1 : a ≤ 9999) (h2 : b ≤ 9999) (h3 : g ≤ 9999) : TxOk 200 (nameT a b g) := by
  have n1 := num_ok (i := (a : Int)) (by omega) (by omega)
  have n2 := num_ok (i := (b : Int)) (by omega) (by omega)
  have n3 := num_ok (i := (g : Int)) (by omega) (by omega)
  refine (((tx_lit "Receipt(" (n := 8) (by decide)).append (TxOk.join (A := 2) (B := 30) (n := 3) (tx_lit ", " (by decide)) (fun y hy => ?_) (Nat.le_refl _))).append (tx_lit ")" (n := 1) (by decide))).mono (by decide)
  simp only [List.mem_cons, List.not_mem_nil, or_false] at hy
  rcases hy with rfl | rfl | rfl
  · exact (n1.append (tx_lit " lines" (n := 6) (by decide))).mono (by decide)
  · exact (n2.append (tx_lit " deals" (n := 6) (by decide))).mono (by decide)
  · exact (n3.append (tx_lit " groups" (n := 7) (by decide))).mono (by decide)
theorem repr_e (h1 : c.length ≤ 9999) (h2 : ds.length ≤ 9999) (h3 : gs.length ≤ 9999) : F_Receipt___repr__ [rcV c ds gs] st = .ok (.str (nameT c.length ds.length gs.length)) st := by
  have n1 := num_ok (i := (c.length : Int)) (by omega) (by omega)
  have n2 := num_ok (i := (ds.length : Int)) (by omega) (by omega)
  have n3 := num_ok (i := (gs.length : Int)) (by omega) (by omega)
  have t1 : TxOk 8 (Str.empty ++ ("Receipt(" : Str)) := ⟨strOk_append strOk_empty (strOk_ofString _), by decide⟩
  have t2 := t1.append n1
  have t3 := t2.append (tx_lit " lines, " (n := 8) (by decide))
  have t4 := t3.append n2
  have t5 := t4.append (tx_lit " deals, " (n := 8) (by decide))
  have t6 := t5.append n3
  have t7 := t6.append (tx_lit " groups)" (n := 8) (by decide))
  have l1 : (Str.empty ++ ("Receipt(" : Str)).length ≤ LINE := by decide
  have l2 : _ ≤ LINE := Nat.le_trans t2.2 (by decide)
  have l3 : _ ≤ LINE := Nat.le_trans t3.2 (by decide)
  have l4 : _ ≤ LINE := Nat.le_trans t4.2 (by decide)
  have l5 : _ ≤ LINE := Nat.le_trans t5.2 (by decide)
  have l6 : _ ≤ LINE := Nat.le_trans t6.2 (by decide)
  have l7 : _ ≤ LINE := Nat.le_trans t7.2 (by decide)
  rw [name_eq] at l7
  unfold F_Receipt___repr__ mkFn f_Receipt___repr__
  simp [fld_costs, fld_offers, fld_bounds, strOfN_num (i := (c.length : Int)) (by omega) (by omega), strOfN_num (i := (ds.length : Int)) (by omega) (by omega), strOfN_num (i := (gs.length : Int)) (by omega) (by omega), l1, l2, l3, l4, l5, l6, l7, name_eq]
theorem zLen_ok {n : Nat} (h : n ≤ 9999) : zLen (.int (n : Int)) = true := by
  unfold zLen
  exact decide_eq_true ⟨Int.natCast_nonneg n, by omega⟩
/-- all that a receipt tells -/
def dueV (c : List Int) (ds : List Deal) (gs : List Grp) : PV := .tup [intsV c, dealsV ds, grpsV gs, .int c.sum, .int ds.length, .str (nameT c.length ds.length gs.length), .str (textT c ds gs)]
theorem addF_tup {l m : List PV} (h : l.length + m.length ≤ 16777216) : addF (.tup l) (.tup m) = some (.tup (l ++ m)) := by
  unfold addF
  dsimp only
  rw [if_pos (show l.length + m.length ≤ LINE from h)]
theorem seen_e (h : RcOk c ds gs) : F__law_seen [rcV c ds gs] st = .ok (dueV c ds gs) st := by
  have hc := h.cok.2.1
  have hd := h.dok.1
  have hg := h.gok.1
  have e1 : F_Receipt_prices [rcV c ds gs] st = .ok (intsV c) st := by
    unfold F_Receipt_prices mkFn f_Receipt_prices
    simp [fld_costs]
  have e2 : F_Receipt_deals [rcV c ds gs] st = .ok (dealsV ds) st := by
    unfold F_Receipt_deals mkFn f_Receipt_deals
    simp [fld_offers]
  have e3 : F_Receipt_groups [rcV c ds gs] st = .ok (grpsV gs) st := by
    unfold F_Receipt_groups mkFn f_Receipt_groups
    simp [fld_bounds]
  have e4 : F_Receipt_total [rcV c ds gs] st = .ok (.int c.sum) st := by
    have e := lc_yes (b := bName 1) (t := eVar 1) (e := [.val (rcV c ds gs), .non]) (st := st) PV.int (fun y => .int y) c fun y hy => ⟨[.val (rcV c ds gs), .val (.int y)], by simp, by simp⟩
    unfold F_Receipt_total mkFn f_Receipt_total l_Receipt_total_0
    simp [fld_costs, e, sumF_ints]
  have e5 : F_Receipt___len__ [rcV c ds gs] st = .ok (.int ds.length) st := by
    unfold F_Receipt___len__ mkFn f_Receipt___len__
    simp [fld_offers]
  have e6 := repr_e (st := st) (c := c) (ds := ds) (gs := gs) (by omega) (by omega) (by omega)
  have e7 := text_e (st := st) h
  have z5 : zLen (.int (ds.length : Int)) = true := zLen_ok (by omega)
  have i1 : isInsNo "Receipt" "text" st (rcV c ds gs) = true := isInsNo_rc (by decide)
  have l4 : (4 : Nat) ≤ LINE := by decide
  have l3 : (3 : Nat) ≤ LINE := by decide
  have a := addF_tup (l := [intsV c, dealsV ds, grpsV gs, .int c.sum]) (m := [.int (ds.length : Int), .str (nameT c.length ds.length gs.length), .str (textT c ds gs)]) (by simp)
  unfold F__law_seen mkFn f__law_seen
  simp only [List.map_cons, List.map_nil, List.length_cons, List.length_nil]
  simp [isIns_rc, e1, e2, e3, e4, e5, e6, e7, z5, zStr, i1, l4, l3, a, dueV]
end
end Q01
namespace Q01
open PySem PySem.Spec L2 PL Rc
/-! ### what is due -/
section
variable {st : Sto} {c : List Int} {ds : List Deal} {gs : List Grp}
abbrev lsV (l : List Str) : EV := .own (l.map PV.str)
theorem app_str {l : List Str} (x : Str) : l.map PV.str ++ [.str x] = (l ++ [x]).map PV.str := by simp
theorem ltext_e (h : RcOk c ds gs) : F__law_text [intsV c, dealsV ds, grpsV gs] st = .ok (.str (textT c ds gs)) st := by
  have p0 : ∀ x ∈ c, 0 ≤ x ∧ x ≤ 9999 := fun x hx => by have := h.cok.2.2 x hx; omega
  have t0 := tx_lit "prices " (n := 7) (by decide)
  have l1 : (1 : Nat) ≤ LINE := by decide
  -- prices
  have e0 := lc_yes (b := bName 7) (t := eB strF (aCons (eVar 7) aNil)) (e := [.val (intsV c), .val (dealsV ds), .val (grpsV gs), .non, .non, .non, .non, .non, .non, .non, .non]) (st := st) PV.int (fun x => .str (numT x)) c fun x hx => ⟨[.val (intsV c), .val (dealsV ds), .val (grpsV gs), .non, .non, .non, .non, .val (.int x), .non, .non, .non], by simp, by
    have := p0 x hx
    simp [strF_num (i := x) (by omega) (by omega)]⟩
  have j0 := joinF_map (a := " ") (A := 1) (B := 13) (n := 5) (f := numT) (l := c) (fun x hx => by have := p0 x hx; exact num_ok (by omega) (by omega)) h.cok.2.1 (by decide) (by decide)
  have a0 : addF (.str "prices ") (.str (Str.join " " (c.map numT))) = some (.str (("prices " : Str) ++ numsT c)) := addF_tx t0 (numsT_ok h.cok.2.1 p0) (by decide)
  -- deals
  obtain ⟨e', st2, f1, f2, x4, x5, x6, x7, x8, x9, x10, done, rest, k1, k2, k3⟩ := for_inv (b := bName 4) (t := t__law_text_0) (fun xs e st' => st' = st ∧ ∃ x4 x5 x6 x7 x8 x9 x10 done rest, ds = done ++ rest ∧ xs = rest.map dealV ∧ e = [.val (intsV c), .val (dealsV ds), .val (grpsV gs), lsV ((("prices " : Str) ++ numsT c) :: done.map dealT), x4, x5, x6, x7, x8, x9, x10]) (fun x xs e st' ⟨h1, x4, x5, x6, x7, x8, x9, x10, done, rest, k1, k2, k3⟩ => by
    subst h1 k3
    cases rest with
    | nil => cases k2
    | cons d rest =>
      obtain ⟨rfl, rfl⟩ := List.cons.inj k2
      have hd := h.dok.2 d (by rw [k1]; simp)
      have w := lc_yes (b := bTup ((bName 8) :: ((bName 9) :: []))) (t := eOp addF (eOp addF (eOp addF (eC (.str " ")) (eB strF (aCons (eVar 8) aNil))) (eC (.str ":"))) (eB strF (aCons (eVar 9) aNil))) (e := [.val (intsV c), .val (dealsV ds), .val (grpsV gs), lsV ((("prices " : Str) ++ numsT c) :: done.map dealT), .val (dealV d), x5, x6, x7, .non, .non, x10]) (st := st') pairV (fun p => .str (offT p)) d fun p hp => ⟨[.val (intsV c), .val (dealsV ds), .val (grpsV gs), lsV ((("prices " : Str) ++ numsT c) :: done.map dealT), .val (dealV d), x5, x6, x7, .val (.int p.1), .val (.int p.2), x10], by simp, by
        have q := hd.price h.cok hp
        have n1 := num_ok (i := p.1) (by omega) (by omega)
        have n2 := num_ok (i := p.2) (by omega) (by omega)
        have u1 := tx_lit " " (n := 1) (by decide)
        have u3 := tx_lit ":" (n := 1) (by decide)
        have b1 := addF_tx u1 n1 (by decide)
        have b2 := addF_tx (u1.append n1) u3 (by decide)
        have b3 := addF_tx ((u1.append n1).append u3) n2 (by decide)
        simp [strF_num (i := p.1) (by omega) (by omega), strF_num (i := p.2) (by omega) (by omega), b1, b2, b3, offT]⟩
      have j := joinF_map (a := "") (A := 0) (B := 28) (n := 5) (f := offT) (l := d) (fun p hp => offT_ok (hd.price h.cok hp)) (hd.len h.cok) (by decide) (by decide)
      have td := dealT_ok h.cok hd
      have a1 : addF (.str "deal") (.str (Str.join "" (d.map offT))) = some (.str (dealT d)) := addF_str (by have := td.2; unfold dealT at this; rw [Str.length_append] at this; omega)
      have dl : done.length ≤ 5 := by have := h.dok.1; rw [k1, List.length_append] at this; omega
      have ll : (((("prices " : Str) ++ numsT c) :: done.map dealT).map PV.str).length < LINE := by
        rw [List.length_map, List.length_cons, List.length_map]
        show _ < 16777216
        omega
      refine ⟨[.val (intsV c), .val (dealsV ds), .val (grpsV gs), lsV ((("prices " : Str) ++ numsT c) :: done.map dealT), .val (dealV d), x5, x6, x7, x8, x9, x10], [.val (intsV c), .val (dealsV ds), .val (grpsV gs), lsV ((("prices " : Str) ++ numsT c) :: (done ++ [d]).map dealT), .val (dealV d), x5, x6, x7, x8, x9, x10], st', by simp, ?_, rfl, .val (dealV d), x5, x6, x7, x8, x9, x10, done ++ [d], rest, by rw [k1]; simp, rfl, rfl⟩
      unfold t__law_text_0 l__law_text_1
      simp only [sSeq_e, sApp_e, eOp_e, eTx_e, eC_e, eLst_e, lLc_e, iSeq_e, eVar_e, wipeE_cons, wipeE_nil, List.set_cons_succ, List.set_cons_zero, bind_ok, List.getElem?_cons_succ, List.getElem?_cons_zero, w, j, of_some, a1, toS_ok, if_pos ll]
      simp) (ds.map dealV) [.val (intsV c), .val (dealsV ds), .val (grpsV gs), .own [.str (("prices " : Str) ++ numsT c)], .non, .non, .non, .non, .non, .non, .non] st ⟨rfl, .non, .non, .non, .non, .non, .non, .non, [], ds, rfl, rfl, rfl⟩
  have hr : rest = [] := List.map_eq_nil_iff.mp k2.symm
  subst hr f2 k3
  rw [List.append_nil] at k1
  subst k1
  -- groups
  obtain ⟨e', st3, g1, g2, y4, y5, y6, y7, y8, y9, y10, done, rest, m1, m2, m3⟩ := for_inv (b := bTup ((bName 5) :: ((bName 6) :: []))) (t := t__law_text_1) (fun xs e st' => st' = st2 ∧ ∃ x4 x5 x6 x7 x8 x9 x10 done rest, gs = done ++ rest ∧ xs = rest.map grpV ∧ e = [.val (intsV c), .val (dealsV ds), .val (grpsV gs), lsV ((("prices " : Str) ++ numsT c) :: (ds.map dealT ++ done.map grpT)), x4, x5, x6, x7, x8, x9, x10]) (fun x xs e st' ⟨h1, x4, x5, x6, x7, x8, x9, x10, done, rest, k1, k2, k3⟩ => by
    subst h1 k3
    cases rest with
    | nil => cases k2
    | cons g rest =>
      obtain ⟨rfl, rfl⟩ := List.cons.inj k2
      have hg := h.gok.2.1 g (by rw [k1]; simp)
      have q1 := hg.1
      have q2 := hg.2.1
      have m5 := h.dok.1
      have ql := hg.len m5
      have qb : ∀ x ∈ g.2, 0 ≤ x ∧ x ≤ 9999 := fun x hx => by have := hg.2.2.2.2 x hx; omega
      have w := lc_yes (b := bName 10) (t := eB strF (aCons (eVar 10) aNil)) (e := [.val (intsV c), .val (dealsV ds), .val (grpsV gs), lsV ((("prices " : Str) ++ numsT c) :: (ds.map dealT ++ done.map grpT)), x4, .val (.int g.1), .val (intsV g.2), x7, x8, x9, .non]) (st := st') PV.int (fun x => .str (numT x)) g.2 fun x hx => ⟨[.val (intsV c), .val (dealsV ds), .val (grpsV gs), lsV ((("prices " : Str) ++ numsT c) :: (ds.map dealT ++ done.map grpT)), x4, .val (.int g.1), .val (intsV g.2), x7, x8, x9, .val (.int x)], by simp, by
        have := qb x hx
        simp [strF_num (i := x) (by omega) (by omega)]⟩
      have j := joinF_map (a := " ") (A := 1) (B := 13) (n := 5) (f := numT) (l := g.2) (fun x hx => by have := qb x hx; exact num_ok (by omega) (by omega)) ql (by decide) (by decide)
      have s := strF_num (i := g.1) (by omega) (by omega)
      have u1 := tx_lit "group " (n := 6) (by decide)
      have u2 := num_ok (i := g.1) (by omega) (by omega)
      have u3 := tx_lit " of " (n := 4) (by decide)
      have b1 := addF_tx u1 u2 (by decide)
      have b2 := addF_tx (u1.append u2) u3 (by decide)
      have b3 : addF (.str ((("group " : Str) ++ numT g.1) ++ (" of " : Str))) (.str (Str.join " " (g.2.map numT))) = some (.str (grpT g)) := addF_tx ((u1.append u2).append u3) (numsT_ok ql qb) (by decide)
      have dl : done.length ≤ 5 := by have := h.gok.1; rw [k1, List.length_append] at this; omega
      have ll : (((("prices " : Str) ++ numsT c) :: (ds.map dealT ++ done.map grpT)).map PV.str).length < LINE := by
        rw [List.length_map, List.length_cons, List.length_append, List.length_map, List.length_map]
        show _ < 16777216
        omega
      refine ⟨[.val (intsV c), .val (dealsV ds), .val (grpsV gs), lsV ((("prices " : Str) ++ numsT c) :: (ds.map dealT ++ done.map grpT)), x4, .val (.int g.1), .val (intsV g.2), x7, x8, x9, x10], [.val (intsV c), .val (dealsV ds), .val (grpsV gs), lsV ((("prices " : Str) ++ numsT c) :: (ds.map dealT ++ (done ++ [g]).map grpT)), x4, .val (.int g.1), .val (intsV g.2), x7, x8, x9, x10], st', by simp, ?_, rfl, x4, .val (.int g.1), .val (intsV g.2), x7, x8, x9, x10, done ++ [g], rest, by rw [k1]; simp, rfl, rfl⟩
      unfold t__law_text_1 l__law_text_2
      simp only [sSeq_e, sApp_e, eOp_e, eTx_e, eC_e, eB_e, aCons_e, aNil_e, eLst_e, lLc_e, iSeq_e, eVar_e, wipeE_cons, wipeE_nil, List.set_cons_succ, List.set_cons_zero, bind_ok, List.getElem?_cons_succ, List.getElem?_cons_zero, s, b1, b2, w, j, of_some, b3, toS_ok, if_pos ll]
      simp) (gs.map grpV) [.val (intsV c), .val (dealsV ds), .val (grpsV gs), lsV ((("prices " : Str) ++ numsT c) :: (ds.map dealT ++ ([] : List Grp).map grpT)), x4, x5, x6, x7, x8, x9, x10] st2 ⟨rfl, x4, x5, x6, x7, x8, x9, x10, [], gs, rfl, rfl, rfl⟩
  have hr : rest = [] := List.map_eq_nil_iff.mp m2.symm
  subst hr g2 m3
  rw [List.append_nil] at m1
  subst m1
  have j9 : joinF "\n" (.lst ((linesT c ds gs).map PV.str)) = some (.str (Str.join "\n" (linesT c ds gs))) := joinF_ok (B := 144) (n := 11) (fun y hy => ((lines_ok h).1 y hy).2) (lines_ok h).2 (by decide)
  have a9 : addF (.str (Str.join "\n" (linesT c ds gs))) (.str "\n") = some (.str (textT c ds gs)) := addF_str (by have := (text_ok h).2; unfold textT at this; rw [Str.length_append] at this; omega)
  unfold linesT at j9
  simp only [List.map_nil, List.append_nil] at g1
  unfold F__law_text mkFn f__law_text w__law_text_0 w__law_text_1 l__law_text_0
  simp only [List.map_cons, List.map_nil, List.length_cons, List.length_nil, List.replicate, List.cons_append, List.nil_append, sSeq_e, sAsgO_e, lDisp_e, aCons_e, aNil_e, eOp_e, eTx_e, eC_e, eLst_e, lLc_e, iSeq_e, eVar_e, bind_ok, List.getElem?_cons_succ, List.getElem?_cons_zero, wipeE_cons, wipeE_nil, List.set_cons_succ, List.set_cons_zero, e0, j0, of_some, a0, toS_ok, if_pos l1, thn_nx, sFor_e, f1, g1, sRet_e, eOwn_e, j9]
  unfold linesT at a9
  simp only [List.map_cons, List.map_append, List.map_map] at j9
  simp [l1, f1, g1, j9, a9]
theorem due_e (h : RcOk c ds gs) : F__law_due [intsV c, dealsV ds, grpsV gs] st = .ok (dueV c ds gs) st := by
  have hc := h.cok.2.1
  have hd := h.dok.1
  have hg := h.gok.1
  have n1 := num_ok (i := (c.length : Int)) (by omega) (by omega)
  have n2 := num_ok (i := (ds.length : Int)) (by omega) (by omega)
  have n3 := num_ok (i := (gs.length : Int)) (by omega) (by omega)
  have s1 := strF_num (i := (c.length : Int)) (by omega) (by omega)
  have s2 := strF_num (i := (ds.length : Int)) (by omega) (by omega)
  have s3 := strF_num (i := (gs.length : Int)) (by omega) (by omega)
  have u1 := tx_lit " lines" (n := 6) (by decide)
  have u2 := tx_lit " deals" (n := 6) (by decide)
  have u3 := tx_lit " groups" (n := 7) (by decide)
  have a1 := addF_tx n1 u1 (by decide)
  have a2 := addF_tx n2 u2 (by decide)
  have a3 := addF_tx n3 u3 (by decide)
  have j : joinF ", " (.lst [.str (numT (c.length : Int) ++ (" lines" : Str)), .str (numT (ds.length : Int) ++ (" deals" : Str)), .str (numT (gs.length : Int) ++ (" groups" : Str))]) = some (.str (Str.join ", " [numT (c.length : Int) ++ (" lines" : Str), numT (ds.length : Int) ++ (" deals" : Str), numT (gs.length : Int) ++ (" groups" : Str)])) :=
    joinF_ok (ys := [numT (c.length : Int) ++ (" lines" : Str), numT (ds.length : Int) ++ (" deals" : Str), numT (gs.length : Int) ++ (" groups" : Str)]) (B := 30) (n := 3) (fun y hy => by
      simp only [List.mem_cons, List.not_mem_nil, or_false] at hy
      rcases hy with rfl | rfl | rfl
      · exact Nat.le_trans (n1.append u1).2 (by decide)
      · exact Nat.le_trans (n2.append u2).2 (by decide)
      · exact Nat.le_trans (n3.append u3).2 (by decide)) (Nat.le_refl _) (by decide)
  have nk := (name_ok (a := c.length) (b := ds.length) (g := gs.length) (by omega) (by omega) (by omega)).2
  unfold nameT at nk
  rw [Str.length_append, Str.length_append] at nk
  have b1 := addF_str (x := "Receipt(") (y := Str.join ", " [numT (c.length : Int) ++ (" lines" : Str), numT (ds.length : Int) ++ (" deals" : Str), numT (gs.length : Int) ++ (" groups" : Str)]) (by omega)
  have b2 : addF (.str (("Receipt(" : Str) ++ Str.join ", " [numT (c.length : Int) ++ (" lines" : Str), numT (ds.length : Int) ++ (" deals" : Str), numT (gs.length : Int) ++ (" groups" : Str)])) (.str ")") = some (.str (nameT c.length ds.length gs.length)) := addF_str (by rw [Str.length_append]; omega)
  have t := ltext_e (st := st) h
  have l3 : (3 : Nat) ≤ LINE := by decide
  have l7 : (7 : Nat) ≤ LINE := by decide
  unfold F__law_due mkFn f__law_due
  simp only [List.map_cons, List.map_nil, List.length_cons, List.length_nil]
  simp [s1, s2, s3, a1, a2, a3, j, b1, b2, t, l3, l7, listF, sumF_ints, dueV]
end
end Q01
namespace Q01
open PySem PySem.Spec L2 PL Rc
/-! ### receipts are right -/
section
variable {st : Sto} {c : List Int} {ds : List Deal} {gs : List Grp}
theorem sum_le : ∀ {l : List Int}, (∀ x ∈ l, 1 ≤ x ∧ x ≤ 9999) → 0 ≤ l.sum ∧ l.sum ≤ 9999 * l.length
  | [], _ => by simp
  | x :: l, h => by
    have h1 := h x List.mem_cons_self
    have h2 := sum_le (l := l) fun y hy => h y (List.mem_cons_of_mem _ hy)
    rw [List.sum_cons, List.length_cons]
    omega
theorem sm_due (h : RcOk c ds gs) : Sm 4 14567 (dueV c ds gs) := by
  have s := sum_le h.cok.2.2
  have h5 := h.cok.2.1
  have d5 := h.dok.1
  have g5 := h.gok.1
  refine sm_tupI (d := 3) (w := 2080) (n := 7) (Nat.le_refl _) fun x hx => ?_
  simp only [List.mem_cons, List.not_mem_nil, or_false] at hx
  rcases hx with rfl | rfl | rfl | rfl | rfl | rfl | rfl
  · exact (sm_intsV h.cok.2.1 fun x hx => by have := h.cok.2.2 x hx; omega).mono (by decide) (by decide)
  · exact sm_deals h.cok h.dok
  · exact (sm_grps h.dok.1 h.gok).mono (by decide) (by decide)
  · exact (sm_int (by omega) (by omega)).mono (by decide) (by decide)
  · exact (sm_int (by omega) (by omega)).mono (by decide) (by decide)
  · exact (sm_str (name_ok (by omega) (by omega) (by omega))).mono (by decide) (by decide)
  · exact (sm_str (text_ok h)).mono (by decide) (by decide)
theorem eqF_str (x : Str) : eqF (.str x) (.str x) = some (.bl true) := by
  show some (PV.bl (decide (x = x))) = _
  simp
theorem same_e {p : PV} (h : ∃ x, reprF [p] = some (.str x)) : F__law_same [p, p] st = .ok (.bl true) st := by
  obtain ⟨x, e⟩ := h
  unfold F__law_same mkFn f__law_same
  simp [e, eqF_str]
abbrev rcQ (c : List Int) (q : List Deal × List Grp) : PV := rcV c q.1 q.2
abbrev dueQ (c : List Int) (q : List Deal × List Grp) : PV := dueV c q.1 q.2
theorem isOwn_rc : isOwn [("Receipt", true)] st (rcV c ds gs) = some true := by
  unfold isOwn insF
  dsimp only
  simp [List.lookup]
theorem turn_e (h : RcOk c ds gs) (hc : Cln st) {k : PV} {D : List PV} {x5 x6 x7 x8 : EV} (hD : D = [(ds, gs), (ds, []), ([], []), (ds, gs), (ds, gs), (ds, []), ([], []), ([], [])].map (dueQ c)) :
    ∃ y6 y7 y8, t__law_is_right_0 [.val (intsV c), .val (dealsV ds), .val (grpsV gs), .val k, .val (.lst D), x5, x6, x7, x8] st = .nx [.val (intsV c), .val (dealsV ds), .val (grpsV gs), .val k, .val (.lst D), x5, y6, y7, y8] st := by
  have m3 := make_ok (st := st) h hc
  have m2 : makF "Receipt" F_Receipt___init__ [intsV c, dealsV ds, .tup []] st = .ok (rcV c ds []) st := make_ok (gs := []) (rc_nil h) hc
  have m1 : makF "Receipt" F_Receipt___init__ [intsV c, .tup [], .tup []] st = .ok (rcV c [] []) st := make_ok (ds := []) (gs := []) (rc_nil2 h) hc
  let L : List (List Deal × List Grp) := [(ds, gs), (ds, []), ([], []), (ds, gs), (ds, gs), (ds, []), ([], []), ([], [])]
  have hL : ∀ q ∈ L, RcOk c q.1 q.2 := fun q hq => by
    simp only [L, List.mem_cons, List.not_mem_nil, or_false] at hq
    rcases hq with rfl | rfl | rfl | rfl | rfl | rfl | rfl | rfl <;> first | exact h | exact rc_nil h | exact rc_nil2 h
  have c0 := lc_map (b := bName 8) (c := tOrF (tNotF (tV (eIsO [("Receipt", true)] (eVar 8)))) (tV (eOp neF (eCon "Receipt" "LIMIT" (.int 5) (eVar 8)) (eC (.int 5))))) (t := eC (.int 1)) (e := [.val (intsV c), .val (dealsV ds), .val (grpsV gs), .val k, .val (.lst D), x5, (.val (.lst (L.map (rcQ c)))), x7, .non]) (st := st) (rcQ c) (fun _ => false) (fun _ => .int 1) L fun q hq => by
    have i1 : isInsNo "Receipt" "LIMIT" st (rcV c q.1 q.2) = true := isInsNo_rc (by decide)
    have io := isOwn_rc (st := st) (c := c) (ds := q.1) (gs := q.2)
    refine ⟨[.val (intsV c), .val (dealsV ds), .val (grpsV gs), .val k, .val (.lst D), x5, (.val (.lst (L.map (rcQ c)))), x7, (.val (rcQ c q))], by simp, ?_, fun z => by cases z⟩
    simp [io, i1, neF_int]
  rw [List.filter_eq_nil_iff.mpr (fun _ _ => by simp)] at c0
  have c1 := lc_yes (b := bName 8) (t := eCall F__law_seen (aCons (eVar 8) aNil)) (e := [.val (intsV c), .val (dealsV ds), .val (grpsV gs), .val k, .val (.lst D), x5, (.val (.lst (L.map (rcQ c)))), x7, .non]) (st := st) (rcQ c) (dueQ c) L fun q hq => ⟨[.val (intsV c), .val (dealsV ds), .val (grpsV gs), .val k, .val (.lst D), x5, (.val (.lst (L.map (rcQ c)))), x7, (.val (rcQ c q))], by simp, by simp [seen_e (hL q hq)]⟩
  have c2 := lc_yes (b := bName 8) (t := eCall F__law_seen (aCons (eVar 8) aNil)) (e := [.val (intsV c), .val (dealsV ds), .val (grpsV gs), .val k, .val (.lst D), x5, (.val (.lst (L.map (rcQ c)))), (.val (.lst D)), .non]) (st := st) (rcQ c) (dueQ c) L fun q hq => ⟨[.val (intsV c), .val (dealsV ds), .val (grpsV gs), .val k, .val (.lst D), x5, (.val (.lst (L.map (rcQ c)))), (.val (.lst D)), (.val (rcQ c q))], by simp, by simp [seen_e (hL q hq)]⟩
  rw [show L.map (dueQ c) = D from hD.symm] at c1 c2
  have sD : Sm 5 116544 (.lst D) := by
    rw [hD]
    exact sm_lst (f := dueQ c) (l := L) (n := 8) (Nat.le_refl _) fun q hq => sm_due (hL q hq)
  have sS : Sm 6 233090 (.lst [.lst D, .lst D]) := sm_lstI (l := [.lst D, .lst D]) (n := 2) (Nat.le_refl _) fun x hx => by
    simp only [List.mem_cons, List.not_mem_nil, or_false, or_self] at hx
    subst hx
    exact sD
  have sm := same_e (st := st) (sS.same (by decide) (by decide))
  have n0 : neF (.lst []) (.lst []) = some (.bl false) := rfl
  have l0 : (0 : Nat) ≤ LINE := by decide
  have l2 : (2 : Nat) ≤ LINE := by decide
  have l3 : (3 : Nat) ≤ LINE := by decide
  have l3' : (3 : Nat) < LINE := by decide
  have ad : ∀ {l m : List PV}, l.length + m.length ≤ 16777216 → addF (.lst l) (.lst m) = some (.lst (l ++ m)) := fun {l m} h => by
    unfold addF
    dsimp only
    rw [if_pos (show l.length + m.length ≤ LINE from h)]
  have a1 := ad (l := [rcV c ds gs, rcV c ds [], rcV c [] [], rcV c ds gs]) (m := [rcV c ds gs, rcV c ds []]) (by simp)
  have a2 := ad (l := [rcV c ds gs, rcV c ds [], rcV c [] [], rcV c ds gs, rcV c ds gs, rcV c ds []]) (m := [rcV c [] [], rcV c [] []]) (by simp)
  simp only [L, List.map_cons, List.map_nil] at c0 c1 c2
  refine ⟨.val (.lst (L.map (rcQ c))), .val (.lst D), x8, ?_⟩
  unfold t__law_is_right_0 l__law_is_right_0 l__law_is_right_1 l__law_is_right_2
  simp [plan, Src.get, m1, m2, m3, l0, l2, l3, l3', a1, a2, c0, c1, c2, n0, sm, L]
theorem addF_lst {l m : List PV} (h : l.length + m.length ≤ 16777216) : addF (.lst l) (.lst m) = some (.lst (l ++ m)) := by
  unfold addF
  dsimp only
  rw [if_pos (show l.length + m.length ≤ LINE from h)]
theorem right_e (h : RcOk c ds gs) (hc : Cln st) : F__law_is_right [intsV c, dealsV ds, grpsV gs] st = .ok (.bl true) st := by
  obtain ⟨D, hD⟩ : ∃ D : List PV, D = [(ds, gs), (ds, []), ([], []), (ds, gs), (ds, gs), (ds, []), ([], []), ([], [])].map (dueQ c) := ⟨_, rfl⟩
  have l3 : (3 : Nat) ≤ LINE := by decide
  have l5 : (5 : Nat) ≤ LINE := by decide
  have s3 : Sm 4 6243 (.tup [intsV c, dealsV ds, grpsV gs]) := sm_tupI (l := [intsV c, dealsV ds, grpsV gs]) (d := 3) (w := 2080) (n := 3) (Nat.le_refl _) fun x hx => by
    simp only [List.mem_cons, List.not_mem_nil, or_false] at hx
    rcases hx with rfl | rfl | rfl
    · exact (sm_intsV h.cok.2.1 fun x hx => by have := h.cok.2.2 x hx; omega).mono (by decide) (by decide)
    · exact sm_deals h.cok h.dok
    · exact (sm_grps h.dok.1 h.gok).mono (by decide) (by decide)
  obtain ⟨y, ey⟩ := s3.same (by decide) (by decide)
  have d3 := due_e (st := st) h
  have d2 : F__law_due [intsV c, dealsV ds, .tup []] st = .ok (dueV c ds []) st := due_e (gs := []) (rc_nil h)
  have d1 : F__law_due [intsV c, .tup [], .tup []] st = .ok (dueV c [] []) st := due_e (ds := []) (gs := []) (rc_nil2 h)
  have x0 := at0 (dueV c ds gs) (dueV c ds []) (dueV c [] [])
  have x1 := at1 (dueV c ds gs) (dueV c ds []) (dueV c [] [])
  have x2 := at2 (dueV c ds gs) (dueV c ds []) (dueV c [] [])
  have a1 : addF (.lst [dueV c ds gs, dueV c ds [], dueV c [] []]) (.lst [dueV c ds gs, dueV c ds gs, dueV c ds [], dueV c [] [], dueV c [] []]) = some (.lst D) := by
    rw [addF_lst (by simp), hD]
    simp only [List.map_cons, List.map_nil, List.cons_append, List.nil_append]
  obtain ⟨e', st2, f1, f2, x5, x6, x7, x8, f3⟩ := for_inv (b := bName 5) (t := t__law_is_right_0) (fun xs e st' => st' = st ∧ ∃ x5 x6 x7 x8, e = [.val (intsV c), .val (dealsV ds), .val (grpsV gs), .val (.str y), .val (.lst D), x5, x6, x7, x8]) (fun x xs e st' ⟨h1, x5, x6, x7, x8, h2⟩ => by
    subst h1 h2
    obtain ⟨y6, y7, y8, q⟩ := turn_e (st := st') h hc (k := .str y) (D := D) (x5 := .val x) (x6 := x6) (x7 := x7) (x8 := x8) hD
    exact ⟨[.val (intsV c), .val (dealsV ds), .val (grpsV gs), .val (.str y), .val (.lst D), .val x, x6, x7, x8], [.val (intsV c), .val (dealsV ds), .val (grpsV gs), .val (.str y), .val (.lst D), .val x, y6, y7, y8], st', by simp, q, rfl, .val x, y6, y7, y8, rfl⟩) (rangeF 0 2) [.val (intsV c), .val (dealsV ds), .val (grpsV gs), .val (.str y), .val (.lst D), .non, .non, .non, .non] st ⟨rfl, .non, .non, .non, .non, rfl⟩
  subst f2 f3
  have r2 : -(LINE : Int) ≤ 2 ∧ (2 : Int) ≤ LINE := by
    have : (LINE : Int) = 16777216 := rfl
    omega
  unfold F__law_is_right mkFn f__law_is_right w__law_is_right_0
  simp [l3, l5, ey, d1, d2, d3, x0, x1, x2, a1, r2, f1, eqF_str]
end
end Q01
/-! RcG: nested groups, how they come about. -/
namespace Rc
open PySem PySem.Spec L2 PL
def Apart (a b : List Int) : Prop := ∀ x ∈ a, x ∉ b
theorem Apart.symm {a b : List Int} (h : Apart a b) : Apart b a := fun x h1 h2 => h x h2 h1
/-- blocks: apart, each rising and not empty, of numbers below m -/
structure Blocks (m : Nat) (B : List (List Int)) : Prop where
  ne : ∀ b ∈ B, b ≠ []
  up : ∀ b ∈ B, Rises b
  lt : ∀ b ∈ B, ∀ x ∈ b, 0 ≤ x ∧ x < m
  ap : B.Pairwise Apart
theorem Blocks.perm {m : Nat} {B C : List (List Int)} (h : Blocks m B) (p : C.Perm B) : Blocks m C :=
  ⟨fun b hb => h.ne b (p.mem_iff.mp hb), fun b hb => h.up b (p.mem_iff.mp hb), fun b hb => h.lt b (p.mem_iff.mp hb), (p.pairwise_iff fun h => h.symm).mpr h.ap⟩
/-- groups over blocks -/
structure Over (m : Nat) (B : List (List Int)) (G : List Grp) : Prop where
  ok : ∀ g ∈ G, GrpOk m g
  mt : G.Pairwise fun a b => Meet a.2 b.2
  inn : ∀ g ∈ G, ∃ b ∈ B, ∀ x ∈ g.2, x ∈ b
theorem Over.perm {m : Nat} {B C : List (List Int)} {G : List Grp} (h : Over m B G) (p : C.Perm B) : Over m C G :=
  ⟨h.ok, h.mt, fun g hg => let ⟨b, h1, h2⟩ := h.inn g hg; ⟨b, p.mem_iff.mpr h1, h2⟩⟩
theorem Meet.symm {a b : List Int} (h : Meet a b) : Meet b a := ⟨fun z => h.1 z.symm, by
  rcases h.2 with h | h | h
  · exact .inl (Apart.symm h)
  · exact .inr (.inr h)
  · exact .inr (.inl h)⟩
theorem rises_of {l : List Int} (h1 : l.Pairwise (· ≤ ·)) (h2 : l.Nodup) : Rises l := by
  induction l with
  | nil => exact .nil
  | cons x l ih =>
    have a := List.pairwise_cons.mp h1
    have b := List.nodup_cons.mp h2
    refine List.pairwise_cons.mpr ⟨fun y hy => ?_, ih a.2 b.2⟩
    have h3 := a.1 y hy
    have h4 : x ≠ y := fun e => b.1 (by rw [e]; exact hy)
    omega
theorem Rises.nodup {l : List Int} (h : Rises l) : l.Nodup := by
  induction l with
  | nil => exact .nil
  | cons x l ih =>
    have a := List.pairwise_cons.mp h
    refine List.nodup_cons.mpr ⟨fun hx => ?_, ih a.2⟩
    have := a.1 x hx
    omega
theorem flat_nodup : ∀ {S : List (List Int)}, (∀ b ∈ S, Rises b) → S.Pairwise Apart → S.flatten.Nodup
  | [], _, _ => .nil
  | b :: S, h, p => by
    have a := List.pairwise_cons.mp p
    rw [List.flatten_cons]
    refine List.nodup_append.mpr ⟨(h b List.mem_cons_self).nodup, flat_nodup (fun c hc => h c (List.mem_cons_of_mem _ hc)) a.2, fun x hx y hy e => ?_⟩
    obtain ⟨d, hd, hy⟩ := List.mem_flatten.mp hy
    subst e
    exact a.1 d hd x hx hy
/-- some blocks put together -/
theorem join_blocks {m : Nat} {S R : List (List Int)} (h : Blocks m (S ++ R)) (hS : S ≠ []) : Blocks m (R ++ [isort S.flatten]) ∧ Rises (isort S.flatten) := by
  have p := isort_perm S.flatten
  have mem : ∀ x, x ∈ isort S.flatten ↔ ∃ b ∈ S, x ∈ b := fun x => by rw [p.mem_iff, List.mem_flatten]
  have ap := List.pairwise_append.mp h.ap
  have up : Rises (isort S.flatten) := rises_of (isort_sorted _) (p.nodup_iff.mpr (flat_nodup (fun b hb => h.up b (List.mem_append_left _ hb)) ap.1))
  refine ⟨⟨fun b hb => ?_, fun b hb => ?_, fun b hb x hx => ?_, ?_⟩, up⟩
  · rcases List.mem_append.mp hb with hb | hb
    · exact h.ne b (List.mem_append_right _ hb)
    · rw [List.mem_singleton.mp hb]
      cases S with
      | nil => exact absurd rfl hS
      | cons s S =>
        cases s with
        | nil => exact absurd rfl (h.ne [] (by simp))
        | cons x s =>
          intro e
          have q := (mem x).mpr ⟨x :: s, List.mem_cons_self, List.mem_cons_self⟩
          rw [e] at q
          cases q
  · rcases List.mem_append.mp hb with hb | hb
    · exact h.up b (List.mem_append_right _ hb)
    · rw [List.mem_singleton.mp hb]
      exact up
  · rcases List.mem_append.mp hb with hb | hb
    · exact h.lt b (List.mem_append_right _ hb) x hx
    · rw [List.mem_singleton.mp hb] at hx
      obtain ⟨c, hc, hx⟩ := (mem x).mp hx
      exact h.lt c (List.mem_append_left _ hc) x hx
  · refine List.pairwise_append.mpr ⟨ap.2.1, List.pairwise_singleton _ _, fun b hb c hc => ?_⟩
    rw [List.mem_singleton.mp hc]
    intro x hx hx2
    obtain ⟨d, hd, hx3⟩ := (mem x).mp hx2
    exact ap.2.2 d hd b hb x hx3 hx
theorem join_over {m : Nat} {S R : List (List Int)} {G : List Grp} (h : Blocks m (S ++ R)) (o : Over m (S ++ R) G) : Over m (R ++ [isort S.flatten]) G := by
  refine ⟨o.ok, o.mt, fun g hg => ?_⟩
  obtain ⟨b, hb, hx⟩ := o.inn g hg
  rcases List.mem_append.mp hb with hb | hb
  · exact ⟨isort S.flatten, by simp, fun x hx' => (isort_perm _).mem_iff.mpr (List.mem_flatten.mpr ⟨b, hb, hx x hx'⟩)⟩
  · exact ⟨b, by simp [hb], hx⟩
/-- .. and told as a group -/
theorem join_new {m : Nat} {S R : List (List Int)} {G : List Grp} {k : Int} (h : Blocks m (S ++ R)) (hS : S ≠ []) (o : Over m (S ++ R) G) (hn : ∀ g ∈ G, g.2 ≠ isort S.flatten) (hk : 0 ≤ k ∧ k ≤ 5) : Over m (R ++ [isort S.flatten]) (G ++ [(k, isort S.flatten)]) := by
  obtain ⟨b1, up⟩ := join_blocks h hS
  have o1 := join_over h o
  have ap := List.pairwise_append.mp b1.ap
  refine ⟨fun g hg => ?_, List.pairwise_append.mpr ⟨o1.mt, List.pairwise_singleton _ _, fun a ha g hg => ?_⟩, fun g hg => ?_⟩
  · rcases List.mem_append.mp hg with hg | hg
    · exact o.ok g hg
    · rw [List.mem_singleton.mp hg]
      exact ⟨hk.1, hk.2, b1.ne _ (by simp), up, b1.lt _ (by simp)⟩
  · rw [List.mem_singleton.mp hg]
    refine ⟨hn a ha, ?_⟩
    obtain ⟨b, hb, hx⟩ := o1.inn a ha
    rcases List.mem_append.mp hb with hb | hb
    · exact .inl fun x h1 h2 => ap.2.2 b hb _ (List.mem_singleton.mpr rfl) x (hx x h1) h2
    · rw [List.mem_singleton.mp hb] at hx
      exact .inr (.inl hx)
  · rcases List.mem_append.mp hg with hg | hg
    · exact o1.inn g hg
    · rw [List.mem_singleton.mp hg]
      exact ⟨_, by simp, fun x hx => hx⟩
/-- single deals -/
def singles (m : Nat) : List (List Int) := (List.range m).map fun i : Nat => [(i : Int)]
theorem singles_ok (m : Nat) : Blocks m (singles m) := by
  have get : ∀ b ∈ singles m, ∃ i : Nat, i < m ∧ b = [(i : Int)] := fun b hb => by
    obtain ⟨i, hi, rfl⟩ := List.mem_map.mp hb
    exact ⟨i, List.mem_range.mp hi, rfl⟩
  refine ⟨fun b hb => ?_, fun b hb => ?_, fun b hb x hx => ?_, ?_⟩
  · obtain ⟨i, _, rfl⟩ := get b hb
    simp
  · obtain ⟨i, _, rfl⟩ := get b hb
    exact List.pairwise_singleton _ _
  · obtain ⟨i, hi, rfl⟩ := get b hb
    rw [List.mem_singleton.mp hx]
    omega
  · refine List.pairwise_map.mpr (List.Pairwise.imp (fun {a b} hab => ?_) List.pairwise_lt_range)
    intro x hx hy
    have e1 := List.mem_singleton.mp hx
    have e2 := List.mem_singleton.mp hy
    omega
theorem over_nil {m : Nat} {B : List (List Int)} : Over m B [] := ⟨by simp, .nil, by simp⟩
theorem grps_of {m : Nat} {B : List (List Int)} {G H : List Grp} (o : Over m B G) (hl : G.length ≤ 5) (p : H.Perm G) : GrpsOk m H :=
  ⟨by rw [p.length_eq]; exact hl, fun g hg => o.ok g (p.mem_iff.mp hg), (p.pairwise_iff fun h => h.symm).mpr o.mt⟩
/-! ### values, once more -/
theorem forLoop_nx {b : BF} {t : SF} {x : PV} {xs : List PV} {e e1 e2 : PL.Env} {st st2 : Sto} (h1 : b x e = some e1) (h2 : t e1 st = .nx e2 st2) : forLoop b t (x :: xs) e st = forLoop b t xs e2 st2 := by
  have key : ∀ r, forLoop b t xs e2 st2 = r → forLoop b t (x :: xs) e st = r := fun r h => by
    unfold forLoop
    rw [h1]
    dsimp only
    rw [h2]
    exact h
  exact key _ rfl
theorem lcLoop_ok {b : BF} {t : EF PV} {x y : PV} {xs ys : List PV} {e e1 : PL.Env} {st st2 st3 : Sto} (h1 : b x e = some e1) (h2 : t e1 st = .ok y st2) (h3 : lcLoop b tYesF t e xs st2 = .ok ys st3) : lcLoop b tYesF t e (x :: xs) st = .ok (y :: ys) st3 := by
  unfold lcLoop
  rw [h1]
  simp [h2, h3]
theorem sortedF_ints (l : List Int) : sortedF [.tup (l.map PV.int)] = some ((isort l).map PV.int) := by
  have : intsOf (l.map PV.int) = some l := by
    induction l with
    | nil => rfl
    | cons i l ih =>
      show (intsOf (l.map PV.int)).map _ = _
      rw [ih]
      rfl
  show (intsOf (l.map PV.int)).map _ = _
  rw [this]
  rfl
theorem eraseIdx_mapE {α β : Type} (v : α → β) : ∀ (l : List α) (k : Nat), (l.map v).eraseIdx k = (l.eraseIdx k).map v
  | [], _ => rfl
  | _ :: _, 0 => rfl
  | x :: l, k + 1 => by
    show v x :: (l.map v).eraseIdx k = v x :: (l.eraseIdx k).map v
    rw [eraseIdx_mapE v l k]
theorem get_erase {α : Type} : ∀ (l : List α) (k : Nat) (h : k < l.length), (l[k] :: l.eraseIdx k).Perm l
  | [], _, h => by cases h
  | x :: l, 0, _ => List.Perm.refl _
  | x :: l, k + 1, h => by
    have ih := get_erase l k (by simpa using h)
    exact (List.Perm.swap x _ _).trans (ih.cons x)
theorem popAt_map {α : Type} (v : α → PV) {l : List α} {i : Int} (h0 : 0 ≤ i) (h1 : i < l.length) : ∃ x r, popAt (l.map v) i = some (v x, r.map v) ∧ (x :: r).Perm l ∧ r.length + 1 = l.length := by
  obtain ⟨k, rfl⟩ := Int.eq_ofNat_of_zero_le h0
  have hk : k < l.length := by omega
  refine ⟨l[k], l.eraseIdx k, ?_, get_erase l k hk, by rw [List.length_eraseIdx_of_lt hk]; omega⟩
  unfold popAt ixN
  simp [hk, eraseIdx_mapE]
theorem toDs_ivs : ∀ l : List (List Int), toDs (l.map intsV) = some (l.map fun a => .tuple (a.map PyData.int))
  | [] => by unfold List.map toDs; rfl
  | a :: l => by
    rw [List.map_cons]
    unfold toDs
    rw [toD_intsV, toDs_ivs l]
    rfl
theorem shaped_ivs (l : List (List Int)) : SeqAt.shaped (.list (l.map fun a => .tuple (a.map PyData.int))) = true := by
  have h1 : ∀ l : List (List Int), PyData.canLayAll0 (l.map fun a => .tuple (a.map PyData.int)) = true := fun l => by
    induction l with
    | nil => rfl
    | cons a l ih =>
      show (PyData.canLayAll0 (a.map PyData.int) && PyData.canLayAll0 _) = true
      rw [canLay_ints, ih]
      rfl
  have h2 : ∀ l : List (List Int), PyData.depthAll (l.map fun a => .tuple (a.map PyData.int)) ≤ 1 := fun l => by
    induction l with
    | nil => exact Nat.zero_le _
    | cons a l ih =>
      show max (PyData.depthAll (a.map PyData.int) + 1) (PyData.depthAll _) ≤ 1
      rw [depth_ints]
      exact Nat.max_le.mpr ⟨Nat.le_refl _, ih⟩
  unfold SeqAt.shaped
  simp only [Bool.and_eq_true, decide_eq_true_eq]
  refine ⟨h1 l, ?_⟩
  show PyData.depthAll _ + 1 ≤ 64
  have := h2 l
  omega
theorem notin_ivs (a : List Int) (l : List (List Int)) : inD (fun b => !b) (intsV a) (.lst (l.map intsV)) = some (.bl (!decide (a ∈ l))) := by
  unfold inD
  dsimp only
  rw [toD_intsV, toDs_ivs]
  dsimp only
  rw [if_pos ⟨shaped_ints a, shaped_ivs l⟩, List.any_map]
  congr 3
  rw [Bool.eq_iff_iff]
  simp only [List.any_eq_true, decide_eq_true_eq, Function.comp]
  constructor
  · rintro ⟨b, hb, e⟩
    have e : PyData.eqvAll (b.map PyData.int) (a.map PyData.int) = true := e
    rw [eqvAll_ints] at e
    rw [← of_decide_eq_true e]
    exact hb
  · intro h
    refine ⟨a, h, ?_⟩
    show PyData.eqvAll (a.map PyData.int) (a.map PyData.int) = true
    rw [eqvAll_ints]
    simp
/-! ### fixed receipts -/
def dealB (c : List Int) (d : Deal) : Bool := d.all (fun p => decide (0 ≤ p.1) && (decide (p.1 < c.length) && (decide (1 ≤ p.2) && (match c[p.1.toNat]? with
  | some x => decide (p.2 ≤ x)
  | none => false)))) && decide ((d.map (·.1)).Pairwise (· < ·))
theorem dealB_ok {c : List Int} {d : Deal} (h : dealB c d = true) : DealOk c d := by
  unfold dealB at h
  rw [Bool.and_eq_true] at h
  have h3 : (d.map (·.1)).Pairwise (· < ·) := of_decide_eq_true h.2
  refine ⟨fun p hp => ?_, h3⟩
  have q := List.all_eq_true.mp h.1 p hp
  simp only [Bool.and_eq_true, decide_eq_true_eq] at q
  obtain ⟨q1, q2, q3, q4⟩ := q
  refine ⟨q1, q2, q3, ?_⟩
  cases e : c[p.1.toNat]? with
  | none => rw [e] at q4; cases q4
  | some x => rw [e] at q4; exact ⟨x, rfl, of_decide_eq_true q4⟩
def meetB (a b : List Int) : Bool := decide (a ≠ b) && (a.all (fun x => !b.contains x) || (a.all (fun x => b.contains x) || b.all fun x => a.contains x))
theorem meetB_ok {a b : List Int} (h : meetB a b = true) : Meet a b := by
  unfold meetB at h
  simp only [Bool.and_eq_true, Bool.or_eq_true, decide_eq_true_eq, List.all_eq_true, Bool.not_eq_true', List.contains_eq_mem, decide_eq_false_iff_not] at h
  exact h
def pairB {α : Type} (r : α → α → Bool) : List α → Bool
  | [] => true
  | x :: l => l.all (r x) && pairB r l
theorem pairB_ok {α : Type} {r : α → α → Bool} {R : α → α → Prop} (hr : ∀ x y, r x y = true → R x y) : ∀ {l : List α}, pairB r l = true → l.Pairwise R
  | [], _ => .nil
  | x :: l, h => by
    unfold pairB at h
    rw [Bool.and_eq_true] at h
    exact List.pairwise_cons.mpr ⟨fun y hy => hr x y (List.all_eq_true.mp h.1 y hy), pairB_ok hr h.2⟩
def grpB (m : Nat) (g : Grp) : Bool := decide (0 ≤ g.1) && (decide (g.1 ≤ 5) && (!g.2.isEmpty && (decide (g.2.Pairwise (· < ·)) && g.2.all fun x => decide (0 ≤ x ∧ x < m))))
theorem grpB_ok {m : Nat} {g : Grp} (h : grpB m g = true) : GrpOk m g := by
  unfold grpB at h
  simp only [Bool.and_eq_true, decide_eq_true_eq, Bool.not_eq_true', List.isEmpty_eq_false_iff, List.all_eq_true] at h
  exact h
def rcB (c : List Int) (ds : List Deal) (gs : List Grp) : Bool := decide (1 ≤ c.length) && (decide (c.length ≤ 5) && (c.all (fun x => decide (1 ≤ x ∧ x ≤ 9999)) && (decide (ds.length ≤ 5) && (ds.all (dealB c) && (decide (gs.length ≤ 5) && (gs.all (grpB ds.length) && pairB (fun a b => meetB a.2 b.2) gs))))))
theorem rcB_ok {c : List Int} {ds : List Deal} {gs : List Grp} (h : rcB c ds gs = true) : RcOk c ds gs := by
  unfold rcB at h
  simp only [Bool.and_eq_true, decide_eq_true_eq, List.all_eq_true] at h
  obtain ⟨h1, h2, h3, h4, h5, h6, h7, h8⟩ := h
  exact ⟨⟨h1, h2, h3⟩, ⟨h4, fun d hd => dealB_ok (h5 d hd)⟩, h6, fun g hg => grpB_ok (h7 g hg), pairB_ok (fun x y => meetB_ok) h8⟩
end Rc
namespace Q01
open PySem PySem.Spec L2 PL Rc
/-! ### drawn -/
section
variable {n : Nat}
/-- a deal's turns -/
theorem deal_loop {c : List Int} (hc : CostsOk c) {most : Int} (hm : 1 ≤ most) (hm2 : most ≤ 9999) : ∀ (rest pre : List Int) (st : Sto) (m : Nat) (d : Deal) (x4 x5 : EV), c = pre ++ rest → PenAt st n m → m + 2 * rest.length ≤ 900000 →
    (∀ p ∈ d, 0 ≤ p.1 ∧ p.1 < pre.length ∧ 1 ≤ p.2 ∧ ∃ x, c[p.1.toNat]? = some x ∧ p.2 ≤ x) → Rises (d.map (·.1)) → d.length ≤ pre.length →
    ∃ d' st' y4 y5, forLoop (bTup ((bName 4) :: ((bName 5) :: []))) t__law_deal_0 (enumF pre.length (rest.map PV.int)) [.val (.gl n), .val (intsV c), .val (.int most), .own (d.map pairV), x4, x5] st = .nx [.val (.gl n), .val (intsV c), .val (.int most), .own (d'.map pairV), y4, y5] st' ∧ DealOk c d' ∧ d'.length ≤ c.length ∧ PenAt st' n (m + 2 * rest.length) ∧ Same n st st'
  | [], pre, st, m, d, x4, x5, hp, P, _, h1, h2, h3 => by
    rw [List.append_nil] at hp
    subst hp
    exact ⟨d, st, x4, x5, rfl, ⟨h1, h2⟩, h3, P, .refl⟩
  | x :: rest, pre, st, m, d, x4, x5, hp, P, hk, h1, h2, h3 => by
    rw [List.length_cons] at hk
    have hx : c[pre.length]? = some x := by rw [hp]; simp
    have hxb := hc.2.2 x (List.mem_of_getElem? hx)
    have hp' : c = (pre ++ [x]) ++ rest := by rw [hp]; simp
    have c5 := hc.2.1
    have pl : pre.length < 5 := by rw [hp, List.length_append, List.length_cons] at c5; omega
    obtain ⟨a, s1, e1, a0, a1, P1, S1⟩ := draw_spec (k := 3) P (by omega) (by decide) (by decide)
    have en : enumF pre.length ((x :: rest).map PV.int) = .tup [.int (pre.length : Int), .int x] :: enumF (pre ++ [x]).length (rest.map PV.int) := by
      rw [List.length_append]
      rfl
    have step : ∀ (d2 : Deal) (s2 : Sto) (k2 : Nat), PenAt s2 n k2 → k2 ≤ m + 2 → Same n st s2 → (∀ p ∈ d2, 0 ≤ p.1 ∧ p.1 < (pre ++ [x]).length ∧ 1 ≤ p.2 ∧ ∃ x, c[p.1.toNat]? = some x ∧ p.2 ≤ x) → Rises (d2.map (·.1)) → d2.length ≤ (pre ++ [x]).length →
        t__law_deal_0 [.val (.gl n), .val (intsV c), .val (.int most), .own (d.map pairV), .val (.int (pre.length : Int)), .val (.int x)] st = .nx [.val (.gl n), .val (intsV c), .val (.int most), .own (d2.map pairV), .val (.int (pre.length : Int)), .val (.int x)] s2 →
        ∃ d' st' y4 y5, forLoop (bTup ((bName 4) :: ((bName 5) :: []))) t__law_deal_0 (enumF pre.length ((x :: rest).map PV.int)) [.val (.gl n), .val (intsV c), .val (.int most), .own (d.map pairV), x4, x5] st = .nx [.val (.gl n), .val (intsV c), .val (.int most), .own (d'.map pairV), y4, y5] st' ∧ DealOk c d' ∧ d'.length ≤ c.length ∧ PenAt st' n (m + 2 * (rest.length + 1)) ∧ Same n st st' := by
      intro d2 s2 k2 P2 hk2 S2 q1 q2 q3 ht
      obtain ⟨d', st', y4, y5, f1, f2, f3, f4, f5⟩ := deal_loop hc hm hm2 rest (pre ++ [x]) s2 (m + 2) d2 (.val (.int (pre.length : Int))) (.val (.int x)) hp' (P2.mono hk2) (by omega) q1 q2 q3
      refine ⟨d', st', y4, y5, ?_, f2, f3, f4.mono (by omega), S2.trans f5⟩
      rw [en, forLoop_nx (by simp) ht]
      exact f1
    by_cases ha : 0 < a
    · have hmin : minF [.int x, .int most] = some (.int (if most < x then most else x)) := rfl
      obtain ⟨b, s2, e2, b0, b1, P2, S2⟩ := draw_spec (k := if most < x then most else x) P1 (by omega) (by split <;> omega) (by split <;> omega)
      have bx : 1 + b ≤ x := by split at b1 <;> omega
      refine step (d ++ [((pre.length : Int), 1 + b)]) s2 _ P2 (by omega) (S1.trans S2) (fun p hq => ?_) ?_ (by rw [List.length_append, List.length_append]; simp; exact h3) ?_
      · rcases List.mem_append.mp hq with hq | hq
        · obtain ⟨k1, k2, k3⟩ := h1 p hq
          exact ⟨k1, by rw [List.length_append]; simp; omega, k3⟩
        · rw [List.mem_singleton.mp hq]
          exact ⟨by simp, by simp; omega, by show (1:Int) ≤ 1 + b; omega, x, by simpa using hx, bx⟩
      · unfold Rises
        rw [List.map_append]
        refine List.pairwise_append.mpr ⟨h2, List.pairwise_singleton _ _, fun y hy z hz => ?_⟩
        obtain ⟨p, hq, rfl⟩ := List.mem_map.mp hy
        have := (h1 p hq).2.1
        have ez : z = (pre.length : Int) := by simpa using hz
        rw [ez]
        exact this
      · have l2 : (2 : Nat) ≤ LINE := by decide
        have hd : d.length < LINE := by show d.length < 16777216; omega
        unfold t__law_deal_0
        simp [e1, ha, hmin, e2, l2, hd]
    · refine step d s1 _ P1 (by omega) S1 (fun p hq => ?_) h2 (by rw [List.length_append]; omega) ?_
      · obtain ⟨k1, k2, k3⟩ := h1 p hq
        exact ⟨k1, by rw [List.length_append]; simp; omega, k3⟩
      · unfold t__law_deal_0
        simp [e1, ha]
theorem deal_spec {c : List Int} (hc : CostsOk c) {most : Int} (hm : 1 ≤ most) (hm2 : most ≤ 9999) {st : Sto} {m : Nat} (P : PenAt st n m) (hk : m ≤ 800000) :
    ∃ d st', F__law_deal [.gl n, intsV c, .int most] st = .ok (dealV d) st' ∧ DealOk c d ∧ PenAt st' n (m + 10) ∧ Same n st st' := by
  have c5 := hc.2.1
  obtain ⟨d, st', y4, y5, e, f2, f3, f4, f5⟩ := deal_loop hc hm hm2 c [] st m [] .non .non rfl P (by omega) (by simp) .nil (by simp)
  have l0 : (0 : Nat) ≤ LINE := by decide
  refine ⟨d, st', ?_, f2, f4.mono (by omega), f5⟩
  simp only [List.map_nil, List.length_nil] at e
  unfold F__law_deal mkFn f__law_deal w__law_deal_0
  simp [l0, e, tupF]
/-- mixed -/
theorem mix_loop {α : Type} (v : α → PV) {l : List α} {T : PV} : ∀ (items : List PV) (R D : List α) (st : Sto) (m : Nat) (x4 : EV), PenAt st n m → m + items.length ≤ 900000 → R.length = items.length → (D ++ R).Perm l → l.length ≤ 1000 →
    ∃ (D' : List α) (st' : Sto) (y4 : EV), forLoop (bName 4) t__law_mixed_0 items [.val (.gl n), .val T, .own (R.map v), .own (D.map v), x4] st = .nx [.val (.gl n), .val T, .own [], .own (D'.map v), y4] st' ∧ D'.Perm l ∧ PenAt st' n (m + items.length) ∧ Same n st st'
  | [], R, D, st, m, x4, P, _, hR, hp, _ => by
    have e : R = [] := List.eq_nil_of_length_eq_zero hR
    subst e
    rw [List.append_nil] at hp
    exact ⟨D, st, x4, rfl, hp, P, .refl⟩
  | x :: items, R, D, st, m, x4, P, hk, hR, hp, hl => by
    rw [List.length_cons] at hk hR
    have hRl : R.length ≤ l.length := by rw [← hp.length_eq, List.length_append]; omega
    have hDl : D.length ≤ l.length := by rw [← hp.length_eq, List.length_append]; omega
    obtain ⟨a, s1, e1, a0, a1, P1, S1⟩ := draw_spec (k := (R.length : Int)) P (by omega) (by omega) (by omega)
    obtain ⟨y, r, q1, q2, q3⟩ := popAt_map v a0 a1
    have hp2 : ((D ++ [y]) ++ r).Perm l := by
      refine List.Perm.trans ?_ hp
      rw [List.append_assoc]
      exact List.Perm.append_left D q2
    obtain ⟨D', st', y4, f1, f2, f3, f4⟩ := mix_loop v items r (D ++ [y]) s1 (m + 1) (.val x) P1 (by omega) (by omega) hp2 hl
    refine ⟨D', st', y4, ?_, f2, f3.mono (by rw [List.length_cons]; omega), S1.trans f4⟩
    have hd : (D.map v).length < LINE := by rw [List.length_map]; show D.length < 16777216; omega
    have ht : t__law_mixed_0 [.val (.gl n), .val T, .own (R.map v), .own (D.map v), .val x] st = .nx [.val (.gl n), .val T, .own (r.map v), .own ((D ++ [y]).map v), .val x] s1 := by
      have hd2 : D.length < LINE := by rwa [List.length_map] at hd
      unfold t__law_mixed_0
      simp [e1, q1, hd2]
    rw [forLoop_nx (by simp) ht]
    exact f1
theorem mixed_spec {α : Type} (v : α → PV) {l : List α} {st : Sto} {m : Nat} (P : PenAt st n m) (hk : m ≤ 800000) (hl : l.length ≤ 1000) :
    ∃ (l' : List α) (st' : Sto), F__law_mixed [.gl n, .lst (l.map v)] st = .ok (.lst (l'.map v)) st' ∧ l'.Perm l ∧ PenAt st' n (m + l.length) ∧ Same n st st' := by
  have hr : (rangeF 0 l.length).length = l.length := rangeF_len ..
  obtain ⟨l', st', y4, f1, f2, f3, f4⟩ := mix_loop v (T := .lst (l.map v)) (rangeF 0 l.length) l [] st m .non P (by rw [hr]; omega) hr.symm (by simp) hl
  rw [hr] at f3
  refine ⟨l', st', ?_, f2, f3, f4⟩
  have l0 : (0 : Nat) ≤ LINE := by decide
  have r : -(LINE : Int) ≤ (l.length : Int) ∧ (l.length : Int) ≤ LINE := by
    have : (LINE : Int) = 16777216 := rfl
    omega
  simp only [List.map_nil] at f1
  unfold F__law_mixed mkFn f__law_mixed w__law_mixed_0
  simp [listF, l0, r, f1]
end
end Q01
namespace Q01
open PySem PySem.Spec L2 PL Rc
/-! ### nested groups -/
section
variable {n b : Nat}
theorem glBs_ivs : ∀ (l : List (List Int)) (k : Nat), glBs k (l.map intsV) = true
  | [], _ => by unfold List.map glBs; rfl
  | a :: l, k => by
    rw [List.map_cons]
    unfold glBs
    rw [glBs_ivs l k, Bool.and_true]
    unfold glB
    exact glBs_ints a k
theorem PenAt.setB {st : Sto} {m : Nat} {l : List PV} (P : PenAt st n m) (hb : b ≠ n) (hl : glBs 0 l = true) : PenAt (st.set b (.lst l)) n m := by
  obtain ⟨⟨a, x, y, h1, h2⟩, hc⟩ := P
  exact ⟨⟨a, x, y, by rw [List.getElem?_set_ne hb]; exact h1, h2⟩, hc.set hl⟩
theorem pop_loop {x1 x3 x4 x5 x6 x7 x8 x9 x11 : EV} (hb : b ≠ n) : ∀ (items : List PV) (B : List (List Int)) (st : Sto) (m : Nat), PenAt st n m → m + items.length ≤ 900000 → st[b]? = some (.lst (B.map intsV)) → items.length ≤ B.length → B.length ≤ 1000 →
    ∃ (S R : List (List Int)) (st' : Sto), lcLoop (bName 10) tYesF (ePopG (eVar 2) (eCall F__law_draw (aCons (eVar 0) (aCons (eLenG (eVar 2)) aNil)))) [.val (.gl n), x1, .val (.gl b), x3, x4, x5, x6, x7, x8, x9, .non, x11] items st = .ok (S.map intsV) st' ∧ (S ++ R).Perm B ∧ S.length = items.length ∧ st'[b]? = some (.lst (R.map intsV)) ∧ PenAt st' n (m + items.length)
  | [], B, st, m, P, _, hB, _, _ => ⟨[], B, st, rfl, List.Perm.refl _, rfl, hB, P⟩
  | x :: items, B, st, m, P, hk, hB, hi, hl => by
    rw [List.length_cons] at hk hi
    obtain ⟨a, s1, e1, a0, a1, P1, S1⟩ := draw_spec (k := (B.length : Int)) P (by omega) (by omega) (by omega)
    have hB1 : s1[b]? = some (.lst (B.map intsV)) := by rw [S1.2 b hb]; exact hB
    obtain ⟨y, r, q1, q2, q3⟩ := popAt_map intsV a0 a1
    have bl : b < s1.length := (List.getElem?_eq_some_iff.mp hB1).1
    obtain ⟨S, R, st', f1, f2, f3, f4, f5⟩ := pop_loop hb items r (s1.set b (.lst (r.map intsV))) (m + 1) (P1.setB hb (glBs_ivs r 0)) (by omega) (by rw [List.getElem?_set_self bl]) (by omega) (by omega)
    refine ⟨y :: S, R, st', ?_, (f2.cons y).trans q2, by rw [List.length_cons, List.length_cons, f3], f4, f5.mono (by rw [List.length_cons]; omega)⟩
    have ht : ePopG (eVar 2) (eCall F__law_draw (aCons (eVar 0) (aCons (eLenG (eVar 2)) aNil))) [.val (.gl n), x1, .val (.gl b), x3, x4, x5, x6, x7, x8, x9, .val x, x11] st = .ok (intsV y) (s1.set b (.lst (r.map intsV))) := by
      simp [lstAt_gl hB, lstAt_gl hB1, e1, q1]
    exact lcLoop_ok (by simp) ht f1
theorem wide_loop {x0 x1 x2 x3 x4 x5 x6 x9 x10 x11 : EV} {st : Sto} : ∀ (S : List (List Int)) (W : List Int) (x8 : EV), W.length + S.flatten.length ≤ 1000 →
    ∃ y8, forLoop (bName 8) t__law_groups_0 (S.map intsV) [x0, x1, x2, x3, x4, x5, x6, .val (intsV W), x8, x9, x10, x11] st = .nx [x0, x1, x2, x3, x4, x5, x6, .val (intsV (W ++ S.flatten)), y8, x9, x10, x11] st
  | [], W, x8, _ => ⟨x8, by rw [List.flatten_nil, List.append_nil]; rfl⟩
  | s :: S, W, x8, h => by
    rw [List.flatten_cons, List.length_append] at h
    obtain ⟨y8, f⟩ := wide_loop (x0 := x0) (x1 := x1) (x2 := x2) (x3 := x3) (x4 := x4) (x5 := x5) (x6 := x6) (x9 := x9) (x10 := x10) (x11 := x11) (st := st) S (W ++ s) (.val (intsV s)) (by rw [List.length_append]; omega)
    have ad : addF (intsV W) (intsV s) = some (intsV (W ++ s)) := by
      have := addF_tup (l := W.map PV.int) (m := s.map PV.int) (by rw [List.length_map, List.length_map]; omega)
      rw [← List.map_append] at this
      exact this
    have ht : t__law_groups_0 [x0, x1, x2, x3, x4, x5, x6, .val (intsV W), .val (intsV s), x9, x10, x11] st = .nx [x0, x1, x2, x3, x4, x5, x6, .val (intsV (W ++ s)), .val (intsV s), x9, x10, x11] st := by
      unfold t__law_groups_0
      simp [ad]
    refine ⟨y8, ?_⟩
    rw [List.map_cons, forLoop_nx (by simp) ht, f, List.flatten_cons, List.append_assoc]
theorem grp_turn (hb : b ≠ n) {many : Nat} (hm : many ≤ 5) {B : List (List Int)} {G : List Grp} {st : Sto} {m : Nat} {x4 x5 x6 x7 x8 x9 x10 x11 : EV} (P : PenAt st n m) (hk : m ≤ 800000) (hB : st[b]? = some (.lst (B.map intsV))) (hl : B.length ≤ 5) (bo : Blocks many B) (go : Over many B G) (gl : G.length ≤ 100) :
    ∃ (B' : List (List Int)) (G' : List Grp) (st' : Sto) (y5 y6 y7 y8 y9 y10 y11 : EV), t__law_groups_1 [.val (.gl n), .val (.int (many : Int)), .val (.gl b), .own (G.map grpV), x4, x5, x6, x7, x8, x9, x10, x11] st = .nx [.val (.gl n), .val (.int (many : Int)), .val (.gl b), .own (G'.map grpV), x4, y5, y6, y7, y8, y9, y10, y11] st' ∧
      PenAt st' n (m + 10) ∧ st'[b]? = some (.lst (B'.map intsV)) ∧ B'.length ≤ 5 ∧ Blocks many B' ∧ Over many B' G' ∧ G'.length ≤ G.length + 1 := by
  obtain ⟨a, s1, e1, a0, a1, P1, S1⟩ := draw_spec (k := 3) P (by omega) (by decide) (by decide)
  have hB1 : s1[b]? = some (.lst (B.map intsV)) := by rw [S1.2 b hb]; exact hB
  have hmin : minF [.int (B.length : Int), .int (1 + a)] = some (.int (if 1 + a < (B.length : Int) then 1 + a else (B.length : Int))) := rfl
  generalize hsz : (if 1 + a < (B.length : Int) then 1 + a else (B.length : Int)) = sz at hmin
  have z1 : sz ≤ B.length := by rw [← hsz]; split <;> omega
  have z0 : 0 ≤ sz := by rw [← hsz]; split <;> omega
  have z3 : sz ≤ 3 := by rw [← hsz]; split <;> omega
  by_cases hz : 0 < sz
  · have hr : (rangeF 0 sz.toNat).length = sz.toNat := rangeF_len ..
    have rng : -(LINE : Int) ≤ sz ∧ sz ≤ LINE := by
      have : (LINE : Int) = 16777216 := rfl
      omega
    obtain ⟨S, R, s2, f1, f2, f3, f4, P2⟩ := pop_loop (x1 := .val (.int (many : Int))) (x3 := .own (G.map grpV)) (x4 := x4) (x5 := .val (.int sz)) (x6 := x6) (x7 := x7) (x8 := x8) (x9 := x9) (x11 := x11) hb (rangeF 0 sz.toNat) B s1 (m + 1) P1 (by rw [hr]; omega) hB1 (by rw [hr]; omega) (by omega)
    rw [hr] at f3 P2
    have hS : S ≠ [] := fun e => by rw [e] at f3; simp at f3; omega
    have bo2 := bo.perm f2
    have go2 := go.perm f2
    obtain ⟨b3, up⟩ := join_blocks bo2 hS
    have wl : (isort S.flatten).length ≤ 5 := by
      have := rises_le (lo := 0) (m := (many : Int)) up (b3.lt _ (by simp))
      omega
    have fl : S.flatten.length ≤ 5 := by rw [← (isort_perm S.flatten).length_eq]; exact wl
    obtain ⟨y8, g1⟩ := wide_loop (x0 := .val (.gl n)) (x1 := .val (.int (many : Int))) (x2 := .val (.gl b)) (x3 := .own (G.map grpV)) (x4 := x4) (x5 := .val (.int sz)) (x6 := .val (.lst (S.map intsV))) (x9 := x9) (x10 := x10) (x11 := x11) (st := s2) S [] x8 (by rw [List.length_nil]; omega)
    rw [List.nil_append, show intsV ([] : List Int) = PV.tup [] from rfl] at g1
    have bl : b < s2.length := (List.getElem?_eq_some_iff.mp f4).1
    have so := sortedF_ints S.flatten
    have rl : R.length ≤ 5 := by have := f2.length_eq; rw [List.length_append] at this; omega
    have rl2 : R.length < LINE := by show R.length < 16777216; omega
    have mp : R.map intsV ++ [intsV (isort S.flatten)] = (R ++ [isort S.flatten]).map intsV := by simp
    have l0 : (0 : Nat) ≤ LINE := by decide
    have l2 : (2 : Nat) ≤ LINE := by decide
    obtain ⟨s3, hs3⟩ : ∃ s3 : Sto, s2.set b (.lst (R.map intsV ++ [intsV (isort S.flatten)])) = s3 := ⟨_, rfl⟩
    have P3 : PenAt s3 n (m + 1 + sz.toNat) := by
      rw [← hs3, mp]
      exact P2.setB hb (glBs_ivs _ 0)
    have hB3 : s3[b]? = some (.lst ((R ++ [isort S.flatten]).map intsV)) := by
      rw [← hs3, mp]
      exact List.getElem?_set_self bl
    have nl : (R ++ [isort S.flatten]).length ≤ 5 := by
      have := f2.length_eq
      rw [List.length_append] at this ⊢
      have : 0 < S.length := List.length_pos_iff.mpr hS
      simp only [List.length_singleton]
      omega
    have c2 := lc_yes (b := bName 11) (t := eIx (eVar 11) (eC (.int 1))) (e := [.val (.gl n), .val (.int (many : Int)), .val (.gl b), .own (G.map grpV), x4, .val (.int sz), .val (.lst (S.map intsV)), .val (intsV (isort S.flatten)), y8, x9, x10, .non]) (st := s3) grpV (fun g => intsV g.2) G fun g hg => ⟨[.val (.gl n), .val (.int (many : Int)), .val (.gl b), .own (G.map grpV), x4, .val (.int sz), .val (.lst (S.map intsV)), .val (intsV (isort S.flatten)), y8, x9, x10, .val (grpV g)], by simp, by simp [atp1]⟩
    have ni := notin_ivs (isort S.flatten) (G.map (·.2))
    rw [List.map_map] at ni
    have ni : inD (fun b => !b) (intsV (isort S.flatten)) (.lst (G.map fun g => intsV g.2)) = some (.bl (!decide (isort S.flatten ∈ G.map (·.2)))) := ni
    have tS : tupF [.lst ((isort S.flatten).map PV.int)] = some (intsV (isort S.flatten)) := rfl
    by_cases hin : isort S.flatten ∈ G.map (·.2)
    · rw [decide_eq_true hin] at ni
      refine ⟨R ++ [isort S.flatten], G, s3, .val (.int sz), .val (.lst (S.map intsV)), .val (intsV (isort S.flatten)), y8, x9, x10, x11, ?_, P3.mono (by omega), hB3, nl, b3, join_over bo2 go2, by omega⟩
      unfold t__law_groups_1 w__law_groups_0 l__law_groups_1 l__law_groups_2
      simp [lstAt_gl hB, lstAt_gl hB1, e1, hmin, hz, rng, f1, l0, g1, so, tS, lstAt_gl f4, rl2, hs3, c2, ni]
    · rw [decide_eq_false hin] at ni
      obtain ⟨k, s4, e4, k0, k1, P4, S4⟩ := draw_spec (k := ((isort S.flatten).length : Int) + 1) P3 (by omega) (by omega) (by omega)
      have gl2 : G.length < LINE := by show G.length < 16777216; omega
      refine ⟨R ++ [isort S.flatten], G ++ [(k, isort S.flatten)], s4, .val (.int sz), .val (.lst (S.map intsV)), .val (intsV (isort S.flatten)), y8, x9, x10, x11, ?_, P4.mono (by omega), by rw [S4.2 b hb]; exact hB3, nl, b3, join_new bo2 hS go2 (fun g hg e => hin (List.mem_map.mpr ⟨g, hg, e⟩)) ⟨k0, by omega⟩, by rw [List.length_append]; simp⟩
      unfold t__law_groups_1 w__law_groups_0 l__law_groups_1 l__law_groups_2
      simp [lstAt_gl hB, lstAt_gl hB1, e1, hmin, hz, rng, f1, l0, g1, so, tS, lstAt_gl f4, rl2, hs3, c2, ni, e4, l2, gl2]
  · have e0 : sz = 0 := by omega
    refine ⟨B, G, s1, .val (.int sz), x6, x7, x8, x9, x10, x11, ?_, P1.mono (by omega), hB1, hl, bo, go, by omega⟩
    unfold t__law_groups_1
    simp [lstAt_gl hB, lstAt_gl hB1, e1, hmin, hz]
end
end Q01
namespace Q01
open PySem PySem.Spec L2 PL Rc
/-! ### receipts, drawn -/
section
variable {n b : Nat}
theorem grp_loop (hb : b ≠ n) {many : Nat} (hm : many ≤ 5) : ∀ (items : List PV) (B : List (List Int)) (G : List Grp) (st : Sto) (m : Nat) (x4 x5 x6 x7 x8 x9 x10 x11 : EV), PenAt st n m → m + 10 * items.length ≤ 700000 → st[b]? = some (.lst (B.map intsV)) → B.length ≤ 5 → Blocks many B → Over many B G → G.length + items.length ≤ 50 →
    ∃ (B' : List (List Int)) (G' : List Grp) (st' : Sto) (y4 y5 y6 y7 y8 y9 y10 y11 : EV), forLoop (bName 4) t__law_groups_1 items [.val (.gl n), .val (.int (many : Int)), .val (.gl b), .own (G.map grpV), x4, x5, x6, x7, x8, x9, x10, x11] st = .nx [.val (.gl n), .val (.int (many : Int)), .val (.gl b), .own (G'.map grpV), y4, y5, y6, y7, y8, y9, y10, y11] st' ∧
      PenAt st' n (m + 10 * items.length) ∧ Over many B' G' ∧ G'.length ≤ G.length + items.length
  | [], B, G, st, m, x4, x5, x6, x7, x8, x9, x10, x11, P, _, _, _, _, go, _ => ⟨B, G, st, x4, x5, x6, x7, x8, x9, x10, x11, rfl, P, go, by simp⟩
  | x :: items, B, G, st, m, x4, x5, x6, x7, x8, x9, x10, x11, P, hk, hB, hl, bo, go, hG => by
    rw [List.length_cons] at hk hG
    obtain ⟨B1, G1, s1, y5, y6, y7, y8, y9, y10, y11, e1, P1, q1, q2, q3, q4, q5⟩ := grp_turn (x4 := .val x) (x5 := x5) (x6 := x6) (x7 := x7) (x8 := x8) (x9 := x9) (x10 := x10) (x11 := x11) hb hm P (by omega) hB hl bo go (by omega)
    obtain ⟨B2, G2, s2, z4, z5, z6, z7, z8, z9, z10, z11, f1, f2, f3, f4⟩ := grp_loop hb hm items B1 G1 s1 (m + 10) (.val x) y5 y6 y7 y8 y9 y10 y11 P1 (by omega) q1 q2 q3 q4 (by omega)
    refine ⟨B2, G2, s2, z4, z5, z6, z7, z8, z9, z10, z11, ?_, f2.mono (by rw [List.length_cons]; omega), f3, by rw [List.length_cons]; omega⟩
    rw [forLoop_nx (by simp) e1]
    exact f1
theorem PenAt.push {st : Sto} {m : Nat} {l : List PV} (P : PenAt st n m) (hl : glBs 0 l = true) : PenAt (st ++ [.lst l]) n m := by
  obtain ⟨⟨a, x, y, h1, h2⟩, hc⟩ := P
  exact ⟨⟨a, x, y, by rw [List.getElem?_append_left (List.getElem?_eq_some_iff.mp h1).1]; exact h1, h2⟩, hc.push hl⟩
theorem groups_spec {many : Nat} (hm : many ≤ 5) {st : Sto} {m : Nat} (P : PenAt st n m) (hk : m ≤ 600000) :
    ∃ (gs : List Grp) (st' : Sto), F__law_groups [.gl n, .int (many : Int)] st = .ok (grpsV gs) st' ∧ GrpsOk many gs ∧ PenAt st' n (m + 60) := by
  have rm : -(LINE : Int) ≤ (many : Int) ∧ (many : Int) ≤ LINE := by
    have : (LINE : Int) = 16777216 := rfl
    omega
  have l0 : (0 : Nat) ≤ LINE := by decide
  have l1 : (1 : Nat) ≤ LINE := by decide
  have bn : st.length ≠ n := fun e => by
    obtain ⟨a, x, y, h1, _⟩ := P.pen
    have := (List.getElem?_eq_some_iff.mp h1).1
    omega
  have c0 := lc_yes (b := bName 9) (t := eTup (aCons (eVar 9) aNil)) (e := [.val (.gl n), .val (.int (many : Int)), .non, .non, .non, .non, .non, .non, .non, .non, .non, .non]) (st := st) (fun i : Nat => PV.int (0 + (i : Int))) (fun i : Nat => intsV [(i : Int)]) (List.range many) fun i hi => ⟨[.val (.gl n), .val (.int (many : Int)), .non, .non, .non, .non, .non, .non, .non, .val (.int (0 + (i : Int))), .non, .non], by simp, by simp [l1]⟩
  have e0 : ((List.range many).map fun i : Nat => intsV [(i : Int)]) = (singles many).map intsV := by
    unfold singles
    rw [List.map_map]
    rfl
  rw [e0, show ((List.range many).map fun i : Nat => PV.int (0 + (i : Int))) = rangeF 0 many from rfl] at c0
  have P0 := P.push (glBs_ivs (singles many) 0)
  obtain ⟨a, s1, e1, a0, a1, P1, S1⟩ := draw_spec (k := 5) P0 (by omega) (by decide) (by decide)
  have hB : s1[st.length]? = some (.lst ((singles many).map intsV)) := by
    rw [S1.2 _ bn, List.getElem?_append_right (Nat.le_refl _), Nat.sub_self]
    rfl
  have hr : (rangeF 0 a.toNat).length = a.toNat := rangeF_len ..
  have ra : -(LINE : Int) ≤ a ∧ a ≤ LINE := by
    have : (LINE : Int) = 16777216 := rfl
    omega
  obtain ⟨B', G', s2, y4, y5, y6, y7, y8, y9, y10, y11, f1, P2, f3, f4⟩ := grp_loop bn hm (rangeF 0 a.toNat) (singles many) [] s1 (m + 1) .non .non .non .non .non .non .non .non P1 (by rw [hr]; omega) hB (by unfold singles; rw [List.length_map, List.length_range]; exact hm) (singles_ok many) over_nil (by rw [hr]; simp; omega)
  rw [hr] at P2 f4
  have g5 : G'.length ≤ 5 := by simp at f4; omega
  obtain ⟨gs, s3, e3, p3, P3, S3⟩ := mixed_spec grpV (l := G') P2 (by omega) (by omega)
  refine ⟨gs, s3, ?_, grps_of f3 g5 p3, P3.mono (by omega)⟩
  simp only [List.map_nil] at f1
  unfold F__law_groups mkFn f__law_groups w__law_groups_1 l__law_groups_0
  simp [rm, c0, l0, e1, ra, f1, e3, tupF]
theorem costs_loop : ∀ (items : List PV) (C : List Int) (st : Sto) (m : Nat) (most x5 x6 x7 x1 x2 : EV), PenAt st n m → m + 2 * items.length ≤ 700000 → C.length + items.length ≤ 100 → (∀ x ∈ C, 1 ≤ x ∧ x ≤ 9999) →
    ∃ (C' : List Int) (st' : Sto) (y5 : EV), forLoop (bName 5) t__law_receipt_0 items [.val (.gl n), x1, x2, most, .val (intsV C), x5, x6, x7] st = .nx [.val (.gl n), x1, x2, most, .val (intsV C'), y5, x6, x7] st' ∧ C'.length = C.length + items.length ∧ (∀ x ∈ C', 1 ≤ x ∧ x ≤ 9999) ∧ PenAt st' n (m + 2 * items.length)
  | [], C, st, m, most, x5, x6, x7, x1, x2, P, _, _, h => ⟨C, st, x5, rfl, rfl, h, P⟩
  | x :: items, C, st, m, most, x5, x6, x7, x1, x2, P, hk, hl, h => by
    rw [List.length_cons] at hk hl
    obtain ⟨v, s1, e1, hv, P1, S1⟩ := pick_spec (l := [.int 20, .int 90, .int 9999]) P (by omega) (by simp) (by decide)
    obtain ⟨k, rfl, k0, k1⟩ : ∃ k : Int, v = .int k ∧ 0 < k ∧ k ≤ 9999 := by
      simp only [List.mem_cons, List.not_mem_nil, or_false] at hv
      rcases hv with rfl | rfl | rfl
      · exact ⟨20, rfl, by decide, by decide⟩
      · exact ⟨90, rfl, by decide, by decide⟩
      · exact ⟨9999, rfl, by decide, by decide⟩
    obtain ⟨a, s2, e2, a0, a1, P2, S2⟩ := draw_spec (k := k) P1 (by omega) k0 (by omega)
    obtain ⟨C', s3, y5, f1, f2, f3, f4⟩ := costs_loop items (C ++ [1 + a]) s2 (m + 2) most (.val x) x6 x7 x1 x2 P2 (by omega) (by rw [List.length_append, List.length_singleton]; omega) (fun y hy => by
      rcases List.mem_append.mp hy with hy | hy
      · exact h y hy
      · rw [List.mem_singleton.mp hy]; omega)
    refine ⟨C', s3, y5, ?_, by rw [f2, List.length_append, List.length_singleton, List.length_cons]; omega, f3, f4.mono (by rw [List.length_cons]; omega)⟩
    have ad := addF_tup (l := C.map PV.int) (m := [.int (1 + a)]) (by rw [List.length_map, List.length_singleton]; omega)
    have l1 : (1 : Nat) ≤ LINE := by decide
    have l3 : (3 : Nat) ≤ LINE := by decide
    have ht : t__law_receipt_0 [.val (.gl n), x1, x2, most, .val (intsV C), .val x, x6, x7] st = .nx [.val (.gl n), x1, x2, most, .val (intsV (C ++ [1 + a])), .val x, x6, x7] s2 := by
      unfold t__law_receipt_0
      simp [l1, l3, e1, e2, ad]
    rw [forLoop_nx (by simp) ht]
    exact f1
theorem deals_lc {c : List Int} (hc : CostsOk c) {most : Int} (hm : 1 ≤ most) (hm2 : most ≤ 9999) {x1 x2 x5 x6 : EV} : ∀ (items : List PV) (st : Sto) (m : Nat), PenAt st n m → m + 10 * items.length ≤ 700000 →
    ∃ (ds : List Deal) (st' : Sto), lcLoop (bName 7) tYesF (eCall F__law_deal (aCons (eVar 0) (aCons (eVar 4) (aCons (eVar 3) aNil)))) [.val (.gl n), x1, x2, .val (.int most), .val (intsV c), x5, x6, .non] items st = .ok (ds.map dealV) st' ∧ ds.length = items.length ∧ (∀ d ∈ ds, DealOk c d) ∧ PenAt st' n (m + 10 * items.length)
  | [], st, m, P, _ => ⟨[], st, rfl, rfl, by simp, P⟩
  | x :: items, st, m, P, hk => by
    rw [List.length_cons] at hk
    obtain ⟨d, s1, e1, hd, P1, S1⟩ := deal_spec hc hm hm2 P (by omega)
    obtain ⟨ds, s2, f1, f2, f3, f4⟩ := deals_lc hc hm hm2 items s1 (m + 10) P1 (by omega)
    refine ⟨d :: ds, s2, ?_, by rw [List.length_cons, List.length_cons, f2], fun y hy => ?_, f4.mono (by rw [List.length_cons]; omega)⟩
    · have ht : eCall F__law_deal (aCons (eVar 0) (aCons (eVar 4) (aCons (eVar 3) aNil))) [.val (.gl n), x1, x2, .val (.int most), .val (intsV c), x5, x6, .val x] st = .ok (dealV d) s1 := by
        simp [e1]
      exact lcLoop_ok (by simp) ht f1
    · rcases List.mem_cons.mp hy with rfl | hy
      · exact hd
      · exact f3 y hy
theorem receipt_spec {st : Sto} {m : Nat} {p q : Int} (hp : 1 ≤ p ∧ p ≤ 5) (hq : 0 ≤ q ∧ q ≤ 5) (P : PenAt st n m) (hk : m ≤ 400000) :
    ∃ c ds gs st', F__law_receipt [.gl n, .int p, .int q] st = .ok (.tup [intsV c, dealsV ds, grpsV gs]) st' ∧ RcOk c ds gs ∧ PenAt st' n (m + 200) := by
  obtain ⟨v, s1, e1, hv, P1, S1⟩ := pick_spec (l := [.int 3, .int 9, .int 9, .int 60, .int 9999]) P (by omega) (by simp) (by decide)
  obtain ⟨most, rfl, k0, k1⟩ : ∃ k : Int, v = .int k ∧ 1 ≤ k ∧ k ≤ 9999 := by
    simp only [List.mem_cons, List.not_mem_nil, or_false] at hv
    rcases hv with rfl | rfl | rfl | rfl | rfl
    · exact ⟨3, rfl, by decide, by decide⟩
    · exact ⟨9, rfl, by decide, by decide⟩
    · exact ⟨9, rfl, by decide, by decide⟩
    · exact ⟨60, rfl, by decide, by decide⟩
    · exact ⟨9999, rfl, by decide, by decide⟩
  obtain ⟨a, s2, e2, a0, a1, P2, S2⟩ := draw_spec (k := p) P1 (by omega) (by omega) (by omega)
  have hr : (rangeF 0 (1 + a).toNat).length = (1 + a).toNat := rangeF_len ..
  have ra : -(LINE : Int) ≤ 1 + a ∧ 1 + a ≤ LINE := by
    have : (LINE : Int) = 16777216 := rfl
    omega
  obtain ⟨c, s3, y5, f1, f2, f3, P3⟩ := costs_loop (rangeF 0 (1 + a).toNat) [] s2 (m + 2) (.val (.int most)) .non .non .non (.val (.int p)) (.val (.int q)) P2 (by rw [hr]; omega) (by rw [hr]; simp; omega) (by simp)
  rw [hr] at f2 P3
  have hc : CostsOk c := ⟨by simp at f2; omega, by simp at f2; omega, f3⟩
  obtain ⟨d, s4, e4, d0, d1, P4, S4⟩ := draw_spec (k := q + 1) P3 (by omega) (by omega) (by omega)
  have hr2 : (rangeF 0 d.toNat).length = d.toNat := rangeF_len ..
  have rd : -(LINE : Int) ≤ d ∧ d ≤ LINE := by
    have : (LINE : Int) = 16777216 := rfl
    omega
  obtain ⟨ds, s5, g1, g2, g3, P5⟩ := deals_lc hc k0 k1 (x1 := .val (.int p)) (x2 := .val (.int q)) (x5 := y5) (x6 := .non) (rangeF 0 d.toNat) s4 _ P4 (by rw [hr2]; omega)
  rw [hr2] at g2 P5
  have hd : DealsOk c ds := ⟨by omega, g3⟩
  obtain ⟨gs, s6, h1, h2, P6⟩ := groups_spec (many := ds.length) hd.1 P5 (by omega)
  have l0 : (0 : Nat) ≤ LINE := by decide
  have l3 : (3 : Nat) ≤ LINE := by decide
  have l5 : (5 : Nat) ≤ LINE := by decide
  refine ⟨c, ds, gs, s6, ?_, ⟨hc, hd, h2⟩, P6.mono (by omega)⟩
  rw [show intsV ([] : List Int) = PV.tup [] from rfl] at f1
  unfold F__law_receipt mkFn f__law_receipt w__law_receipt_0 l__law_receipt_0
  simp [l0, l3, l5, e1, e2, ra, f1, e4, rd, g1, tupF, h1]
end
end Q01
namespace Q01
open PySem PySem.Spec L2 PL Rc
/-! ### the law -/
theorem cell_spec (ns : List Int) (i : Nat) (st : Sto) : ∃ c, F__law_cell_at [.scr ns, .int i] st = .ok (.int c) st := by
  unfold F__law_cell_at mkFn f__law_cell_at
  have hl : lenF [.scr ns] = some (.int ns.length) := rfl
  by_cases h : i < ns.length
  · refine ⟨ns[i], ?_⟩
    have q : ixF st (.scr ns) (i : Int) = some (.int ns[i]) := by
      show (atI ns (i : Int)).map PV.int = _
      rw [atI_nat h]
      rfl
    simp [hl, h, q]
  · exact ⟨0, by simp [hl, h]⟩
theorem pen_spec (c : Int) {st : Sto} (h : Cln st) : ∃ st', F__law_pen [.int c] st = .ok (.gl st.length) st' ∧ PenAt st' st.length 0 := by
  have l3 : (3 : Nat) ≤ LINE := by decide
  have e1 : powF (.int 10) (.int 18) = some (.int 1000000000000000000) := rfl
  have e2 : modF (.int c) (.int 1000000007) = some (.int (c % 1000000007)) := modF_ok (by decide)
  have e3 : maxF [.int 0, .int (c - 1000000000000000000)] = some (.int (if c - 1000000000000000000 > 0 then c - 1000000000000000000 else 0)) := rfl
  refine ⟨st ++ [.lst [.int (if c - 1000000000000000000 > 0 then c - 1000000000000000000 else 0), .int (c % 1000000007), .int 0]], ?_, ⟨if c - 1000000000000000000 > 0 then c - 1000000000000000000 else 0, c % 1000000007, 0, List.getElem?_concat_length, ?_, Int.emod_nonneg _ (by decide), Int.emod_lt_of_pos _ (by decide), by decide, by decide⟩, h.push (gl3 _ _ _)⟩
  · unfold F__law_pen mkFn f__law_pen
    simp [e1, e2, e3, l3]
  · split <;> omega
theorem cut_mem {l : List PV} {lo hi : Option Int} {y : PV} (h : y ∈ cutF l lo hi) : y ∈ l := by
  unfold cutF at h
  exact List.mem_of_mem_drop (List.mem_of_mem_take h)
theorem cut_len {l : List PV} {lo hi : Option Int} : (cutF l lo hi).length ≤ l.length := by
  unfold cutF
  rw [List.length_take, List.length_drop]
  omega
theorem cut_take {l : List PV} {k : Nat} (h : k ≤ l.length) : cutF l none (some (k : Int)) = l.take k := by
  have e1 : HT.sIx l.length l.length (some (k : Int)) = k := by unfold HT.sIx; simp only; rw [if_neg (by omega)]; omega
  have e2 : HT.sIx l.length 0 none = 0 := rfl
  unfold cutF
  rw [e1, e2, List.drop_zero, Nat.sub_zero]

theorem laps {ns : List Int} {n : Nat} {x1 x7 x8 x9 x10 x11 : EV} (items : List PV) (st : Sto) (x3 x4 x5 x6 : EV) (P : PenAt st n 0) (hi : 200 * items.length ≤ 300000) :
    ∃ st' y3 y4 y5 y6, forLoop (bName 3) t_law_0 items [.val (.scr ns), x1, .val (.gl n), x3, x4, x5, x6, x7, x8, x9, x10, x11] st = .nx [.val (.scr ns), x1, .val (.gl n), y3, y4, y5, y6, x7, x8, x9, x10, x11] st' ∧ Cln st' := by
  obtain ⟨e', st', f1, m, f2, _, y3, y4, y5, y6, f3⟩ := for_inv (b := bName 3) (t := t_law_0) (fun xs e st' => ∃ m, PenAt st' n m ∧ m + 200 * xs.length ≤ 300000 ∧ ∃ y3 y4 y5 y6, e = [.val (.scr ns), x1, .val (.gl n), y3, y4, y5, y6, x7, x8, x9, x10, x11]) (fun x xs e st' ⟨m, P, hm, y3, y4, y5, y6, he⟩ => by
    subst he
    rw [List.length_cons] at hm
    obtain ⟨c, ds, gs, s1, e1, ok, P1⟩ := receipt_spec (p := 5) (q := 5) (by decide) (by decide) P (by omega)
    have e2 := right_e (st := s1) ok P1.cln
    refine ⟨[.val (.scr ns), x1, .val (.gl n), .val x, y4, y5, y6, x7, x8, x9, x10, x11], [.val (.scr ns), x1, .val (.gl n), .val x, .val (intsV c), .val (dealsV ds), .val (grpsV gs), x7, x8, x9, x10, x11], s1, by simp, ?_, m + 200, P1, by omega, _, _, _, _, rfl⟩
    unfold t_law_0
    simp [e1, e2]) items [.val (.scr ns), x1, .val (.gl n), x3, x4, x5, x6, x7, x8, x9, x10, x11] st ⟨0, P, by omega, _, _, _, _, rfl⟩
  subst f3
  exact ⟨st', y3, y4, y5, y6, f1, f2.cln⟩
theorem cells {ns : List Int} {x7 x8 x9 x10 x11 : EV} (items : List PV) (hI : ∀ y ∈ items, ∃ c : Int, y = .int c) {st : Sto} (hc : Cln st) :
    ∃ st' y1 y2 y3 y4 y5 y6, forLoop (bName 1) t_law_1 items [.val (.scr ns), .non, .non, .non, .non, .non, .non, x7, x8, x9, x10, x11] st = .nx [.val (.scr ns), y1, y2, y3, y4, y5, y6, x7, x8, x9, x10, x11] st' ∧ Cln st' := by
  obtain ⟨e', st', f1, _, f2, y1, y2, y3, y4, y5, y6, f3⟩ := for_inv (b := bName 1) (t := t_law_1) (fun xs e st' => (∀ y ∈ xs, ∃ c : Int, y = .int c) ∧ Cln st' ∧ ∃ y1 y2 y3 y4 y5 y6, e = [.val (.scr ns), y1, y2, y3, y4, y5, y6, x7, x8, x9, x10, x11]) (fun x xs e st' ⟨hI, hc, y1, y2, y3, y4, y5, y6, he⟩ => by
    subst he
    obtain ⟨c, rfl⟩ := hI x List.mem_cons_self
    obtain ⟨s1, e1, P1⟩ := pen_spec c hc
    have h12 : (rangeF 0 12).length = 12 := rangeF_len ..
    obtain ⟨s2, z3, z4, z5, z6, e2, c2⟩ := laps (ns := ns) (x1 := .val (.int c)) (x7 := x7) (x8 := x8) (x9 := x9) (x10 := x10) (x11 := x11) (rangeF 0 12) s1 y3 y4 y5 y6 P1 (by rw [h12]; decide)
    refine ⟨[.val (.scr ns), .val (.int c), y2, y3, y4, y5, y6, x7, x8, x9, x10, x11], [.val (.scr ns), .val (.int c), .val (.gl st'.length), z3, z4, z5, z6, x7, x8, x9, x10, x11], s2, by simp, ?_, fun y hy => hI y (List.mem_cons_of_mem _ hy), c2, _, _, _, _, _, _, rfl⟩
    have r : -(LINE : Int) ≤ 12 ∧ (12 : Int) ≤ LINE := by
      have : (LINE : Int) = 16777216 := rfl
      omega
    unfold t_law_1 w_law_0
    simp [e1, r, e2]) items [.val (.scr ns), .non, .non, .non, .non, .non, .non, x7, x8, x9, x10, x11] st ⟨hI, hc, _, _, _, _, _, _, rfl⟩
  subst f3
  exact ⟨st', y1, y2, y3, y4, y5, y6, f1, f2⟩
def cF (m : Nat) : List Int := (List.range m).map fun i : Nat => 9999 - (i : Int)
def wF (m : Nat) : Deal := (cF m).zipIdx.map fun q => ((q.2 : Int), q.1)
def gF : List Grp := [(5, [0, 1, 2, 3, 4]), (0, [0, 1, 2, 3]), (3, [0, 1, 2]), (5, [1, 2]), (1, [4])]
def dF (m : Nat) : List Deal := [wF m, [], wF m, wF m, (wF m).take 1]
theorem fixed_ok : ∀ m : Nat, 1 ≤ m → m < 6 → rcB (cF m) (dF m) gF = true := by
  intro m h1 h2
  have : m = 1 ∨ m = 2 ∨ m = 3 ∨ m = 4 ∨ m = 5 := by omega
  rcases this with rfl | rfl | rfl | rfl | rfl <;> decide +kernel
theorem fixed_turn {x0 x1 x2 x3 x4 x5 x6 x8 x9 x10 x11 : EV} {st : Sto} (hc : Cln st) {m : Nat} (h1 : 1 ≤ m) (h2 : m < 6) :
    t_law_2 [x0, x1, x2, x3, x4, x5, x6, .val (.int (m : Int)), x8, x9, x10, x11] st = .nx [x0, x1, x2, x3, .val (intsV (cF m)), x5, x6, .val (.int (m : Int)), .val (dealV (wF m)), .val (grpsV gF), x10, x11] st := by
  have rm : -(LINE : Int) ≤ (m : Int) ∧ (m : Int) ≤ LINE := by
    have : (LINE : Int) = 16777216 := rfl
    omega
  have c0 := lc_yes (b := bName 10) (t := eOp subF (eC (.int 9999)) (eVar 10)) (e := [x0, x1, x2, x3, x4, x5, x6, .val (.int (m : Int)), x8, x9, .non, x11]) (st := st) (fun i : Nat => PV.int (0 + (i : Int))) (fun i : Nat => PV.int (9999 - (i : Int))) (List.range m) fun i hi => ⟨[x0, x1, x2, x3, x4, x5, x6, .val (.int (m : Int)), x8, x9, .val (.int (0 + (i : Int))), x11], by simp, by simp⟩
  rw [show ((List.range m).map fun i : Nat => PV.int (0 + (i : Int))) = rangeF 0 m from rfl, show ((List.range m).map fun i : Nat => PV.int (9999 - (i : Int))) = (cF m).map PV.int by unfold cF; rw [List.map_map]; rfl] at c0
  have c1 := lc_yes (b := bTup ((bName 10) :: ((bName 11) :: []))) (t := eTup (aCons (eVar 10) (aCons (eVar 11) aNil))) (e := [x0, x1, x2, x3, .val (intsV (cF m)), x5, x6, .val (.int (m : Int)), x8, x9, .non, .non]) (st := st) (fun q : Int × Nat => PV.tup [.int (q.2 : Int), .int q.1]) (fun q => pairV ((q.2 : Int), q.1)) (cF m).zipIdx fun q hq => ⟨[x0, x1, x2, x3, .val (intsV (cF m)), x5, x6, .val (.int (m : Int)), x8, x9, .val (.int (q.2 : Int)), .val (.int q.1)], by simp, by simp; decide⟩
  have w0 : (wF m).map pairV = (cF m).zipIdx.map fun q => pairV ((q.2 : Int), q.1) := by unfold wF; rw [List.map_map]; rfl
  have c1 : lcLoop (bTup ((bName 10) :: ((bName 11) :: []))) tYesF (eTup (aCons (eVar 10) (aCons (eVar 11) aNil))) [x0, x1, x2, x3, .val (intsV (cF m)), x5, x6, .val (.int (m : Int)), x8, x9, .non, .non] (enumF 0 ((cF m).map PV.int)) st = .ok ((wF m).map pairV) st := by
    rw [enum_map, w0]
    exact c1
  have ok := rcB_ok (fixed_ok m h1 h2)
  have r := right_e (st := st) ok hc
  have ct : cutF ((wF m).map pairV) none (some 1) = ((wF m).take 1).map pairV := by
    have : 1 ≤ (wF m).length := by
      unfold wF cF
      simp
      exact h1
    have q := cut_take (l := (wF m).map pairV) (k := 1) (by rw [List.length_map]; exact this)
    rw [← List.map_take] at q
    exact q
  have l0 : (0 : Nat) ≤ LINE := by decide
  have l2 : (2 : Nat) ≤ LINE := by decide
  have l3 : (3 : Nat) ≤ LINE := by decide
  have l4 : (4 : Nat) ≤ LINE := by decide
  have l5 : (5 : Nat) ≤ LINE := by decide
  have l1 : (1 : Nat) ≤ LINE := by decide
  have r2 : F__law_is_right [intsV (cF m), .tup [dealV (wF m), .tup [], dealV (wF m), dealV (wF m), .tup (((wF m).take 1).map pairV)], .tup [.tup [.int 5, .tup [.int 0, .int 1, .int 2, .int 3, .int 4]], .tup [.int 0, .tup [.int 0, .int 1, .int 2, .int 3]], .tup [.int 3, .tup [.int 0, .int 1, .int 2]], .tup [.int 5, .tup [.int 1, .int 2]], .tup [.int 1, .tup [.int 4]]]] st = .ok (.bl true) st := r
  rw [List.map_take] at r2 ct
  unfold t_law_2 l_law_0 l_law_1
  simp [rm, c0, tupF, c1, l0, l1, l2, l3, l4, l5, slF, ct, r2, gF]
theorem fixed {x0 x1 x2 x3 x4 x5 x6 x8 x9 x10 x11 : EV} {st : Sto} (hc : Cln st) : ∃ e', forLoop (bName 7) t_law_2 (rangeF 1 5) [x0, x1, x2, x3, x4, x5, x6, .non, x8, x9, x10, x11] st = .nx e' st := by
  obtain ⟨e', st', f1, _, f2, _⟩ := for_inv (b := bName 7) (t := t_law_2) (fun xs e st' => (∀ y ∈ xs, ∃ m : Nat, 1 ≤ m ∧ m < 6 ∧ y = .int (m : Int)) ∧ st' = st ∧ ∃ y0 y1 y2 y3 y4 y5 y6 y7 y8 y9 y10 y11, e = [y0, y1, y2, y3, y4, y5, y6, y7, y8, y9, y10, y11]) (fun x xs e st' ⟨hI, hs, y0, y1, y2, y3, y4, y5, y6, y7, y8, y9, y10, y11, he⟩ => by
    subst he hs
    obtain ⟨m, m1, m2, rfl⟩ := hI x List.mem_cons_self
    exact ⟨[y0, y1, y2, y3, y4, y5, y6, .val (.int (m : Int)), y8, y9, y10, y11], _, st', by simp, fixed_turn hc m1 m2, fun y hy => hI y (List.mem_cons_of_mem _ hy), rfl, _, _, _, _, _, _, _, _, _, _, _, _, rfl⟩) (rangeF 1 5) [x0, x1, x2, x3, x4, x5, x6, .non, x8, x9, x10, x11] st ⟨fun y hy => by
      obtain ⟨i, hi, rfl⟩ := List.mem_map.mp hy
      have := List.mem_range.mp hi
      exact ⟨1 + i, by omega, by omega, rfl⟩, rfl, _, _, _, _, _, _, _, _, _, _, _, _, rfl⟩
  subst f2
  exact ⟨e', f1⟩
theorem law_true (ns : List Int) (hn : ns.length ≤ 63) : ∃ st, F_law [.scr ns] [] = .ok (.bl true) st := by
  obtain ⟨c, ec⟩ := cell_spec ns 0 []
  have ec : F__law_cell_at [.scr ns, .int 0] [] = .ok (.int c) [] := ec
  have cl := cut_len (l := ns.map PV.int) (lo := some 1) (hi := some 3)
  rw [List.length_map] at cl
  have ad := addF_lst (l := [PV.int c]) (m := cutF (ns.map PV.int) (some 1) (some 3)) (by rw [List.length_singleton]; omega)
  obtain ⟨s1, y1, y2, y3, y4, y5, y6, e1, c1⟩ := cells (ns := ns) (x7 := .non) (x8 := .non) (x9 := .non) (x10 := .non) (x11 := .non) ([PV.int c] ++ cutF (ns.map PV.int) (some 1) (some 3)) (fun y hy => by
    rcases List.mem_append.mp hy with hy | hy
    · exact ⟨c, List.mem_singleton.mp hy⟩
    · obtain ⟨i, _, rfl⟩ := List.mem_map.mp (cut_mem hy)
      exact ⟨i, rfl⟩) (st := []) (fun c hc => by cases hc)
  obtain ⟨e', e2⟩ := fixed (x0 := .val (.scr ns)) (x1 := y1) (x2 := y2) (x3 := y3) (x4 := y4) (x5 := y5) (x6 := y6) (x8 := .non) (x9 := .non) (x10 := .non) (x11 := .non) c1
  have l1 : (1 : Nat) ≤ LINE := by decide
  have i2 : int2 [.int 1, .int 6] = some (1, 6) := rfl
  have r : (-(LINE : Int) ≤ 1) ∧ ((1 : Int) ≤ LINE) ∧ (-(LINE : Int) ≤ 6) ∧ ((6 : Int) ≤ LINE) ∧ ((5 : Int) ≤ LINE) := by
    have : (LINE : Int) = 16777216 := rfl
    omega
  refine ⟨s1, ?_⟩
  unfold F_law mkFn f_law w_law_1 w_law_2
  simp only [List.cons_append, List.nil_append] at e1 ad
  simp [l1, ec, slF, ad, e1, i2, r, e2]
end Q01
theorem PySem.Challenge.cw_joineddeals_k01_receipts_made_holds : PySem.Challenge.rw_joineddeals_k01_receipts_made.Holds :=
  holds_of fun ns h => Q01.law_true ns h
